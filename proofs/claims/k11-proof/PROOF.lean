import PyProof.Rows.All
import Wide.All
import OpenK.AllK
import Wide.FinOn
import HandS.ForMost
import HandS.Wide
import HandS.IsInst
import HandS.TupAny
import HandS.Flow
import HandS.Conv
import HandS.Style
import PySem.Challenge.RW_drawwright_k11_whole_quotients_of_polyno
import KE.KExcLine
import HandS.ExcInit
import HandS.ExcField
import HandS.WordsExc
set_option Elab.async false
set_option linter.all false
set_option maxRecDepth 100000
set_option maxHeartbeats 0
/-! Rows of rationals as polynomials: values, coefficients, products, roots, uniqueness. -/
namespace K11

/-- the value of a row of numbers, from the constant on, at a place -/
def ev : List Rat → Rat → Rat
  | [], _ => 0
  | a :: t, x => a + x * ev t x
theorem ev_nil (x : Rat) : ev [] x = 0 := rfl
theorem ev_cons (a : Rat) (t : List Rat) (x : Rat) : ev (a :: t) x = a + x * ev t x := rfl
/-- a coefficient, 0 behind the end -/
def cf (p : List Rat) (k : Nat) : Rat := p.getD k 0
theorem cf_nil (k : Nat) : cf [] k = 0 := by simp [cf]
theorem cf_zero (a : Rat) (t : List Rat) : cf (a :: t) 0 = a := by simp [cf]
theorem cf_succ (a : Rat) (t : List Rat) (k : Nat) : cf (a :: t) (k + 1) = cf t k := by simp [cf]
theorem cf_of_lt {p : List Rat} {k : Nat} (h : k < p.length) : cf p k = p[k] := by
  unfold cf; rw [List.getD_eq_getElem?_getD, List.getElem?_eq_getElem h]; rfl
theorem cf_of_ge {p : List Rat} {k : Nat} (h : p.length ≤ k) : cf p k = 0 := by
  unfold cf; rw [List.getD_eq_getElem?_getD, List.getElem?_eq_none h]; rfl

def addL : List Rat → List Rat → List Rat
  | [], q => q
  | p, [] => p
  | a :: p, b :: q => (a + b) :: addL p q
theorem addL_nil (p : List Rat) : addL p [] = p := by cases p <;> rfl
theorem ev_addL : ∀ (p q : List Rat) (x : Rat), ev (addL p q) x = ev p x + ev q x
  | [], q, x => by rw [addL, ev_nil]; grind
  | a :: p, [], x => by rw [addL_nil, ev_nil]; grind
  | a :: p, b :: q, x => by rw [addL, ev_cons, ev_cons, ev_cons, ev_addL p q x]; grind
theorem cf_addL : ∀ (p q : List Rat) (k : Nat), cf (addL p q) k = cf p k + cf q k
  | [], q, k => by rw [addL, cf_nil]; grind
  | a :: p, [], k => by rw [addL_nil, cf_nil]; grind
  | a :: p, b :: q, 0 => by rw [addL, cf_zero, cf_zero, cf_zero]
  | a :: p, b :: q, k + 1 => by rw [addL, cf_succ, cf_succ, cf_succ, cf_addL p q k]
theorem len_addL : ∀ (p q : List Rat), (addL p q).length = max p.length q.length
  | [], q => by rw [addL]; simp
  | a :: p, [] => by rw [addL_nil]; simp
  | a :: p, b :: q => by rw [addL, List.length_cons, len_addL p q]; simp [Nat.succ_max_succ]
def sc (c : Rat) (p : List Rat) : List Rat := p.map (c * ·)
theorem ev_sc (c : Rat) : ∀ (p : List Rat) (x : Rat), ev (sc c p) x = c * ev p x
  | [], x => by simp [sc, ev]
  | a :: p, x => by
    have ih := ev_sc c p x
    unfold sc at ih ⊢
    rw [List.map_cons, ev_cons, ev_cons, ih]; grind
theorem cf_sc (c : Rat) : ∀ (p : List Rat) (k : Nat), cf (sc c p) k = c * cf p k
  | [], k => by simp [sc, cf]
  | a :: p, 0 => by simp [sc, cf]
  | a :: p, k + 1 => by
    have ih := cf_sc c p k
    unfold sc at ih ⊢
    rw [List.map_cons, cf_succ, cf_succ, ih]
theorem len_sc (c : Rat) (p : List Rat) : (sc c p).length = p.length := by simp [sc]
def mulL : List Rat → List Rat → List Rat
  | [], _ => []
  | a :: p, q => addL (sc a q) (0 :: mulL p q)
theorem ev_mulL : ∀ (p q : List Rat) (x : Rat), ev (mulL p q) x = ev p x * ev q x
  | [], q, x => by rw [mulL, ev_nil]; grind
  | a :: p, q, x => by rw [mulL, ev_addL, ev_sc, ev_cons, ev_cons, ev_mulL p q x]; grind
/-- the top coefficient of a product -/
theorem cf_mulL_top : ∀ (p q : List Rat) (m n : Nat), p.length ≤ m + 1 → q.length ≤ n + 1 → cf (mulL p q) (m + n) = cf p m * cf q n
  | [], q, m, n, _, _ => by rw [mulL, cf_nil, cf_nil]; grind
  | a :: p, q, 0, n, h, hq => by
    have hp : p = [] := by
      cases p with
      | nil => rfl
      | cons b r => simp at h
    subst hp
    rw [mulL, cf_addL, cf_sc, cf_zero, Nat.zero_add]
    cases n with
    | zero => rw [cf_zero]; grind
    | succ n => rw [cf_succ, mulL, cf_nil]; grind
  | a :: p, q, m + 1, n, h, hq => by
    have e : m + 1 + n = (m + n) + 1 := by omega
    rw [mulL, cf_addL, cf_sc, e, cf_succ, cf_succ, cf_mulL_top p q m n (by simp at h; omega) hq]
    rw [cf_of_ge (p := q) (k := m + n + 1) (by omega)]
    grind
theorem cf_mulL_big : ∀ (p q : List Rat) (k : Nat), p.length + q.length ≤ k + 1 → cf (mulL p q) k = 0
  | [], q, k, _ => by rw [mulL, cf_nil]
  | a :: p, q, k, h => by
    rw [mulL, cf_addL, cf_sc]
    simp at h
    cases k with
    | zero =>
      have hq : q = [] := by
        cases q with
        | nil => rfl
        | cons b r => simp at h; omega
      subst hq
      rw [cf_nil, cf_zero]; grind
    | succ k =>
      rw [cf_succ, cf_mulL_big p q k (by omega)]
      by_cases hp : p = []
      · subst hp
        rw [cf_of_ge (by simp at h; omega)]; grind
      · have : 0 < p.length := (List.length_pos_iff.mpr hp)
        rw [cf_of_ge (by omega)]; grind
def neg (p : List Rat) : List Rat := sc (-1) p
def subL (p q : List Rat) : List Rat := addL p (neg q)
theorem ev_subL (p q : List Rat) (x : Rat) : ev (subL p q) x = ev p x - ev q x := by
  unfold subL neg; rw [ev_addL, ev_sc]; grind
theorem cf_subL (p q : List Rat) (k : Nat) : cf (subL p q) k = cf p k - cf q k := by
  unfold subL neg; rw [cf_addL, cf_sc]; grind

/-- all coefficients are 0 -/
def Z (p : List Rat) : Prop := ∀ k, cf p k = 0
theorem Z_nil : Z [] := fun k => cf_nil k
theorem Z_cons {a : Rat} {t : List Rat} (ha : a = 0) (ht : Z t) : Z (a :: t) := fun k => by
  cases k with
  | zero => rw [cf_zero, ha]
  | succ k => rw [cf_succ, ht k]
theorem Z_tail {a : Rat} {t : List Rat} (h : Z (a :: t)) : Z t := fun k => by rw [← cf_succ a]; exact h (k + 1)
theorem Z_head {a : Rat} {t : List Rat} (h : Z (a :: t)) : a = 0 := by have := h 0; rwa [cf_zero] at this
theorem Z_ev : ∀ {p : List Rat}, Z p → ∀ x, ev p x = 0
  | [], _, x => rfl
  | a :: t, h, x => by rw [ev_cons, Z_head h, Z_ev (Z_tail h) x]; grind

/-- what is left of a row when (x - r) is taken out -/
def sd (r : Rat) : List Rat → List Rat
  | [] => []
  | [_] => []
  | _ :: b :: t => ev (b :: t) r :: sd r (b :: t)
theorem ev_sd (r : Rat) : ∀ (p : List Rat) (x : Rat), ev p x = ev p r + (x - r) * ev (sd r p) x
  | [], x => by simp [ev, sd]; grind
  | [a], x => by simp [ev, sd]; grind
  | a :: b :: t, x => by
    have ih := ev_sd r (b :: t) x
    rw [sd, ev_cons a, ev_cons a, ev_cons (ev (b :: t) r)]
    grind
theorem len_sd (r : Rat) : ∀ (p : List Rat), (sd r p).length = p.length - 1
  | [] => rfl
  | [_] => rfl
  | _ :: b :: t => by rw [sd, List.length_cons, len_sd r (b :: t)]; simp
theorem Z_sd (r : Rat) : ∀ (p : List Rat), ev p r = 0 → Z (sd r p) → Z p
  | [], _, _ => Z_nil
  | [a], h, _ => Z_cons (by rw [ev_cons, ev_nil] at h; grind) Z_nil
  | a :: b :: t, h, hz => by
    rw [sd] at hz
    have h1 : ev (b :: t) r = 0 := Z_head hz
    refine Z_cons ?_ (Z_sd r (b :: t) h1 (Z_tail hz))
    rw [ev_cons, h1] at h
    grind
/-- fewer roots than numbers -/
theorem roots_lt : ∀ (rs : List Rat) (p : List Rat), ¬ Z p → rs.Nodup → (∀ r ∈ rs, ev p r = 0) → rs.length < p.length
  | [], p, h, _, _ => by
    cases p with
    | nil => exact absurd Z_nil h
    | cons a t => simp
  | r :: rs, p, h, nd, hr => by
    have h0 : ev p r = 0 := hr r (by simp)
    have hs : ¬ Z (sd r p) := fun z => h (Z_sd r p h0 z)
    have nd' := List.nodup_cons.mp nd
    have ih := roots_lt rs (sd r p) hs nd'.2 fun q hq => by
      have e := ev_sd r p q
      rw [hr q (by simp [hq]), h0] at e
      have hne : q ≠ r := fun z => nd'.1 (z ▸ hq)
      have : (q - r) * ev (sd r p) q = 0 := by grind
      grind
    rw [len_sd] at ih
    simp
    omega
theorem nodup_cast (n : Nat) : ((List.range n).map (fun i : Nat => (i : Rat))).Nodup := by
  refine List.Pairwise.map _ (fun a b h e => h ?_) List.nodup_range
  exact_mod_cast e
/-- a row that is 0 at the naturals has no coefficient -/
theorem Z_of_ev {p : List Rat} (h : ∀ n : Nat, ev p n = 0) : Z p := by
  refine Classical.byContradiction fun hz => ?_
  have := roots_lt _ p hz (nodup_cast p.length) fun r hr => by
    obtain ⟨i, _, rfl⟩ := List.mem_map.mp hr
    exact h i
  simp at this
theorem cf_eq_of_ev {p q : List Rat} (h : ∀ x, ev p x = ev q x) : ∀ k, cf p k = cf q k := fun k => by
  have z : Z (subL p q) := Z_of_ev fun n => by rw [ev_subL, h]; grind
  have := z k
  rw [cf_subL] at this
  grind
theorem ev_eq_of_cf {p q : List Rat} (h : ∀ k, cf p k = cf q k) : ∀ x, ev p x = ev q x := fun x => by
  have z : Z (subL p q) := fun k => by rw [cf_subL, h]; grind
  have := Z_ev z x
  rw [ev_subL] at this
  grind

/-- the last number is not 0 -/
def Tr (p : List Rat) : Prop := p ≠ [] → cf p (p.length - 1) ≠ 0
theorem Tr_nil : Tr [] := fun h => absurd rfl h
theorem Tr.ne {p : List Rat} (h : Tr p) (hz : Z p) : p = [] := Classical.byContradiction fun hp => h hp (hz _)
theorem eq_of_cf {p q : List Rat} (hp : Tr p) (hq : Tr q) (h : ∀ k, cf p k = cf q k) : p = q := by
  have aux : ∀ {a b : List Rat}, Tr b → (∀ k, cf a k = cf b k) → b.length ≤ a.length := by
    intro a b hb e
    refine Classical.byContradiction fun hlt => ?_
    have hb0 : b ≠ [] := fun z => by subst z; simp at hlt
    have hl : 0 < b.length := (List.length_pos_iff.mpr hb0)
    refine hb hb0 ?_
    rw [← e, cf_of_ge (by omega)]
  have hl : p.length = q.length := Nat.le_antisymm (aux hp fun k => (h k).symm) (aux hq h)
  refine List.ext_getElem hl fun i h1 h2 => ?_
  have := h i
  rwa [cf_of_lt h1, cf_of_lt h2] at this
theorem eq_of_ev {p q : List Rat} (hp : Tr p) (hq : Tr q) (h : ∀ x, ev p x = ev q x) : p = q := eq_of_cf hp hq (cf_eq_of_ev h)

/-- noughts at the end taken away -/
def tr : List Rat → List Rat
  | [] => []
  | a :: t => match tr t with
    | [] => if a = 0 then [] else [a]
    | b :: r => a :: b :: r
theorem cf_tr : ∀ (p : List Rat) (k : Nat), cf (tr p) k = cf p k
  | [], k => rfl
  | a :: t, k => by
    have ih := cf_tr t
    unfold tr
    split
    · rename_i e
      rw [e] at ih
      by_cases ha : a = 0
      · rw [if_pos ha, cf_nil]
        cases k with
        | zero => rw [cf_zero, ha]
        | succ k => rw [cf_succ, ← ih k, cf_nil]
      · rw [if_neg ha]
        cases k with
        | zero => rw [cf_zero, cf_zero]
        | succ k => rw [cf_succ, cf_succ, ← ih k]
    · rename_i b r e
      rw [e] at ih
      cases k with
      | zero => rw [cf_zero, cf_zero]
      | succ k => rw [cf_succ, cf_succ, ← ih k]
theorem Tr_tr : ∀ (p : List Rat), Tr (tr p)
  | [] => Tr_nil
  | a :: t => by
    have ih := Tr_tr t
    unfold tr
    split
    · by_cases ha : a = 0
      · rw [if_pos ha]; exact Tr_nil
      · rw [if_neg ha]
        intro _
        simpa [cf] using ha
    · rename_i b r e
      rw [e] at ih
      intro _
      have := ih (by simp)
      simp only [List.length_cons, Nat.add_sub_cancel] at this ⊢
      rw [cf_succ]
      exact this
theorem ev_tr (p : List Rat) (x : Rat) : ev (tr p) x = ev p x := ev_eq_of_cf (cf_tr p) x
theorem len_tr : ∀ (p : List Rat), (tr p).length ≤ p.length
  | [] => Nat.le_refl _
  | a :: t => by
    have ih := len_tr t
    unfold tr
    split
    · split <;> simp
    · rename_i b r e
      rw [e] at ih
      simp at ih ⊢
      omega
theorem tr_eq {p : List Rat} (h : Tr p) : tr p = p := eq_of_cf (Tr_tr p) h (cf_tr p)

/-- lengths of a product -/
theorem len_mul {p q r : List Rat} (hp : Tr p) (hq : Tr q) (hr : Tr r) (p0 : p ≠ []) (q0 : q ≠ []) (h : ∀ x, ev r x = ev p x * ev q x) : r.length + 1 = p.length + q.length := by
  have e : ∀ k, cf r k = cf (mulL p q) k := cf_eq_of_ev fun x => by rw [ev_mulL, h]
  have lp : 0 < p.length := (List.length_pos_iff.mpr p0)
  have lq : 0 < q.length := (List.length_pos_iff.mpr q0)
  have top : cf r (p.length - 1 + (q.length - 1)) = cf p (p.length - 1) * cf q (q.length - 1) := by
    rw [e, cf_mulL_top _ _ _ _ (by omega) (by omega)]
  have h1 := hp p0
  have h2 := hq q0
  have tne : cf r (p.length - 1 + (q.length - 1)) ≠ 0 := by
    rw [top]; grind
  have hlt : p.length - 1 + (q.length - 1) < r.length := Classical.byContradiction fun z => tne (cf_of_ge (by omega))
  have r0 : r ≠ [] := fun z => by subst z; simp at hlt
  have hle : ¬ p.length + q.length ≤ r.length := fun z => hr r0 (by rw [e]; exact cf_mulL_big _ _ _ (by omega))
  omega
theorem last_mul {p q r : List Rat} (hp : Tr p) (hq : Tr q) (hr : Tr r) (p0 : p ≠ []) (q0 : q ≠ []) (h : ∀ x, ev r x = ev p x * ev q x) :
    cf r (r.length - 1) = cf p (p.length - 1) * cf q (q.length - 1) := by
  have e : ∀ k, cf r k = cf (mulL p q) k := cf_eq_of_ev fun x => by rw [ev_mulL, h]
  have lp : 0 < p.length := (List.length_pos_iff.mpr p0)
  have lq : 0 < q.length := (List.length_pos_iff.mpr q0)
  have hl := len_mul hp hq hr p0 q0 h
  rw [show r.length - 1 = p.length - 1 + (q.length - 1) by omega, e, cf_mulL_top _ _ _ _ (by omega) (by omega)]
/-- no divisors of nought -/
theorem Z_mul {p q : List Rat} (h : ∀ x, ev p x * ev q x = 0) : Z p ∨ Z q := by
  refine Classical.byContradiction fun hn => ?_
  have n1 : ¬ Z p := fun z => hn (.inl z)
  have n2 : ¬ Z q := fun z => hn (.inr z)
  have p0 : tr p ≠ [] := fun z => n1 fun k => by rw [← cf_tr, z, cf_nil]
  have q0 : tr q ≠ [] := fun z => n2 fun k => by rw [← cf_tr, z, cf_nil]
  have := len_mul (Tr_tr p) (Tr_tr q) Tr_nil p0 q0 fun x => by rw [ev_tr, ev_tr, h, ev_nil]
  have lp : 0 < (tr p).length := (List.length_pos_iff.mpr p0)
  have lq : 0 < (tr q).length := (List.length_pos_iff.mpr q0)
  simp at this
  omega
theorem cancel {a b c : List Rat} (hc : ¬ Z c) (h : ∀ x, ev a x * ev c x = ev b x * ev c x) : ∀ x, ev a x = ev b x := by
  have := Z_mul (p := subL a b) (q := c) fun x => by rw [ev_subL]; have := h x; grind
  rcases this with z | z
  · intro x
    have e := Z_ev z x
    rw [ev_subL] at e
    grind
  · exact absurd z hc
theorem not_Z {p : List Rat} (h : Tr p) (p0 : p ≠ []) : ¬ Z p := fun z => p0 (h.ne z)

/-! ### quotients without a common divisor -/
def Mon (q : List Rat) : Prop := q ≠ [] ∧ cf q (q.length - 1) = 1
theorem Mon.tr {q : List Rat} (h : Mon q) : Tr q := fun _ => by rw [h.2]; decide
/-- nothing but numbers divides both -/
def Cop (p q : List Rat) : Prop := ∃ u v : List Rat, ∀ x, ev u x * ev p x + ev v x * ev q x = 1
structure Red (p q : List Rat) : Prop where
  tp : Tr p
  mq : Mon q
  co : Cop p q
def Dv (d p : List Rat) : Prop := ∃ q, ∀ x, ev p x = ev d x * ev q x
theorem mon_dv {p q : List Rat} (hp : Mon p) (hq : Mon q) (h1 : Dv p q) (h2 : Dv q p) : p = q := by
  obtain ⟨a, ha⟩ := h1
  obtain ⟨b, hb⟩ := h2
  have a0 : tr a ≠ [] := fun z => hq.1 (hq.tr.ne (Z_of_ev fun n => by rw [ha, ← ev_tr a, z, ev_nil]; grind))
  have b0 : tr b ≠ [] := fun z => hp.1 (hp.tr.ne (Z_of_ev fun n => by rw [hb, ← ev_tr b, z, ev_nil]; grind))
  have e1 := len_mul hp.tr (Tr_tr a) hq.tr hp.1 a0 fun x => by rw [ev_tr, ha]
  have e2 := len_mul hq.tr (Tr_tr b) hp.tr hq.1 b0 fun x => by rw [ev_tr, hb]
  have la : 0 < (tr a).length := (List.length_pos_iff.mpr a0)
  have lb : 0 < (tr b).length := (List.length_pos_iff.mpr b0)
  have l1 : (tr a).length = 1 := by omega
  obtain ⟨c, hc⟩ := List.length_eq_one_iff.mp l1
  have t := last_mul hp.tr (Tr_tr a) hq.tr hp.1 a0 fun x => by rw [ev_tr, ha]
  rw [hq.2, hp.2, hc] at t
  have c1 : c = 1 := by simp [cf] at t; grind
  refine eq_of_ev hp.tr hq.tr fun x => ?_
  rw [ha, ← ev_tr a, hc, c1, ev_cons, ev_nil]
  grind
theorem red_dv {p q p' q' : List Rat} (h : Cop p q) (e : ∀ x, ev p x * ev q' x = ev p' x * ev q x) : Dv q q' := by
  obtain ⟨u, v, hc⟩ := h
  refine ⟨addL (mulL u p') (mulL v q'), fun x => ?_⟩
  rw [ev_addL, ev_mulL, ev_mulL]
  have h1 := hc x
  have h2 := e x
  grind
theorem red_eq {p q p' q' : List Rat} (h : Red p q) (h' : Red p' q') (e : ∀ x, ev p x * ev q' x = ev p' x * ev q x) : p = p' ∧ q = q' := by
  have eq : q = q' := mon_dv h.mq h'.mq (red_dv h.co e) (red_dv h'.co fun x => (e x).symm)
  subst eq
  exact ⟨eq_of_ev h.tp h'.tp (cancel (not_Z h.mq.tr h.mq.1) e), rfl⟩
end K11
/-! Euclid's way by combinations; integers among rationals; Gauss and a bound of divisors by values at small places. -/
namespace K11

/-- a is made of A and B -/
def Cb (A B a : List Rat) : Prop := ∃ u v : List Rat, ∀ x, ev a x = ev u x * ev A x + ev v x * ev B x
structure Eu (A B a b : List Rat) : Prop where
  ca : Cb A B a
  cb : Cb A B b
  cA : Cb a b A
  cB : Cb a b B
theorem Eu.refl (A B : List Rat) : Eu A B A B :=
  have h1 : Cb A B A := ⟨[1], [], fun x => by simp only [ev]; grind⟩
  have h2 : Cb A B B := ⟨[], [1], fun x => by simp only [ev]; grind⟩
  ⟨h1, h2, h1, h2⟩
theorem Eu.step {A B a b q r : List Rat} (h : Eu A B a b) (e : ∀ x, ev a x = ev q x * ev b x + ev r x) : Eu A B b r := by
  obtain ⟨⟨u1, v1, h1⟩, ⟨u2, v2, h2⟩, ⟨s1, t1, h3⟩, ⟨s2, t2, h4⟩⟩ := h
  refine ⟨⟨u2, v2, h2⟩, ⟨subL u1 (mulL q u2), subL v1 (mulL q v2), fun x => ?_⟩, ⟨addL (mulL s1 q) t1, s1, fun x => ?_⟩, ⟨addL (mulL s2 q) t2, s2, fun x => ?_⟩⟩
  · rw [ev_subL, ev_subL, ev_mulL, ev_mulL]; have a1 := h1 x; have a2 := h2 x; have a3 := e x; grind
  · rw [ev_addL, ev_mulL]; have a1 := h3 x; have a3 := e x; grind
  · rw [ev_addL, ev_mulL]; have a1 := h4 x; have a3 := e x; grind
/-- a led by 1 that divides both and is made of both -/
structure IsG (A B g : List Rat) : Prop where
  mon : Mon g
  dA : Dv g A
  dB : Dv g B
  cb : Cb A B g
theorem Eu.done {A B a : List Rat} (h : Eu A B a []) (ht : Tr a) (h0 : a ≠ []) : IsG A B (sc (1 / cf a (a.length - 1)) a) := by
  have hl := ht h0
  obtain ⟨⟨u1, v1, h1⟩, _, ⟨s1, t1, h3⟩, ⟨s2, t2, h4⟩⟩ := h
  refine ⟨⟨fun z => h0 (List.map_eq_nil_iff.mp z), ?_⟩, ⟨sc (cf a (a.length - 1)) s1, fun x => ?_⟩, ⟨sc (cf a (a.length - 1)) s2, fun x => ?_⟩, ⟨sc (1 / cf a (a.length - 1)) u1, sc (1 / cf a (a.length - 1)) v1, fun x => ?_⟩⟩
  · rw [cf_sc, len_sc]; grind
  · rw [ev_sc, ev_sc]; have := h3 x; rw [ev_nil] at this; grind
  · rw [ev_sc, ev_sc]; have := h4 x; rw [ev_nil] at this; grind
  · rw [ev_sc, ev_sc, ev_sc]; have := h1 x; grind
theorem dv_short {g r : List Rat} (hg : Tr g) (g0 : g ≠ []) (hr : Tr r) (hl : r.length < g.length) (h : Dv g r) : r = [] := by
  obtain ⟨q, hq⟩ := h
  refine Classical.byContradiction fun r0 => ?_
  have q0 : tr q ≠ [] := fun z => r0 (hr.ne (Z_of_ev fun n => by rw [hq, ← ev_tr q, z, ev_nil]; grind))
  have := len_mul hg (Tr_tr q) hr g0 q0 fun x => by rw [ev_tr, hq]
  have lq : 0 < (tr q).length := List.length_pos_iff.mpr q0
  omega
/-- by a divisor nothing is left -/
theorem rest_nil {g a q r : List Rat} (hg : Tr g) (g0 : g ≠ []) (hr : Tr r) (hl : r.length < g.length) (h : Dv g a) (e : ∀ x, ev a x = ev q x * ev g x + ev r x) : r = [] := by
  obtain ⟨p, hp⟩ := h
  exact dv_short hg g0 hr hl ⟨subL p q, fun x => by rw [ev_subL]; have := hp x; have := e x; grind⟩
theorem Dv.trans {a b c : List Rat} (h : Dv a b) (k : Dv b c) : Dv a c := by
  obtain ⟨p, hp⟩ := h
  obtain ⟨q, hq⟩ := k
  exact ⟨mulL p q, fun x => by rw [ev_mulL, hq, hp]; grind⟩
theorem Dv.cb {d a b c : List Rat} (h : Cb a b c) (ha : Dv d a) (hb : Dv d b) : Dv d c := by
  obtain ⟨u, v, h⟩ := h
  obtain ⟨p, hp⟩ := ha
  obtain ⟨q, hq⟩ := hb
  exact ⟨addL (mulL u p) (mulL v q), fun x => by rw [ev_addL, ev_mulL, ev_mulL, h, hp, hq]; grind⟩
/-- the shortened quotient -/
theorem red_of {A B g p1 q1 : List Rat} (h : IsG A B g) (hA : ∀ x, ev A x = ev p1 x * ev g x) (hB : ∀ x, ev B x = ev q1 x * ev g x) (tp : Tr p1) (tq : Tr q1) (q0 : q1 ≠ []) :
    Red (sc (1 / cf q1 (q1.length - 1)) p1) (sc (1 / cf q1 (q1.length - 1)) q1) := by
  have hl := tq q0
  refine ⟨fun z => ?_, ⟨fun z => q0 (List.map_eq_nil_iff.mp z), ?_⟩, ?_⟩
  · rw [cf_sc, len_sc]
    have p0 : p1 ≠ [] := fun e => z (by rw [e]; rfl)
    have := tp p0
    intro e
    have e2 : (1 / cf q1 (q1.length - 1)) ≠ 0 := by grind
    grind
  · rw [cf_sc, len_sc]; grind
  · obtain ⟨u, v, hc⟩ := h.cb
    refine ⟨sc (cf q1 (q1.length - 1)) u, sc (cf q1 (q1.length - 1)) v, ?_⟩
    have := cancel (a := addL (mulL u p1) (mulL v q1)) (b := [1]) (c := g) (not_Z h.mon.tr h.mon.1) fun x => by
      rw [ev_addL, ev_mulL, ev_mulL]
      have a1 := hc x; have a2 := hA x; have a3 := hB x
      simp only [ev]
      grind
    intro x
    have e := this x
    rw [ev_addL, ev_mulL, ev_mulL] at e
    simp only [ev] at e
    rw [ev_sc, ev_sc, ev_sc, ev_sc]
    grind

/-! ### coefficients that are integers, multiples of an integer -/
def Dd (d : Int) (p : List Rat) : Prop := ∀ k, ∃ i : Int, cf p k = (d : Rat) * (i : Rat)
def IsI (p : List Rat) : Prop := ∀ k, ∃ i : Int, cf p k = (i : Rat)
theorem Dd.isI {d : Int} {p : List Rat} (h : Dd d p) : IsI p := fun k => by
  obtain ⟨i, e⟩ := h k
  exact ⟨d * i, by rw [e, Rat.intCast_mul]⟩
theorem IsI.tail {a : Rat} {t : List Rat} (h : IsI (a :: t)) : IsI t := fun k => by rw [← cf_succ a]; exact h (k + 1)
theorem IsI.head {a : Rat} {t : List Rat} (h : IsI (a :: t)) : ∃ i : Int, a = i := by have := h 0; rwa [cf_zero] at this
theorem Dd.cons {d : Int} {a : Rat} {t : List Rat} (ha : ∃ i : Int, a = d * i) (h : Dd d t) : Dd d (a :: t) := fun k => by
  cases k with
  | zero => rw [cf_zero]; exact ha
  | succ k => rw [cf_succ]; exact h k
theorem Dd.nil (d : Int) : Dd d [] := fun k => ⟨0, by rw [cf_nil]; simp⟩
theorem Dd.add {d : Int} {p q : List Rat} (h : Dd d p) (k : Dd d q) : Dd d (addL p q) := fun n => by
  obtain ⟨i, e⟩ := h n
  obtain ⟨j, f⟩ := k n
  exact ⟨i + j, by rw [cf_addL, e, f, Rat.intCast_add]; grind⟩
theorem Dd.of_add {d : Int} {p q : List Rat} (h : Dd d (addL p q)) (k : Dd d p) : Dd d q := fun n => by
  obtain ⟨i, e⟩ := h n
  obtain ⟨j, f⟩ := k n
  rw [cf_addL] at e
  exact ⟨i - j, by rw [Rat.intCast_sub]; grind⟩
theorem Dd.sc {d : Int} {a : Rat} {q : List Rat} (ha : ∃ i : Int, a = d * i) (h : IsI q) : Dd d (sc a q) := fun n => by
  obtain ⟨i, e⟩ := ha
  obtain ⟨j, f⟩ := h n
  exact ⟨i * j, by rw [cf_sc, e, f, Rat.intCast_mul]; grind⟩
theorem Dd.cf {d : Int} {p q : List Rat} (h : Dd d p) (e : ∀ k, cf p k = cf q k) : Dd d q := fun k => by rw [← e]; exact h k
theorem isI_mul : ∀ {p q : List Rat}, IsI p → IsI q → IsI (mulL p q)
  | [], q, _, _ => (Dd.nil 1).isI
  | a :: p, q, h, k => by
    obtain ⟨i, hi⟩ := h.head
    have h1 : Dd 1 (sc a q) := Dd.sc ⟨i, by rw [hi]; grind⟩ k
    have h2 : Dd 1 (0 :: mulL p q) := Dd.cons ⟨0, by simp⟩ fun n => by
      obtain ⟨j, e⟩ := isI_mul h.tail k n
      exact ⟨j, by rw [e]; grind⟩
    exact (h1.add h2).isI
/-- a prime: it divides one of two factors -/
def Pr (p : Int) : Prop := 1 < p ∧ ∀ a b : Int, p ∣ a * b → p ∣ a ∨ p ∣ b
theorem pr_mul {p : Int} (hp : Pr p) : ∀ (n : Nat) (G Q : List Rat), G.length + Q.length ≤ n → IsI G → IsI Q → Dd p (mulL G Q) → Dd p G ∨ Dd p Q
  | _, [], _, _, _, _, _ => .inl (Dd.nil p)
  | _, _ :: _, [], _, _, _, _ => .inr (Dd.nil p)
  | 0, a :: G, b :: Q, hn, _, _, _ => by simp at hn
  | n + 1, a :: G, b :: Q, hn, hG, hQ, h => by
    simp only [List.length_cons] at hn
    obtain ⟨i, hi⟩ := hG.head
    obtain ⟨j, hj⟩ := hQ.head
    by_cases hd : p ∣ i
    · obtain ⟨k, hk⟩ := hd
      have ha : ∃ i : Int, a = p * i := ⟨k, by rw [hi, hk, Rat.intCast_mul]⟩
      have h1 : Dd p (sc a (b :: Q)) := Dd.sc ha hQ
      rw [mulL] at h
      have h2 := h.of_add h1
      have h3 : Dd p (mulL G (b :: Q)) := fun m => by
        have := h2 (m + 1)
        rwa [cf_succ] at this
      rcases pr_mul hp n G (b :: Q) (by simp; omega) hG.tail hQ h3 with z | z
      · exact .inl (Dd.cons ha z)
      · exact .inr z
    · have h0 : p ∣ i * j := by
        obtain ⟨m, e⟩ := h 0
        rw [mulL, cf_addL, cf_sc, cf_zero, cf_zero, hi, hj] at e
        refine ⟨m, ?_⟩
        have : ((i * j : Int) : Rat) = ((p * m : Int) : Rat) := by rw [Rat.intCast_mul, Rat.intCast_mul]; grind
        exact_mod_cast this
      rcases hp.2 i j h0 with z | ⟨k, hk⟩
      · exact absurd z hd
      · have hb : ∃ i : Int, b = p * i := ⟨k, by rw [hj, hk, Rat.intCast_mul]⟩
        have e : ∀ k, cf (mulL (a :: G) (b :: Q)) k = cf (addL (sc b (a :: G)) (0 :: mulL (a :: G) Q)) k := cf_eq_of_ev fun x => by
          rw [ev_mulL, ev_addL, ev_sc, ev_cons 0, ev_mulL, ev_cons b]; grind
        have h1 : Dd p (sc b (a :: G)) := Dd.sc hb hG
        have h2 := (h.cf e).of_add h1
        have h3 : Dd p (mulL (a :: G) Q) := fun m => by
          have := h2 (m + 1)
          rwa [cf_succ] at this
        rcases pr_mul hp n (a :: G) Q (by simp; omega) hG hQ.tail h3 with z | z
        · exact .inl z
        · exact .inr (Dd.cons hb z)
/-- a prime that divides a number above 1 -/
theorem pr_some (D : Nat) (h : 1 < D) : ∃ p : Nat, Pr (p : Int) ∧ p ∣ D := by
  have : ∀ n, ∀ D : Nat, D ≤ n → 1 < D → ∃ p : Nat, 1 < p ∧ p ∣ D ∧ ∀ m, 1 < m → m ∣ p → m = p := by
    intro n
    induction n with
    | zero => intro D h1 h2; omega
    | succ n ih =>
      intro D h1 h2
      by_cases hm : ∀ m, 1 < m → m ∣ D → m = D
      · exact ⟨D, h2, Nat.dvd_refl D, hm⟩
      · have ⟨m, hm⟩ := Classical.not_forall.mp hm
        have ⟨a, hm⟩ := Classical.not_imp.mp hm
        have ⟨b, c⟩ := Classical.not_imp.mp hm
        have hle := Nat.le_of_dvd (by omega) b
        obtain ⟨p, p1, p2, p3⟩ := ih m (by omega) a
        exact ⟨p, p1, Nat.dvd_trans p2 b, p3⟩
  obtain ⟨p, h1, h2, h3⟩ := this D D (Nat.le_refl D) h
  refine ⟨p, ⟨by omega, fun a b hab => ?_⟩, h2⟩
  have hn : p ∣ a.natAbs * b.natAbs := by
    rw [← Int.natAbs_mul]
    exact Int.ofNat_dvd_left.mp hab
  by_cases hg : Nat.gcd p a.natAbs = 1
  · exact .inr (Int.ofNat_dvd_left.mpr (Nat.Coprime.dvd_of_dvd_mul_left hg hn))
  · have hd : Nat.gcd p a.natAbs ∣ p := Nat.gcd_dvd_left _ _
    have hpos : 0 < Nat.gcd p a.natAbs := Nat.gcd_pos_of_pos_left _ (by omega)
    have := h3 _ (by omega) hd
    exact .inl (Int.ofNat_dvd_left.mpr (this ▸ Nat.gcd_dvd_right _ _))
/-- some number makes all integers -/
theorem some_den : ∀ p : List Rat, ∃ D : Nat, 1 ≤ D ∧ IsI (sc (D : Rat) p)
  | [] => ⟨1, Nat.le_refl 1, (Dd.nil 1).isI⟩
  | a :: p => by
    obtain ⟨D, h1, h2⟩ := some_den p
    refine ⟨a.den * D, Nat.mul_pos a.den_pos h1, fun k => ?_⟩
    rw [cf_sc]
    cases k with
    | zero =>
      rw [cf_zero]
      refine ⟨D * a.num, ?_⟩
      have e : a = (a.num : Rat) / ((a.den : Int) : Rat) := by rw [← Rat.divInt_eq_div, Rat.num_divInt_den]
      have hd : (a.den : Rat) ≠ 0 := by
        have := a.den_nz
        exact_mod_cast this
      have e2 : (a.den : Rat) * a = a.num := by
        have : ((a.den : Int) : Rat) = (a.den : Rat) := rfl
        grind
      rw [Rat.natCast_mul, Rat.intCast_mul]
      have : ((D : Int) : Rat) = (D : Rat) := rfl
      grind
    | succ k =>
      rw [cf_succ]
      obtain ⟨i, e⟩ := h2 k
      rw [cf_sc] at e
      refine ⟨a.den * i, ?_⟩
      rw [Rat.natCast_mul, Rat.intCast_mul]
      have : ((a.den : Int) : Rat) = (a.den : Rat) := rfl
      grind
theorem least_of (P : Nat → Prop) (h : ∃ n, P n) : ∃ n, P n ∧ ∀ m, m < n → ¬ P m := by
  obtain ⟨n, hn⟩ := h
  have : ∀ k, ∀ n, n ≤ k → P n → ∃ n, P n ∧ ∀ m, m < n → ¬ P m := by
    intro k
    induction k with
    | zero => intro n h1 h2; exact ⟨n, h2, fun m hm => by omega⟩
    | succ k ih =>
      intro n h1 h2
      by_cases hm : ∀ m, m < n → ¬ P m
      · exact ⟨n, h2, hm⟩
      · have ⟨m, hm⟩ := Classical.not_forall.mp hm
        have ⟨a, hm⟩ := Classical.not_imp.mp hm
        exact ih m (by omega) (Classical.not_not.mp hm)
  exact this n n (Nat.le_refl n) hn
theorem least_den (p : List Rat) : ∃ D : Nat, (1 ≤ D ∧ IsI (sc (D : Rat) p)) ∧ ∀ q : Nat, Pr (q : Int) → q ∣ D → ¬ Dd q (sc (D : Rat) p) := by
  obtain ⟨D, h, hm⟩ := least_of _ (some_den p)
  refine ⟨D, h, fun q hq hd hdd => ?_⟩
  obtain ⟨E, hE⟩ := hd
  have hq1 : (1 : Int) < q := hq.1
  have hqn : 1 < q := by omega
  have hE1 : 1 ≤ E := by
    rcases Nat.eq_zero_or_pos E with z | z
    · subst z; simp at hE; omega
    · exact z
  have hlt : E < D := by
    rw [hE]
    calc E < 2 * E := by omega
      _ ≤ q * E := Nat.mul_le_mul_right _ (by omega)
  refine hm E hlt ⟨hE1, fun k => ?_⟩
  obtain ⟨i, e⟩ := hdd k
  refine ⟨i, ?_⟩
  rw [cf_sc, hE, Rat.natCast_mul] at e
  rw [cf_sc]
  have : ((q : Int) : Rat) = (q : Rat) := rfl
  have hne : (q : Rat) ≠ 0 := by
    have : q ≠ 0 := by omega
    exact_mod_cast this
  grind
/-- of a row led by 1: its integer row without a common divisor -/
theorem prim_of {g : List Rat} (hg : Mon g) : ∃ w : Nat, 1 ≤ w ∧ IsI (sc (w : Rat) g) ∧ ∀ q : Nat, Pr (q : Int) → ¬ Dd q (sc (w : Rat) g) := by
  obtain ⟨w, ⟨h1, h2⟩, h3⟩ := least_den g
  refine ⟨w, h1, h2, fun q hq hd => h3 q hq ?_ hd⟩
  obtain ⟨i, e⟩ := hd (g.length - 1)
  rw [cf_sc, hg.2] at e
  have e2 : ((w : Int) : Rat) = ((q * i : Int) : Rat) := by
    rw [Rat.intCast_mul]
    have : ((w : Int) : Rat) = (w : Rat) := rfl
    grind
  have e3 : (w : Int) = q * i := by exact_mod_cast e2
  exact Int.natCast_dvd_natCast.mp ⟨i, e3⟩
/-- Gauss: a divisor without a common divisor leaves integers -/
theorem gauss {A G Q : List Rat} (hA : IsI A) (hG : IsI G) (hp : ∀ q : Nat, Pr (q : Int) → ¬ Dd q G) (h : ∀ x, ev A x = ev G x * ev Q x) : IsI Q := by
  obtain ⟨D, ⟨h1, h2⟩, h3⟩ := least_den Q
  by_cases hD : D = 1
  · subst hD
    intro k
    obtain ⟨i, e⟩ := h2 k
    rw [cf_sc] at e
    exact ⟨i, by rw [← e]; simp⟩
  · obtain ⟨q, hq, hd⟩ := pr_some D (by omega)
    obtain ⟨E, hE⟩ := hd
    have e : ∀ k, cf (sc (D : Rat) A) k = cf (mulL G (sc (D : Rat) Q)) k := cf_eq_of_ev fun x => by rw [ev_sc, ev_mulL, ev_sc, h]; grind
    have hm : Dd q (mulL G (sc (D : Rat) Q)) := Dd.cf (fun k => by
      obtain ⟨i, hi⟩ := hA k
      refine ⟨E * i, ?_⟩
      rw [cf_sc, hi, hE, Rat.natCast_mul, Rat.intCast_mul]
      have : ((q : Int) : Rat) = (q : Rat) := rfl
      have : ((E : Int) : Rat) = (E : Rat) := rfl
      grind) e
    rcases pr_mul hq _ G _ (Nat.le_refl _) hG h2 hm with z | z
    · exact absurd z (hp q hq)
    · exact absurd z (h3 q hq ⟨E, hE⟩)
end K11
/-! Sizes: a divisor in integers is bounded by the values at small places; the shortened quotient. -/
namespace K11
def Cfb (N : Rat) (p : List Rat) : Prop := ∀ k, -N ≤ cf p k ∧ cf p k ≤ N
theorem mul_bd {a b N M : Rat} (ha : -N ≤ a ∧ a ≤ N) (hb : -M ≤ b ∧ b ≤ M) (hN : 0 ≤ N) (hM : 0 ≤ M) : -(N * M) ≤ a * b ∧ a * b ≤ N * M := by
  have key : ∀ c d : Rat, 0 ≤ c → c ≤ N → -M ≤ d → d ≤ M → -(N * M) ≤ c * d ∧ c * d ≤ N * M := by
    intro c d c0 c1 d0 d1
    have e1 : c * d ≤ c * M := Rat.mul_le_mul_of_nonneg_left d1 c0
    have e2 : c * M ≤ N * M := Rat.mul_le_mul_of_nonneg_right c1 hM
    have e3 : c * (-M) ≤ c * d := Rat.mul_le_mul_of_nonneg_left d0 c0
    constructor <;> grind
  rcases Rat.le_total (a := 0) (b := a) with h | h
  · exact key a b h ha.2 hb.1 hb.2
  · have := key (-a) b (by grind) (by grind) hb.1 hb.2
    constructor <;> grind
theorem div_bd {d y M : Rat} (hd : 1 ≤ d) (h1 : -M ≤ d * y) (h2 : d * y ≤ M) : -M ≤ y ∧ y ≤ M := by
  rcases Rat.le_total (a := 0) (b := y) with h | h
  · have e : 1 * y ≤ d * y := Rat.mul_le_mul_of_nonneg_right hd h
    constructor <;> grind
  · have e : 1 * (-y) ≤ d * (-y) := Rat.mul_le_mul_of_nonneg_right hd (by grind)
    constructor <;> grind
theorem div_bd2 {d y M : Rat} (hd : 1 ≤ d ∨ d ≤ -1) (h1 : -M ≤ d * y) (h2 : d * y ≤ M) : -M ≤ y ∧ y ≤ M := by
  rcases hd with hd | hd
  · exact div_bd hd h1 h2
  · exact div_bd (d := -d) (by grind) (by grind) (by grind)

def Lc (n : Nat) : Nat → Nat
  | 0 => 0
  | m + 1 => 1 + 2 * (n + 1) * Lc n m
def Sm (x : Nat) : Nat → Nat
  | 0 => 0
  | m + 1 => 1 + x * Sm x m
theorem cast_nonneg (n : Nat) : (0 : Rat) ≤ n := by exact_mod_cast Nat.zero_le n
theorem lag (n : Nat) : ∀ (m : Nat) (p : List Rat) (rs : List Nat) (K : Rat), p.length ≤ m → rs.Nodup → p.length ≤ rs.length → (∀ r ∈ rs, r ≤ n ∧ -K ≤ ev p r ∧ ev p r ≤ K) → 0 ≤ K → Cfb ((Lc n m : Nat) * K) p
  | m, [], _, K, _, _, _, _, hK => fun k => by
    have := Rat.mul_nonneg (cast_nonneg (Lc n m)) hK
    rw [cf_nil]; constructor <;> grind
  | 0, a :: t, _, _, h, _, _, _, _ => by simp at h
  | m + 1, a :: t, [], _, _, _, h, _, _ => by simp at h
  | m + 1, a :: t, r0 :: rs, K, hm, nd, hl, h, hK => by
    have nd' := List.nodup_cons.mp nd
    have h0 := h r0 (by simp)
    have hlen : (sd r0 (a :: t)).length = (a :: t).length - 1 := len_sd r0 (a :: t)
    simp only [List.length_cons] at hm hl hlen
    have ih := lag n m (sd r0 (a :: t)) rs (2 * K) (by omega) nd'.2 (by omega) (fun r hr => by
      have h1 := h r (by simp [hr])
      refine ⟨h1.1, ?_⟩
      have e := ev_sd r0 (a :: t) r
      have ne : r ≠ r0 := fun z => nd'.1 (z ▸ hr)
      refine div_bd2 (d := (r : Rat) - r0) ?_ (by grind) (by grind)
      rcases Nat.lt_or_gt_of_ne ne with z | z
      · right
        have : ((r + 1 : Nat) : Rat) ≤ (r0 : Nat) := by exact_mod_cast z
        rw [Rat.natCast_add] at this
        grind
      · left
        have : ((r0 + 1 : Nat) : Rat) ≤ (r : Nat) := by exact_mod_cast z
        rw [Rat.natCast_add] at this
        grind) (by grind)
    have e : ∀ k, cf (a :: t) k = cf (addL [ev (a :: t) r0] (addL (0 :: sd r0 (a :: t)) (sc (-(r0 : Rat)) (sd r0 (a :: t))))) k := cf_eq_of_ev fun x => by
      rw [ev_addL, ev_addL, ev_sc, ev_cons 0, ev_sd r0 (a :: t) x]
      simp only [ev]
      grind
    have hL := Rat.mul_nonneg (cast_nonneg (Lc n m)) (show 0 ≤ 2 * K by grind)
    have hn : (r0 : Rat) ≤ n := by exact_mod_cast h0.1
    have hr0 := cast_nonneg r0
    have hmul : ∀ k, -((n : Rat) * ((Lc n m : Nat) * (2 * K))) ≤ (r0 : Rat) * cf (sd r0 (a :: t)) k ∧ (r0 : Rat) * cf (sd r0 (a :: t)) k ≤ (n : Rat) * ((Lc n m : Nat) * (2 * K)) := fun k =>
      mul_bd ⟨by grind, hn⟩ (ih k) (cast_nonneg n) hL
    have eL : ((Lc n (m + 1) : Nat) : Rat) = 1 + 2 * ((n : Rat) + 1) * (Lc n m : Nat) := by
      show ((1 + 2 * (n + 1) * Lc n m : Nat) : Rat) = _
      rw [Rat.natCast_add, Rat.natCast_mul, Rat.natCast_mul, Rat.natCast_add]
      rfl
    have hnL := Rat.mul_nonneg (cast_nonneg n) hL
    intro k
    rw [e, eL, cf_addL, cf_addL, cf_sc]
    cases k with
    | zero =>
      rw [cf_zero, cf_zero]
      have := hmul 0
      constructor <;> grind
    | succ k =>
      rw [cf_succ, cf_succ, cf_nil]
      have := hmul (k + 1)
      have := ih k
      constructor <;> grind
theorem ev_le {N : Rat} (hN : 0 ≤ N) (x : Nat) : ∀ {p : List Rat}, Cfb N p → -(N * (Sm x p.length : Nat)) ≤ ev p x ∧ ev p x ≤ N * (Sm x p.length : Nat)
  | [], _ => by
    rw [ev_nil]
    show -(N * ((0 : Nat) : Rat)) ≤ 0 ∧ 0 ≤ N * ((0 : Nat) : Rat)
    constructor <;> simp
  | a :: t, h => by
    have ih := ev_le hN x (p := t) fun k => by rw [← cf_succ a]; exact h (k + 1)
    have h0 := h 0
    rw [cf_zero] at h0
    have hS := Rat.mul_nonneg hN (cast_nonneg (Sm x t.length))
    have := mul_bd (a := (x : Rat)) ⟨by have := cast_nonneg x; grind, Rat.le_refl⟩ ih (cast_nonneg x) hS
    have e : ((Sm x (a :: t).length : Nat) : Rat) = 1 + (x : Rat) * (Sm x t.length : Nat) := by
      show ((1 + x * Sm x t.length : Nat) : Rat) = _
      rw [Rat.natCast_add, Rat.natCast_mul]
      rfl
    rw [ev_cons, e]
    constructor <;> grind
theorem Sm_mono {x y : Nat} (h : x ≤ y) : ∀ {m k : Nat}, m ≤ k → Sm x m ≤ Sm y k
  | 0, _, _ => Nat.zero_le _
  | m + 1, 0, z => by omega
  | m + 1, k + 1, z => by
    show 1 + x * Sm x m ≤ 1 + y * Sm y k
    have := Nat.mul_le_mul h (Sm_mono h (m := m) (k := k) (by omega))
    omega
theorem Lc_mono {n : Nat} : ∀ {m k : Nat}, m ≤ k → Lc n m ≤ Lc n k
  | 0, _, _ => Nat.zero_le _
  | m + 1, 0, z => by omega
  | m + 1, k + 1, z => by
    show 1 + 2 * (n + 1) * Lc n m ≤ 1 + 2 * (n + 1) * Lc n k
    have := Nat.mul_le_mul_left (2 * (n + 1)) (Lc_mono (n := n) (m := m) (k := k) (by omega))
    omega
theorem isI_ev : ∀ {p : List Rat}, IsI p → ∀ x : Nat, ∃ i : Int, ev p x = i
  | [], _, x => ⟨0, by rw [ev_nil]; simp⟩
  | a :: t, h, x => by
    obtain ⟨i, e⟩ := h.head
    obtain ⟨j, f⟩ := isI_ev h.tail x
    refine ⟨i + x * j, ?_⟩
    rw [ev_cons, e, f, Rat.intCast_add, Rat.intCast_mul]
    rfl
theorem int_abs {i : Int} (h : i ≠ 0) : (1 : Rat) ≤ i ∨ (i : Rat) ≤ -1 := by
  rcases Int.lt_or_gt_of_ne h with z | z
  · right
    have : i ≤ -1 := by omega
    have h2 : (i : Rat) ≤ ((-1 : Int) : Rat) := by exact_mod_cast this
    simpa using h2
  · left
    have : 1 ≤ i := by omega
    have h2 : ((1 : Int) : Rat) ≤ (i : Rat) := by exact_mod_cast this
    simpa using h2
theorem len_split {α : Type} (f : α → Bool) : ∀ l : List α, (l.filter f).length + (l.filter fun a => !f a).length = l.length
  | [] => rfl
  | a :: l => by
    have ih := len_split f l
    rw [List.filter_cons, List.filter_cons]
    cases f a <;> simp <;> omega
/-- a divisor in integers is bounded by the values of what it divides -/
theorem kron {A G Q : List Rat} {N : Rat} {n : Nat} (hN : 0 ≤ N) (hG : IsI G) (hQ : IsI Q) (q0 : ¬ Z Q) (h : ∀ x, ev A x = ev G x * ev Q x) (hA : Cfb N A) (hl : A.length ≤ n + 1) (hgq : G.length + Q.length ≤ n + 2) :
    Cfb ((Lc n G.length : Nat) * (N * (Sm n (n + 1) : Nat))) G := by
  have hK := Rat.mul_nonneg hN (cast_nonneg (Sm n (n + 1)))
  refine lag n G.length G ((List.range (n + 1)).filter fun i : Nat => !decide (ev Q (i : Rat) = 0)) _ (Nat.le_refl _) (List.nodup_range.filter _) ?_ (fun r hr => ?_) hK
  · have hz : ((List.range (n + 1)).filter fun i : Nat => decide (ev Q (i : Rat) = 0)).length < Q.length := by
      have := roots_lt (((List.range (n + 1)).filter fun i : Nat => decide (ev Q (i : Rat) = 0)).map fun i : Nat => (i : Rat)) Q q0
        (by
          refine List.Pairwise.map _ (fun a b h e => h ?_) (List.nodup_range.filter _)
          exact_mod_cast e) (fun r hr => by
          obtain ⟨i, hi, rfl⟩ := List.mem_map.mp hr
          exact of_decide_eq_true (List.mem_filter.mp hi).2)
      rwa [List.length_map] at this
    have hs := len_split (fun i : Nat => decide (ev Q (i : Rat) = 0)) (List.range (n + 1))
    rw [List.length_range] at hs
    omega
  · obtain ⟨h1, h2⟩ := List.mem_filter.mp hr
    have hrn := List.mem_range.mp h1
    refine ⟨by omega, ?_⟩
    have hne : ev Q (r : Rat) ≠ 0 := by simpa using h2
    obtain ⟨i, hi⟩ := isI_ev hQ r
    have i0 : i ≠ 0 := fun z => hne (by rw [hi, z]; simp)
    have hb := ev_le hN r hA
    have hm : (Sm r A.length : Rat) ≤ (Sm n (n + 1) : Nat) := by exact_mod_cast Sm_mono (show r ≤ n by omega) hl
    have hb2 := Rat.mul_le_mul_of_nonneg_left hm hN
    have e := h r
    have e2 : (i : Rat) * ev G r = ev A r := by rw [e, hi]; grind
    refine div_bd2 (d := (i : Rat)) (int_abs i0) ?_ ?_
    · rw [e2]; exact Rat.le_trans (Rat.neg_le_neg hb2) hb.1
    · rw [e2]; exact Rat.le_trans hb.2 hb2
theorem Cfb.mono {N M : Rat} {p : List Rat} (h : Cfb N p) (k : N ≤ M) : Cfb M p := fun n => by have := h n; constructor <;> grind
/-- the shortened quotient of multiples of integer rows -/
theorem red_bd {A B p q : List Rat} {s t N M : Rat} {n m : Nat} (hA : IsI A) (hB : IsI B) (tA : Tr A) (tB : Tr B) (B0 : B ≠ []) (hs : s ≠ 0) (ht : t ≠ 0) (hR : Red p q)
    (h : ∀ x, ev p x * (t * ev B x) = s * ev A x * ev q x) (hN : 0 ≤ N) (hM : 0 ≤ M) (cA : Cfb N A) (cB : Cfb M B) (lA : A.length ≤ n + 1) (lB : B.length ≤ m + 1) :
    ∃ (QA QB : List Rat) (l : Int), IsI QA ∧ IsI QB ∧ l ≠ 0 ∧ cf QB (q.length - 1) = l ∧ p = sc (s / (t * l)) QA ∧ q = sc (1 / (l : Rat)) QB ∧
      ((q.length = B.length ∧ p.length = A.length ∧ Cfb N QA ∧ Cfb M QB) ∨
        (∃ d, 0 < d ∧ q.length + d = B.length ∧ (p = [] ∨ p.length + d = A.length) ∧ Cfb ((Lc n p.length : Nat) * (N * (Sm n (n + 1) : Nat))) QA ∧ Cfb ((Lc m q.length : Nat) * (M * (Sm m (m + 1) : Nat))) QB)) := by
  have zB := not_Z tB B0
  have zq := not_Z hR.mq.tr hR.mq.1
  -- q divides B
  obtain ⟨b, hb⟩ : Dv q B := red_dv (p := p) (p' := sc (s / t) A) hR.co fun x => by rw [ev_sc]; have := h x; grind
  have b0 : tr b ≠ [] := fun z => B0 (tB.ne (Z_of_ev fun k => by rw [hb, ← ev_tr b, z, ev_nil]; grind))
  have hbl := Tr_tr b b0
  have hc0 : cf (tr b) ((tr b).length - 1) ≠ 0 := hbl
  generalize hc : cf (tr b) ((tr b).length - 1) = c at hc0
  -- what is taken out
  obtain ⟨g, hgd⟩ : ∃ g, g = sc (1 / c) (tr b) := ⟨_, rfl⟩
  have hg : Mon g := by
    rw [hgd]
    exact ⟨fun z => b0 (List.map_eq_nil_iff.mp z), by rw [cf_sc, len_sc, hc]; grind⟩
  have evg : ∀ x, ev b x = c * ev g x := fun x => by rw [hgd, ev_sc, ev_tr]; grind
  obtain ⟨w, w1, wI, wP⟩ := prim_of hg
  have w0 : (w : Rat) ≠ 0 := by
    have : w ≠ 0 := by omega
    exact_mod_cast this
  have eB : ∀ x, ev B x = ev (sc (w : Rat) g) x * ev (sc (c / w) q) x := fun x => by
    rw [ev_sc, ev_sc, hb, evg]
    have hw : (w : Rat) * (c / w) = c := by grind
    generalize c / (w : Rat) = y at hw
    grind
  have hw2 : (w : Rat) * (t * c / (s * w)) * s = t * c := by grind
  have eA : ∀ x, ev A x = ev (sc (w : Rat) g) x * ev (sc (t * c / (s * w)) p) x := by
    have z := cancel (a := A) (b := mulL (sc (w : Rat) g) (sc (t * c / (s * w)) p)) zq (fun x => by
      rw [ev_mulL, ev_sc, ev_sc]
      have h1 := h x; have h2 := hb x; have h3 := evg x
      rw [h2, h3] at h1
      generalize t * c / (s * (w : Rat)) = y at hw2
      generalize ev p x = P at *
      generalize ev q x = R at *
      generalize ev A x = a at *
      generalize ev g x = e at *
      have : s * (a * R) = s * ((w : Rat) * e * (y * P) * R) := by grind
      have h4 : s * (a * R - (w : Rat) * e * (y * P) * R) = 0 := by grind
      grind)
    intro x
    rw [z x, ev_mulL]
  have iB := gauss hB wI wP eB
  have iA := gauss hA wI wP eA
  have zG : ¬ Z (sc (w : Rat) g) := fun z => not_Z hg.tr hg.1 fun k => by have := z k; rw [cf_sc] at this; grind
  have l1 : cf (sc (c / w) q) (q.length - 1) = c / w := by rw [cf_sc, hR.mq.2]; grind
  obtain ⟨l, hl⟩ := iB (q.length - 1)
  have hlc : (l : Rat) = c / w := by rw [← hl, l1]
  have l0 : (l : Rat) ≠ 0 := by rw [hlc]; grind
  have l0' : l ≠ 0 := fun z => l0 (by rw [z]; simp)
  have lenB := len_mul hR.mq.tr (Tr_tr b) tB hR.mq.1 b0 fun x => by rw [ev_tr, hb]
  have lb : 0 < (tr b).length := List.length_pos_iff.mpr b0
  have lg : g.length = (tr b).length := by rw [hgd, len_sc]
  have lenA : p = [] ∨ A.length + 1 = g.length + p.length := by
    by_cases p0 : p = []
    · exact .inl p0
    · right
      refine len_mul hg.tr (p := g) (q := sc (t * c / s) p) (r := A) (fun _ => ?_) tA hg.1 (fun z => p0 (List.map_eq_nil_iff.mp z)) (fun x => by rw [eA, ev_sc, ev_sc, ev_sc]; grind) |>.trans (by rw [len_sc])
      rw [cf_sc, len_sc]
      have := hR.tp p0
      have : t * c / s ≠ 0 := by grind
      grind
  refine ⟨sc (t * c / (s * w)) p, sc (c / w) q, l, iA, iB, l0', hl, ?_, ?_, ?_⟩
  · show p = List.map _ (List.map _ p)
    rw [List.map_map]
    conv => lhs; rw [← List.map_id p]
    refine List.map_congr_left fun a _ => ?_
    show a = s / (t * (l : Rat)) * (t * c / (s * w) * a)
    rw [hlc]; grind
  · show q = List.map _ (List.map _ q)
    rw [List.map_map]
    conv => lhs; rw [← List.map_id q]
    refine List.map_congr_left fun a _ => ?_
    show a = 1 / (l : Rat) * (c / w * a)
    rw [hlc]; grind
  · by_cases hone : (tr b).length = 1
    · left
      have lgg : g.length = 1 := by rw [lg, hone]
      have g1 : g = [1] := by
        obtain ⟨y, hy⟩ := List.length_eq_one_iff.mp lgg
        have := hg.2
        rw [hy] at this ⊢
        simp [cf] at this
        rw [this]
      have w_one : w = 1 := by
        refine Classical.byContradiction fun hw => ?_
        obtain ⟨r, hr, hd⟩ := pr_some w (by omega)
        obtain ⟨E, hE⟩ := hd
        refine wP r hr fun k => ?_
        rw [g1]
        show ∃ i : Int, cf [(w : Rat) * 1] k = _
        cases k with
        | zero =>
          refine ⟨E, ?_⟩
          rw [cf_zero, hE, Rat.natCast_mul]
          have : ((r : Int) : Rat) = (r : Rat) := rfl
          have : ((E : Int) : Rat) = (E : Rat) := rfl
          grind
        | succ k => exact ⟨0, by rw [cf_succ, cf_nil]; simp⟩
      have fA : ∀ k, cf (sc (t * c / (s * w)) p) k = cf A k := cf_eq_of_ev fun x => by
        rw [eA x, g1, w_one]; simp only [sc, List.map, ev]; grind
      have fB : ∀ k, cf (sc (c / w) q) k = cf B k := cf_eq_of_ev fun x => by
        rw [eB x, g1, w_one]; simp only [sc, List.map, ev]; grind
      refine ⟨by omega, ?_, fun k => by rw [fA]; exact cA k, fun k => by rw [fB]; exact cB k⟩
      rcases lenA with z | z
      · subst z
        have : A = [] := tA.ne fun k => by rw [← fA]; exact cf_nil k
        rw [this]
      · omega
    · right
      refine ⟨(tr b).length - 1, by omega, by omega, ?_, ?_, ?_⟩
      · rcases lenA with z | z
        · exact .inl z
        · right; omega
      · rcases lenA with z | z
        · subst z
          intro k
          have h0 : cf (sc (t * c / (s * (w : Rat))) []) k = 0 := cf_nil k
          rw [h0]
          show -(((0 : Nat) : Rat) * _) ≤ 0 ∧ 0 ≤ ((0 : Nat) : Rat) * _
          constructor <;> simp
        · have := kron (A := A) (G := sc (t * c / (s * w)) p) (Q := sc (w : Rat) g) (n := n) hN iA wI zG (fun x => by rw [eA]; grind) cA lA (by
            rw [len_sc, len_sc]
            omega)
          rwa [len_sc] at this
      · have := kron (A := B) (G := sc (c / w) q) (Q := sc (w : Rat) g) (n := m) hM iB wI zG (fun x => by rw [eB]; grind) cB lB (by rw [len_sc, len_sc]; omega)
        rwa [len_sc] at this
end K11
/-! A layer over the hand layer: what an expression gives, told as data. -/
namespace K11
open PySem PySem.Spec PyProof.Rows L2

theorem sqT_same {K : PySem.W.Frag} {H H' : Hp} {a : Addr} {xs : List V} (e : Same H H') (h : SqT K H a xs) : SqT K H' a xs := by
  rcases h with (h | ⟨o, h⟩) | h
  · exact .inl (.inl (e _ _ h))
  · exact .inl (.inr ⟨o, e _ _ h⟩)
  · exact .inr h
mutual
theorem dp_same {K : PySem.W.Frag} {H H' : Hp} (e : Same H H') : ∀ {d : PyData} {v : V}, Dp K H v d → Dp K H' v d
  | .none, _, h => by cases h; exact .non
  | .bool _, _, h => by cases h; exact .bl _
  | .int _, _, h => by cases h; exact .int _
  | .str _, _, h => by cases h; exact .str _
  | .list _, _, h => by cases h with | lst s a => exact .lst (e.seq s) (dpa_same e a)
  | .tuple _, _, h => by cases h with | tup s a => exact .tup (sqT_same e s) (dpa_same e a)
  | .dict _, _, h => by cases h
theorem dpa_same {K : PySem.W.Frag} {H H' : Hp} (e : Same H H') : ∀ {ds : List PyData} {vs : List V}, DpAll K H vs ds → DpAll K H' vs ds
  | [], _, h => by cases h; exact .nil
  | _ :: _, _, h => by cases h with | cons a b => exact .cons (dp_same e a) (dpa_same e b)
end
/-- no list within -/
def fz : PyData → Bool
  | .list _ => false
  | .dict _ => false
  | .tuple ds => fzs ds
  | _ => true
where fzs : List PyData → Bool
  | [] => true
  | d :: ds => fz d && fzs ds
theorem sqT_upd {K : PySem.W.Frag} {H : Hp} {a l : Addr} {xs ys : List V} {o : HO} (hl : H l = some (.lst ys)) (h : SqT K H a xs) : SqT K (upd H l o) a xs := by
  rcases h with (h | ⟨u, h⟩) | h
  · exact .inl (.inl (by rw [upd_ne (ne_of h hl (by intro z; cases z))]; exact h))
  · exact .inl (.inr ⟨u, by rw [upd_ne (ne_of h hl (by intro z; cases z))]; exact h⟩)
  · exact .inr h
theorem sqT_updK {K : PySem.W.Frag} {H : Hp} {a l : Addr} {xs : List V} {kvs : List (Key × V)} {o : HO} (hl : H l = some (.dK kvs)) (h : SqT K H a xs) : SqT K (upd H l o) a xs := by
  rcases h with (h | ⟨u, h⟩) | h
  · exact .inl (.inl (by rw [upd_ne (ne_of h hl (by intro z; cases z))]; exact h))
  · exact .inl (.inr ⟨u, by rw [upd_ne (ne_of h hl (by intro z; cases z))]; exact h⟩)
  · exact .inr h
/-- tuples stay -/
def TK (K : PySem.W.Frag) (H H' : Hp) : Prop := ∀ a xs, SqT K H a xs → SqT K H' a xs
theorem TK.same {K : PySem.W.Frag} {H H' : Hp} (e : Same H H') : TK K H H' := fun _ _ h => sqT_same e h
theorem TK.upd {K : PySem.W.Frag} {H : Hp} {l : Addr} {ys : List V} {o : HO} (hl : H l = some (.lst ys)) : TK K H (upd H l o) := fun _ _ h => sqT_upd hl h
theorem TK.updK {K : PySem.W.Frag} {H : Hp} {l : Addr} {kvs : List (Key × V)} {o : HO} (hl : H l = some (.dK kvs)) : TK K H (L2.upd H l o) := fun _ _ h => sqT_updK hl h
theorem TK.trans {K : PySem.W.Frag} {H H1 H2 : Hp} (a : TK K H H1) (b : TK K H1 H2) : TK K H H2 := fun x xs h => b x xs (a x xs h)
theorem TK.refl {K : PySem.W.Frag} (H : Hp) : TK K H H := fun _ _ h => h
mutual
theorem dp_tk {K : PySem.W.Frag} {H H' : Hp} (e : TK K H H') : ∀ {d : PyData} {v : V}, fz d = true → Dp K H v d → Dp K H' v d
  | .none, _, _, h => by cases h; exact .non
  | .bool _, _, _, h => by cases h; exact .bl _
  | .int _, _, _, h => by cases h; exact .int _
  | .str _, _, _, h => by cases h; exact .str _
  | .list _, _, f, h => by simp [fz] at f
  | .tuple ds, _, f, h => by
    cases h with
    | tup s a => exact .tup (e _ _ s) (dpa_tk e (by simpa [fz] using f) a)
  | .dict _, _, f, h => by cases h
theorem dpa_tk {K : PySem.W.Frag} {H H' : Hp} (e : TK K H H') : ∀ {ds : List PyData} {vs : List V}, fz.fzs ds = true → DpAll K H vs ds → DpAll K H' vs ds
  | [], _, _, h => by cases h; exact .nil
  | d :: ds, _, f, h => by
    have f' : fz d = true ∧ fz.fzs ds = true := by simpa [fz.fzs] using f
    cases h with
    | cons a b => exact .cons (dp_tk e f'.1 a) (dpa_tk e f'.2 b)
end
theorem dpa_len {K : PySem.W.Frag} {H : Hp} : ∀ {ds : List PyData} {vs : List V}, DpAll K H vs ds → vs.length = ds.length
  | [], _, h => by cases h; rfl
  | _ :: _, _, h => by cases h with | cons a b => simp [dpa_len b]
theorem dpa_get {K : PySem.W.Frag} {H : Hp} : ∀ {ds : List PyData} {vs : List V} {i : Nat} {d : PyData}, DpAll K H vs ds → ds[i]? = some d → ∃ v, vs[i]? = some v ∧ Dp K H v d
  | [], _, i, d, h, e => by simp at e
  | x :: ds, _, 0, d, h, e => by
    cases h with
    | cons a b =>
      simp at e
      subst e
      exact ⟨_, rfl, a⟩
  | x :: ds, _, i + 1, d, h, e => by
    cases h with
    | cons a b =>
      obtain ⟨v, q, r⟩ := dpa_get (i := i) (d := d) b (by simpa using e)
      exact ⟨v, by simpa using q, r⟩
theorem dpa_append {K : PySem.W.Frag} {H : Hp} : ∀ {ds es : List PyData} {vs ws : List V}, DpAll K H vs ds → DpAll K H ws es → DpAll K H (vs ++ ws) (ds ++ es)
  | [], _, _, _, h, k => by cases h; exact k
  | _ :: _, _, _, _, h, k => by cases h with | cons a b => exact .cons a (dpa_append b k)
theorem dpa_set {K : PySem.W.Frag} {H : Hp} {x : V} {e : PyData} (hx : Dp K H x e) : ∀ {ds : List PyData} {vs : List V} (i : Nat), DpAll K H vs ds → DpAll K H (vs.set i x) (ds.set i e)
  | [], _, _, h => by cases h; exact .nil
  | _ :: _, _, 0, h => by cases h with | cons a b => exact .cons hx b
  | _ :: _, _, i + 1, h => by cases h with | cons a b => exact .cons a (dpa_set hx i b)
theorem dpa_dropLast {K : PySem.W.Frag} {H : Hp} : ∀ {ds : List PyData} {vs : List V}, DpAll K H vs ds → DpAll K H vs.dropLast ds.dropLast
  | [], _, h => by cases h; exact .nil
  | [_], _, h => by
    cases h with
    | cons a b =>
      cases b
      exact .nil
  | x :: y :: ds, _, h => by
    cases h with
    | cons a b =>
      have ih := dpa_dropLast b
      cases b with
      | cons c d => exact .cons a ih
theorem dpa_reverse {K : PySem.W.Frag} {H : Hp} : ∀ {ds : List PyData} {vs : List V}, DpAll K H vs ds → DpAll K H vs.reverse ds.reverse
  | [], _, h => by cases h; exact .nil
  | x :: ds, _, h => by
    cases h with
    | cons a b =>
      rw [List.reverse_cons, List.reverse_cons]
      exact dpa_append (dpa_reverse b) (.cons a .nil)
theorem dpa_take {K : PySem.W.Frag} {H : Hp} : ∀ {ds : List PyData} {vs : List V} (n : Nat), DpAll K H vs ds → DpAll K H (vs.take n) (ds.take n)
  | _, _, 0, _ => .nil
  | [], _, _ + 1, h => by cases h; exact .nil
  | _ :: _, _, n + 1, h => by cases h with | cons a b => exact .cons a (dpa_take n b)
theorem dpa_rep {K : PySem.W.Frag} {H : Hp} {x : V} {e : PyData} (hx : Dp K H x e) : ∀ n : Nat, DpAll K H (List.replicate n x) (List.replicate n e)
  | 0 => .nil
  | n + 1 => .cons hx (dpa_rep hx n)

/-! ### the names' values as data -/
def Env (K : PySem.W.Frag) (H : Hp) (σ : L2.St) (S : List (Option PyData)) : Prop := σ.length = S.length ∧ ∀ (i : Nat) (d : PyData), S[i]? = some (some d) → ∃ v, σ[i]? = some (some v) ∧ Dp K H v d
def fzE (S : List (Option PyData)) : Prop := ∀ (i : Nat) (d : PyData), S[i]? = some (some d) → fz d = true
section
variable {K : PySem.W.Frag} {H H' : Hp} {σ : L2.St} {S : List (Option PyData)} {i : Nat} {v : V} {d : PyData}
theorem Env.same (h : Env K H σ S) (e : Same H H') : Env K H' σ S := ⟨h.1, fun i d q => by
  obtain ⟨v, a, b⟩ := h.2 i d q
  exact ⟨v, a, dp_same e b⟩⟩
theorem Env.tk (h : Env K H σ S) (e : TK K H H') (f : fzE S) : Env K H' σ S := ⟨h.1, fun i d q => by
  obtain ⟨v, a, b⟩ := h.2 i d q
  exact ⟨v, a, dp_tk e (f i d q) b⟩⟩
theorem Env.set (h : Env K H σ S) (hv : Dp K H v d) : Env K H (σ.set i (some v)) (S.set i (some d)) := ⟨by rw [List.length_set, List.length_set]; exact h.1, fun j e q => by
  by_cases hj : i = j
  · subst hj
    by_cases hl : i < S.length
    · rw [List.getElem?_set_self hl] at q
      rw [List.getElem?_set_self (by rw [h.1]; exact hl)]
      injection q with q
      injection q with q
      subst q
      exact ⟨v, rfl, hv⟩
    · rw [List.set_eq_of_length_le (by omega)] at q
      rw [List.set_eq_of_length_le (by rw [h.1]; omega)]
      exact h.2 _ _ q
  · rw [List.getElem?_set_ne hj] at q
    rw [List.getElem?_set_ne hj]
    exact h.2 _ _ q⟩
theorem Env.put (h : Env K H σ S) (x : Option V) : Env K H (σ.set i x) (S.set i none) := ⟨by rw [List.length_set, List.length_set]; exact h.1, fun j e q => by
  by_cases hj : i = j
  · subst hj
    by_cases hl : i < S.length
    · rw [List.getElem?_set_self hl] at q
      cases q
    · rw [List.set_eq_of_length_le (by omega)] at q
      rw [List.set_eq_of_length_le (by rw [h.1]; omega)]
      exact h.2 _ _ q
  · rw [List.getElem?_set_ne hj] at q
    rw [List.getElem?_set_ne hj]
    exact h.2 _ _ q⟩
theorem env_start {N : List Str} {vs : List V} {ds : List PyData} (h : DpAll K H vs ds) : Env K H (L2.start N vs) (ds.map some ++ List.replicate (N.length - ds.length) none) := by
  have hl := dpa_len h
  refine ⟨by unfold L2.start; simp [hl], fun i d q => ?_⟩
  by_cases hi : i < ds.length
  · rw [List.getElem?_append_left (by simpa using hi), List.getElem?_map] at q
    cases e : ds[i]? with
    | none =>
      rw [e] at q
      cases q
    | some x =>
      rw [e] at q
      injection q with q
      injection q with q
      subst q
      obtain ⟨v, a, b⟩ := dpa_get h e
      refine ⟨v, ?_, b⟩
      unfold L2.start
      rw [List.getElem?_append_left (by simp; omega), List.getElem?_map, a]
      rfl
  · rw [List.getElem?_append_right (by simpa using hi), List.getElem?_replicate] at q
    split at q <;> cases q
theorem env_wipe (h : Env K H σ S) : ∀ vs : List Nat, Env K H (wipe σ vs) (vs.foldr (fun v S => S.set v none) S)
  | [] => h
  | v :: vs => (env_wipe h vs).put none

/-! ### what evaluates to what -/
def EvD (K : PySem.W.Frag) (te : TE) (σ : L2.St) (H : Hp) (d : PyData) : Prop := ∀ H1, Same H H1 → ∀ Q : VK, (∀ v H2, Same H1 H2 → Dp K H2 v d → Q v H2) → te σ H1 Q
def EvA (K : PySem.W.Frag) (ta : TA) (σ : L2.St) (H : Hp) (ds : List PyData) : Prop := ∀ H1, Same H H1 → ∀ Q : List V → Hp → Prop, (∀ vs H2, Same H1 H2 → DpAll K H2 vs ds → Q vs H2) → ta σ H1 Q
def EvB (tt : TT) (σ : L2.St) (H : Hp) (b : Bool) : Prop := ∀ H1, Same H H1 → ∀ Q : Bool → Hp → Prop, (∀ H2, Same H1 H2 → Q b H2) → tt σ H1 Q
/-- a new list of such data -/
def EvL (K : PySem.W.Frag) (te : TE) (σ : L2.St) (H : Hp) (ds : List PyData) : Prop := ∀ H1, Same H H1 → ∀ Q : VK, (∀ p vs H2, H1 p = none → Same H1 H2 → H2 p = some (.lst vs) → DpAll K H2 vs ds → Q (.ref p) H2) → te σ H1 Q
variable {te ta tb : TE} {tA : TA} {t u : TT} {ds : List PyData} {b c : Bool}
theorem EvD.same (h : EvD K te σ H d) (e : Same H H') : EvD K te σ H' d := fun H1 a Q q => h H1 (e.trans a) Q q
theorem EvA.same (h : EvA K tA σ H ds) (e : Same H H') : EvA K tA σ H' ds := fun H1 a Q q => h H1 (e.trans a) Q q
theorem EvB.same (h : EvB t σ H b) (e : Same H H') : EvB t σ H' b := fun H1 a Q q => h H1 (e.trans a) Q q
theorem EvL.same (h : EvL K te σ H ds) (e : Same H H') : EvL K te σ H' ds := fun H1 a Q q => h H1 (e.trans a) Q q
theorem EvL.dd (h : EvL K te σ H ds) : EvD K te σ H (.list ds) := fun H1 e Q q => h H1 e Q fun p vs H2 _ s hp a => q _ H2 s (.lst (.inl (.inl hp)) a)
theorem EvD.is {d' : PyData} (h : EvD K te σ H d) (e : d = d') : EvD K te σ H d' := e ▸ h
theorem EvB.is (h : EvB t σ H b) (e : b = c) : EvB t σ H c := e ▸ h
theorem EvA.is {ds' : List PyData} (h : EvA K tA σ H ds) (e : ds = ds') : EvA K tA σ H ds' := e ▸ h
theorem EvL.is {ds' : List PyData} (h : EvL K te σ H ds) (e : ds = ds') : EvL K te σ H ds' := e ▸ h
theorem same_upd {H : Hp} {p : Addr} {o : HO} (h : H p = none) : Same H (L2.upd H p o) := fun b x e => by
  rw [upd_ne (ne_of_none e h)]
  exact e
theorem ed_var (he : Env K H σ S) (h : S[i]? = some (some d)) : EvD K (tVar i) σ H d := fun H1 e Q q => by
  obtain ⟨v, a, b⟩ := he.2 i d h
  exact ⟨v, a, q v H1 (Same.refl H1) (dp_same e b)⟩
theorem ed_int (n : Int) : EvD K (tC (.int n)) σ H (.int n) := fun H1 _ _ q => q _ H1 (Same.refl H1) (.int n)
theorem ed_str (x : Str) : EvD K (tC (.str x)) σ H (.str x) := fun H1 _ _ q => q _ H1 (Same.refl H1) (.str x)
theorem ed_bl (x : Bool) : EvD K (tC (.bl x)) σ H (.bool x) := fun H1 _ _ q => q _ H1 (Same.refl H1) (.bl x)
theorem ed_non : EvD K (tC .non) σ H .none := fun H1 _ _ q => q _ H1 (Same.refl H1) .non
theorem ed_c {v : V} (h : ∀ H1, Same H H1 → Dp K H1 v d) : EvD K (tC v) σ H d := fun H1 e _ q => q _ H1 (Same.refl H1) (h H1 e)
theorem ea_nil : EvA K tNil σ H [] := fun H1 _ _ q => q _ H1 (Same.refl H1) .nil
theorem ea_cons (h : EvD K te σ H d) (k : EvA K tA σ H ds) : EvA K (tCons te tA) σ H (d :: ds) := fun H1 e Q q =>
  h H1 e _ fun v H2 s a => k H2 (e.trans s) _ fun vs H3 s2 a2 => q (v :: vs) H3 (s.trans s2) (.cons (dp_same s2 a) a2)
theorem ed_tup (h : EvA K tA σ H ds) (hl : ds.length ≤ 1000) : EvD K (tTup tA) σ H (.tuple ds) := fun H1 e Q q =>
  h H1 e _ fun vs H2 s a => ⟨by rw [dpa_len a]; exact Nat.le_of_lt (small1000 hl), fun p hp => q (.ref p) _ (s.trans (same_upd hp)) (.tup (.inl (.inl upd_same)) (dpa_same (same_upd hp) a))⟩
theorem el_lst (h : EvA K tA σ H ds) (hl : ds.length ≤ 1000) : EvL K (tLst tA) σ H ds := fun H1 e Q q =>
  h H1 e _ fun vs H2 s a => ⟨by rw [dpa_len a]; exact Nat.le_of_lt (small1000 hl), fun p hp => q p vs _ (s.free hp) (s.trans (same_upd hp)) upd_same (dpa_same (same_upd hp) a)⟩
theorem at_data {vs : List V} {k : Int} (h : DpAll K H vs ds) (e : atI ds k = some d) : ∃ v, atI vs k = some v ∧ Dp K H v d := by
  unfold atI at e ⊢
  rw [dpa_len h]
  obtain ⟨j, hj, e⟩ := Option.bind_eq_some_iff.mp e
  obtain ⟨v, a, b⟩ := dpa_get h e
  exact ⟨v, Option.bind_eq_some_iff.mpr ⟨j, hj, a⟩, b⟩
theorem ed_ixT {k : Int} (ha : EvD K ta σ H (.tuple ds)) (hb : EvD K tb σ H (.int k)) (e : atI ds k = some d) : EvD K (tOp (rIxT K) ta tb) σ H d := fun H1 e1 Q q =>
  ha H1 e1 _ fun v H2 s a => hb H2 (e1.trans s) _ fun w H3 s2 a2 => by
    cases a with
    | tup hs hd =>
      cases a2
      obtain ⟨x, hx, hd'⟩ := at_data (dpa_same s2 hd) e
      exact ⟨_, _, _, x, rfl, rfl, sqT_same s2 hs, hx, q x H3 (s.trans s2) hd'⟩
theorem ed_ixL {k : Int} (ha : EvD K ta σ H (.list ds)) (hb : EvD K tb σ H (.int k)) (e : atI ds k = some d) : EvD K (tOp (rIxL K) ta tb) σ H d := fun H1 e1 Q q =>
  ha H1 e1 _ fun v H2 s a => hb H2 (e1.trans s) _ fun w H3 s2 a2 => by
    cases a with
    | lst hs hd =>
      cases a2
      obtain ⟨x, hx, hd'⟩ := at_data (dpa_same s2 hd) e
      exact ⟨_, _, _, x, rfl, rfl, s2.seq hs, hx, q x H3 (s.trans s2) hd'⟩
theorem ed_opI {g : Int → Int → V} {x y : Int} (ha : EvD K ta σ H (.int x)) (hb : EvD K tb σ H (.int y)) (hd : ∀ H, Dp K H (g x y) d) : EvD K (tOp (rI0 g) ta tb) σ H d := fun H1 e1 Q q =>
  ha H1 e1 _ fun v H2 s a => hb H2 (e1.trans s) _ fun w H3 s2 a2 => by
    cases a
    cases a2
    exact ⟨x, y, rfl, rfl, q _ H3 (s.trans s2) (hd H3)⟩
theorem ed_add {x y : Int} (ha : EvD K ta σ H (.int x)) (hb : EvD K tb σ H (.int y)) : EvD K (tOp (rI0 fun i j => .int (i + j)) ta tb) σ H (.int (x + y)) := ed_opI ha hb fun _ => .int _
theorem ed_sub {x y : Int} (ha : EvD K ta σ H (.int x)) (hb : EvD K tb σ H (.int y)) : EvD K (tOp (rI0 fun i j => .int (i - j)) ta tb) σ H (.int (x - y)) := ed_opI ha hb fun _ => .int _
theorem ed_opC {C : Int → Int → Prop} {g : Int → Int → V} {x y : Int} (ha : EvD K ta σ H (.int x)) (hb : EvD K tb σ H (.int y)) (hc : C x y) (hd : ∀ H, Dp K H (g x y) d) : EvD K (tOp (rI C g) ta tb) σ H d := fun H1 e1 Q q =>
  ha H1 e1 _ fun v H2 s a => hb H2 (e1.trans s) _ fun w H3 s2 a2 => by
    cases a
    cases a2
    exact ⟨x, y, rfl, rfl, hc, q _ H3 (s.trans s2) (hd H3)⟩
theorem ed_mulW {x y : Int} (ha : EvD K ta σ H (.int x)) (hb : EvD K tb σ H (.int y)) (hc : CMulW x y) : EvD K (tOp (rI CMulW fun i j => .int (i * j)) ta tb) σ H (.int (x * y)) := ed_opC ha hb hc fun _ => .int _
theorem ed_divW {x y : Int} (ha : EvD K ta σ H (.int x)) (hb : EvD K tb σ H (.int y)) (hc : CDivW x y) : EvD K (tOp (rI CDivW fun i j => .int (i / j)) ta tb) σ H (.int (x / y)) := ed_opC ha hb hc fun _ => .int _
theorem eb_cmpI {g : Int → Int → Bool} {x y : Int} (ha : EvD K ta σ H (.int x)) (hb : EvD K tb σ H (.int y)) : EvB (tTest (tOp (rI0 fun i j => .bl (g i j)) ta tb)) σ H (g x y) := fun H1 e1 Q q =>
  ha H1 e1 _ fun v H2 s a => hb H2 (e1.trans s) _ fun w H3 s2 a2 => by
    cases a
    cases a2
    exact ⟨x, y, rfl, rfl, _, rfl, q H3 (s.trans s2)⟩
theorem eb_eqI {x y : Int} (ha : EvD K ta σ H (.int x)) (hb : EvD K tb σ H (.int y)) : EvB (tTest (tOp rEq ta tb)) σ H (decide (x = y)) := fun H1 e1 Q q =>
  ha H1 e1 _ fun v H2 s a => hb H2 (e1.trans s) _ fun w H3 s2 a2 => by
    cases a
    cases a2
    refine ⟨rfl, _, rfl, ?_⟩
    have : decide (V.int x = V.int y) = decide (x = y) := decide_eq_decide.mpr ⟨fun z => V.int.inj z, fun z => by rw [z]⟩
    rw [this]
    exact q H3 (s.trans s2)
theorem eb_neI {x y : Int} (ha : EvD K ta σ H (.int x)) (hb : EvD K tb σ H (.int y)) : EvB (tTest (tOp rNe ta tb)) σ H (!decide (x = y)) := fun H1 e1 Q q =>
  ha H1 e1 _ fun v H2 s a => hb H2 (e1.trans s) _ fun w H3 s2 a2 => by
    cases a
    cases a2
    refine ⟨rfl, _, rfl, ?_⟩
    have : decide (V.int x = V.int y) = decide (x = y) := decide_eq_decide.mpr ⟨fun z => V.int.inj z, fun z => by rw [z]⟩
    rw [this]
    exact q H3 (s.trans s2)
theorem eb_ev (ha : EvD K ta σ H (.bool b)) : EvB (tTest ta) σ H b := fun H1 e1 Q q => ha H1 e1 _ fun v H2 s a => by
  cases a
  exact ⟨_, rfl, q H2 s⟩
theorem eb_B (ha : EvD K ta σ H (.bool b)) : EvB (tB ta) σ H b := fun H1 e1 Q q => ha H1 e1 _ fun v H2 s a => by
  cases a
  exact ⟨_, rfl, q H2 s⟩
theorem eb_and (h1 : EvB t σ H b) (h2 : b = true → EvB u σ H c) : EvB (tAnd t u) σ H (b && c) := fun H1 e1 Q q => h1 H1 e1 _ fun H2 s => by
  cases b with
  | true =>
    show u σ H2 Q
    exact h2 rfl H2 (e1.trans s) Q fun H3 s3 => q H3 (s.trans s3)
  | false => exact q H2 s
theorem eb_or (h1 : EvB t σ H b) (h2 : b = false → EvB u σ H c) : EvB (tOr t u) σ H (b || c) := fun H1 e1 Q q => h1 H1 e1 _ fun H2 s => by
  cases b with
  | true => exact q H2 s
  | false =>
    show u σ H2 Q
    exact h2 rfl H2 (e1.trans s) Q fun H3 s3 => q H3 (s.trans s3)
theorem eb_not (h1 : EvB t σ H b) : EvB (tNot t) σ H (!b) := fun H1 e1 Q q => h1 H1 e1 _ fun H2 s => q H2 s
theorem ed_andV (h1 : EvD K ta σ H (.bool b)) (h2 : b = true → EvD K tb σ H (.bool c)) : EvD K (tAndV ta tb) σ H (.bool (b && c)) := fun H1 e1 Q q => h1 H1 e1 _ fun v H2 s a => by
  cases a
  refine ⟨_, rfl, ?_⟩
  cases b with
  | true =>
    show tb σ H2 Q
    exact h2 rfl H2 (e1.trans s) Q fun v H3 s3 a3 => q v H3 (s.trans s3) a3
  | false => exact q _ H2 s (.bl _)
theorem ed_orV (h1 : EvD K ta σ H (.bool b)) (h2 : b = false → EvD K tb σ H (.bool c)) : EvD K (tOrV ta tb) σ H (.bool (b || c)) := fun H1 e1 Q q => h1 H1 e1 _ fun v H2 s a => by
  cases a
  refine ⟨_, rfl, ?_⟩
  cases b with
  | true => exact q _ H2 s (.bl _)
  | false =>
    show tb σ H2 Q
    exact h2 rfl H2 (e1.trans s) Q fun v H3 s3 a3 => q v H3 (s.trans s3) a3
theorem ed_notV (h1 : EvD K ta σ H (.bool b)) : EvD K (tNotV ta) σ H (.bool (!b)) := fun H1 e1 Q q => h1 H1 e1 _ fun v H2 s a => by
  cases a
  exact ⟨_, rfl, q _ H2 s (.bl _)⟩
theorem ed_if (h : EvB t σ H b) (h1 : b = true → EvD K ta σ H d) (h2 : b = false → EvD K tb σ H d) : EvD K (tIf t ta tb) σ H d := fun H1 e1 Q q => h H1 e1 _ fun H2 s => by
  cases b with
  | true =>
    show ta σ H2 Q
    exact h1 rfl H2 (e1.trans s) Q fun v H3 s3 a3 => q v H3 (s.trans s3) a3
  | false =>
    show tb σ H2 Q
    exact h2 rfl H2 (e1.trans s) Q fun v H3 s3 a3 => q v H3 (s.trans s3) a3
/-- a def's promise: by its arguments' data the result's -/
def PF (K : PySem.W.Frag) (f : List PyData → PyData → Prop) : Sp := fun vs H Q _ => ∃ ds r, DpAll K H vs ds ∧ f ds r ∧ ∀ v H', Same H H' → Dp K H' v r → Q v H'
theorem ed_call {f : List PyData → PyData → Prop} {E : XK} (h : EvA K tA σ H ds) (hf : f ds d) : EvD K (tCall (PF K f) [] E tA) σ H d := fun H1 e1 Q q => h H1 e1 _ fun vs H2 s a => by
  show PF K f (vs ++ []) H2 Q E
  rw [List.append_nil]
  exact ⟨ds, d, a, hf, fun v H3 s3 a3 => q v H3 (s.trans s3) a3⟩
/-- built-in calls by values -/
theorem ed_absI {x : Int} (h : EvD K ta σ H (.int x)) : EvD K (tCB (fun xs H Q => ∃ i, xs = [.int i] ∧ Q (.int (if i < 0 then -i else i)) H) (tCons ta tNil)) σ H (.int (x.natAbs : Int)) := fun H1 e1 Q q => h H1 e1 _ fun v H2 s a => by
  cases a
  refine ⟨x, rfl, ?_⟩
  have : (if x < 0 then -x else x) = (x.natAbs : Int) := by split <;> omega
  rw [this]
  exact q _ H2 s (.int _)
theorem ed_lenT (h : EvD K ta σ H (.tuple ds)) : EvD K (tCB (fun xs H Q => ∃ p ys, xs = [.ref p] ∧ (SqL K H p ys ∨ SqT K H p ys) ∧ Q (.int ys.length) H) (tCons ta tNil)) σ H (.int (ds.length : Int)) := fun H1 e1 Q q => h H1 e1 _ fun v H2 s a => by
  cases a with
  | tup hs hd =>
    refine ⟨_, _, rfl, .inr hs, ?_⟩
    rw [dpa_len hd]
    exact q _ H2 s (.int _)
theorem ed_lenL (h : EvD K ta σ H (.list ds)) : EvD K (tCB (fun xs H Q => ∃ p ys, xs = [.ref p] ∧ (SqL K H p ys ∨ SqT K H p ys) ∧ Q (.int ys.length) H) (tCons ta tNil)) σ H (.int (ds.length : Int)) := fun H1 e1 Q q => h H1 e1 _ fun v H2 s a => by
  cases a with
  | lst hs hd =>
    refine ⟨_, _, rfl, .inl hs, ?_⟩
    rw [dpa_len hd]
    exact q _ H2 s (.int _)
theorem el_listT (h : EvD K ta σ H (.tuple ds)) : EvL K (tCB (fun xs H Q => ∃ p ys, xs = [.ref p] ∧ (SqL K H p ys ∨ SqT K H p ys) ∧ ∀ l, H l = none → Q (.ref l) (L2.upd H l (.lst ys))) (tCons ta tNil)) σ H ds := fun H1 e1 Q q => h H1 e1 _ fun v H2 s a => by
  cases a with
  | tup hs hd => exact ⟨_, _, rfl, .inr hs, fun l hl => q l _ _ (s.free hl) (s.trans (same_upd hl)) upd_same (dpa_same (same_upd hl) hd)⟩
theorem el_listL (h : EvD K ta σ H (.list ds)) : EvL K (tCB (fun xs H Q => ∃ p ys, xs = [.ref p] ∧ (SqL K H p ys ∨ SqT K H p ys) ∧ ∀ l, H l = none → Q (.ref l) (L2.upd H l (.lst ys))) (tCons ta tNil)) σ H ds := fun H1 e1 Q q => h H1 e1 _ fun v H2 s a => by
  cases a with
  | lst hs hd => exact ⟨_, _, rfl, .inl hs, fun l hl => q l _ _ (s.free hl) (s.trans (same_upd hl)) upd_same (dpa_same (same_upd hl) hd)⟩
/-- tuple(a list) -/
theorem ed_tupleL (h : EvD K ta σ H (.list ds)) : EvD K (tCB (fun xs H Q => ∃ p ys, xs = [.ref p] ∧ ((SqL K H p ys ∧ ∀ l, H l = none → Q (.ref l) (L2.upd H l (.tup ys))) ∨ (SqT K H p ys ∧ Q (.ref p) H))) (tCons ta tNil)) σ H (.tuple ds) := fun H1 e1 Q q => h H1 e1 _ fun v H2 s a => by
  cases a with
  | lst hs hd => exact ⟨_, _, rfl, .inl ⟨hs, fun l hl => q _ _ (s.trans (same_upd hl)) (.tup (.inl (.inl upd_same)) (dpa_same (same_upd hl) hd))⟩⟩
theorem ed_max2 {x y : Int} (ha : EvD K ta σ H (.int x)) (hb : EvD K tb σ H (.int y)) : EvD K (tCB (fun xs H Q => ∃ i j, xs = [.int i, .int j] ∧ Q (.int (if j > i then j else i)) H) (tCons ta (tCons tb tNil))) σ H (.int (max x y)) := fun H1 e1 Q q =>
  ha H1 e1 _ fun v H2 s a => hb H2 (e1.trans s) _ fun w H3 s2 a2 => by
    cases a
    cases a2
    refine ⟨x, y, rfl, ?_⟩
    have : (if y > x then y else x) = max x y := by split <;> omega
    rw [this]
    exact q _ H3 (s.trans s2) (.int _)
/-- int(n) of an int -/
theorem ed_int1 {x : Int} (h : EvD K ta σ H (.int x)) : EvD K (tCB (fun xs H Q => (∃ i, xs = [.int i] ∧ Q (.int i) H) ∨ ∃ k, xs = [.bl k] ∧ Q (.int (if k then 1 else 0)) H) (tCons ta tNil)) σ H (.int x) := fun H1 e1 Q q => h H1 e1 _ fun v H2 s a => by
  cases a
  exact .inl ⟨x, rfl, q _ H2 s (.int _)⟩
/-- == and != of data -/
theorem ed_eqD {e : PyData} (ha : EvD K ta σ H d) (hb : EvD K tb σ H e) (sd : SeqAt.shaped d = true) (se : SeqAt.shaped e = true) : EvD K (tOp (rEqD K) ta tb) σ H (.bool (PyData.eqv d e)) := fun H1 e1 Q q =>
  ha H1 e1 _ fun v H2 s a => hb H2 (e1.trans s) _ fun w H3 s2 a2 => ⟨d, e, dp_same s2 a, a2, sd, se, q _ H3 (s.trans s2) (.bl _)⟩
theorem ed_neD {e : PyData} (ha : EvD K ta σ H d) (hb : EvD K tb σ H e) (sd : SeqAt.shaped d = true) (se : SeqAt.shaped e = true) : EvD K (tOp (rNeD K) ta tb) σ H (.bool (!PyData.eqv d e)) := fun H1 e1 Q q =>
  ha H1 e1 _ fun v H2 s a => hb H2 (e1.trans s) _ fun w H3 s2 a2 => ⟨d, e, dp_same s2 a, a2, sd, se, q _ H3 (s.trans s2) (.bl _)⟩

/-! ### statements -/
variable {D : Ends} {t1 t2 tz : TS}
theorem q_set (he : Env K H σ S) (h : EvD K te σ H d) (k : ∀ v H', Same H H' → Env K H' (σ.set i (some v)) (S.set i (some d)) → tz D (σ.set i (some v)) H') : tSeq (tAsg te (gName i)) tz D σ H :=
  h H (Same.refl H) _ fun v H' s a => k v H' s ((he.same s).set a)
theorem q_setL (he : Env K H σ S) (h : EvL K te σ H ds) (k : ∀ p vs H', H p = none → Same H H' → H' p = some (.lst vs) → DpAll K H' vs ds → Env K H' (σ.set i (some (.ref p))) (S.set i none) → tz D (σ.set i (some (.ref p))) H') : tSeq (tAsg te (gName i)) tz D σ H :=
  h H (Same.refl H) _ fun p vs H' hp s hl a => k p vs H' hp s hl a ((he.same s).put _)
theorem q_ret (h : EvD K te σ H d) (k : ∀ v H', Same H H' → Dp K H' v d → D.rt v H') : tRet te D σ H := h H (Same.refl H) _ k
theorem q_if (h : EvB t σ H b) (h1 : b = true → ∀ H', Same H H' → t1 { D with nx := tz D } σ H') (h2 : b = false → ∀ H', Same H H' → t2 { D with nx := tz D } σ H') : tSeq (tIfS t t1 t2) tz D σ H := h H (Same.refl H) _ fun H' s => by
  cases b with
  | true => exact h1 rfl H' s
  | false => exact h2 rfl H' s
theorem q_ifl (h : EvB t σ H b) (h1 : b = true → ∀ H', Same H H' → t1 D σ H') (h2 : b = false → ∀ H', Same H H' → t2 D σ H') : tIfS t t1 t2 D σ H := h H (Same.refl H) _ fun H' s => by
  cases b with
  | true => exact h1 rfl H' s
  | false => exact h2 rfl H' s
/-- a, b = e1, e2 -/
theorem q_par {j : Nat} {e : PyData} (hij : i ≠ j) (he : Env K H σ S) (ha : EvD K ta σ H d) (hb : EvD K tb σ H e) (k : ∀ σ' H', Same H H' → Env K H' σ' ((S.set i (some d)).set j (some e)) → tz D σ' H') :
    tSeq (tPar i j (tCons ta (tCons tb tNil))) tz D σ H := ha H (Same.refl H) _ fun v H2 s a => hb H2 s _ fun w H3 s2 a2 =>
  ⟨v, w, rfl, k _ H3 (s.trans s2) (((he.same (s.trans s2)).set (dp_same s2 a)).set a2)⟩
theorem q_parl {j : Nat} {e : PyData} (he : Env K H σ S) (ha : EvD K ta σ H d) (hb : EvD K tb σ H e) (k : ∀ σ' H', Same H H' → Env K H' σ' ((S.set i (some d)).set j (some e)) → D.nx σ' H') :
    tPar i j (tCons ta (tCons tb tNil)) D σ H := ha H (Same.refl H) _ fun v H2 s a => hb H2 s _ fun w H3 s2 a2 =>
  ⟨v, w, rfl, k _ H3 (s.trans s2) (((he.same (s.trans s2)).set (dp_same s2 a)).set a2)⟩
/-- while, by an invariant with a measure; the test's answer known from the invariant -/
theorem q_while (W : Nat → L2.St → Hp → Prop) (m0 : Nat) (h0 : W m0 σ H)
    (hs : ∀ m σ' H', W m σ' H' → ∃ b, EvB t σ' H' b ∧ (b = true → ∀ H1, Same H' H1 → t1 { D with nx := fun σ2 H2 => ∃ m', m' < m ∧ W m' σ2 H2, ct := fun σ2 H2 => ∃ m', m' < m ∧ W m' σ2 H2, bk := tz D } σ' H1) ∧ (b = false → ∀ H1, Same H' H1 → tz D σ' H1)) :
    tSeq (tWhile t t1) tz D σ H := ⟨W, ⟨m0, h0⟩, fun m σ' H' w => by
  obtain ⟨b, hb, h1, h2⟩ := hs m σ' H' w
  refine hb H' (Same.refl H') _ fun H1 s => ?_
  cases b with
  | true => exact ⟨_, fun _ _ n => n, h1 rfl H1 s⟩
  | false => exact h2 rfl H1 s⟩
end
end K11
/-! The small defs: divisor, part, plus, minus, times, over. -/
namespace K11
open PySem PySem.Spec PyProof.Rows L2

def topS (i : Nat) : Stmt := PySem.Challenge.pw_drawwright_k11_whole_quotients_of_polyno.main.body.getD i (.Pass ⟨0, 0, 0, 0⟩)
/-- a part as data -/
def FrD (q : Rat) : PyData := .tuple [.int q.num, .int q.den]
theorem pf_len {K : PySem.W.Frag} {f : List PyData → PyData → Prop} {n : Nat} (h : ∀ ds r, f ds r → ds.length = n) {vs : List V} {H : Hp} {Q : VK} {E : XK} (k : PF K f vs H Q E) : vs.length = n := by
  obtain ⟨ds, r, a, b, _⟩ := k
  rw [dpa_len a]
  exact h _ _ b

abbrev sDivisor : Stmt := topS 4
abbrev sPart : Stmt := topS 5
abbrev sPlus : Stmt := topS 7
abbrev sMinus : Stmt := topS 8
abbrev sTimes : Stmt := topS 9
abbrev sOver : Stmt := topS 10
theorem scDivisor : FnScope ["one", "other"] ["one", "other"] (defScope sDivisor) := ⟨rfl, rfl, rfl, by decide +kernel, rfl, by decide +kernel, by decide +kernel⟩
theorem scPart : FnScope ["above", "below", "common"] ["above", "below"] (defScope sPart) := ⟨rfl, rfl, rfl, by decide +kernel, rfl, by decide +kernel, by decide +kernel⟩
theorem scPlus : FnScope ["one", "other"] ["one", "other"] (defScope sPlus) := ⟨rfl, rfl, rfl, by decide +kernel, rfl, by decide +kernel, by decide +kernel⟩
theorem scMinus : FnScope ["one", "other"] ["one", "other"] (defScope sMinus) := ⟨rfl, rfl, rfl, by decide +kernel, rfl, by decide +kernel, by decide +kernel⟩
theorem scTimes : FnScope ["one", "other"] ["one", "other"] (defScope sTimes) := ⟨rfl, rfl, rfl, by decide +kernel, rfl, by decide +kernel, by decide +kernel⟩
theorem scOver : FnScope ["one", "other"] ["one", "other"] (defScope sOver) := ⟨rfl, rfl, rfl, by decide +kernel, rfl, by decide +kernel, by decide +kernel⟩

def fDivisor : List PyData → PyData → Prop := fun ds r => ∃ a b : Int, ds = [.int a, .int b] ∧ r = .int (Int.gcd a b)
section
variable {P : Program} {w : World} {K : PySem.W.Frag} {mg : Str → Option Value} {base : Heap}
theorem ok_divisor {f : Addr} {fd : FuncData} (F : Fun K "divisor" "divisor" sDivisor f fd) (mA : mg "abs" = none) : FnOk P w K mg base CX0 1 f fd ["one", "other"] (PF K fDivisor) := by
  refine F.ok scDivisor (fun vs H Q E h => pf_len (n := 2) (fun ds r q => by obtain ⟨a, b, rfl, _⟩ := q; rfl) h) (fun cdv A outer s H vs Q E hr h => ?_)
  obtain ⟨ds, r, ha, ⟨a, b, rfl, rfl⟩, k⟩ := h
  refine ⟨_, pss_cons (ps_par (i := 0) (j := 1) rfl scDivisor.nd rfl rfl (by decide) rfl rfl (pa_cons (pe_callB call_abs (by rfl) mA boot_abs (pa_cons (pv 0) pa_nil)) (pa_cons (pe_callB call_abs (by rfl) mA boot_abs (pa_cons (pv 1) pa_nil)) pa_nil)) (by rfl))
    (pss_cons (ps_while PassesOwn.never (pt_cmpR op_ne (pv 1) pe_int (nomark _)) (pss_one (ps_par (i := 0) (j := 1) rfl scDivisor.nd rfl rfl (by decide) rfl rfl (pa_cons (pv 1) (pa_cons (pe_op op_mod (pv 0) (pv 1)) pa_nil)) (by rfl))))
    (pss_one (ps_ret (pv 0)))), ?_⟩
  have he := env_start (N := ["one", "other"]) ha
  refine q_par (by decide) he (ed_absI (ed_var he rfl)) (ed_absI (ed_var he rfl)) fun σ1 H1 s1 he1 => ?_
  refine q_while (fun m σ' H' => ∃ x y : Nat, Same H H' ∧ Env K H' σ' [some (.int x), some (.int y)] ∧ Nat.gcd x y = Int.gcd a b ∧ m = y) b.natAbs ⟨a.natAbs, b.natAbs, s1, he1, rfl, rfl⟩ fun m σ' H' w => ?_
  obtain ⟨x, y, s', e', hg, hm⟩ := w
  refine ⟨_, eb_neI (ed_var e' rfl) (ed_int 0), fun hb H2 s2 => ?_, fun hb H2 s2 => ?_⟩
  · have hy : y ≠ 0 := fun z => by subst z; simp at hb
    refine q_parl (e'.same s2) (ed_var (e'.same s2) rfl) (ed_opC (d := .int ((x % y : Nat) : Int)) (ed_var (e'.same s2) rfl) (ed_var (e'.same s2) rfl) (by omega) fun H => by rw [Int.natCast_emod]; exact .int _) fun σ3 H3 s3 e3 => ?_
    refine ⟨x % y, by rw [hm]; exact Nat.mod_lt _ (by omega), y, x % y, s'.trans (s2.trans s3), e3, ?_, rfl⟩
    rw [← hg, Nat.gcd_comm y, ← Nat.gcd_rec, Nat.gcd_comm]
  · have hy : y = 0 := by simpa using hb
    subst hy
    refine q_ret (ed_var (e'.same s2) rfl) fun v H3 s3 hv => k v H3 (s'.trans (s2.trans s3)) ?_
    rw [← hg, Nat.gcd_zero_right]
    exact hv

/-! ### parts -/
theorem fr_eq (a b : Int) (hb : 0 < b) : ((a : Rat) / (b : Rat)).num = a / (Int.gcd a b : Int) ∧ ((((a : Rat) / (b : Rat)).den : Nat) : Int) = b / (Int.gcd a b : Int) := by
  obtain ⟨n, rfl⟩ := Int.eq_ofNat_of_zero_le (Int.le_of_lt hb)
  have e : ((a : Rat) / ((n : Int) : Rat)) = mkRat a n := by rw [Rat.mkRat_eq_div]; rfl
  have hn : n ≠ 0 := by omega
  have hg : Int.gcd a (n : Int) = n.gcd a.natAbs := by rw [Int.gcd_eq_natAbs_gcd_natAbs, Nat.gcd_comm]; rfl
  rw [e, Rat.num_mkRat, Rat.den_mkRat, if_neg hn, if_neg hn, hg]
  exact ⟨rfl, by rw [Int.natCast_ediv]⟩
theorem fr_neg (a b : Int) : ((a : Rat) / (b : Rat)) = (((0 - a : Int) : Rat) / ((0 - b : Int) : Rat)) := by
  rw [Rat.intCast_sub, Rat.intCast_sub]
  have : ((0 : Int) : Rat) = 0 := rfl
  rw [this]
  grind
/-- the sizes that // and * take -/
def fPart : List PyData → PyData → Prop := fun ds r => ∃ a b : Int, ds = [.int a, .int b] ∧ b ≠ 0 ∧ b.natAbs < 2 ^ 8900 ∧ r = FrD ((a : Rat) / (b : Rat))
theorem gcd_small {a b : Int} (hb : b ≠ 0) (h : b.natAbs < 2 ^ 8900) : CDivW a (Int.gcd a b : Int) := by
  have h1 : 0 < Int.gcd a b := Int.gcd_pos_of_ne_zero_right _ hb
  have h2 : Int.gcd a b ≤ b.natAbs := Nat.le_of_dvd (by omega) (Int.gcd_dvd_natAbs_right _ _)
  exact wide_div (b := 8900) (by omega) (by rw [Int.natAbs_natCast]; omega) (by decide) (by decide)
theorem ok_part {f fD : Addr} {fd fdD : FuncData} (F : Fun K "part" "part" sPart f fd) (FD : Fun K "divisor" "divisor" sDivisor fD fdD) (gD : mg "divisor" = some (.ref fD)) (mA : mg "abs" = none) : FnOk P w K mg base CX0 2 f fd ["above", "below"] (PF K fPart) := by
  have GD : FnOk P w K mg base CX0 1 fD fdD ["one", "other"] (PF K fDivisor) := ok_divisor FD mA
  have bD := FD.binds (ps := ["one", "other"]) fun _ _ _ _ _ _ us hl => match us, hl with | [_, _], _ => rfl
  refine F.ok scPart (fun vs H Q E h => pf_len (n := 2) (fun ds r q => by obtain ⟨a, b, rfl, _⟩ := q; rfl) h) (fun cdv A outer s H vs Q E hr h => ?_)
  obtain ⟨ds, r, ha, ⟨a, b, rfl, hb, hs, rfl⟩, k⟩ := h
  refine ⟨_, pss_cons (ps_if (pt_cmpR op_lt (pv 1) pe_int (nomark _)) (pss_one (ps_par (i := 0) (j := 1) rfl scPart.nd rfl rfl (by decide) rfl rfl (pa_cons (pe_op op_sub pe_int (pv 0)) (pa_cons (pe_op op_sub pe_int (pv 1)) pa_nil)) (by rfl))) pss_nil)
    (pss_cons (ps_set (i := 2) scPart.nd rfl (.inl rfl) (pe_call GD hr (by rfl) gD FD.kp bD .nil pass0 (pa_cons (pv 0) (pa_cons (pv 1) pa_nil))))
    (pss_one (ps_ret (pe_tup (pa_cons (pe_op op_fdivW (pv 0) (pv 2)) (pa_cons (pe_op op_fdivW (pv 1) (pv 2)) pa_nil)))))), ?_⟩
  have he := env_start (N := ["above", "below", "common"]) ha
  -- what follows the if, for a positive lower number
  have key : ∀ (c d : Int) (σ' : L2.St) (H' : Hp), 0 < d → d.natAbs < 2 ^ 8900 → (c : Rat) / (d : Rat) = (a : Rat) / (b : Rat) → Same H H' → Env K H' σ' [some (.int c), some (.int d), none] →
      tSeq (tAsg (tCall (PF K fDivisor) [] E0 (tCons (tVar 0) (tCons (tVar 1) tNil))) (gName 2)) (tRet (tTup (tCons (tOp (rI CDivW fun i j => .int (i / j)) (tVar 0) (tVar 2)) (tCons (tOp (rI CDivW fun i j => .int (i / j)) (tVar 1) (tVar 2)) tNil)))) { nx := fun _ H' => Q .non H', rt := Q } σ' H' := by
    intro c d σ' H' hd hds e s' he'
    refine q_set he' (ed_call (ea_cons (ed_var he' rfl) (ea_cons (ed_var he' rfl) ea_nil)) ⟨c, d, rfl, rfl⟩) fun v H2 s2 he2 => ?_
    have hc := gcd_small (a := c) (b := d) (by omega) hds
    refine q_ret (ed_tup (ea_cons (ed_divW (ed_var he2 rfl) (ed_var he2 rfl) hc) (ea_cons (ed_divW (ed_var he2 rfl) (ed_var he2 rfl) ⟨hc.1, hc.2⟩) ea_nil)) (by simp)) fun v H3 s3 hv => k v H3 (s'.trans (s2.trans s3)) ?_
    rw [← e]
    unfold FrD
    rw [(fr_eq c d hd).1, (fr_eq c d hd).2]
    exact hv
  refine q_if (eb_cmpI (ed_var he rfl) (ed_int 0)) (fun hc H1 s1 => ?_) (fun hc H1 s1 => ?_)
  · have hb0 : b < 0 := of_decide_eq_true hc
    refine q_parl (he.same s1) (ed_sub (ed_int 0) (ed_var (he.same s1) rfl)) (ed_sub (ed_int 0) (ed_var (he.same s1) rfl)) fun σ2 H2 s2 he2 => ?_
    exact key (0 - a) (0 - b) σ2 H2 (by omega) (by omega) (fr_neg a b).symm (s1.trans s2) he2
  · have hb0 : ¬ b < 0 := of_decide_eq_false hc
    exact key a b _ H1 (by omega) hs rfl s1 (he.same s1)

/-- a part whose numbers are below 2 ^ 4000 -/
def Sz (q : Rat) : Prop := q.num.natAbs < 2 ^ 4000 ∧ q.den < 2 ^ 4000
theorem Sz.mul {a b : Rat} (ha : Sz a) (hb : Sz b) : CMulW a.num b.num ∧ CMulW a.num b.den ∧ CMulW a.den b.den ∧ CMulW b.num a.den ∧ CMulW a.den b.num := by
  have h1 : (a.den : Int).natAbs < 2 ^ 4000 := by rw [Int.natAbs_natCast]; exact ha.2
  have h2 : (b.den : Int).natAbs < 2 ^ 4000 := by rw [Int.natAbs_natCast]; exact hb.2
  exact ⟨wide_mul ha.1 hb.1 (by decide) (by decide) (by decide), wide_mul ha.1 h2 (by decide) (by decide) (by decide), wide_mul h1 h2 (by decide) (by decide) (by decide), wide_mul hb.1 h1 (by decide) (by decide) (by decide), wide_mul h1 hb.1 (by decide) (by decide) (by decide)⟩
theorem pow_lt {a b : Nat} (ha : a < 2 ^ 4000) (hb : b < 2 ^ 4000) : a * b < 2 ^ 8900 := by
  have h : a * b < 2 ^ (4000 + 4000) := by
    rw [Nat.pow_add]
    exact Nat.mul_lt_mul'' ha hb
  exact Nat.lt_of_lt_of_le h (Nat.pow_le_pow_right (by decide) (by decide))
theorem fr_self (q : Rat) : (q.num : Rat) / ((q.den : Int) : Rat) = q := by rw [← Rat.divInt_eq_div, Rat.num_divInt_den]
theorem den_ne (q : Rat) : ((q.den : Int) : Rat) ≠ 0 := by
  have : (q.den : Int) ≠ 0 := by have := q.den_pos; omega
  exact_mod_cast this
theorem fr_self' (q : Rat) : (q.num : Rat) = q * ((q.den : Int) : Rat) := by
  have := fr_self q
  have := den_ne q
  grind
theorem fr_add (a b : Rat) : (((a.num * b.den + b.num * a.den : Int) : Rat) / ((a.den * b.den : Int) : Rat)) = a + b := by
  have h1 := fr_self' a; have h2 := fr_self' b; have h3 := den_ne a; have h4 := den_ne b
  rw [Rat.intCast_add, Rat.intCast_mul, Rat.intCast_mul, Rat.intCast_mul, h1, h2]
  grind
theorem fr_sub (a b : Rat) : (((a.num * b.den - b.num * a.den : Int) : Rat) / ((a.den * b.den : Int) : Rat)) = a - b := by
  have h1 := fr_self' a; have h2 := fr_self' b; have h3 := den_ne a; have h4 := den_ne b
  rw [Rat.intCast_sub, Rat.intCast_mul, Rat.intCast_mul, Rat.intCast_mul, h1, h2]
  grind
theorem fr_mul (a b : Rat) : (((a.num * b.num : Int) : Rat) / ((a.den * b.den : Int) : Rat)) = a * b := by
  have h1 := fr_self' a; have h2 := fr_self' b; have h3 := den_ne a; have h4 := den_ne b
  rw [Rat.intCast_mul, Rat.intCast_mul, h1, h2]
  grind
theorem fr_div (a b : Rat) (hb : b ≠ 0) : (((a.num * b.den : Int) : Rat) / ((a.den * b.num : Int) : Rat)) = a / b := by
  have h1 := fr_self' a; have h2 := fr_self' b; have h3 := den_ne a; have h4 := den_ne b
  rw [Rat.intCast_mul, Rat.intCast_mul, h1, h2]
  grind
theorem den_mul_ne (a b : Rat) : (a.den * b.den : Int) ≠ 0 := by
  have h1 := a.den_pos
  have h2 := b.den_pos
  exact Int.ne_of_gt (Int.mul_pos (by omega) (by omega))
theorem den_mul_small {a b : Rat} (ha : Sz a) (hb : Sz b) : (a.den * b.den : Int).natAbs < 2 ^ 8900 := by
  rw [Int.natAbs_mul, Int.natAbs_natCast, Int.natAbs_natCast]
  exact pow_lt ha.2 hb.2
def fPlus : List PyData → PyData → Prop := fun ds r => ∃ a b : Rat, ds = [FrD a, FrD b] ∧ Sz a ∧ Sz b ∧ r = FrD (a + b)
def fMinus : List PyData → PyData → Prop := fun ds r => ∃ a b : Rat, ds = [FrD a, FrD b] ∧ Sz a ∧ Sz b ∧ r = FrD (a - b)
def fTimes : List PyData → PyData → Prop := fun ds r => ∃ a b : Rat, ds = [FrD a, FrD b] ∧ Sz a ∧ Sz b ∧ r = FrD (a * b)
def fOver : List PyData → PyData → Prop := fun ds r => ∃ a b : Rat, ds = [FrD a, FrD b] ∧ Sz a ∧ Sz b ∧ b ≠ 0 ∧ r = FrD (a / b)
theorem ok_plus {f fP : Addr} {fd fdP : FuncData} (F : Fun K "plus" "plus" sPlus f fd) (FP : Fun K "part" "part" sPart fP fdP) (gP : mg "part" = some (.ref fP)) (GP : FnOk P w K mg base CX0 2 fP fdP ["above", "below"] (PF K fPart)) : FnOk P w K mg base CX0 3 f fd ["one", "other"] (PF K fPlus) := by
  have bP := FP.binds (ps := ["above", "below"]) fun _ _ _ _ _ _ us hl => match us, hl with | [_, _], _ => rfl
  refine F.ok scPlus (fun vs H Q E h => pf_len (n := 2) (fun ds r q => by obtain ⟨a, b, rfl, _⟩ := q; rfl) h) (fun cdv A outer s H vs Q E hr h => ?_)
  obtain ⟨ds, r, ha, ⟨a, b, rfl, sa, sb, rfl⟩, k⟩ := h
  refine ⟨_, pss_one (ps_ret (pe_call GP hr (by rfl) gP FP.kp bP .nil pass0 (pa_cons (pe_op op_add (pe_op op_mulW (pe_ix ix_tup (pv 0) pe_int (fun _ _ => rfl)) (pe_ix ix_tup (pv 1) pe_int (fun _ _ => rfl))) (pe_op op_mulW (pe_ix ix_tup (pv 1) pe_int (fun _ _ => rfl)) (pe_ix ix_tup (pv 0) pe_int (fun _ _ => rfl))))
    (pa_cons (pe_op op_mulW (pe_ix ix_tup (pv 0) pe_int (fun _ _ => rfl)) (pe_ix ix_tup (pv 1) pe_int (fun _ _ => rfl))) pa_nil)))), ?_⟩
  have he := env_start (N := ["one", "other"]) ha
  refine q_ret (ed_call (ea_cons (ed_add (ed_mulW (ed_ixT (ed_var he rfl) (ed_int 0) rfl) (ed_ixT (ed_var he rfl) (ed_int 1) rfl) (sa.mul sb).2.1) (ed_mulW (ed_ixT (ed_var he rfl) (ed_int 0) rfl) (ed_ixT (ed_var he rfl) (ed_int 1) rfl) (sa.mul sb).2.2.2.1))
    (ea_cons (ed_mulW (ed_ixT (ed_var he rfl) (ed_int 1) rfl) (ed_ixT (ed_var he rfl) (ed_int 1) rfl) (sa.mul sb).2.2.1) ea_nil)) ⟨_, _, rfl, den_mul_ne a b, den_mul_small sa sb, rfl⟩) fun v H1 s1 hv => k v H1 s1 ?_
  rwa [fr_add] at hv
theorem ok_minus {f fP : Addr} {fd fdP : FuncData} (F : Fun K "minus" "minus" sMinus f fd) (FP : Fun K "part" "part" sPart fP fdP) (gP : mg "part" = some (.ref fP)) (GP : FnOk P w K mg base CX0 2 fP fdP ["above", "below"] (PF K fPart)) : FnOk P w K mg base CX0 3 f fd ["one", "other"] (PF K fMinus) := by
  have bP := FP.binds (ps := ["above", "below"]) fun _ _ _ _ _ _ us hl => match us, hl with | [_, _], _ => rfl
  refine F.ok scMinus (fun vs H Q E h => pf_len (n := 2) (fun ds r q => by obtain ⟨a, b, rfl, _⟩ := q; rfl) h) (fun cdv A outer s H vs Q E hr h => ?_)
  obtain ⟨ds, r, ha, ⟨a, b, rfl, sa, sb, rfl⟩, k⟩ := h
  refine ⟨_, pss_one (ps_ret (pe_call GP hr (by rfl) gP FP.kp bP .nil pass0 (pa_cons (pe_op op_sub (pe_op op_mulW (pe_ix ix_tup (pv 0) pe_int (fun _ _ => rfl)) (pe_ix ix_tup (pv 1) pe_int (fun _ _ => rfl))) (pe_op op_mulW (pe_ix ix_tup (pv 1) pe_int (fun _ _ => rfl)) (pe_ix ix_tup (pv 0) pe_int (fun _ _ => rfl))))
    (pa_cons (pe_op op_mulW (pe_ix ix_tup (pv 0) pe_int (fun _ _ => rfl)) (pe_ix ix_tup (pv 1) pe_int (fun _ _ => rfl))) pa_nil)))), ?_⟩
  have he := env_start (N := ["one", "other"]) ha
  refine q_ret (ed_call (ea_cons (ed_sub (ed_mulW (ed_ixT (ed_var he rfl) (ed_int 0) rfl) (ed_ixT (ed_var he rfl) (ed_int 1) rfl) (sa.mul sb).2.1) (ed_mulW (ed_ixT (ed_var he rfl) (ed_int 0) rfl) (ed_ixT (ed_var he rfl) (ed_int 1) rfl) (sa.mul sb).2.2.2.1))
    (ea_cons (ed_mulW (ed_ixT (ed_var he rfl) (ed_int 1) rfl) (ed_ixT (ed_var he rfl) (ed_int 1) rfl) (sa.mul sb).2.2.1) ea_nil)) ⟨_, _, rfl, den_mul_ne a b, den_mul_small sa sb, rfl⟩) fun v H1 s1 hv => k v H1 s1 ?_
  rwa [fr_sub] at hv
theorem ok_times {f fP : Addr} {fd fdP : FuncData} (F : Fun K "times" "times" sTimes f fd) (FP : Fun K "part" "part" sPart fP fdP) (gP : mg "part" = some (.ref fP)) (GP : FnOk P w K mg base CX0 2 fP fdP ["above", "below"] (PF K fPart)) : FnOk P w K mg base CX0 3 f fd ["one", "other"] (PF K fTimes) := by
  have bP := FP.binds (ps := ["above", "below"]) fun _ _ _ _ _ _ us hl => match us, hl with | [_, _], _ => rfl
  refine F.ok scTimes (fun vs H Q E h => pf_len (n := 2) (fun ds r q => by obtain ⟨a, b, rfl, _⟩ := q; rfl) h) (fun cdv A outer s H vs Q E hr h => ?_)
  obtain ⟨ds, r, ha, ⟨a, b, rfl, sa, sb, rfl⟩, k⟩ := h
  refine ⟨_, pss_one (ps_ret (pe_call GP hr (by rfl) gP FP.kp bP .nil pass0 (pa_cons (pe_op op_mulW (pe_ix ix_tup (pv 0) pe_int (fun _ _ => rfl)) (pe_ix ix_tup (pv 1) pe_int (fun _ _ => rfl)))
    (pa_cons (pe_op op_mulW (pe_ix ix_tup (pv 0) pe_int (fun _ _ => rfl)) (pe_ix ix_tup (pv 1) pe_int (fun _ _ => rfl))) pa_nil)))), ?_⟩
  have he := env_start (N := ["one", "other"]) ha
  refine q_ret (ed_call (ea_cons (ed_mulW (ed_ixT (ed_var he rfl) (ed_int 0) rfl) (ed_ixT (ed_var he rfl) (ed_int 0) rfl) (sa.mul sb).1)
    (ea_cons (ed_mulW (ed_ixT (ed_var he rfl) (ed_int 1) rfl) (ed_ixT (ed_var he rfl) (ed_int 1) rfl) (sa.mul sb).2.2.1) ea_nil)) ⟨_, _, rfl, den_mul_ne a b, den_mul_small sa sb, rfl⟩) fun v H1 s1 hv => k v H1 s1 ?_
  rwa [fr_mul] at hv
theorem ok_over {f fP : Addr} {fd fdP : FuncData} (F : Fun K "over" "over" sOver f fd) (FP : Fun K "part" "part" sPart fP fdP) (gP : mg "part" = some (.ref fP)) (GP : FnOk P w K mg base CX0 2 fP fdP ["above", "below"] (PF K fPart)) : FnOk P w K mg base CX0 3 f fd ["one", "other"] (PF K fOver) := by
  have bP := FP.binds (ps := ["above", "below"]) fun _ _ _ _ _ _ us hl => match us, hl with | [_, _], _ => rfl
  refine F.ok scOver (fun vs H Q E h => pf_len (n := 2) (fun ds r q => by obtain ⟨a, b, rfl, _⟩ := q; rfl) h) (fun cdv A outer s H vs Q E hr h => ?_)
  obtain ⟨ds, r, ha, ⟨a, b, rfl, sa, sb, b0, rfl⟩, k⟩ := h
  refine ⟨_, pss_one (ps_ret (pe_call GP hr (by rfl) gP FP.kp bP .nil pass0 (pa_cons (pe_op op_mulW (pe_ix ix_tup (pv 0) pe_int (fun _ _ => rfl)) (pe_ix ix_tup (pv 1) pe_int (fun _ _ => rfl)))
    (pa_cons (pe_op op_mulW (pe_ix ix_tup (pv 0) pe_int (fun _ _ => rfl)) (pe_ix ix_tup (pv 1) pe_int (fun _ _ => rfl))) pa_nil)))), ?_⟩
  have he := env_start (N := ["one", "other"]) ha
  have hn : b.num ≠ 0 := fun z => b0 (by rw [← Rat.num_eq_zero]; exact z)
  have h1 : (a.den * b.num : Int) ≠ 0 := Int.mul_ne_zero (by have := a.den_pos; omega) hn
  have h2 : (a.den * b.num : Int).natAbs < 2 ^ 8900 := by
    rw [Int.natAbs_mul, Int.natAbs_natCast]
    exact pow_lt sa.2 sb.1
  refine q_ret (ed_call (ea_cons (ed_mulW (ed_ixT (ed_var he rfl) (ed_int 0) rfl) (ed_ixT (ed_var he rfl) (ed_int 1) rfl) (sa.mul sb).2.1)
    (ea_cons (ed_mulW (ed_ixT (ed_var he rfl) (ed_int 1) rfl) (ed_ixT (ed_var he rfl) (ed_int 0) rfl) (sa.mul sb).2.2.2.2) ea_nil)) ⟨_, _, rfl, h1, h2, rfl⟩) fun v H1 s1 hv => k v H1 s1 ?_
  rwa [fr_div a b b0] at hv
end
end K11
set_option maxHeartbeats 4000000
/-! t[::-1] of a tuple. -/
namespace K11
open PySem PySem.Spec PyProof.Rows L2 HT
section
variable {prog : Program} {w : World} {A : Around} {E : Value → Shared → Prop} {s : Shared}
theorem adjust_rev (n : Nat) : Builtin.Slice.sliceAdjust none none (-1) (n : Int) = ((n : Int) - 1, -1) := by
  unfold Builtin.Slice.sliceAdjust
  simp
theorem places_rev (n : Nat) : Builtin.Slice.slicePlaces ((n : Int) - 1) (-1) (-1) = n := by
  unfold Builtin.Slice.slicePlaces
  rw [if_neg (by decide), show (-(-1 : Int)) = 1 by decide, Int.ediv_one]
  split <;> omega
theorem applied_rev {sl : Addr} {vk : Value} {n : Nat} {Q : Int × Int × Nat → Shared → Prop} (hs : s.heap.IsSliceOf sl .none .none vk) (pk : IsPart vk (some (-1)))
    (h : Q ((n : Int) - 1, -1, n) s) : wpAny (model prog w) A (Builtin.Slice.sliceApplied (.ref sl) (pure (n : Int))) Q E s := by
  obtain ⟨os, hos, hcs, hds⟩ := id hs
  unfold Builtin.Slice.sliceApplied Builtin.Slice.sliceFields
  refine wpAny_bind (wpAny_bind (wpAny_field hos hds (x := .none) rfl (wpAny_bind (wpAny_field hos hds (x := .none) rfl (wpAny_bind (wpAny_field hos hds (x := vk) rfl (wpAny_pure ?_)))))))
  refine wpAny_bind (slicePart_ pk ?_)
  show wpAny _ _ (if ((-1 : Int) == 0) = true then _ else _) _ _ s
  rw [if_neg (by decide)]
  refine wpAny_bind (slicePart_none (wpAny_bind (slicePart_none (wpAny_bind (wpAny_pure ?_)))))
  show wpAny _ _ (match Builtin.Slice.sliceAdjust none none (-1) (n : Int) with | (lo, hi) => pure (lo, (-1 : Int), Builtin.Slice.slicePlaces lo hi (-1))) _ _ s
  rw [adjust_rev n]
  show wpAny _ _ (pure ((n : Int) - 1, (-1 : Int), Builtin.Slice.slicePlaces ((n : Int) - 1) (-1) (-1))) _ _ s
  rw [places_rev]
  exact wpAny_pure h
theorem pick_rev (xs : Array Value) : ((List.range xs.size).filterMap fun (m : Nat) => xs[(((xs.size : Int) - 1) + (m : Int) * (-1)).toNat]?).toArray = xs.toList.reverse.toArray := by
  have e : (fun (m : Nat) => xs[(((xs.size : Int) - 1) + (m : Int) * (-1)).toNat]?) = (xs[·]?) ∘ fun k => xs.size - 1 - k := by
    funext m
    show xs[(((xs.size : Int) - 1) + (m : Int) * (-1)).toNat]? = xs[xs.size - 1 - m]?
    have : (((xs.size : Int) - 1) + (m : Int) * (-1)).toNat = xs.size - 1 - m := by omega
    rw [this]
  rw [e, ← List.filterMap_map, PySem.W.krv_range, List.filterMap_reverse, PySem.W.krv_all]
theorem getItem_tuple_rev {t sl : Addr} {items : Array Value} {vk : Value} {Q : Value → Shared → Prop} (ht : IsTup s.heap t items) (hs : s.heap.IsSliceOf sl .none .none vk) (pk : IsPart vk (some (-1)))
    (h : Q (.ref s.heap.objs.size) { s with heap := s.heap.push { cls := .type "tuple", data := .seq items.toList.reverse.toArray } })
    (hsz : items.size ≤ sizeLine) : wpAny (model prog w) A (getItem (.ref t) (.ref sl)) Q E s := by
  have htake : sizeOk (.seq items.toList.reverse.toArray) := by
    show items.toList.reverse.toArray.size ≤ sizeLine
    rw [List.size_toArray, List.length_reverse, Array.length_toList]
    exact hsz
  obtain ⟨os, hos, hcs, hds⟩ := id hs
  have hTs : s.TypeIs (.ref sl) "slice" := ⟨os, hos, hcs⟩
  unfold getItem
  try with_reducible refine wpAny_holding ?_
  first | refine wpAny_bind (wpAny_pure ?_) | skip
  refine wpAny_bind (wpAny_sequenceKey ht.typeIs (by decide) ?_)
  refine wpAny_bind (wpAny_callSpecial?_slot (name := Str.ofString "__getitem__") ht.typeIs PyProof.Rows.slot_tuple_getitem
    (wpAny_call_entry PyProof.Rows.slot_tuple_getitem ht.typeIs entry_tuple_getitem ?_ (args_tuple_getitem _ _)))
  show wpAny _ _ (Builtin.Tuple.tupleItemsOf (.ref t) >>= _) _ _ s
  refine wpAny_bind (tupleItemsOf_ ht ?_)
  refine wpAny_bind (wpAny_typeOf hTs ?_)
  rw [if_pos (by decide)]
  refine wpAny_bind (applied_rev hs pk ?_)
  have hno : ¬ ((((items.size : Int) - 1) == 0 && (-1 : Int) == 1 && items.size == items.size) = true) := by
    intro q
    rw [Bool.and_eq_true, Bool.and_eq_true] at q
    exact absurd (eq_of_beq q.1.2) (by decide)
  show wpAny _ _ (if (((items.size : Int) - 1) == 0 && (-1 : Int) == 1 && items.size == items.size) = true then _ else _) _ _ s
  rw [if_neg hno, pick_rev]
  first
    | exact wpAny_bind (m := Builtin.Tuple.tupleExact _) (wpAny_newObj_type (wpAny_pure ⟨_, rfl, wpAny_pure h⟩) htake)
    | exact wpAny_bind (m := Builtin.Tuple.tupleExact _) (wpAny_newObj_type (wpAny_bind (wpAny_pure (wpAny_pure ⟨_, rfl, wpAny_pure h⟩))) htake)
    | exact wpAny_bind (wpAny_bind (m := Builtin.Tuple.tupleExact _) (wpAny_newObj_type (wpAny_pure (wpAny_pure ⟨_, rfl, wpAny_pure h⟩)) htake))
    | exact wpAny_bind (wpAny_bind (m := Builtin.Tuple.tupleExact _) (wpAny_newObj_type (wpAny_pure ⟨_, rfl, wpAny_pure h⟩) htake))
end
section
variable {X : Cx}
def tRevT (K : PySem.W.Frag) (te : TE) : TE := fun σ H Q => te σ H fun x H1 => ∃ a xs, x = .ref a ∧ SqT K H1 a xs ∧ ∀ p, H1 p = none → Q (.ref p) (upd H1 p (.tup xs.reverse))
theorem pe_revT {e : Expr} {te : TE} {k : Nat} {p1 p2 p3 pos : Pos} (he : PE X e te) : PE X (.Subscript e (.Slice none none (some (.UnaryOp .USub (.Constant (.int 1) k p1) p2)) p3) pos) (tRevT X.K te) := by
  refine ⟨fun pins s σ H Q I h => ?_⟩
  refine Subscript_ (thn (he.run pins s σ H _ I h) fun v s1 ⟨x, H1, I1, r1, q1⟩ => ?_)
  obtain ⟨a, xs, ex, hx, q⟩ := q1
  subst ex
  cases r1
  have hst : PO X (some (.UnaryOp .USub (.Constant (.int 1) k p1) p2)) (tPart (tUn (rU fun i => .int (-i)) (tC (.int 1)))) := po_some (pe_un un_neg pe_int)
  refine wpAny_Slice (thn (po_none.run pins s1 σ H1 (fun o H2 => o = none ∧ H2 = H1) I1 ⟨rfl, rfl⟩) fun vl s2 ⟨l, H2, I2, pl, el, e2⟩ => ?_)
  subst el e2
  refine thn (po_none.run pins s2 σ H2 (fun o H3 => o = none ∧ H3 = H2) I2 ⟨rfl, rfl⟩) fun vu s3 ⟨u, H3, I3, pu, eu, e3⟩ => ?_
  subst eu e3
  refine thn (hst.run pins s3 σ H3 (fun o H4 => o = some (-1) ∧ H4 = H3) I3 ⟨1, rfl, -1, rfl, rfl, rfl⟩) fun vs s4 ⟨o, H4, I4, ps, eo, e4⟩ => ?_
  subst eo e4
  cases pl
  cases pu
  have I5 : Inv X pins σ H4 { s4 with heap := s4.heap.push { cls := .type "slice", data := .fields #[.none, .none, vs] } } := I4.kept (t' := s4.toks) fun b ob q => Heap.get?_push_of_some _ q
  obtain ⟨its, r, ht, hz⟩ := I5.tuple hx
  have hlen := r.length
  show wpAny (model X.prog X.w) X.A (subscriptTail e (.Slice none none (some (.UnaryOp .USub (.Constant (.int 1) k p1) p2)) p3) (.ref a) (.ref s4.heap.objs.size)) (EP X pins σ Q) X.xe { s4 with heap := s4.heap.push { cls := .type "slice", data := .fields #[.none, .none, vs] } }
  refine tail_any (ops := [.ref a, .ref s4.heap.objs.size]) ht.typeIs (PyProof.Rows.slot_tuple_getitem.lookup) ?_ (by with_unfolding_all rfl)
  refine getItem_tuple_rev ht (Heap.IsSliceOf.new _ .none .none vs) ps ?_ (by rw [List.size_toArray]; omega)
  refine ⟨.ref _, _, I5.laid (t' := s4.toks) (o := .tup xs.reverse) (fun b ob q => Heap.get?_push_of_some _ q) (Nat.le_refl _) ?_, rfl, q _ (I5.hok.fresh (Nat.le_refl _))⟩
  refine ⟨by rw [List.length_reverse]; exact hz, _, r.reverse, ?_⟩
  exact IsTup.new _ _
end
end K11
/-! Lists of one's own, comprehensions, loops. -/
namespace K11
open PySem PySem.Spec PyProof.Rows L2
section
variable {K : PySem.W.Frag} {H H' : Hp} {σ : L2.St} {S : List (Option PyData)} {i j : Nat} {v : V} {d e : PyData} {te ta tb : TE} {tA : TA} {t u : TT} {ds es : List PyData} {b c : Bool} {D : Ends} {t1 t2 tz : TS} {l : Addr} {xs : List V}
theorem ed_lst (hσ : σ[i]? = some (some (.ref l))) (hl : H l = some (.lst xs)) (hd : DpAll K H xs ds) : EvD K (tVar i) σ H (.list ds) := fun H1 s Q q =>
  ⟨_, hσ, q _ H1 (Same.refl H1) (.lst (.inl (.inl (s _ _ hl))) (dpa_same s hd))⟩
theorem same_mut {H H' : Hp} {p : Addr} {o : HO} (e : Same H H') (h : H p = none) : Same H (upd H' p o) := fun a u ha => by
  rw [upd_ne (ne_of_none ha h)]
  exact e a u ha
theorem q_popl (hσ : σ[i]? = some (some (.ref l))) (hl : H l = some (.lst xs)) (hv : xs ≠ []) (k : D.nx σ (upd H l (.lst xs.dropLast))) : tDrop (tBM0 K "list" rPop (tVar i)) D σ H := by
  have h0 : 0 < xs.length := List.length_pos_iff.mpr hv
  exact ⟨_, hσ, .inl ⟨rfl, _, .inl (.inl hl)⟩, l, xs, xs[xs.length - 1], rfl, rfl, hl, List.getElem?_eq_getElem (by omega), k⟩
theorem q_setixl (hσ : σ[i]? = some (some (.ref l))) (hl : H l = some (.lst xs)) (he : EvD K te σ H d) (hb : EvD K tb σ H (.int (j : Int))) (hj : j < xs.length)
    (k : ∀ v H2, Same H H2 → Dp K H2 v d → D.nx σ (upd H2 l (.lst (xs.set j v)))) : tAsg te (gSub (tVar i) tb rSetL) D σ H :=
  he H (Same.refl H) _ fun v H1 s1 a1 => ⟨_, hσ, hb H1 s1 _ fun w H2 s2 a2 => by
    cases a2
    refine ⟨l, xs, (j : Int), j, rfl, rfl, s2 _ _ (s1 _ _ hl), ?_, k v H2 (s1.trans s2) (dp_same s2 a1)⟩
    unfold ixN
    rw [if_pos (by omega), if_pos (by omega), Int.toNat_natCast]⟩
theorem q_setix (hσ : σ[i]? = some (some (.ref l))) (hl : H l = some (.lst xs)) (he : EvD K te σ H d) (hb : EvD K tb σ H (.int (j : Int))) (hj : j < xs.length)
    (k : ∀ v H2, Same H H2 → Dp K H2 v d → tz D σ (upd H2 l (.lst (xs.set j v)))) : tSeq (tAsg te (gSub (tVar i) tb rSetL)) tz D σ H := q_setixl (D := { D with nx := tz D }) hσ hl he hb hj k
theorem q_drop (h : EvD K te σ H d) (k : ∀ H', Same H H' → tz D σ H') : tSeq (tDrop te) tz D σ H := h H (Same.refl H) _ fun _ H1 s _ => k H1 s
theorem el_cat (ha : EvL K ta σ H ds) (hb : EvL K tb σ H es) (hl : ds.length + es.length ≤ 1000) : EvL K (tOp rCat ta tb) σ H (ds ++ es) := fun H1 s Q q =>
  ha H1 s _ fun p vs H2 p0 s2 hp a => hb H2 (s.trans s2) _ fun r ws H3 r0 s3 hr a2 =>
    ⟨p, r, vs, ws, rfl, rfl, s3 _ _ hp, hr, by rw [dpa_len a, dpa_len a2]; exact Nat.le_of_lt (small1000 hl), fun x hx => q x _ _ ((s2.trans s3).free hx) ((s2.trans s3).trans (same_upd hx)) upd_same
      (dpa_same (same_upd hx) (dpa_append (dpa_same s3 a) a2))⟩
theorem dpa_flat {K : PySem.W.Frag} {H : Hp} {ds : List PyData} {vs : List V} (h : DpAll K H vs ds) : ∀ n : Nat, DpAll K H (List.replicate n vs).flatten (List.replicate n ds).flatten
  | 0 => .nil
  | n + 1 => by
    rw [List.replicate_succ, List.replicate_succ, List.flatten_cons, List.flatten_cons]
    exact dpa_append h (dpa_flat h n)
theorem flat_one {α : Type} (x : α) : ∀ n : Nat, (List.replicate n [x]).flatten = List.replicate n x
  | 0 => rfl
  | n + 1 => by rw [List.replicate_succ, List.flatten_cons, flat_one x n]; rfl
/-- [x] * n -/
theorem el_rep1 {n : Int} (ha : EvL K ta σ H [d]) (hb : EvD K tb σ H (.int n)) (hn : -1000 ≤ n ∧ n ≤ 1000) : EvL K (tOp rRep ta tb) σ H (List.replicate n.toNat d) := fun H1 s Q q =>
  ha H1 s _ fun p vs H2 p0 s2 hp a => hb H2 (s.trans s2) _ fun r H3 s3 a2 => by
    cases a2
    have hlen := dpa_len a
    refine ⟨p, n, vs, rfl, rfl, s3 _ _ hp, by omega, by omega, ?_, fun x hx => ?_⟩
    · rw [hlen]
      exact Nat.le_of_lt (small1000 (by simp; omega))
    · refine q x _ _ ((s2.trans s3).free hx) ((s2.trans s3).trans (same_upd hx)) upd_same (dpa_same (same_upd hx) ?_)
      have := dpa_flat (dpa_same s3 a) n.toNat
      rwa [flat_one] at this
theorem ed_neg {n : Int} (h : EvD K ta σ H (.int n)) : EvD K (tUn (rU fun i => .int (-i)) ta) σ H (.int (-n)) := fun H1 s Q q => h H1 s _ fun v H2 s2 a => by
  cases a
  exact ⟨n, rfl, q _ H2 s2 (.int _)⟩
theorem cut_dropLast (vs : List V) : cutV vs none (some (-1)) = vs.dropLast := by
  unfold cutV
  rw [HT.sIx_none, List.drop_zero, List.dropLast_eq_take]
  congr 1
  have : HT.sIx vs.length vs.length (some (-1)) = ((-1 : Int) + (vs.length : Int)).toNat := by
    show (if (-1 : Int) < 0 then ((-1 : Int) + (vs.length : Int)).toNat else min (-1 : Int).toNat vs.length) = _
    rw [if_pos (by decide)]
  rw [this]
  omega
/-- xs[:-1] -/
theorem el_init (ha : EvD K ta σ H (.list ds)) : EvL K (tSl (rSlL K) ta tNoPart (tPart (tUn (rU fun i => .int (-i)) (tC (.int 1))))) σ H ds.dropLast := fun H1 s Q q =>
  ha H1 s _ fun v H2 s2 a => by
    cases a with
    | lst hs hd =>
      refine ⟨1, rfl, -1, rfl, _, _, rfl, hs, fun p hp => ?_⟩
      rw [cut_dropLast]
      exact q p _ _ (s2.free hp) (s2.trans (same_upd hp)) upd_same (dpa_same (same_upd hp) (dpa_dropLast hd))
/-- t[::-1] -/
theorem ed_revT (ha : EvD K ta σ H (.tuple ds)) : EvD K (tRevT K ta) σ H (.tuple ds.reverse) := fun H1 s Q q => ha H1 s _ fun v H2 s2 a => by
  cases a with
  | tup hs hd => exact ⟨_, _, rfl, hs, fun p hp => q _ _ (s2.trans (same_upd hp)) (.tup (.inl (.inl upd_same)) (dpa_same (same_upd hp) (dpa_reverse hd)))⟩
theorem eb_yes : EvB tYes σ H true := fun H1 _ _ q => q H1 (Same.refl H1)

/-! ### comprehensions -/
/-- what is given: the kept ones -/
def gv (n : Nat) (b : Nat → Bool) (f : Nat → PyData) : List PyData := ((List.range n).filter b).map f
theorem gv_succ (n : Nat) (b : Nat → Bool) (f : Nat → PyData) : gv (n + 1) b f = gv n b f ++ (if b n then [f n] else []) := by
  unfold gv
  rw [List.range_succ, List.filter_append, List.map_append]
  cases h : b n <;> simp [h]
theorem gv_len (n : Nat) (b : Nat → Bool) (f : Nat → PyData) : (gv n b f).length ≤ n := by
  unfold gv
  rw [List.length_map]
  have := List.length_filter_le b (List.range n)
  rwa [List.length_range] at this
theorem gv_fz {n : Nat} {b : Nat → Bool} {f : Nat → PyData} (h : ∀ i, i < n → b i = true → fz (f i) = true) : ∀ m, m ≤ n → fz.fzs (gv m b f) = true
  | 0, _ => rfl
  | m + 1, hm => by
    rw [gv_succ]
    have ih := gv_fz h m (by omega)
    have app : ∀ xs ys : List PyData, fz.fzs xs = true → fz.fzs ys = true → fz.fzs (xs ++ ys) = true := by
      intro xs
      induction xs with
      | nil => intro ys _ h; exact h
      | cons x xs ihx =>
        intro ys h1 h2
        have h1' : fz x = true ∧ fz.fzs xs = true := by simpa [fz.fzs] using h1
        show (fz x && fz.fzs (xs ++ ys)) = true
        rw [h1'.1, ihx ys h1'.2 h2]
        rfl
    refine app _ _ ih ?_
    cases hb : b m with
    | true => simp [fz.fzs, h m (by omega) hb]
    | false => rfl
def Cw (K : PySem.W.Frag) (H1 : Hp) (b : Nat → Bool) (f : Nat → PyData) (Dl : Addr) (i : Nat) (H' : Hp) : Prop := H1 Dl = none ∧ Same H1 H' ∧ ∃ ys, H' Dl = some (.lst ys) ∧ DpAll K H' ys (gv i b f)
theorem cw_turn {H1 H' : Hp} {f : Nat → PyData} {b : Nat → Bool} {Dl : Addr} {i n : Nat} {σ2 : L2.St} (p : Cw K H1 b f Dl i H') (hi : i < 1000) (hin : i < n) (hf : ∀ i, i < n → b i = true → fz (f i) = true) (ht : EvB t σ2 H' (b i)) (he : b i = true → EvD K te σ2 H' (f i)) :
    t σ2 H' fun c H3 => if c = true then te σ2 H3 fun y H4 => ∃ acc, H4 Dl = some (.lst acc) ∧ acc.length < sizeLine ∧ Cw K H1 b f Dl (i + 1) (upd H4 Dl (.lst (acc ++ [y]))) else Cw K H1 b f Dl (i + 1) H3 := by
  obtain ⟨p1, p2, ys, p3, p4⟩ := p
  refine ht H' (Same.refl H') _ fun H3 e3 => ?_
  cases hb : b i with
  | true =>
    show te σ2 H3 fun y H4 => ∃ acc, H4 Dl = some (.lst acc) ∧ acc.length < sizeLine ∧ Cw K H1 b f Dl (i + 1) (upd H4 Dl (.lst (acc ++ [y])))
    refine he hb H3 e3 _ fun y H4 e4 a4 => ?_
    have hD : H4 Dl = some (.lst ys) := e4 _ _ (e3 _ _ p3)
    have hl := dpa_len p4
    have hg := gv_len i b f
    refine ⟨ys, hD, small1000 (by omega), p1, same_mut ((p2.trans e3).trans e4) p1, ys ++ [y], upd_same, ?_⟩
    rw [gv_succ, hb]
    refine dpa_append (dpa_tk (TK.upd hD) (gv_fz hf i (by omega)) (dpa_same (e3.trans e4) p4)) (.cons (dp_tk (TK.upd hD) (hf i hin hb) a4) .nil)
  | false =>
    refine ⟨p1, p2.trans e3, ys, e3 _ _ p3, ?_⟩
    rw [gv_succ, hb]
    show DpAll K H3 ys (gv i b f ++ [])
    rw [List.append_nil]
    exact dpa_same e3 p4
theorem elc_range {vs : List Nat} {n : Int} (b : Nat → Bool) (f : Nat → PyData) (h : EvA K tA σ H [.int n]) (hn : -1000 ≤ n ∧ n ≤ 1000) (hw : ∀ x, wipe ((wipe σ vs).set j (some x)) vs = wipe σ vs) (hf : ∀ i, i < n.toNat → b i = true → fz (f i) = true)
    (ht : ∀ (i : Nat) H1, Same H H1 → (i : Int) < n → EvB t ((wipe σ vs).set j (some (.int (i : Int)))) H1 (b i)) (he : ∀ (i : Nat) H1, Same H H1 → (i : Int) < n → b i = true → EvD K te ((wipe σ vs).set j (some (.int (i : Int)))) H1 (f i)) :
    EvL K (tLc (iRng1 tA) (gName j) t te vs) σ H (gv n.toNat b f) := fun H0 s Q q => h H0 s _ fun ws H1 s1 a => by
  cases a with
  | cons a1 a2 =>
    cases a2
    cases a1
    refine ⟨n, rfl, by omega, by omega, fun Dl hD => ?_⟩
    refine lc_range (lo := 0) (n := n.toNat) (Cw K H1 b f Dl) ⟨hD, same_upd hD, [], upd_same, .nil⟩ (fun i H' hi p => ?_) (fun H' p => ?_)
    · have e0 : (0 : Int) + (i : Int) = (i : Int) := Int.zero_add _
      show wipe ((wipe σ vs).set j (some (.int ((0 : Int) + (i : Int))))) vs = wipe σ vs ∧ _
      rw [e0]
      exact ⟨hw _, cw_turn p (by omega) hi hf (ht i H' ((s.trans s1).trans p.2.1) (by omega)) (fun hb => he i H' ((s.trans s1).trans p.2.1) (by omega) hb)⟩
    · obtain ⟨p1, p2, ys, p3, p4⟩ := p
      exact q Dl ys H' (s1.free p1) (s1.trans p2) p3 p4
theorem elc_range2 {vs : List Nat} {lo n : Int} (b : Nat → Bool) (f : Nat → PyData) (h : EvA K tA σ H [.int lo, .int n]) (hn : -1000 ≤ lo ∧ lo ≤ 1000 ∧ -1000 ≤ n ∧ n ≤ 1000 ∧ n - lo ≤ 1000) (hw : ∀ x, wipe ((wipe σ vs).set j (some x)) vs = wipe σ vs) (hf : ∀ i, i < (n - lo).toNat → b i = true → fz (f i) = true)
    (ht : ∀ (i : Nat) H1, Same H H1 → lo + (i : Int) < n → EvB t ((wipe σ vs).set j (some (.int (lo + (i : Int))))) H1 (b i)) (he : ∀ (i : Nat) H1, Same H H1 → lo + (i : Int) < n → b i = true → EvD K te ((wipe σ vs).set j (some (.int (lo + (i : Int))))) H1 (f i)) :
    EvL K (tLc (iRng2 tA) (gName j) t te vs) σ H (gv (n - lo).toNat b f) := fun H0 s Q q => h H0 s _ fun ws H1 s1 a => by
  cases a with
  | cons a1 a2 =>
    cases a2 with
    | cons a2 a3 =>
      cases a3
      cases a1
      cases a2
      refine ⟨lo, n, rfl, ⟨by omega, by omega, by omega, by omega⟩, fun Dl hD => ?_⟩
      refine lc_range (lo := lo) (n := (n - lo).toNat) (Cw K H1 b f Dl) ⟨hD, same_upd hD, [], upd_same, .nil⟩ (fun i H' hi p => ?_) (fun H' p => ?_)
      · exact ⟨hw _, cw_turn p (by omega) hi hf (ht i H' ((s.trans s1).trans p.2.1) (by omega)) (fun hb => he i H' ((s.trans s1).trans p.2.1) (by omega) hb)⟩
      · obtain ⟨p1, p2, ys, p3, p4⟩ := p
        exact q Dl ys H' (s1.free p1) (s1.trans p2) p3 p4
theorem dpa_of {K : PySem.W.Frag} {H : Hp} {ds : List PyData} {vs : List V} {i : Nat} {x : V} (h : DpAll K H vs ds) (e : vs[i]? = some x) : ∃ d, ds[i]? = some d ∧ Dp K H x d := by
  have hl := dpa_len h
  have hi : i < vs.length := (List.getElem?_eq_some_iff.mp e).1
  have hd : ds[i]? = some ds[i] := List.getElem?_eq_getElem (by omega)
  obtain ⟨v, a, b⟩ := dpa_get h hd
  rw [e] at a
  cases a
  exact ⟨_, hd, b⟩
theorem elc_tup {vs : List Nat} {tl : TE} (b : Nat → Bool) (f : Nat → PyData) (h : EvD K tl σ H (.tuple ds)) (hn : ds.length ≤ 1000) (hw : ∀ x, wipe ((wipe σ vs).set j (some x)) vs = wipe σ vs) (hf : ∀ i, i < ds.length → b i = true → fz (f i) = true)
    (ht : ∀ (i : Nat) x d H1, Same H H1 → ds[i]? = some d → Dp K H1 x d → EvB t ((wipe σ vs).set j (some x)) H1 (b i)) (he : ∀ (i : Nat) x d H1, Same H H1 → ds[i]? = some d → Dp K H1 x d → b i = true → EvD K te ((wipe σ vs).set j (some x)) H1 (f i)) :
    EvL K (tLc (iTup K tl) (gName j) t te vs) σ H (gv ds.length b f) := fun H0 s Q q => h H0 s _ fun v H1 s1 a => by
  cases a with
  | tup hs hd =>
    have hl := dpa_len hd
    refine ⟨_, rfl, ⟨_, hs⟩, fun Dl hD => ?_⟩
    refine lc_tup (Cw K H1 b f Dl) ⟨hD, same_upd hD, [], upd_same, .nil⟩ (fun i H' _ p => sqT_same p.2.1 hs) (fun i x H' hi p => ?_) (fun H' p => ?_)
    · have hil := (List.getElem?_eq_some_iff.mp hi).1
      obtain ⟨d, hd1, hd2⟩ := dpa_of (dpa_same p.2.1 hd) hi
      exact ⟨hw _, cw_turn p (by omega) (by omega : i < ds.length) hf (ht i x d H' ((s.trans s1).trans p.2.1) hd1 hd2) (fun hb => he i x d H' ((s.trans s1).trans p.2.1) hd1 hd2 hb)⟩
    · obtain ⟨p1, p2, ys, p3, p4⟩ := p
      rw [hl] at p4
      exact q Dl ys H' (s1.free p1) (s1.trans p2) p3 p4
theorem elc_lst {vs : List Nat} {tl : TE} (b : Nat → Bool) (f : Nat → PyData) (h : EvD K tl σ H (.list ds)) (hn : ds.length ≤ 1000) (hw : ∀ x, wipe ((wipe σ vs).set j (some x)) vs = wipe σ vs) (hf : ∀ i, i < ds.length → b i = true → fz (f i) = true)
    (ht : ∀ (i : Nat) x d H1, Same H H1 → ds[i]? = some d → Dp K H1 x d → EvB t ((wipe σ vs).set j (some x)) H1 (b i)) (he : ∀ (i : Nat) x d H1, Same H H1 → ds[i]? = some d → Dp K H1 x d → b i = true → EvD K te ((wipe σ vs).set j (some x)) H1 (f i)) :
    EvL K (tLc (iList K tl) (gName j) t te vs) σ H (gv ds.length b f) := fun H0 s Q q => h H0 s _ fun v H1 s1 a => by
  cases a with
  | lst hs hd =>
    have hl := dpa_len hd
    refine ⟨_, rfl, ⟨_, hs⟩, fun Dl hD => ?_⟩
    refine lc_list (Cw K H1 b f Dl) ⟨hD, same_upd hD, [], upd_same, .nil⟩ (fun i H' _ p => p.2.1.seq hs) (fun i x H' hi p => ?_) (fun H' p => ?_)
    · have hil := (List.getElem?_eq_some_iff.mp hi).1
      obtain ⟨d, hd1, hd2⟩ := dpa_of (dpa_same p.2.1 hd) hi
      exact ⟨hw _, cw_turn p (by omega) (by omega : i < ds.length) hf (ht i x d H' ((s.trans s1).trans p.2.1) hd1 hd2) (fun hb => he i x d H' ((s.trans s1).trans p.2.1) hd1 hd2 hb)⟩
    · obtain ⟨p1, p2, ys, p3, p4⟩ := p
      rw [hl] at p4
      exact q Dl ys H' (s1.free p1) (s1.trans p2) p3 p4
theorem gv_all (n : Nat) (f : Nat → PyData) : gv n (fun _ => true) f = (List.range n).map f := by
  unfold gv
  rw [List.filter_eq_self.mpr (fun _ _ => rfl)]
theorem wipe1 (j : Nat) (x : V) : wipe ((wipe σ [j]).set j (some x)) [j] = wipe σ [j] := by
  show ((σ.set j none).set j (some x)).set j none = σ.set j none
  rw [List.set_set, List.set_set]

/-! ### loops over a range, over a tuple -/
theorem q_forR {n : Int} (h : EvA K tA σ H [.int n]) (hn : -1000 ≤ n ∧ n ≤ 100000) (Pv : Nat → L2.St → Hp → Prop) (h0 : ∀ H1, Same H H1 → Pv 0 σ H1)
    (hs : ∀ (i : Nat) σ' H', (i : Int) < n → Pv i σ' H' → t1 { D with nx := Pv (i + 1), ct := Pv (i + 1), bk := tz D } (σ'.set j (some (.int (i : Int)))) H') (hd : ∀ σ' H', Pv n.toNat σ' H' → tz D σ' H') : tSeq (tFor (iRng1 tA) (gName j) t1) tz D σ H :=
  h H (Same.refl H) _ fun ws H1 s1 a => by
    cases a with
    | cons a1 a2 =>
      cases a2
      cases a1
      refine ⟨n, rfl, by omega, by omega, ?_⟩
      refine for_range (lo := 0) (n := n.toNat) (D := { D with nx := tz D }) Pv (h0 H1 s1) (fun i σ' H' hi p => ?_) hd
      have e0 : (0 : Int) + (i : Int) = (i : Int) := Int.zero_add _
      show t1 _ (σ'.set j (some (.int ((0 : Int) + (i : Int))))) H'
      rw [e0]
      exact hs i σ' H' (by omega) p
theorem q_forRl {n : Int} (h : EvA K tA σ H [.int n]) (hn : -1000 ≤ n ∧ n ≤ 100000) (Pv : Nat → L2.St → Hp → Prop) (h0 : ∀ H1, Same H H1 → Pv 0 σ H1)
    (hs : ∀ (i : Nat) σ' H', (i : Int) < n → Pv i σ' H' → t1 { D with nx := Pv (i + 1), ct := Pv (i + 1), bk := D.nx } (σ'.set j (some (.int (i : Int)))) H') (hd : ∀ σ' H', Pv n.toNat σ' H' → D.nx σ' H') : tFor (iRng1 tA) (gName j) t1 D σ H :=
  h H (Same.refl H) _ fun ws H1 s1 a => by
    cases a with
    | cons a1 a2 =>
      cases a2
      cases a1
      refine ⟨n, rfl, by omega, by omega, ?_⟩
      refine for_range (lo := 0) (n := n.toNat) (D := D) Pv (h0 H1 s1) (fun i σ' H' hi p => ?_) hd
      have e0 : (0 : Int) + (i : Int) = (i : Int) := Int.zero_add _
      show t1 _ (σ'.set j (some (.int ((0 : Int) + (i : Int))))) H'
      rw [e0]
      exact hs i σ' H' (by omega) p
/-- over a tuple; Pv tells the heap at the loop's beginning, too -/
theorem q_forT {g : TG} (h : EvD K te σ H (.tuple ds)) (Pv : Hp → Nat → L2.St → Hp → Prop) (h0 : ∀ H1, Same H H1 → Pv H1 0 σ H1) (hk : ∀ H1 i σ' H', Pv H1 i σ' H' → Same H1 H')
    (hs : ∀ H1 (i : Nat) x d σ' H', ds[i]? = some d → Dp K H' x d → Pv H1 i σ' H' → g x σ' H' fun σ2 H2 => t1 { D with nx := Pv H1 (i + 1), ct := Pv H1 (i + 1), bk := tz D } σ2 H2) (hd : ∀ H1 σ' H', Pv H1 ds.length σ' H' → tz D σ' H') : tSeq (tFor (iTup K te) g t1) tz D σ H :=
  h H (Same.refl H) _ fun v H1 s1 a => by
    cases a with
    | tup hx hd' =>
      have hl := dpa_len hd'
      refine ⟨_, rfl, ⟨_, hx⟩, ?_⟩
      refine for_tup (D := { D with nx := tz D }) (Pv H1) (h0 H1 s1) (fun i σ' H' _ p => sqT_same (hk _ _ _ _ p) hx) (fun i x σ' H' hi p => ?_) (fun σ' H' p => hd H1 σ' H' (hl ▸ p))
      obtain ⟨d, hd1, hd2⟩ := dpa_of (dpa_same (hk _ _ _ _ p) hd') hi
      exact hs H1 i x d σ' H' hd1 hd2 p
theorem q_forL {g : TG} (h : EvD K te σ H (.list ds)) (Pv : Hp → Nat → L2.St → Hp → Prop) (h0 : ∀ H1, Same H H1 → Pv H1 0 σ H1) (hk : ∀ H1 i σ' H', Pv H1 i σ' H' → Same H1 H')
    (hs : ∀ H1 (i : Nat) x d σ' H', ds[i]? = some d → Dp K H' x d → Pv H1 i σ' H' → g x σ' H' fun σ2 H2 => t1 { D with nx := Pv H1 (i + 1), ct := Pv H1 (i + 1), bk := tz D } σ2 H2) (hd : ∀ H1 σ' H', Pv H1 ds.length σ' H' → tz D σ' H') : tSeq (tFor (iList K te) g t1) tz D σ H :=
  h H (Same.refl H) _ fun v H1 s1 a => by
    cases a with
    | lst hx hd' =>
      have hl := dpa_len hd'
      refine ⟨_, rfl, ⟨_, hx⟩, ?_⟩
      refine for_list (D := { D with nx := tz D }) (Pv H1) (h0 H1 s1) (fun i σ' H' _ p => (hk _ _ _ _ p).seq hx) (fun i x σ' H' hi p => ?_) (fun σ' H' p => hd H1 σ' H' (hl ▸ p))
      obtain ⟨d, hd1, hd2⟩ := dpa_of (dpa_same (hk _ _ _ _ p) hd') hi
      exact hs H1 i x d σ' H' hd1 hd2 p
end
end K11
/-! Sizes of numbers, rows and what they are multiples of. -/
namespace K11
open PySem
/-- a part as data; a polynomial as data -/
def PoD (p : List Rat) : PyData := .tuple (p.map FrD)
theorem fz_fr (q : Rat) : fz (FrD q) = true := rfl
theorem fzs_fr : ∀ p : List Rat, fz.fzs (p.map FrD) = true
  | [] => rfl
  | a :: p => by
    show (fz (FrD a) && fz.fzs (p.map FrD)) = true
    rw [fz_fr, fzs_fr p]
    rfl
theorem fz_po (p : List Rat) : fz (PoD p) = true := fzs_fr p

theorem nd_le {q : Rat} {a b : Int} (hb : b ≠ 0) (h : q = (a : Rat) / (b : Rat)) : q.num.natAbs ≤ a.natAbs ∧ q.den ≤ b.natAbs := by
  have key : ∀ (c d : Int), 0 < d → q = (c : Rat) / (d : Rat) → q.num.natAbs ≤ c.natAbs ∧ q.den ≤ d.natAbs := by
    intro c d hd e
    obtain ⟨h1, h2⟩ := fr_eq c d hd
    rw [← e] at h1 h2
    have hg : 0 < Int.gcd c d := Int.gcd_pos_of_ne_zero_right _ (by omega)
    have dv : (Int.gcd c d : Int) ∣ c := Int.gcd_dvd_left _ _
    have dv2 : (Int.gcd c d : Int) ∣ d := Int.gcd_dvd_right _ _
    obtain ⟨x, hx⟩ := dv
    obtain ⟨y, hy⟩ := dv2
    have hg0 : (Int.gcd c d : Int) ≠ 0 := by omega
    have e1 : q.num = x := by
      rw [h1]
      conv => lhs; lhs; rw [hx]
      exact Int.mul_ediv_cancel_left _ hg0
    have e2 : (q.den : Int) = y := by
      rw [h2]
      conv => lhs; lhs; rw [hy]
      exact Int.mul_ediv_cancel_left _ hg0
    constructor
    · rw [e1, hx, Int.natAbs_mul, Int.natAbs_natCast]
      exact Nat.le_mul_of_pos_left _ hg
    · have : q.den = y.natAbs := by omega
      rw [this, hy, Int.natAbs_mul, Int.natAbs_natCast]
      exact Nat.le_mul_of_pos_left _ hg
  rcases Int.lt_or_gt_of_ne hb with z | z
  · have := key (0 - a) (0 - b) (by omega) (by rw [h]; exact fr_neg a b)
    omega
  · exact key a b z h
/-- numbers up to 2 ^ α -/
def Bits (α : Nat) (s : Rat) : Prop := s.num.natAbs ≤ 2 ^ α ∧ s.den ≤ 2 ^ α
theorem Bits.mono {α β : Nat} {s : Rat} (h : Bits α s) (k : α ≤ β) : Bits β s := ⟨Nat.le_trans h.1 (Nat.pow_le_pow_right (by decide) k), Nat.le_trans h.2 (Nat.pow_le_pow_right (by decide) k)⟩
theorem Bits.mul {α β : Nat} {s t : Rat} (h : Bits α s) (k : Bits β t) : Bits (α + β) (s * t) := by
  have := nd_le (den_mul_ne s t) (fr_mul s t).symm
  rw [Int.natAbs_mul, Int.natAbs_mul, Int.natAbs_natCast, Int.natAbs_natCast] at this
  rw [Bits, Nat.pow_add]
  exact ⟨Nat.le_trans this.1 (Nat.mul_le_mul h.1 k.1), Nat.le_trans this.2 (Nat.mul_le_mul h.2 k.2)⟩
theorem Bits.div {α β : Nat} {s t : Rat} (h : Bits α s) (k : Bits β t) (t0 : t ≠ 0) : Bits (α + β) (s / t) := by
  have hn : t.num ≠ 0 := fun z => t0 (by rw [← Rat.num_eq_zero]; exact z)
  have h1 : (s.den * t.num : Int) ≠ 0 := Int.mul_ne_zero (by have := s.den_pos; omega) hn
  have := nd_le h1 (fr_div s t t0).symm
  rw [Int.natAbs_mul, Int.natAbs_mul, Int.natAbs_natCast, Int.natAbs_natCast] at this
  rw [Bits, Nat.pow_add]
  exact ⟨Nat.le_trans this.1 (Nat.mul_le_mul h.1 k.2), Nat.le_trans this.2 (Nat.mul_le_mul h.2 k.1)⟩
theorem Bits.int {β : Nat} {i : Int} (h : i.natAbs ≤ 2 ^ β) : Bits β (i : Rat) := ⟨h, by
  show 1 ≤ 2 ^ β
  exact Nat.one_le_two_pow⟩
theorem Bits.one : Bits 0 1 := ⟨by decide, by decide⟩
theorem Bits.sz {α : Nat} {s : Rat} (h : Bits α s) (k : α < 4000) : Sz s := by
  have : 2 ^ α < 2 ^ 4000 := Nat.pow_lt_pow_right (by decide) k
  exact ⟨Nat.lt_of_le_of_lt h.1 this, Nat.lt_of_le_of_lt h.2 this⟩
theorem Bits.pow {α : Nat} {s : Rat} (h : Bits α s) : ∀ n : Nat, Bits (n * α) (s ^ n)
  | 0 => by rw [Nat.zero_mul, Rat.pow_zero]; exact Bits.one
  | n + 1 => by
    rw [Rat.pow_succ, Nat.add_mul, Nat.one_mul]
    exact (Bits.pow h n).mul h
/-- the upper number up to 2 ^ a, the lower one up to 2 ^ a' -/
def Bt (a a' : Nat) (s : Rat) : Prop := s.num.natAbs ≤ 2 ^ a ∧ s.den ≤ 2 ^ a'
theorem Bits.bt {α : Nat} {s : Rat} (h : Bits α s) : Bt α α s := h
theorem Bt.mono {a a' b b' : Nat} {s : Rat} (h : Bt a a' s) (k : a ≤ b) (k' : a' ≤ b') : Bt b b' s := ⟨Nat.le_trans h.1 (Nat.pow_le_pow_right (by decide) k), Nat.le_trans h.2 (Nat.pow_le_pow_right (by decide) k')⟩
theorem Bt.mul {a a' b b' : Nat} {s t : Rat} (h : Bt a a' s) (k : Bt b b' t) : Bt (a + b) (a' + b') (s * t) := by
  have := nd_le (den_mul_ne s t) (fr_mul s t).symm
  rw [Int.natAbs_mul, Int.natAbs_mul, Int.natAbs_natCast, Int.natAbs_natCast] at this
  rw [Bt, Nat.pow_add, Nat.pow_add]
  exact ⟨Nat.le_trans this.1 (Nat.mul_le_mul h.1 k.1), Nat.le_trans this.2 (Nat.mul_le_mul h.2 k.2)⟩
theorem Bt.div {a a' b b' : Nat} {s t : Rat} (h : Bt a a' s) (k : Bt b b' t) (t0 : t ≠ 0) : Bt (a + b') (a' + b) (s / t) := by
  have hn : t.num ≠ 0 := fun z => t0 (by rw [← Rat.num_eq_zero]; exact z)
  have h1 : (s.den * t.num : Int) ≠ 0 := Int.mul_ne_zero (by have := s.den_pos; omega) hn
  have := nd_le h1 (fr_div s t t0).symm
  rw [Int.natAbs_mul, Int.natAbs_mul, Int.natAbs_natCast, Int.natAbs_natCast] at this
  rw [Bt, Nat.pow_add, Nat.pow_add]
  exact ⟨Nat.le_trans this.1 (Nat.mul_le_mul h.1 k.2), Nat.le_trans this.2 (Nat.mul_le_mul h.2 k.1)⟩
theorem Bt.int {β : Nat} {i : Int} (h : i.natAbs ≤ 2 ^ β) : Bt β 0 (i : Rat) := ⟨h, Nat.le_refl 1⟩
theorem Bt.pow {a a' : Nat} {s : Rat} (h : Bt a a' s) : ∀ n : Nat, Bt (n * a) (n * a') (s ^ n)
  | 0 => by rw [Nat.zero_mul, Nat.zero_mul, Rat.pow_zero]; exact ⟨by decide, by decide⟩
  | n + 1 => by
    rw [Rat.pow_succ, Nat.add_mul, Nat.add_mul, Nat.one_mul, Nat.one_mul]
    exact (Bt.pow h n).mul h
theorem Bt.sz {a a' : Nat} {s : Rat} (h : Bt a a' s) (k : a < 4000) (k' : a' < 4000) : Sz s := by
  have h1 : 2 ^ a < 2 ^ 4000 := Nat.pow_lt_pow_right (by decide) k
  have h2 : 2 ^ a' < 2 ^ 4000 := Nat.pow_lt_pow_right (by decide) k'
  exact ⟨Nat.lt_of_le_of_lt h.1 h1, Nat.lt_of_le_of_lt h.2 h2⟩
/-- integers up to N times s -/
def Bd (s : Rat) (N : Nat) (p : List Rat) : Prop := ∀ k, ∃ i : Int, cf p k = s * i ∧ i.natAbs ≤ N
theorem Bd.mono {s : Rat} {N M : Nat} {p : List Rat} (h : Bd s N p) (k : N ≤ M) : Bd s M p := fun n => by
  obtain ⟨i, a, b⟩ := h n
  exact ⟨i, a, Nat.le_trans b k⟩
theorem Bd.bits {s : Rat} {α β : Nat} {p : List Rat} (h : Bd s (2 ^ β) p) (hs : Bits α s) (k : Nat) : Bits (α + β) (cf p k) := by
  obtain ⟨i, a, b⟩ := h k
  rw [a]
  exact hs.mul (Bits.int b)
theorem Bd.bt {s : Rat} {a a' β : Nat} {p : List Rat} (h : Bd s (2 ^ β) p) (hs : Bt a a' s) (k : Nat) : Bt (a + β) a' (cf p k) := by
  obtain ⟨i, e, b⟩ := h k
  rw [e]
  exact hs.mul (Bt.int b)
theorem Bd.tr {s : Rat} {N : Nat} {p : List Rat} (h : Bd s N p) : Bd s N (tr p) := fun k => by rw [cf_tr]; exact h k
theorem mem_cf {p : List Rat} {a : Rat} (h : a ∈ p) : ∃ k, k < p.length ∧ cf p k = a := by
  obtain ⟨k, hk, e⟩ := List.getElem_of_mem h
  exact ⟨k, hk, by rw [cf_of_lt hk, e]⟩
theorem Bd.all {s : Rat} {α β : Nat} {p : List Rat} (h : Bd s (2 ^ β) p) (hs : Bits α s) (hk : α + β < 4000) : ∀ a ∈ p, Sz a := fun a ha => by
  obtain ⟨k, _, e⟩ := mem_cf ha
  rw [← e]
  exact (h.bits hs k).sz hk
theorem natAbs_le_iff {i : Int} {N : Nat} : i.natAbs ≤ N ↔ -(N : Rat) ≤ (i : Rat) ∧ (i : Rat) ≤ (N : Rat) := by
  constructor
  · intro h
    have h1 : -(N : Int) ≤ i := by omega
    have h2 : i ≤ (N : Int) := by omega
    constructor
    · have : ((-(N : Int) : Int) : Rat) ≤ (i : Rat) := by exact_mod_cast h1
      rwa [Rat.intCast_neg] at this
    · have : (i : Rat) ≤ ((N : Int) : Rat) := by exact_mod_cast h2
      exact this
  · rintro ⟨h1, h2⟩
    have e1 : ((-(N : Int) : Int) : Rat) ≤ (i : Rat) := by rw [Rat.intCast_neg]; exact h1
    have e2 : (i : Rat) ≤ ((N : Int) : Rat) := h2
    have f1 : -(N : Int) ≤ i := by exact_mod_cast e1
    have f2 : i ≤ (N : Int) := by exact_mod_cast e2
    omega
theorem Bd.back {s : Rat} {N : Nat} {p : List Rat} (h : Bd s N p) (s0 : s ≠ 0) : IsI (sc (1 / s) p) ∧ Cfb N (sc (1 / s) p) ∧ ∀ x, ev p x = s * ev (sc (1 / s) p) x := by
  refine ⟨fun k => ?_, fun k => ?_, fun x => by rw [ev_sc]; grind⟩
  · obtain ⟨i, a, b⟩ := h k
    exact ⟨i, by rw [cf_sc, a]; grind⟩
  · obtain ⟨i, a, b⟩ := h k
    have : cf (sc (1 / s) p) k = (i : Rat) := by rw [cf_sc, a]; grind
    rw [this]
    exact natAbs_le_iff.mp b
theorem Bd.of {s : Rat} {N : Nat} {v : List Rat} (h : IsI v) (k : Cfb N v) : Bd s N (sc s v) := fun n => by
  obtain ⟨i, e⟩ := h n
  refine ⟨i, by rw [cf_sc, e], ?_⟩
  have := k n
  rw [e] at this
  exact natAbs_le_iff.mpr this
theorem Bd.scal {s : Rat} {N : Nat} {p : List Rat} (h : Bd s N p) (c : Rat) : Bd (c * s) N (sc c p) := fun n => by
  obtain ⟨i, e, b⟩ := h n
  exact ⟨i, by rw [cf_sc, e]; grind, b⟩
end K11
/-! Rows changed at a place, products step by step, sizes of values. -/
namespace K11
theorem rpow_add (x : Rat) (a : Nat) : ∀ b : Nat, x ^ (a + b) = x ^ a * x ^ b
  | 0 => by rw [Nat.add_zero, Rat.pow_zero]; grind
  | b + 1 => by rw [← Nat.add_assoc, Rat.pow_succ, Rat.pow_succ, rpow_add x a b]; grind
theorem rpow_ne {x : Rat} (h : x ≠ 0) : ∀ n : Nat, x ^ n ≠ 0
  | 0 => by rw [Rat.pow_zero]; decide
  | n + 1 => by
    rw [Rat.pow_succ]
    have := rpow_ne h n
    grind
theorem cf_set_self {p : List Rat} {i : Nat} (v : Rat) (h : i < p.length) : cf (p.set i v) i = v := by
  rw [cf_of_lt (by rw [List.length_set]; exact h), List.getElem_set_self]
theorem cf_set_ne {p : List Rat} {i j : Nat} (v : Rat) (h : i ≠ j) : cf (p.set i v) j = cf p j := by
  unfold cf
  rw [List.getD_eq_getElem?_getD, List.getD_eq_getElem?_getD, List.getElem?_set_ne h]
theorem ev_set : ∀ (p : List Rat) (i : Nat) (v x : Rat), i < p.length → ev (p.set i v) x = ev p x + (v - cf p i) * x ^ i
  | [], i, v, x, h => by simp at h
  | a :: t, 0, v, x, _ => by
    rw [List.set_cons_zero, ev_cons, ev_cons, cf_zero, Rat.pow_zero]
    grind
  | a :: t, i + 1, v, x, h => by
    rw [List.set_cons_succ, ev_cons, ev_cons, cf_succ, ev_set t i v x (by simpa using h), Rat.pow_succ]
    grind
theorem ev_take_succ : ∀ (p : List Rat) (i : Nat) (x : Rat), ev (p.take (i + 1)) x = ev (p.take i) x + cf p i * x ^ i
  | [], i, x => by rw [List.take_nil, List.take_nil, cf_nil, ev_nil]; grind
  | a :: t, 0, x => by
    rw [List.take_succ_cons, List.take_zero, List.take_zero, ev_cons, ev_nil, cf_zero, Rat.pow_zero]
    grind
  | a :: t, i + 1, x => by
    rw [List.take_succ_cons, List.take_succ_cons, ev_cons, ev_cons, ev_take_succ t i x, cf_succ, Rat.pow_succ]
    grind
theorem ev_drop {p : List Rat} {i : Nat} (h : i < p.length) (x : Rat) : ev (p.drop i) x = cf p i + x * ev (p.drop (i + 1)) x := by
  rw [List.drop_eq_getElem_cons h, ev_cons, cf_of_lt h]
theorem Bd.take {s : Rat} {N : Nat} {p : List Rat} (h : Bd s N p) (n : Nat) : Bd s N (p.take n) := fun k => by
  by_cases hk : k < n
  · have : cf (p.take n) k = cf p k := by
      unfold cf
      rw [List.getD_eq_getElem?_getD, List.getD_eq_getElem?_getD, List.getElem?_take_of_lt hk]
    rw [this]
    exact h k
  · refine ⟨0, ?_, by simp⟩
    rw [cf_of_ge (by rw [List.length_take]; omega)]
    simp
theorem Bd.drop {s : Rat} {N : Nat} {p : List Rat} (h : Bd s N p) (n : Nat) : Bd s N (p.drop n) := fun k => by
  have : cf (p.drop n) k = cf p (n + k) := by
    unfold cf
    rw [List.getD_eq_getElem?_getD, List.getD_eq_getElem?_getD, List.getElem?_drop]
  rw [this]
  exact h _

/-- a product under way: j rows and k numbers of the next one -/
structure Conv (p q : List Rat) (s t : Rat) (N M j k : Nat) (f : List Rat) : Prop where
  val : ∀ x, ev f x = ev (p.take j) x * ev q x + cf p j * x ^ j * ev (q.take k) x
  bd : Bd (s * t) ((j * q.length + k) * (N * M)) f
theorem Conv.step {p q f : List Rat} {s t : Rat} {N M j k : Nat} (h : Conv p q s t N M j k f) (hp : Bd s N p) (hq : Bd t M q) (hk : k < q.length) (hf : j + k < f.length) :
    Conv p q s t N M j (k + 1) (f.set (j + k) (cf f (j + k) + cf p j * cf q k)) where
  val := fun x => by
    rw [ev_set _ _ _ _ hf, h.val, ev_take_succ, rpow_add]
    grind
  bd := fun i => by
    by_cases e : j + k = i
    · subst e
      rw [cf_set_self _ hf]
      obtain ⟨a, ha, ba⟩ := h.bd (j + k)
      obtain ⟨b, hb, bb⟩ := hp j
      obtain ⟨c, hc, bc⟩ := hq k
      refine ⟨a + b * c, ?_, ?_⟩
      · rw [ha, hb, hc, Rat.intCast_add, Rat.intCast_mul]
        grind
      · have h1 := Int.natAbs_add_le a (b * c)
        have h2 : (b * c).natAbs ≤ N * M := by
          rw [Int.natAbs_mul]
          exact Nat.mul_le_mul bb bc
        have h3 : (j * q.length + (k + 1)) * (N * M) = (j * q.length + k) * (N * M) + N * M := by
          rw [show j * q.length + (k + 1) = (j * q.length + k) + 1 by omega, Nat.add_mul, Nat.one_mul]
        omega
    · rw [cf_set_ne _ e]
      obtain ⟨a, ha, ba⟩ := h.bd i
      exact ⟨a, ha, Nat.le_trans ba (Nat.mul_le_mul_right _ (by omega))⟩
theorem Conv.next {p q f : List Rat} {s t : Rat} {N M j : Nat} (h : Conv p q s t N M j q.length f) : Conv p q s t N M (j + 1) 0 f where
  val := fun x => by
    rw [h.val, List.take_length, ev_take_succ, List.take_zero, ev_nil]
    grind
  bd := by
    have := h.bd
    rw [show j * q.length + q.length = (j + 1) * q.length + 0 by rw [Nat.add_mul]; omega] at this
    exact this
theorem ev_rep0 : ∀ (n : Nat) (x : Rat), ev (List.replicate n 0) x = 0
  | 0, x => rfl
  | n + 1, x => by rw [List.replicate_succ, ev_cons, ev_rep0 n x]; grind
theorem cf_rep0 (n k : Nat) : cf (List.replicate n 0) k = 0 := by
  unfold cf
  rw [List.getD_eq_getElem?_getD, List.getElem?_replicate]
  split <;> rfl
theorem Conv.first (p q : List Rat) (s t : Rat) (N M n : Nat) : Conv p q s t N M 0 0 (List.replicate n 0) where
  val := fun x => by
    rw [ev_rep0, List.take_zero, List.take_zero, ev_nil]
    grind
  bd := fun k => ⟨0, by rw [cf_rep0]; simp, by simp⟩
theorem Conv.done {p q f : List Rat} {s t : Rat} {N M : Nat} (h : Conv p q s t N M p.length 0 f) : tr f = tr (mulL p q) := by
  refine eq_of_ev (Tr_tr _) (Tr_tr _) fun x => ?_
  rw [ev_tr, ev_tr, ev_mulL, h.val, List.take_length, List.take_zero, ev_nil]
  grind

/-- how great a value is -/
theorem ev_int {s x : Rat} {β γ : Nat} (hx : Bits γ x) : ∀ {p : List Rat}, Bd s (2 ^ β) p → ∃ I : Int, ev p x * (((x.den : Int) : Rat)) ^ p.length = s * I ∧ I.natAbs ≤ p.length * 2 ^ (β + γ * p.length)
  | [], _ => ⟨0, by rw [ev_nil]; simp, by simp⟩
  | a :: t, h => by
    obtain ⟨I, e, b⟩ := ev_int hx (p := t) fun k => by
      have := h (k + 1)
      rwa [cf_succ] at this
    obtain ⟨i, e0, b0⟩ := h 0
    rw [cf_zero] at e0
    refine ⟨i * (x.den : Int) ^ (t.length + 1) + x.num * I, ?_, ?_⟩
    · rw [ev_cons, List.length_cons, Rat.pow_succ, e0, Rat.intCast_add, Rat.intCast_mul, Rat.intCast_mul, Rat.intCast_pow, Rat.pow_succ]
      have hd := fr_self' x
      generalize ((x.den : Int) : Rat) ^ t.length = D at *
      generalize ((x.den : Int) : Rat) = dd at *
      generalize ev t x = E at *
      have : (s * (i : Rat) + x * E) * (D * dd) = s * ((i : Rat) * (D * dd)) + (x * dd) * (E * D) := by grind
      rw [this, e, ← hd]
      grind
    · have h1 := Int.natAbs_add_le (i * (x.den : Int) ^ (t.length + 1)) (x.num * I)
      have h2 : (i * (x.den : Int) ^ (t.length + 1)).natAbs ≤ 2 ^ (β + γ * (t.length + 1)) := by
        rw [Int.natAbs_mul, Int.natAbs_pow, Int.natAbs_natCast]
        have e1 : 2 ^ (β + γ * (t.length + 1)) = 2 ^ β * (2 ^ γ) ^ (t.length + 1) := by rw [Nat.pow_add, Nat.pow_mul]
        rw [e1]
        exact Nat.mul_le_mul b0 (Nat.pow_le_pow_left hx.2 _)
      have h3 : (x.num * I).natAbs ≤ t.length * 2 ^ (β + γ * (t.length + 1)) := by
        rw [Int.natAbs_mul]
        have := Nat.mul_le_mul hx.1 b
        refine Nat.le_trans this ?_
        have e1 : 2 ^ (β + γ * (t.length + 1)) = 2 ^ γ * 2 ^ (β + γ * t.length) := by
          rw [← Nat.pow_add]
          congr 1
          rw [Nat.mul_add]
          omega
        rw [e1]
        exact Nat.le_of_eq (Nat.mul_left_comm _ _ _)
      rw [List.length_cons, Nat.add_mul, Nat.one_mul]
      omega
theorem ev_bits {s x : Rat} {α β γ : Nat} {p : List Rat} (hs : Bits α s) (hx : Bits γ x) (h : Bd s (2 ^ β) p) (hl : p.length ≤ 32) : Bits (α + (β + γ * p.length + 5) + p.length * γ) (ev p x) := by
  obtain ⟨I, e, b⟩ := ev_int hx h
  have hd : (((x.den : Int) : Rat)) ^ p.length ≠ 0 := by
    exact rpow_ne (den_ne x) _
  have e2 : ev p x = s * I / (((x.den : Int) : Rat)) ^ p.length := by grind
  rw [e2]
  refine Bits.div (hs.mul (Bits.int ?_)) (Bits.pow ?_ _) hd
  · refine Nat.le_trans b ?_
    rw [Nat.pow_add _ _ 5, Nat.mul_comm]
    exact Nat.mul_le_mul_left _ (by show p.length ≤ 32; exact hl)
  · exact ⟨by show ((x.den : Int)).natAbs ≤ _; rw [Int.natAbs_natCast]; exact hx.2, by show 1 ≤ _; exact Nat.one_le_two_pow⟩
end K11
/-! The division step by step: what is kept, how great it is. -/
namespace K11
theorem ev_shift (n : Nat) (p : List Rat) (x : Rat) : ev (List.replicate n 0 ++ p) x = x ^ n * ev p x := by
  induction n with
  | zero => rw [List.replicate_zero, List.nil_append, Rat.pow_zero]; grind
  | succ n ih => rw [List.replicate_succ, List.cons_append, ev_cons, ih, Rat.pow_succ]; grind
theorem cf_shift_lt {n k : Nat} (p : List Rat) (h : k < n) : cf (List.replicate n 0 ++ p) k = 0 := by
  unfold cf
  rw [List.getD_eq_getElem?_getD, List.getElem?_append_left (by simpa using h), List.getElem?_replicate, if_pos h]
  rfl
theorem cf_shift_ge {n k : Nat} (p : List Rat) (h : n ≤ k) : cf (List.replicate n 0 ++ p) k = cf p (k - n) := by
  unfold cf
  rw [List.getD_eq_getElem?_getD, List.getD_eq_getElem?_getD, List.getElem?_append_right (by simpa using h), List.length_replicate]
/-- the division under way: i steps, left L, found f -/
structure DS (p q : List Rat) (s : Rat) (w : Int) (N M i : Nat) (L f : List Rat) : Prop where
  val : ∀ x, ev p x = ev f x * ev q x + ev L x
  bd : Bd (s / (w : Rat) ^ i) (N * (2 * M) ^ i) L
  trd : Tr L
  len : i + L.length ≤ p.length
  key : ∀ k, k + q.length ≤ L.length → cf f k = 0
theorem DS.first {p q : List Rat} {s : Rat} {w : Int} {N M : Nat} (hp : Bd s N p) (tp : Tr p) : DS p q s w N M 0 p [] where
  val := fun x => by rw [ev_nil]; grind
  bd := fun k => by
    obtain ⟨i, a, b⟩ := hp k
    exact ⟨i, by rw [a, Rat.pow_zero]; grind, by simpa using b⟩
  trd := tp
  len := by omega
  key := fun k _ => cf_nil k
/-- a row less a multiple of the other one, from a place on -/
structure Cut (L q : List Rat) (f : Rat) (n : Nat) (L' : List Rat) : Prop where
  len : L'.length = L.length
  low : ∀ k, k < n → cf L' k = cf L k
  high : ∀ k, n ≤ k → cf L' k = cf L k - f * cf q (k - n)
theorem Cut.ev {L q L' : List Rat} {f : Rat} {n : Nat} (h : Cut L q f n L') (x : Rat) : ev L' x = ev L x - f * x ^ n * ev q x := by
  have e : ∀ k, cf L' k = cf (subL L (List.replicate n 0 ++ sc f q)) k := fun k => by
    rw [cf_subL]
    by_cases hk : k < n
    · rw [h.low k hk, cf_shift_lt _ hk]; grind
    · rw [h.high k (by omega), cf_shift_ge _ (by omega), cf_sc]
  rw [ev_eq_of_cf e x, ev_subL, ev_shift, ev_sc]
  grind
theorem DS.step {p q L f L' : List Rat} {s t : Rat} {w : Int} {N M i : Nat} (h : DS p q s w N M i L f) (hq : Bd t M q) (tq : Tr q) (q0 : q ≠ []) (t0 : t ≠ 0) (hw : cf q (q.length - 1) = t * w) (hwM : w.natAbs ≤ M) (hl : q.length ≤ L.length)
    (hc : Cut L q (cf L (L.length - 1) / cf q (q.length - 1)) (L.length - q.length) L') :
    DS p q s w N M (i + 1) (tr L'.dropLast) (addL f (List.replicate (L.length - q.length) 0 ++ [cf L (L.length - 1) / cf q (q.length - 1)])) := by
  have lq : 0 < q.length := List.length_pos_iff.mpr q0
  have hlast := tq q0
  have w0 : (w : Rat) ≠ 0 := fun z => hlast (by rw [hw, z]; grind)
  have top : cf L' (L.length - 1) = 0 := by
    rw [hc.high _ (by omega), show L.length - 1 - (L.length - q.length) = q.length - 1 by omega]
    grind
  have cfd : ∀ k, cf L'.dropLast k = cf L' k := fun k => by
    by_cases hk : k < L.length - 1
    · unfold cf
      rw [List.getD_eq_getElem?_getD, List.getD_eq_getElem?_getD, List.getElem?_dropLast, if_pos (by rw [hc.len]; exact hk)]
    · rw [cf_of_ge (by rw [List.length_dropLast, hc.len]; omega)]
      by_cases h1 : k = L.length - 1
      · rw [h1, top]
      · rw [cf_of_ge (by rw [hc.len]; omega)]
  have ell : (K11.tr L'.dropLast).length ≤ L.length - 1 := by
    refine Nat.le_trans (len_tr _) ?_
    rw [List.length_dropLast, hc.len]
    exact Nat.le_refl _
  refine ⟨fun x => ?_, fun k => ?_, Tr_tr _, ?_, fun k hk => ?_⟩
  · rw [ev_tr, ev_eq_of_cf cfd x, hc.ev x, ev_addL, ev_shift, h.val x]
    simp only [K11.ev]
    grind
  · rw [cf_tr, cfd]
    have e1 : (w : Rat) ^ (i + 1) = (w : Rat) ^ i * w := Rat.pow_succ _ _
    have wi := rpow_ne w0 i
    have nn : N * (2 * M) ^ (i + 1) = N * (2 * M) ^ i * M + N * (2 * M) ^ i * M := by
      rw [Nat.pow_succ, ← Nat.mul_assoc, Nat.mul_comm 2 M, ← Nat.mul_assoc, Nat.mul_two]
    obtain ⟨m, hm, bm⟩ := h.bd k
    have bmw : (w * m).natAbs ≤ N * (2 * M) ^ i * M := by
      rw [Int.natAbs_mul, Nat.mul_comm]
      exact Nat.mul_le_mul bm hwM
    by_cases hk : k < L.length - q.length
    · refine ⟨w * m, ?_, by omega⟩
      rw [hc.low k hk, hm, Rat.intCast_mul, e1]
      grind
    · obtain ⟨l, hl2, bl⟩ := h.bd (L.length - 1)
      obtain ⟨c, hc2, bc⟩ := hq (k - (L.length - q.length))
      refine ⟨w * m - l * c, ?_, ?_⟩
      · rw [hc.high k (by omega), hm, hl2, hc2, hw, Rat.intCast_sub, Rat.intCast_mul, Rat.intCast_mul, e1]
        generalize (w : Rat) ^ i = W at *
        generalize (w : Rat) = ww at *
        have e2 : s / W * (l : Rat) / (t * ww) * (t * (c : Rat)) = s / W * l * c / ww := by grind
        rw [e2]
        grind
      · have h1 := Int.natAbs_sub_le (w * m) (l * c)
        have h2 : (l * c).natAbs ≤ N * (2 * M) ^ i * M := by
          rw [Int.natAbs_mul]
          exact Nat.mul_le_mul bl bc
        omega
  · have := h.len
    omega
  · rw [cf_addL, cf_shift_lt _ (by omega)]
    rw [h.key k (by omega)]
    grind
/-- some cut there is -/
theorem cut_ex (L q : List Rat) (f : Rat) (hl : q.length ≤ L.length) : ∃ L', Cut L q f (L.length - q.length) L' := by
  refine ⟨(List.range L.length).map fun k => if k < L.length - q.length then cf L k else cf L k - f * cf q (k - (L.length - q.length)), by simp, fun k hk => ?_, fun k hk => ?_⟩
  · have hkL : k < L.length := by omega
    rw [cf_of_lt (by simpa using hkL)]
    simp [hk]
  · by_cases hkL : k < L.length
    · rw [cf_of_lt (by simpa using hkL)]
      simp
      intro z
      omega
    · rw [cf_of_ge (by simp; omega), cf_of_ge (by omega), cf_of_ge (by omega)]
      grind
theorem DS.ends {p q : List Rat} {s t : Rat} {w : Int} {N M : Nat} (hq : Bd t M q) (tq : Tr q) (q0 : q ≠ []) (t0 : t ≠ 0) (hw : cf q (q.length - 1) = t * w) (hwM : w.natAbs ≤ M) :
    ∀ (n i : Nat) (L f : List Rat), L.length ≤ n → DS p q s w N M i L f → i ≤ p.length + 1 - q.length → ∃ i' L' f', DS p q s w N M i' L' f' ∧ L'.length < q.length ∧ i' ≤ p.length + 1 - q.length
  | 0, i, L, f, hn, h, hi => by
    have lq : 0 < q.length := List.length_pos_iff.mpr q0
    exact ⟨i, L, f, h, by omega, hi⟩
  | n + 1, i, L, f, hn, h, hi => by
    have lq : 0 < q.length := List.length_pos_iff.mpr q0
    by_cases hl : q.length ≤ L.length
    · obtain ⟨L', hc⟩ := cut_ex L q (cf L (L.length - 1) / cf q (q.length - 1)) hl
      have st := h.step hq tq q0 t0 hw hwM hl hc
      have hlen := h.len
      refine DS.ends hq tq q0 t0 hw hwM n (i + 1) _ _ ?_ st (by omega)
      have := st.len
      have e1 := len_tr L'.dropLast
      rw [List.length_dropLast, hc.len] at e1
      omega
    · exact ⟨i, L, f, h, by omega, hi⟩
theorem DS.pad {p q L f : List Rat} {s t : Rat} {w : Int} {N M i n : Nat} (h : DS p q s w N M i L f) (hwM : w.natAbs ≤ M) (w0 : (w : Rat) ≠ 0) (hn : i ≤ n) : Bd (s / (w : Rat) ^ n) (N * (2 * M) ^ n) L := fun k => by
  obtain ⟨m, a, b⟩ := h.bd k
  refine ⟨w ^ (n - i) * m, ?_, ?_⟩
  · rw [a, Rat.intCast_mul, Rat.intCast_pow]
    have e : (w : Rat) ^ n = (w : Rat) ^ i * (w : Rat) ^ (n - i) := by rw [← rpow_add]; congr 1; omega
    have w1 := rpow_ne w0 i
    have w2 := rpow_ne w0 (n - i)
    rw [e]
    grind
  · rw [Int.natAbs_mul, Int.natAbs_pow, Nat.mul_comm]
    have e : (2 * M) ^ n = (2 * M) ^ i * (2 * M) ^ (n - i) := by rw [← Nat.pow_add]; congr 1; omega
    rw [e, ← Nat.mul_assoc]
    refine Nat.mul_le_mul b (Nat.pow_le_pow_left ?_ _)
    omega
/-- quotient and rest -/
structure Qr (p q a b : List Rat) : Prop where
  ta : Tr a
  tb : Tr b
  lt : b.length < q.length
  val : ∀ x, ev p x = ev a x * ev q x + ev b x
theorem Qr.uniq {p q a b a' b' : List Rat} (tq : Tr q) (h : Qr p q a b) (h' : Qr p q a' b') : a = a' ∧ b = b' := by
  have q0 : q ≠ [] := fun z => by have := h.lt; rw [z] at this; simp at this
  have hd : tr (subL b' b) = [] := dv_short tq q0 (Tr_tr _) (by
    refine Nat.lt_of_le_of_lt (len_tr _) ?_
    unfold subL neg
    rw [len_addL, len_sc]
    have := h.lt
    have := h'.lt
    omega) ⟨subL a a', fun x => by rw [ev_tr, ev_subL, ev_subL]; have := h.val x; have := h'.val x; grind⟩
  have eb : b = b' := eq_of_ev h.tb h'.tb fun x => by
    have := ev_tr (subL b' b) x
    rw [hd, ev_nil, ev_subL] at this
    grind
  subst eb
  refine ⟨eq_of_ev h.ta h'.ta (cancel (not_Z tq q0) fun x => ?_), rfl⟩
  have := h.val x
  have := h'.val x
  grind
theorem DS.qr {p q L f : List Rat} {s : Rat} {w : Int} {N M i : Nat} (h : DS p q s w N M i L f) (hl : L.length < q.length) : Qr p q (tr f) L :=
  ⟨Tr_tr _, h.trd, hl, fun x => by rw [ev_tr]; exact h.val x⟩
/-- the integer of the last number -/
theorem last_int {q : List Rat} {t : Rat} {M : Nat} (hq : Bd t M q) : ∃ w : Int, cf q (q.length - 1) = t * w ∧ w.natAbs ≤ M := hq _
/-- quotient and rest there are, with sizes -/
theorem qr_ex {p q : List Rat} {s t : Rat} {a a' b c d : Nat} (hs : Bt a a' s) (hp : Bd s (2 ^ b) p) (tp : Tr p) (hq : Bd t (2 ^ d) q) (tq : Tr q) (q0 : q ≠ []) (t0 : t ≠ 0) (s0 : s ≠ 0) :
    ∃ A B, Qr p q A B ∧ ∃ s', s' ≠ 0 ∧ Bt a (a' + (p.length + 1 - q.length) * d) s' ∧ Bd s' (2 ^ (b + (p.length + 1 - q.length) * (d + 1))) B := by
  obtain ⟨w, hw, hwM⟩ := last_int hq
  have w0 : (w : Rat) ≠ 0 := fun z => tq q0 (by rw [hw, z]; grind)
  obtain ⟨i, L, f, h, hl, hi⟩ := DS.ends (N := 2 ^ b) hq tq q0 t0 hw hwM p.length 0 p [] (Nat.le_refl _) (DS.first (q := q) (w := w) (M := 2 ^ d) hp tp) (Nat.zero_le _)
  have wn := rpow_ne w0 (p.length + 1 - q.length)
  refine ⟨tr f, L, h.qr hl, s / (w : Rat) ^ (p.length + 1 - q.length), by grind, ?_, ?_⟩
  · exact hs.div ((Bt.int hwM).pow _) wn |>.mono (by omega) (Nat.le_refl _)
  · have := h.pad (t := t) hwM w0 hi
    rwa [show 2 ^ b * (2 * 2 ^ d) ^ (p.length + 1 - q.length) = 2 ^ (b + (p.length + 1 - q.length) * (d + 1)) by
      rw [Nat.pow_add, Nat.mul_comm (p.length + 1 - q.length), Nat.pow_mul, Nat.pow_succ, Nat.mul_comm 2]] at this
end K11
/-! trimmed, scaled_poly, derived, added_poly. -/
namespace K11
open PySem PySem.Spec PyProof.Rows L2
abbrev sTrimmed : Stmt := topS 16
abbrev sAddedP : Stmt := topS 17
abbrev sScaled : Stmt := topS 19
abbrev sDerived : Stmt := topS 32
theorem scTrimmed : FnScope ["row", "found"] ["row"] (defScope sTrimmed) := ⟨rfl, rfl, rfl, by decide +kernel, rfl, by decide +kernel, by decide +kernel⟩
theorem scAddedP : FnScope ["one", "other", "size", "wide", "row", "k"] ["one", "other"] (defScope sAddedP) := ⟨rfl, rfl, rfl, by decide +kernel, rfl, by decide +kernel, by decide +kernel⟩
theorem scScaled : FnScope ["factor", "one", "number"] ["factor", "one"] (defScope sScaled) := ⟨rfl, rfl, rfl, by decide +kernel, rfl, by decide +kernel, by decide +kernel⟩
theorem scDerived : FnScope ["one", "k"] ["one"] (defScope sDerived) := ⟨rfl, rfl, rfl, by decide +kernel, rfl, by decide +kernel, by decide +kernel⟩

def fTrim : List PyData → PyData → Prop := fun ds r => ∃ p : List Rat, ds = [.list (p.map FrD)] ∧ p.length ≤ 500 ∧ r = PoD (tr p)
def fScale : List PyData → PyData → Prop := fun ds r => ∃ (c : Rat) (p : List Rat), ds = [FrD c, PoD p] ∧ Sz c ∧ (∀ a ∈ p, Sz a) ∧ p.length ≤ 500 ∧ r = PoD (tr (sc c p))
/-- the slopes' row -/
def der (p : List Rat) : List Rat := (List.range (p.length - 1)).map fun i => ((1 + i : Nat) : Rat) * cf p (1 + i)
def fDer : List PyData → PyData → Prop := fun ds r => ∃ p : List Rat, ds = [PoD p] ∧ (∀ a ∈ p, Sz a) ∧ p.length ≤ 500 ∧ r = PoD (tr (der p))
def fAdd : List PyData → PyData → Prop := fun ds r => ∃ p q : List Rat, ds = [PoD p, PoD q] ∧ (∀ a ∈ p, Sz a) ∧ (∀ a ∈ q, Sz a) ∧ p.length ≤ 200 ∧ q.length ≤ 200 ∧ r = PoD (tr (addL p q))

theorem tr_snoc0 : ∀ q : List Rat, tr (q ++ [0]) = tr q
  | [] => by decide
  | a :: q => by
    have ih := tr_snoc0 q
    show (match tr (q ++ [0]) with | [] => if a = 0 then [] else [a] | b :: r => a :: b :: r) = _
    rw [ih]
    rfl
theorem tr_snoc {q : List Rat} {a : Rat} (h : a ≠ 0) : tr (q ++ [a]) = q ++ [a] := by
  refine tr_eq fun _ => ?_
  rw [cf_of_lt (by simp)]
  simpa using h
theorem num0 {a : Rat} : a.num = 0 ↔ a = 0 := Rat.num_eq_zero
section
variable {P : Program} {w : World} {K : PySem.W.Frag} {mg : Str → Option Value} {base : Heap}
theorem ok_trimmed {f : Addr} {fd : FuncData} (F : Fun K "trimmed" "trimmed" sTrimmed f fd) (mL : mg "list" = none) (mLen : mg "len" = none) (mT : mg "tuple" = none) : FnOk P w K mg base CX0 1 f fd ["row"] (PF K fTrim) := by
  refine F.ok scTrimmed (fun vs H Q E h => pf_len (n := 1) (fun ds r q => by obtain ⟨a, rfl, _⟩ := q; rfl) h) (fun cdv A outer s H vs Q E hr h => ?_)
  obtain ⟨ds, r, ha, ⟨p, rfl, hp, rfl⟩, k⟩ := h
  refine ⟨_, pss_cons (ps_set (i := 1) scTrimmed.nd rfl (.inl rfl) (pe_callTy call_list_of (by rfl) mL (by decide +kernel) (pa_cons (pv 0) pa_nil)))
    (pss_cons (ps_while PassesOwn.never (PW.pt (pw_and (pt_cmpR op_gt (pe_callB call_len_seq (by rfl) mLen boot_len (pa_cons (pv 1) pa_nil)) pe_int (nomark _))
        (pw_and1 (pt_cmpR op_eq (pe_ix ix_tup (pe_ix ix_list (pv 1) (pe_un un_neg pe_int) (fun _ _ => rfl)) pe_int (fun _ _ => rfl)) pe_int (nomark _)))))
      (pss_one (ps_expr (pe_bm0 PySem.F.plainAttrs_list PySem.F.slot_list_pop PySem.F.type_list_pop mt_pop (pv 1)))))
    (pss_one (ps_ret (pe_callTy call_tuple_of (by rfl) mT (by decide +kernel) (pa_cons (pv 1) pa_nil))))), ?_⟩
  have he := env_start (N := ["row", "found"]) ha
  refine q_setL he (el_listL (ed_var he rfl)) fun l vs1 H1 hl0 s1 hl1 hd1 he1 => ?_
  refine q_while (fun m σ' H' => ∃ xs q, Same H H' ∧ σ'[1]? = some (some (.ref l)) ∧ H' l = some (.lst xs) ∧ DpAll K H' xs (q.map FrD) ∧ tr q = tr p ∧ q.length ≤ 500 ∧ m = q.length) p.length
    ⟨vs1, p, s1, List.getElem?_set_self (by have := he.1; rw [this]; simp), hl1, hd1, rfl, hp, rfl⟩ fun m σ' H' w => ?_
  obtain ⟨xs, q, s', hσ, hl, hd, ht, hq, hm⟩ := w
  have eF : EvD K (tVar 1) σ' H' (.list (q.map FrD)) := ed_lst hσ hl hd
  rcases List.eq_nil_or_concat q with hn | ⟨q0, a, hc⟩
  · subst hn
    refine ⟨_, eb_and (eb_cmpI (ed_lenL eF) (ed_int 0)) (c := false) (fun hb => by simp at hb), fun hb => by simp at hb, fun _ H2 s2 => ?_⟩
    refine q_ret (ed_tupleL (eF.same s2)) fun v H3 s3 hv => k v H3 (s'.trans (s2.trans s3)) ?_
    rw [← ht]
    exact hv
  · rw [List.concat_eq_append] at hc
    subst hc
    have hlast : atI ((q0 ++ [a]).map FrD) (-1) = some (FrD a) := by
      rw [List.map_append]
      exact atI_last _ _
    refine ⟨_, eb_and (eb_cmpI (ed_lenL eF) (ed_int 0)) (fun _ => eb_eqI (ed_ixT (ed_ixL eF (ed_neg (ed_int 1)) hlast) (ed_int 0) rfl) (ed_int 0)), fun hb H2 s2 => ?_, fun hb H2 s2 => ?_⟩
    · have h0 : a = 0 := by
        rw [Bool.and_eq_true] at hb
        exact num0.mp (of_decide_eq_true hb.2)
      subst h0
      have hl2 : H2 l = some (.lst xs) := s2 _ _ hl
      have hx : xs ≠ [] := fun z => by
        subst z
        have := dpa_len hd
        simp at this
      refine q_popl hσ hl2 hx ?_
      have hd2 := dpa_dropLast (dpa_same s2 hd)
      rw [List.map_append, List.map_singleton, List.dropLast_concat] at hd2
      refine ⟨q0.length, by rw [hm]; simp, xs.dropLast, q0, same_mut (s'.trans s2) hl0, hσ, upd_same, dpa_tk (TK.upd hl2) (fzs_fr q0) hd2, ?_, by simp at hq; omega, rfl⟩
      rw [← ht, tr_snoc0]
    · have h0 : a ≠ 0 := fun z => by
        rw [Bool.and_eq_false_iff] at hb
        rcases hb with hb | hb
        · have := of_decide_eq_false hb
          simp at this
        · exact of_decide_eq_false hb (num0.mpr z)
      refine q_ret (ed_tupleL (eF.same s2)) fun v H3 s3 hv => k v H3 (s'.trans (s2.trans s3)) ?_
      rw [← ht, tr_snoc h0]
      exact hv
theorem ok_scaled {f fT fTm : Addr} {fd fdT fdTm : FuncData} (F : Fun K "scaled_poly" "scaled_poly" sScaled f fd) (FT : Fun K "times" "times" sTimes fT fdT) (gT : mg "times" = some (.ref fT)) (GT : FnOk P w K mg base CX0 3 fT fdT ["one", "other"] (PF K fTimes))
    (FR : Fun K "trimmed" "trimmed" sTrimmed fTm fdTm) (gR : mg "trimmed" = some (.ref fTm)) (GR : FnOk P w K mg base CX0 1 fTm fdTm ["row"] (PF K fTrim)) : FnOk P w K mg base CX0 4 f fd ["factor", "one"] (PF K fScale) := by
  have bT := FT.binds (ps := ["one", "other"]) fun _ _ _ _ _ _ us hl => match us, hl with | [_, _], _ => rfl
  have bR := FR.binds (ps := ["row"]) fun _ _ _ _ _ _ us hl => match us, hl with | [_], _ => rfl
  refine F.ok scScaled (fun vs H Q E h => pf_len (n := 2) (fun ds r q => by obtain ⟨a, b, rfl, _⟩ := q; rfl) h) (fun cdv A outer s H vs Q E hr h => ?_)
  obtain ⟨ds, r, ha, ⟨c, p, rfl, sc0, sp, hp, rfl⟩, k⟩ := h
  refine ⟨_, pss_one (ps_ret (pe_call GR (hr.mono (by decide)) (by rfl) gR FR.kp bR .nil pass0 (pa_cons (pe_lc (own := [("number", 2)]) (g := gName 2) (tt := tYes) rfl scScaled.nd (pi_tup (pv 1)) (blkOk_by (N := ["factor", "one", "number"]) (sc := defScope sScaled) (by decide +kernel)) (fun _ _ _ _ _ => pg_name (i := 2) scScaled.nd rfl (.inl rfl)) (fun _ _ _ _ _ => pts_nil)
    (fun _ _ _ _ _ => pe_call GT hr (by rfl) gT FT.kp bT .nil pass0 (pa_cons (pv 0) (pa_cons (pv 2) pa_nil)))) pa_nil))), ?_⟩
  have he := env_start (N := ["factor", "one", "number"]) ha
  refine q_ret (ed_call (ea_cons (elc_tup (fun _ => true) (fun i => FrD (c * cf p i)) (ed_var he rfl) (by rw [List.length_map]; omega) (wipe1 2) (fun _ _ _ => rfl) (fun _ _ _ _ _ _ _ => eb_yes) (fun i x d H1 s1 hd hx _ => ?_)).dd ea_nil) ⟨sc c p, ?_, by rw [len_sc]; exact hp, rfl⟩) fun v H1 s1 hv => k v H1 s1 hv
  · rw [List.getElem?_map] at hd
    cases e : p[i]? with
    | none =>
      rw [e] at hd
      cases hd
    | some a =>
      rw [e] at hd
      injection hd with hd
      subst hd
      have hi := (List.getElem?_eq_some_iff.mp e)
      have ea : cf p i = a := by rw [cf_of_lt hi.1, hi.2]
      have he1 := ((env_wipe he [2]).same s1).set (i := 2) hx
      refine ed_call (ea_cons (ed_var he1 rfl) (ea_cons (ed_var he1 rfl) ea_nil)) ⟨c, a, rfl, sc0, sp a (List.mem_of_getElem? e), by rw [ea]⟩
  · rw [gv_all]
    congr 1
    congr 1
    rw [List.length_map]
    unfold sc
    rw [List.map_map]
    refine List.ext_getElem (by simp) fun i h1 h2 => ?_
    simp only [List.length_map, List.length_range] at h1 h2
    simp [cf_of_lt h2]
theorem ok_derived {f fT fTm : Addr} {fd fdT fdTm : FuncData} (F : Fun K "derived" "derived" sDerived f fd) (FT : Fun K "times" "times" sTimes fT fdT) (gT : mg "times" = some (.ref fT)) (GT : FnOk P w K mg base CX0 3 fT fdT ["one", "other"] (PF K fTimes))
    (FR : Fun K "trimmed" "trimmed" sTrimmed fTm fdTm) (gR : mg "trimmed" = some (.ref fTm)) (GR : FnOk P w K mg base CX0 1 fTm fdTm ["row"] (PF K fTrim)) (mLen : mg "len" = none) (mR : mg "range" = none) : FnOk P w K mg base CX0 4 f fd ["one"] (PF K fDer) := by
  have bT := FT.binds (ps := ["one", "other"]) fun _ _ _ _ _ _ us hl => match us, hl with | [_, _], _ => rfl
  have bR := FR.binds (ps := ["row"]) fun _ _ _ _ _ _ us hl => match us, hl with | [_], _ => rfl
  refine F.ok scDerived (fun vs H Q E h => pf_len (n := 1) (fun ds r q => by obtain ⟨a, rfl, _⟩ := q; rfl) h) (fun cdv A outer s H vs Q E hr h => ?_)
  obtain ⟨ds, r, ha, ⟨p, rfl, sp, hp, rfl⟩, k⟩ := h
  refine ⟨_, pss_one (ps_ret (pe_call GR (hr.mono (by decide)) (by rfl) gR FR.kp bR .nil pass0 (pa_cons (pe_lc (own := [("k", 1)]) (g := gName 1) (tt := tYes) rfl scDerived.nd (pi_range2 (by rfl) mR (pa_cons pe_int (pa_cons (pe_callB call_len_seq (by rfl) mLen boot_len (pa_cons (pv 0) pa_nil)) pa_nil))) (blkOk_by (N := ["one", "k"]) (sc := defScope sDerived) (by decide +kernel)) (fun _ _ _ _ _ => pg_name (i := 1) scDerived.nd rfl (.inl rfl)) (fun _ _ _ _ _ => pts_nil)
    (fun _ _ _ _ _ => pe_call GT hr (by rfl) gT FT.kp bT .nil pass0 (pa_cons (pe_tup (pa_cons (pv 1) (pa_cons pe_int pa_nil))) (pa_cons (pe_ix (r := rIxT K) ix_tup (pv 0) (pv 1) (fun _ _ => rfl)) pa_nil)))) pa_nil))), ?_⟩
  have he := env_start (N := ["one", "k"]) ha
  refine q_ret (ed_call (ea_cons (elc_range2 (fun _ => true) (fun i => FrD (((1 + i : Nat) : Rat) * cf p (1 + i))) (ea_cons (ed_int 1) (ea_cons (ed_lenT (ed_var he rfl)) ea_nil)) (by rw [List.length_map]; omega) (wipe1 1) (fun _ _ _ => rfl) (fun _ _ _ _ => eb_yes) (fun i H1 s1 hi _ => ?_)).dd ea_nil) ⟨der p, ?_, by unfold der; simp; omega, rfl⟩) fun v H1 s1 hv => k v H1 s1 hv
  · rw [List.length_map] at hi
    have he1 := ((env_wipe he [1]).same s1).set (i := 1) (Dp.int (1 + (i : Int)))
    have hi2 : 1 + i < p.length := by omega
    refine ed_call (ea_cons (ed_tup (ea_cons (ed_var he1 rfl) (ea_cons (ed_int 1) ea_nil)) (by simp)) (ea_cons (ed_ixT (ed_var he1 rfl) (ed_var he1 rfl) (d := FrD (cf p (1 + i))) ?_) ea_nil)) ⟨((1 + i : Nat) : Rat), cf p (1 + i), ?_, ?_, ?_, rfl⟩
    · have : (1 + (i : Int)) = ((1 + i : Nat) : Int) := by omega
      rw [this]
      refine atI_nat ?_
      rw [List.getElem?_map, List.getElem?_eq_getElem hi2, cf_of_lt hi2]
      rfl
    · have : (1 + (i : Int)) = ((1 + i : Nat) : Int) := by omega
      rw [this]
      rfl
    · refine Bits.sz (α := 10) ⟨?_, by show (1 : Nat) ≤ _; decide⟩ (by decide)
      show ((1 + i : Nat) : Int).natAbs ≤ 2 ^ 10
      rw [Int.natAbs_natCast]
      omega
    · rw [cf_of_lt hi2]
      exact sp _ (List.getElem_mem hi2)
  · rw [gv_all, List.length_map]
    congr 1
    congr 1
    unfold der
    rw [List.map_map]
    have : ((p.length : Int) - 1).toNat = p.length - 1 := by omega
    rw [this]
    rfl
end
end K11
/-! product_poly, added_poly, poly_at. -/
namespace K11
open PySem PySem.Spec PyProof.Rows L2
abbrev sProduct : Stmt := topS 18
abbrev sPolyAt : Stmt := topS 29
theorem scProduct : FnScope ["one", "other", "found", "j", "k"] ["one", "other"] (defScope sProduct) := ⟨rfl, rfl, rfl, by decide +kernel, rfl, by decide +kernel, by decide +kernel⟩
theorem scPolyAt : FnScope ["one", "place", "found", "number"] ["one", "place"] (defScope sPolyAt) := ⟨rfl, rfl, rfl, by decide +kernel, rfl, by decide +kernel, by decide +kernel⟩
def fMul : List PyData → PyData → Prop := fun ds r => ∃ (p q : List Rat) (s t : Rat) (a b c d : Nat), ds = [PoD p, PoD q] ∧ Bits a s ∧ Bits c t ∧ Bd s (2 ^ b) p ∧ Bd t (2 ^ d) q ∧ a + b + c + d + 12 < 4000 ∧ p.length ≤ 30 ∧ q.length ≤ 30 ∧ r = PoD (tr (mulL p q))
def fAt : List PyData → PyData → Prop := fun ds r => ∃ (p : List Rat) (x s : Rat) (a b c : Nat), ds = [PoD p, FrD x] ∧ Bits a s ∧ Bits c x ∧ Bd s (2 ^ b) p ∧ p.length ≤ 30 ∧ a + b + 70 * c + 10 < 4000 ∧ r = FrD (ev p x)
theorem tr_mul_nil (p : List Rat) : tr (mulL p []) = [] := eq_of_ev (Tr_tr _) Tr_nil fun x => by rw [ev_tr, ev_mulL, ev_nil]; grind
theorem po_get {p : List Rat} {i : Nat} (h : i < p.length) : atI (p.map FrD) (i : Int) = some (FrD (cf p i)) := by
  refine atI_nat ?_
  rw [List.getElem?_map, List.getElem?_eq_getElem h, cf_of_lt h]
  rfl
theorem fzE_nil : fzE [] := fun i d h => by simp at h
theorem fzE_some {d : PyData} {S : List (Option PyData)} (h : fz d = true) (k : fzE S) : fzE (some d :: S) := fun i e q => by
  cases i with
  | zero =>
    simp at q
    rw [← q]
    exact h
  | succ i => exact k i e (by simpa using q)
theorem fzE_none {S : List (Option PyData)} (k : fzE S) : fzE (none :: S) := fun i e q => by
  cases i with
  | zero => simp at q
  | succ i => exact k i e (by simpa using q)
theorem Env.drop {K : PySem.W.Frag} {H : Hp} {σ : L2.St} {S : List (Option PyData)} (h : Env K H σ S) (i : Nat) : Env K H σ (S.set i none) := ⟨by rw [List.length_set]; exact h.1, fun j e q => by
  by_cases hj : i = j
  · subst hj
    by_cases hl : i < S.length
    · rw [List.getElem?_set_self hl] at q
      cases q
    · rw [List.set_eq_of_length_le (by omega)] at q
      exact h.2 _ _ q
  · rw [List.getElem?_set_ne hj] at q
    exact h.2 _ _ q⟩
/-- lists within a new list -/
def Cl (K : PySem.W.Frag) (H1 : Hp) (f : Nat → List PyData) (Dl : Addr) (i : Nat) (H' : Hp) : Prop :=
  H1 Dl = none ∧ Same H1 H' ∧ ∃ ys : List V, H' Dl = some (.lst ys) ∧ ys.length = i ∧ ∀ (k : Nat) (y : V), ys[k]? = some y → ∃ (a : Addr) (xs : List V), y = .ref a ∧ a ≠ Dl ∧ H' a = some (.lst xs) ∧ DpAll K H' xs (f k)
section
variable {K : PySem.W.Frag} {H H' : Hp} {σ : L2.St} {j : Nat} {te tl : TE} {ds : List PyData}
theorem dpa_mk {H : Hp} {g : Nat → PyData} : ∀ (ys : List V) (m : Nat), (∀ (k : Nat) (y : V), ys[k]? = some y → Dp K H y (g (m + k))) → DpAll K H ys ((List.range' m ys.length).map g)
  | [], _, _ => .nil
  | y :: ys, m, h => by
    rw [List.length_cons, List.range'_succ, List.map_cons]
    refine .cons (h 0 y rfl) (dpa_mk ys (m + 1) fun k z e => ?_)
    have := h (k + 1) z (by simpa using e)
    rwa [show m + (k + 1) = m + 1 + k by omega] at this
theorem elc_lists {vs : List Nat} (f : Nat → List PyData) (h : EvD K tl σ H (.tuple ds)) (hn : ds.length ≤ 1000) (hw : ∀ x, wipe ((wipe σ vs).set j (some x)) vs = wipe σ vs) (hf : ∀ i, fz.fzs (f i) = true)
    (he : ∀ (i : Nat) x d H1, Same H H1 → ds[i]? = some d → Dp K H1 x d → EvL K te ((wipe σ vs).set j (some x)) H1 (f i)) :
    EvD K (tLc (iTup K tl) (gName j) tYes te vs) σ H (.list ((List.range ds.length).map fun i => .list (f i))) := fun H0 s Q q => h H0 s _ fun v H1 s1 a => by
  cases a with
  | tup hs hd =>
    have hl := dpa_len hd
    refine ⟨_, rfl, ⟨_, hs⟩, fun Dl hD => ?_⟩
    refine lc_tup (Cl K H1 f Dl) ⟨hD, same_upd hD, [], upd_same, rfl, fun k y e => by simp at e⟩ (fun i H' _ p => sqT_same p.2.1 hs) (fun i x H' hi p => ?_) (fun H' p => ?_)
    · have hil := (List.getElem?_eq_some_iff.mp hi).1
      obtain ⟨d, hd1, hd2⟩ := dpa_of (dpa_same p.2.1 hd) hi
      refine ⟨hw _, ?_⟩
      show te ((wipe σ vs).set j (some x)) H' fun y H4 => ∃ acc, H4 Dl = some (.lst acc) ∧ acc.length < sizeLine ∧ Cl K H1 f Dl (i + 1) (upd H4 Dl (.lst (acc ++ [y])))
      obtain ⟨p1, p2, ys, p3, p4, p5⟩ := p
      refine he i x d H' ((s.trans s1).trans p2) hd1 hd2 H' (Same.refl H') _ fun a xs H4 a0 s4 ha hx => ?_
      have hD4 := s4 _ _ p3
      have hne : a ≠ Dl := fun z => by
        subst z
        rw [a0] at p3
        cases p3
      refine ⟨ys, hD4, small1000 (by omega), p1, same_mut (p2.trans s4) p1, ys ++ [.ref a], upd_same, by simp [p4], fun k y e => ?_⟩
      by_cases hk : k < ys.length
      · rw [List.getElem?_append_left hk] at e
        obtain ⟨b, zs, e1, e2, e3, e4⟩ := p5 k y e
        exact ⟨b, zs, e1, e2, by rw [upd_ne e2]; exact s4 _ _ e3, dpa_tk (TK.upd hD4) (hf k) (dpa_same s4 e4)⟩
      · rw [List.getElem?_append_right (by omega)] at e
        have hk2 : k - ys.length = 0 := by
          refine Classical.byContradiction fun z => ?_
          rw [List.getElem?_eq_none (by simp; omega)] at e
          cases e
        rw [hk2] at e
        cases e
        have : k = i := by omega
        subst this
        exact ⟨a, xs, rfl, hne, by rw [upd_ne hne]; exact ha, dpa_tk (TK.upd hD4) (hf k) hx⟩
    · obtain ⟨p1, p2, ys, p3, p4, p5⟩ := p
      refine q _ H' (s1.trans p2) (.lst (.inl (.inl p3)) ?_)
      have := dpa_mk (K := K) (H := H') (g := fun i => .list (f i)) ys 0 fun k y e => by
        obtain ⟨a, xs, e1, e2, e3, e4⟩ := p5 k y e
        rw [e1, Nat.zero_add]
        exact .lst (.inl (.inl e3)) e4
      rwa [p4, hl, ← List.range_eq_range'] at this
end
section
variable {P : Program} {w : World} {K : PySem.W.Frag} {mg : Str → Option Value} {base : Heap}
theorem ok_product {f fP fT fTm : Addr} {fd fdP fdT fdTm : FuncData} (F : Fun K "product_poly" "product_poly" sProduct f fd) (FP : Fun K "plus" "plus" sPlus fP fdP) (gP : mg "plus" = some (.ref fP)) (GP : FnOk P w K mg base CX0 3 fP fdP ["one", "other"] (PF K fPlus))
    (FT : Fun K "times" "times" sTimes fT fdT) (gT : mg "times" = some (.ref fT)) (GT : FnOk P w K mg base CX0 3 fT fdT ["one", "other"] (PF K fTimes))
    (FR : Fun K "trimmed" "trimmed" sTrimmed fTm fdTm) (gR : mg "trimmed" = some (.ref fTm)) (GR : FnOk P w K mg base CX0 1 fTm fdTm ["row"] (PF K fTrim)) (mLen : mg "len" = none) (mR : mg "range" = none) : FnOk P w K mg base CX0 4 f fd ["one", "other"] (PF K fMul) := by
  have bP := FP.binds (ps := ["one", "other"]) fun _ _ _ _ _ _ us hl => match us, hl with | [_, _], _ => rfl
  have bT := FT.binds (ps := ["one", "other"]) fun _ _ _ _ _ _ us hl => match us, hl with | [_, _], _ => rfl
  have bR := FR.binds (ps := ["row"]) fun _ _ _ _ _ _ us hl => match us, hl with | [_], _ => rfl
  refine F.ok scProduct (fun vs H Q E h => pf_len (n := 2) (fun ds r q => by obtain ⟨_, _, _, _, _, _, _, _, rfl, _⟩ := q; rfl) h) (fun cdv A outer s H vs Q E hr h => ?_)
  obtain ⟨ds, r, ha, ⟨p, q, s, t, a, b, c, d, rfl, bs, bt, bp, bq, hsz, lp, lq, rfl⟩, k⟩ := h
  refine ⟨_, pss_cons (ps_if (PW.pt (pw_or (pt_cmpR op_eq (pe_callB call_len_seq (by rfl) mLen boot_len (pa_cons (pv 0) pa_nil)) pe_int (nomark _)) (pw_or1 (pt_cmpR op_eq (pe_callB call_len_seq (by rfl) mLen boot_len (pa_cons (pv 1) pa_nil)) pe_int (nomark _))))) (pss_one (ps_ret (pe_tup pa_nil))) pss_nil)
    (pss_cons (ps_set (i := 2) scProduct.nd rfl (.inl rfl) (pe_op op_rep (pe_lst (pa_cons (pe_tup (pa_cons pe_int (pa_cons pe_int pa_nil))) pa_nil)) (pe_op op_sub (pe_op op_add (pe_callB call_len_seq (by rfl) mLen boot_len (pa_cons (pv 0) pa_nil)) (pe_callB call_len_seq (by rfl) mLen boot_len (pa_cons (pv 1) pa_nil))) pe_int)))
    (pss_cons (ps_for PassesOwn.never rfl (pi_range1 (by rfl) mR (pa_cons (pe_callB call_len_seq (by rfl) mLen boot_len (pa_cons (pv 0) pa_nil)) pa_nil)) (pg_name (i := 3) scProduct.nd rfl (.inl rfl))
      (pss_one (ps_for PassesOwn.never rfl (pi_range1 (by rfl) mR (pa_cons (pe_callB call_len_seq (by rfl) mLen boot_len (pa_cons (pv 1) pa_nil)) pa_nil)) (pg_name (i := 4) scProduct.nd rfl (.inl rfl))
        (pss_one (ps_asg (pe_call GP hr (by rfl) gP FP.kp bP .nil pass0 (pa_cons (pe_ix ix_list (pv 2) (pe_op op_add (pv 3) (pv 4)) (fun _ _ => rfl)) (pa_cons (pe_call GT hr (by rfl) gT FT.kp bT .nil pass0 (pa_cons (pe_ix ix_tup (pv 0) (pv 3) (fun _ _ => rfl)) (pa_cons (pe_ix ix_tup (pv 1) (pv 4) (fun _ _ => rfl)) pa_nil))) pa_nil)))
          (pg_sub (pv 2) (pe_op op_add (pv 3) (pv 4)) set_list))))))
    (pss_one (ps_ret (pe_call GR (hr.mono (by decide)) (by rfl) gR FR.kp bR .nil pass0 (pa_cons (pv 2) pa_nil)))))), ?_⟩
  have he := env_start (N := ["one", "other", "found", "j", "k"]) ha
  refine q_if (eb_or (eb_eqI (ed_lenT (ed_var he rfl)) (ed_int 0)) (fun _ => eb_eqI (ed_lenT (ed_var he rfl)) (ed_int 0))) (fun hb H1 s1 => ?_) (fun hb H1 s1 => ?_)
  · refine q_ret (ed_tup (ea_nil (K := K)) (by simp)) fun v H2 s2 hv => k v H2 (s1.trans s2) ?_
    rw [List.length_map, List.length_map, Bool.or_eq_true] at hb
    have e : tr (mulL p q) = [] := by
      rcases hb with hb | hb
      · have : p = [] := List.eq_nil_of_length_eq_zero (by have := of_decide_eq_true hb; omega)
        rw [this]
        rfl
      · have : q = [] := List.eq_nil_of_length_eq_zero (by have := of_decide_eq_true hb; omega)
        rw [this]
        exact tr_mul_nil p
    rw [e]
    exact hv
  · have hb' : 0 < p.length ∧ 0 < q.length := by
      rw [List.length_map, List.length_map, Bool.or_eq_false_iff] at hb
      have h1 := of_decide_eq_false hb.1
      have h2 := of_decide_eq_false hb.2
      omega
    have he1 := he.same s1
    refine q_setL he1 (el_rep1 (d := FrD 0) (el_lst (ea_cons (ed_tup (ea_cons (ed_int 0) (ea_cons (ed_int 1) ea_nil)) (by simp)) ea_nil) (by simp)) (ed_sub (ed_add (ed_lenT (ed_var he1 rfl)) (ed_lenT (ed_var he1 rfl))) (ed_int 1)) (by rw [List.length_map, List.length_map]; omega)) fun l vs2 H2 hl0 s2 hl2 hd2 he2 => ?_
    have hlen2 : (L2.start ["one", "other", "found", "j", "k"] vs).length = 5 := he.1
    have en : (((p.map FrD).length : Int) + ((q.map FrD).length : Int) - 1).toNat = p.length + q.length - 1 := by rw [List.length_map, List.length_map]; omega
    rw [en] at hd2
    have l0 : H l = none := s1.free hl0
    let Iv : Nat → Nat → L2.St → Hp → Prop := fun j kk σ' H' => ∃ xs fl, Same H H' ∧ σ'[2]? = some (some (.ref l)) ∧ H' l = some (.lst xs) ∧ DpAll K H' xs (fl.map FrD) ∧ fl.length = p.length + q.length - 1 ∧ Conv p q s t (2 ^ b) (2 ^ d) j kk fl
    refine q_forR (ea_cons (ed_lenT (ed_var he2 rfl)) ea_nil) (by rw [List.length_map]; omega) (fun j σ' H' => Env K H' σ' [some (PoD p), some (PoD q), none, none, none] ∧ Iv j 0 σ' H') (fun H3 s3 => ⟨?_, vs2, List.replicate (p.length + q.length - 1) 0, (s1.trans s2).trans s3, List.getElem?_set_self (by rw [hlen2]; decide), s3 _ _ hl2, ?_, by simp, Conv.first ..⟩) (fun j σ3 H3 hj inv => ?_) (fun σ3 H3 inv => ?_)
    · exact he2.same s3
    · rw [List.map_replicate]
      exact dpa_same s3 hd2
    · rw [List.length_map] at hj
      obtain ⟨e3, xs3, fl3, s3, hσ3, hl3, hd3, hn3, cv3⟩ := inv
      have e3' := e3.set (i := 3) (Dp.int (j : Int))
      have hσ3' : (σ3.set 3 (some (V.int (j : Int))))[2]? = some (some (.ref l)) := by rw [List.getElem?_set_ne (by decide)]; exact hσ3
      refine q_forRl (ea_cons (ed_lenT (ed_var e3' rfl)) ea_nil) (by rw [List.length_map]; omega) (fun kk σ' H' => Env K H' σ' [some (PoD p), some (PoD q), none, some (.int (j : Int)), none] ∧ Iv j kk σ' H') (fun H4 s4 => ⟨?_, xs3, fl3, s3.trans s4, hσ3', s4 _ _ hl3, dpa_same s4 hd3, hn3, cv3⟩) (fun kk σ4 H4 hk inv => ?_) (fun σ4 H4 inv => ?_)
      · exact e3'.same s4
      · rw [List.length_map] at hk
        obtain ⟨e4, xs4, fl4, s4, hσ4, hl4, hd4, hn4, cv4⟩ := inv
        have e4' := e4.set (i := 4) (Dp.int (kk : Int))
        have hσ4' : (σ4.set 4 (some (V.int (kk : Int))))[2]? = some (some (.ref l)) := by rw [List.getElem?_set_ne (by decide)]; exact hσ4
        have eF : EvD K (tVar 2) _ H4 (.list (fl4.map FrD)) := ed_lst hσ4' hl4 hd4
        have ix : EvD K (tOp (rI0 fun i j => .int (i + j)) (tVar 3) (tVar 4)) (σ4.set 4 (some (V.int (kk : Int)))) H4 (.int ((j + kk : Nat) : Int)) := by
          rw [Int.natCast_add]
          exact ed_add (ed_var e4' rfl) (ed_var e4' rfl)
        have hjp : j < p.length := by omega
        have hkq : kk < q.length := by omega
        have hjk : j + kk < fl4.length := by omega
        have szN : Bits (a + c) (s * t) := bs.mul bt
        have bd4 : Bd (s * t) (2 ^ (b + d + 10)) fl4 := cv4.bd.mono (by
          rw [show b + d + 10 = 10 + (b + d) by omega, Nat.pow_add, Nat.pow_add 2 b d]
          refine Nat.mul_le_mul_right _ ?_
          have : j * q.length ≤ 30 * 30 := Nat.mul_le_mul (by omega) (by omega)
          show j * q.length + kk ≤ 1024
          omega)
        have z1 : Sz (cf fl4 (j + kk)) := (bd4.bits szN _).sz (by omega)
        have z2 : Sz (cf p j) := (bp.bits bs _).sz (by omega)
        have z3 : Sz (cf q kk) := (bq.bits bt _).sz (by omega)
        have z4 : Sz (cf p j * cf q kk) := ((bp.bits bs _).mul (bq.bits bt _)).sz (by omega)
        refine q_setixl hσ4' hl4 (ed_call (ea_cons (ed_ixL eF ix (po_get hjk)) (ea_cons (ed_call (ea_cons (ed_ixT (ed_var e4' rfl) (ed_var e4' rfl) (po_get hjp)) (ea_cons (ed_ixT (ed_var e4' rfl) (ed_var e4' rfl) (po_get hkq)) ea_nil)) ⟨_, _, rfl, z2, z3, rfl⟩) ea_nil)) ⟨_, _, rfl, z1, z4, rfl⟩) ix (by rw [dpa_len hd4, List.length_map]; exact hjk) fun v H5 s5 hv => ?_
        have hl5 := s5 _ _ hl4
        have fE : fzE [some (PoD p), some (PoD q), none, some (PyData.int (j : Int)), some (PyData.int (kk : Int))] := fzE_some (fz_po p) (fzE_some (fz_po q) (fzE_none (fzE_some rfl (fzE_some rfl fzE_nil))))
        have e5 : Env K (upd H5 l (.lst (xs4.set (j + kk) v))) (σ4.set 4 (some (V.int (kk : Int)))) [some (PoD p), some (PoD q), none, some (PyData.int (j : Int)), some (PyData.int (kk : Int))] := (e4'.same s5).tk (TK.upd hl5) fE
        refine ⟨e5.drop 4, xs4.set (j + kk) v, fl4.set (j + kk) (cf fl4 (j + kk) + cf p j * cf q kk), same_mut (s4.trans s5) l0, hσ4', upd_same, ?_, by rw [List.length_set]; exact hn4, cv4.step bp bq hkq hjk⟩
        rw [List.map_set]
        exact dpa_set (dp_tk (TK.upd hl5) (fz_fr _) hv) _ (dpa_tk (TK.upd hl5) (fzs_fr fl4) (dpa_same s5 hd4))
      · obtain ⟨e4, xs4, fl4, s4, hσ4, hl4, hd4, hn4, cv4⟩ := inv
        rw [List.length_map, Int.toNat_natCast] at cv4
        exact ⟨e4.drop 3, xs4, fl4, s4, hσ4, hl4, hd4, hn4, cv4.next⟩
    · obtain ⟨e3, xs3, fl3, s3, hσ3, hl3, hd3, hn3, cv3⟩ := inv
      rw [List.length_map, Int.toNat_natCast] at cv3
      refine q_ret (ed_call (ea_cons (ed_lst hσ3 hl3 hd3) ea_nil) ⟨fl3, rfl, by omega, rfl⟩) fun v H4 s4 hv => k v H4 (s3.trans s4) ?_
      rwa [cv3.done] at hv
end
end K11
/-! added_poly, poly_at. -/
namespace K11
open PySem PySem.Spec PyProof.Rows L2
theorem pad_get (p : List Rat) (n : Int) {k : Nat} (hk : (k : Int) < (p.length : Int) + n ∨ k < p.length) : atI (p.map FrD ++ List.replicate n.toNat (FrD 0)) (k : Int) = some (FrD (cf p k)) := by
  refine atI_nat ?_
  by_cases h : k < p.length
  · rw [List.getElem?_append_left (by simpa using h), List.getElem?_map, List.getElem?_eq_getElem h, cf_of_lt h]
    rfl
  · rw [List.getElem?_append_right (by simpa using h), List.length_map, List.getElem?_replicate, if_pos (by omega), cf_of_ge (by omega)]
theorem add_row (p q : List Rat) : (List.range (max p.length q.length)).map (fun k => FrD (cf p k + cf q k)) = (addL p q).map FrD := by
  refine List.ext_getElem (by simp [len_addL]) fun i h1 h2 => ?_
  simp only [List.getElem_map, List.getElem_range]
  have hi : i < (addL p q).length := by simpa using h2
  rw [← cf_addL, cf_of_lt hi]
section
variable {P : Program} {w : World} {K : PySem.W.Frag} {mg : Str → Option Value} {base : Heap}
theorem ok_addedP {f fP fTm : Addr} {fd fdP fdTm : FuncData} (F : Fun K "added_poly" "added_poly" sAddedP f fd) (FP : Fun K "plus" "plus" sPlus fP fdP) (gP : mg "plus" = some (.ref fP)) (GP : FnOk P w K mg base CX0 3 fP fdP ["one", "other"] (PF K fPlus))
    (FR : Fun K "trimmed" "trimmed" sTrimmed fTm fdTm) (gR : mg "trimmed" = some (.ref fTm)) (GR : FnOk P w K mg base CX0 1 fTm fdTm ["row"] (PF K fTrim)) (mLen : mg "len" = none) (mR : mg "range" = none) (mM : mg "max" = none) (mL : mg "list" = none) : FnOk P w K mg base CX0 4 f fd ["one", "other"] (PF K fAdd) := by
  have bP := FP.binds (ps := ["one", "other"]) fun _ _ _ _ _ _ us hl => match us, hl with | [_, _], _ => rfl
  have bR := FR.binds (ps := ["row"]) fun _ _ _ _ _ _ us hl => match us, hl with | [_], _ => rfl
  refine F.ok scAddedP (fun vs H Q E h => pf_len (n := 2) (fun ds r q => by obtain ⟨_, _, rfl, _⟩ := q; rfl) h) (fun cdv A outer s H vs Q E hr h => ?_)
  obtain ⟨ds, r, ha, ⟨p, q, rfl, sp, sq, lp, lq, rfl⟩, k⟩ := h
  refine ⟨_, pss_cons (ps_set (i := 2) scAddedP.nd rfl (.inr rfl) (pe_callB (call_max2 rfl) (by rfl) mM (by decide +kernel) (pa_cons (pe_callB call_len_seq (by rfl) mLen boot_len (pa_cons (pv 0) pa_nil)) (pa_cons (pe_callB call_len_seq (by rfl) mLen boot_len (pa_cons (pv 1) pa_nil)) pa_nil))))
    (pss_cons (ps_set (i := 3) scAddedP.nd rfl (.inr rfl) (pe_lc (own := [("row", 4)]) (g := gName 4) (tt := tYes) rfl scAddedP.nd (pi_tup (pe_tup (pa_cons (pv 0) (pa_cons (pv 1) pa_nil)))) (blkOk_by (N := ["one", "other", "size", "wide", "row", "k"]) (sc := defScope sAddedP) (by decide +kernel)) (fun _ _ _ _ _ => pg_name (i := 4) scAddedP.nd rfl (.inl rfl)) (fun _ _ _ _ _ => pts_nil)
      (fun _ _ _ _ _ => pe_op op_cat (pe_callTy (r := fun xs H Q => ∃ p ys, xs = [V.ref p] ∧ (SqL K H p ys ∨ SqT K H p ys) ∧ ∀ l, H l = none → Q (.ref l) (upd H l (.lst ys))) call_list_of (by rfl) mL (by decide +kernel) (pa_cons (pv 4) pa_nil)) (pe_op op_rep (pe_lst (pa_cons (pe_tup (pa_cons pe_int (pa_cons pe_int pa_nil))) pa_nil)) (pe_op op_sub (pv 2) (pe_callB (r := fun xs H Q => ∃ p ys, xs = [V.ref p] ∧ (SqL K H p ys ∨ SqT K H p ys) ∧ Q (.int ys.length) H) call_len_seq (by rfl) mLen boot_len (pa_cons (pv 4) pa_nil)))))))
    (pss_one (ps_ret (pe_call GR (hr.mono (by decide)) (by rfl) gR FR.kp bR .nil pass0 (pa_cons (pe_lc (own := [("k", 5)]) (g := gName 5) (tt := tYes) rfl scAddedP.nd (pi_range1 (by rfl) mR (pa_cons (pv 2) pa_nil)) (blkOk_by (N := ["one", "other", "size", "wide", "row", "k"]) (sc := defScope sAddedP) (by decide +kernel)) (fun _ _ _ _ _ => pg_name (i := 5) scAddedP.nd rfl (.inl rfl)) (fun _ _ _ _ _ => pts_nil)
      (fun _ _ _ _ _ => pe_call GP hr (by rfl) gP FP.kp bP .nil pass0 (pa_cons (pe_ix (r := rIxL K) ix_list (pe_ix (r := rIxL K) ix_list (pv 3) pe_int (fun _ _ => rfl)) (pv 5) (fun _ _ => rfl)) (pa_cons (pe_ix (r := rIxL K) ix_list (pe_ix (r := rIxL K) ix_list (pv 3) pe_int (fun _ _ => rfl)) (pv 5) (fun _ _ => rfl)) pa_nil)))) pa_nil))))), ?_⟩
  have he := env_start (N := ["one", "other", "size", "wide", "row", "k"]) ha
  refine q_set he (ed_max2 (ed_lenT (ed_var he rfl)) (ed_lenT (ed_var he rfl))) fun v1 H1 s1 he1 => ?_
  rw [List.length_map, List.length_map] at he1
  let g : Nat → List Rat := fun i => if i = 0 then p else q
  let pad : Nat → List PyData := fun i => (g i).map FrD ++ List.replicate (((max (p.length : Int) (q.length : Int)) - ((g i).length : Int)).toNat) (FrD 0)
  have fzpad : ∀ i, fz.fzs (pad i) = true := by
    intro i
    have app : ∀ xs ys : List PyData, fz.fzs xs = true → fz.fzs ys = true → fz.fzs (xs ++ ys) = true := by
      intro xs
      induction xs with
      | nil => intro ys _ h; exact h
      | cons x xs ihx =>
        intro ys h1 h2
        have h1' : fz x = true ∧ fz.fzs xs = true := by simpa [fz.fzs] using h1
        show (fz x && fz.fzs (xs ++ ys)) = true
        rw [h1'.1, ihx ys h1'.2 h2]
        rfl
    refine app _ _ (fzs_fr _) ?_
    generalize ((max (p.length : Int) (q.length : Int)) - ((g i).length : Int)).toNat = n
    induction n with
    | zero => rfl
    | succ n ih =>
      show (fz (FrD 0) && fz.fzs (List.replicate n (FrD 0))) = true
      rw [ih]
      rfl
  have glen : ∀ i, (g i).length ≤ 200 := fun i => by
    show (if i = 0 then p else q).length ≤ 200
    split <;> assumption
  refine q_set he1 (elc_lists pad (ed_tup (ea_cons (ed_var he1 rfl) (ea_cons (ed_var he1 rfl) ea_nil)) (by simp)) (by simp) (wipe1 4) fzpad (fun i x d H2 s2 hd hx => ?_)) fun v2 H2 s2 he2 => ?_
  · have hdi : d = PoD (g i) := by
      match i, hd with
      | 0, hd => simp at hd; rw [← hd]; rfl
      | 1, hd => simp at hd; rw [← hd]; rfl
      | i + 2, hd => simp at hd
    subst hdi
    have e2 := ((env_wipe he1 [4]).same s2).set (i := 4) hx
    have := glen i
    refine el_cat (el_listT (ed_var e2 rfl)) (el_rep1 (d := FrD 0) (el_lst (ea_cons (ed_tup (ea_cons (ed_int 0) (ea_cons (ed_int 1) ea_nil)) (by simp)) ea_nil) (by simp)) (ed_sub (ed_var e2 rfl) ((ed_lenT (ed_var e2 rfl)).is (d' := .int ((g i).length : Int)) (by rw [List.length_map]))) (by omega)) ?_
    simp
    omega
  · refine q_ret (ed_call (ea_cons (elc_range (fun _ => true) (fun k => FrD (cf p k + cf q k)) (ea_cons (ed_var he2 rfl) ea_nil) (by omega) (wipe1 5) (fun _ _ _ => rfl) (fun _ _ _ _ => eb_yes) (fun i H3 s3 hi _ => ?_)).dd ea_nil) ⟨addL p q, ?_, by rw [len_addL]; omega, rfl⟩) fun v H3 s3 hv => k v H3 ((s1.trans s2).trans s3) hv
    · have e3 := ((env_wipe he2 [5]).same s3).set (i := 5) (Dp.int (i : Int))
      have z : ∀ {r : List Rat}, (∀ a ∈ r, Sz a) → Sz (cf r i) := fun {r} h => by
        by_cases hl : i < r.length
        · rw [cf_of_lt hl]
          exact h _ (List.getElem_mem hl)
        · rw [cf_of_ge (by omega)]
          exact Bits.sz (α := 0) ⟨by decide, by decide⟩ (by decide)
      refine ed_call (ea_cons (ed_ixL (ed_ixL (ds := [.list (pad 0), .list (pad 1)]) (ed_var e3 rfl) (ed_int 0) rfl) (ed_var e3 rfl) (pad_get p _ ?_)) (ea_cons (ed_ixL (ed_ixL (ds := [.list (pad 0), .list (pad 1)]) (ed_var e3 rfl) (ed_int 1) rfl) (ed_var e3 rfl) (pad_get q _ ?_)) ea_nil)) ⟨_, _, rfl, z sp, z sq, rfl⟩
      · show (i : Int) < (p.length : Int) + ((max (p.length : Int) (q.length : Int)) - (p.length : Int)) ∨ _
        omega
      · show (i : Int) < (q.length : Int) + ((max (p.length : Int) (q.length : Int)) - (q.length : Int)) ∨ _
        omega
    · rw [gv_all]
      have : ((max (p.length : Int) (q.length : Int))).toNat = max p.length q.length := by omega
      rw [this, add_row]
theorem ok_polyAt {f fP fT : Addr} {fd fdP fdT : FuncData} (F : Fun K "poly_at" "poly_at" sPolyAt f fd) (FP : Fun K "plus" "plus" sPlus fP fdP) (gP : mg "plus" = some (.ref fP)) (GP : FnOk P w K mg base CX0 3 fP fdP ["one", "other"] (PF K fPlus))
    (FT : Fun K "times" "times" sTimes fT fdT) (gT : mg "times" = some (.ref fT)) (GT : FnOk P w K mg base CX0 3 fT fdT ["one", "other"] (PF K fTimes)) : FnOk P w K mg base CX0 4 f fd ["one", "place"] (PF K fAt) := by
  have bP := FP.binds (ps := ["one", "other"]) fun _ _ _ _ _ _ us hl => match us, hl with | [_, _], _ => rfl
  have bT := FT.binds (ps := ["one", "other"]) fun _ _ _ _ _ _ us hl => match us, hl with | [_, _], _ => rfl
  refine F.ok scPolyAt (fun vs H Q E h => pf_len (n := 2) (fun ds r q => by obtain ⟨_, _, _, _, _, _, rfl, _⟩ := q; rfl) h) (fun cdv A outer s H vs Q E hr h => ?_)
  obtain ⟨ds, r, ha, ⟨p, x, s, a, b, c, rfl, bs, bx, bp, lp, hsz, rfl⟩, k⟩ := h
  refine ⟨_, pss_cons (ps_set (i := 2) scPolyAt.nd rfl (.inl rfl) (pe_tup (pa_cons pe_int (pa_cons pe_int pa_nil))))
    (pss_cons (ps_for PassesOwn.never rfl (pi_tup (pe_revT (pv 0))) (pg_name (i := 3) scPolyAt.nd rfl (.inl rfl))
      (pss_one (ps_set (i := 2) scPolyAt.nd rfl (.inl rfl) (pe_call GP hr (by rfl) gP FP.kp bP .nil pass0 (pa_cons (pe_call GT hr (by rfl) gT FT.kp bT .nil pass0 (pa_cons (pv 2) (pa_cons (pv 1) pa_nil))) (pa_cons (pv 3) pa_nil))))))
    (pss_one (ps_ret (pv 2)))), ?_⟩
  have he := env_start (N := ["one", "place", "found", "number"]) ha
  refine q_set he (ed_tup (ea_cons (ed_int 0) (ea_cons (ed_int 1) ea_nil)) (by simp)) fun v1 H1 s1 he1 => ?_
  have szE : ∀ i, Bits (a + b + 35 * c + 5 + 30 * c) (ev (p.drop i) x) := fun i => by
    have hl : (p.drop i).length ≤ 30 := by rw [List.length_drop]; omega
    refine (ev_bits bs bx (bp.drop i) (by omega)).mono ?_
    have e1 : c * (p.drop i).length ≤ c * 30 := Nat.mul_le_mul_left _ hl
    have e2 : (p.drop i).length * c ≤ 30 * c := Nat.mul_le_mul_right _ hl
    omega
  refine q_forT (ed_revT (ed_var he1 rfl)) (fun H2 i σ' H' => Same H H2 ∧ Same H2 H' ∧ ∃ S3, Env K H' σ' [some (PoD p), some (FrD x), some (FrD (ev (p.drop (p.length - i)) x)), S3]) (fun H2 s2 => ⟨s1.trans s2, Same.refl H2, none, ?_⟩) (fun _ _ _ _ inv => inv.2.1) (fun H2 i y d σ' H' hd hy inv => ?_) (fun H2 σ' H' inv => ?_)
  · rw [Nat.sub_zero, List.drop_length]
    exact he1.same s2
  · obtain ⟨s2, s3, S3, e3⟩ := inv
    have hi : i < p.length := by
      have := (List.getElem?_eq_some_iff.mp hd).1
      simpa using this
    have hdv : d = FrD (cf p (p.length - 1 - i)) := by
      rw [List.getElem?_reverse (by simpa using hi), List.length_map, List.getElem?_map, List.getElem?_eq_getElem (by omega)] at hd
      rw [cf_of_lt (by omega)]
      exact (Option.some.inj hd).symm
    subst hdv
    have e4 := e3.set (i := 3) hy
    have hx0 : ev (p.drop (p.length - i - 1)) x = ev (p.drop (p.length - i)) x * x + cf p (p.length - 1 - i) := by
      rw [ev_drop (by omega), show p.length - i - 1 = p.length - 1 - i by omega, show p.length - 1 - i + 1 = p.length - i by omega]
      grind
    have z1 := (szE (p.length - i)).sz (by omega)
    have z2 : Sz x := bx.sz (by omega)
    have z3 : Sz (ev (p.drop (p.length - i)) x * x) := ((szE (p.length - i)).mul bx).sz (by omega)
    have z4 : Sz (cf p (p.length - 1 - i)) := (bp.bits bs _).sz (by omega)
    show tAsg _ (gName 2) _ _ _
    refine (ed_call (ea_cons (ed_call (ea_cons (ed_var e4 rfl) (ea_cons (ed_var e4 rfl) ea_nil)) ⟨_, _, rfl, z1, z2, rfl⟩) (ea_cons (ed_var e4 rfl) ea_nil)) ⟨_, _, rfl, z3, z4, rfl⟩ : EvD K _ _ _ _) H' (Same.refl H') _ fun v5 H5 s5 hv => ?_
    rw [← hx0, show p.length - i - 1 = p.length - (i + 1) by omega] at hv
    exact ⟨s2, s3.trans s5, _, (e4.same s5).set (i := 2) hv⟩
  · obtain ⟨s2, s3, S3, e3⟩ := inv
    rw [List.length_reverse, List.length_map, Nat.sub_self, List.drop_zero] at e3
    exact q_ret (ed_var e3 rfl) fun v H4 s4 hv => k v H4 ((s2.trans s3).trans s4) hv
end
end K11
/-! divided_poly. -/
namespace K11
open PySem PySem.Spec PyProof.Rows L2
abbrev sDivided : Stmt := topS 20
theorem scDivided : FnScope ["one", "other", "left", "found", "shift", "factor", "k", "size"] ["one", "other"] (defScope sDivided) := ⟨rfl, rfl, rfl, by decide +kernel, rfl, by decide +kernel, by decide +kernel⟩
def fDiv : List PyData → PyData → Prop := fun ds r => ∃ (p q A B : List Rat) (s t : Rat) (a a' b c c' d : Nat), ds = [PoD p, PoD q] ∧ Tr p ∧ Tr q ∧ q ≠ [] ∧ s ≠ 0 ∧ t ≠ 0 ∧ Bt a a' s ∧ Bt c c' t ∧ Bd s (2 ^ b) p ∧ Bd t (2 ^ d) q ∧ p.length ≤ 30 ∧ q.length ≤ 30 ∧ a + c' + b + (p.length + 1 - q.length) * (d + 1) < 4000 ∧ a' + c + (p.length + 1 - q.length) * d < 4000 ∧ c + d < 4000 ∧ Qr p q A B ∧ r = .tuple [PoD A, PoD B]
theorem putK_mem {kvs : List (Key × V)} {k : Key} {v : V} {e : Key × V} (h : e ∈ putK kvs k v) : e.1 = k ∨ ∃ e0 ∈ kvs, e0.1 = e.1 := by
  unfold putK at h
  split at h
  · obtain ⟨e0, h0, rfl⟩ := List.mem_map.mp h
    right
    refine ⟨e0, h0, ?_⟩
    split <;> rfl
  · rcases List.mem_append.mp h with h | h
    · exact .inr ⟨e, h, rfl⟩
    · left
      rw [List.mem_singleton.mp h]
/-- the dict's numbers -/
structure DctIs (K : PySem.W.Frag) (H : Hp) (kvs : List (Key × V)) (f : List Rat) (n : Nat) : Prop where
  len : kvs.length ≤ n
  keys : ∀ e ∈ kvs, ∃ k : Nat, e.1 = Sum.inl (k : Int) ∧ k < 30
  at' : ∀ k : Nat, (∃ v, valV kvs (Sum.inl (k : Int) : Key) = some v ∧ Dp K H v (FrD (cf f k))) ∨ (valV kvs (Sum.inl (k : Int) : Key) = none ∧ cf f k = 0)
theorem DctIs.tk {K : PySem.W.Frag} {H H' : Hp} {kvs : List (Key × V)} {f : List Rat} {n : Nat} (h : DctIs K H kvs f n) (e : TK K H H') : DctIs K H' kvs f n := ⟨h.len, h.keys, fun k => by
  rcases h.at' k with ⟨v, a, b⟩ | z
  · exact .inl ⟨v, a, dp_tk e (fz_fr _) b⟩
  · exact .inr z⟩
theorem DctIs.put {K : PySem.W.Frag} {H : Hp} {kvs : List (Key × V)} {f : List Rat} {n k : Nat} {v : V} {y : Rat} (h : DctIs K H kvs f n) (hv : Dp K H v (FrD y)) (h0 : cf f k = 0) (hk : k < 30) :
    DctIs K H (putK kvs (Sum.inl (k : Int)) v) (addL f (List.replicate k 0 ++ [y])) (n + 1) := ⟨by
  have := length_putK kvs (Sum.inl (k : Int) : Key) v
  have := h.len
  omega, fun e he => by
  rcases putK_mem he with z | ⟨e0, h1, h2⟩
  · exact ⟨k, z, hk⟩
  · obtain ⟨m, a, b⟩ := h.keys e0 h1
    exact ⟨m, h2 ▸ a, b⟩, fun m => by
  rw [valV_put, cf_addL]
  by_cases hm : m = k
  · subst hm
    left
    rw [if_pos rfl, cf_shift_ge _ (Nat.le_refl _), Nat.sub_self, cf_zero, h0]
    refine ⟨v, rfl, ?_⟩
    rwa [show (0 : Rat) + y = y by grind]
  · have hne : ¬ ((Sum.inl (m : Int) : Key) = Sum.inl (k : Int)) := fun z => hm (by
      have := Sum.inl.inj z
      omega)
    have hc : cf (List.replicate k 0 ++ [y]) m = 0 := by
      by_cases hl : m < k
      · exact cf_shift_lt _ hl
      · rw [cf_shift_ge _ (by omega)]
        exact cf_of_ge (by simp; omega)
    rw [if_neg hne, hc, show cf f m + 0 = cf f m by grind]
    exact h.at' m⟩
theorem max_ex : ∀ ns : List Int, ns ≠ [] → ∃ m ∈ ns, ∀ y ∈ ns, y ≤ m
  | [x], _ => ⟨x, by simp, fun y hy => by simp at hy; omega⟩
  | x :: y :: r, _ => by
    obtain ⟨m, h1, h2⟩ := max_ex (y :: r) (by simp)
    by_cases h : x ≤ m
    · exact ⟨m, List.mem_cons_of_mem _ h1, fun z hz => by
        rcases List.mem_cons.mp hz with e | e
        · omega
        · exact h2 z e⟩
    · exact ⟨x, by simp, fun z hz => by
        rcases List.mem_cons.mp hz with e | e
        · omega
        · have := h2 z e
          omega⟩
theorem dpa_ints {K : PySem.W.Frag} {H : Hp} : ∀ {ns : List Int} {vs : List V}, DpAll K H vs (ns.map PyData.int) → vs = ns.map V.int
  | [], _, h => by cases h; rfl
  | n :: ns, _, h => by
    cases h with
    | cons a b =>
      cases a
      rw [dpa_ints b]
      rfl
theorem dpa_int {K : PySem.W.Frag} {H : Hp} : ∀ ns : List Int, DpAll K H (ns.map V.int) (ns.map PyData.int)
  | [] => .nil
  | n :: ns => .cons (.int n) (dpa_int ns)
theorem keys_int {K : PySem.W.Frag} {H : Hp} {f : List Rat} {n : Nat} : ∀ {kvs : List (Key × V)}, (∀ e ∈ kvs, ∃ k : Nat, e.1 = Sum.inl (k : Int) ∧ k < 30) → ∃ ns : List Int, kvs.map (fun kv => kV kv.1) = ns.map V.int ∧ (∀ m ∈ ns, ∃ k : Nat, m = (k : Int) ∧ k < 30) ∧ (∀ k : Nat, ∀ v, valV kvs (Sum.inl (k : Int) : Key) = some v → (k : Int) ∈ ns) ∧ ns.length = kvs.length
  | [], _ => ⟨[], rfl, by simp, fun k v e => by simp [valV_nil] at e, rfl⟩
  | e :: kvs, h => by
    obtain ⟨ns, a, b, c, d⟩ := keys_int (K := K) (H := H) (f := f) (n := n) fun e he => h e (List.mem_cons_of_mem _ he)
    obtain ⟨k, hk, hk2⟩ := h e List.mem_cons_self
    refine ⟨(k : Int) :: ns, ?_, fun m hm => ?_, fun j v hv => ?_, by simp [d]⟩
    · rw [List.map_cons, List.map_cons, a, hk]
      rfl
    · rcases List.mem_cons.mp hm with z | z
      · exact ⟨k, z, hk2⟩
      · exact b m z
    · by_cases z : e.1 = (Sum.inl (j : Int) : Key)
      · rw [hk] at z
        have := Sum.inl.inj z
        rw [← this]
        exact List.mem_cons_self
      · rw [valV_neg z] at hv
        exact List.mem_cons_of_mem _ (c j v hv)
section
variable {K : PySem.W.Frag} {H H' : Hp} {σ : L2.St} {i j : Nat} {te ta tb : TE}
theorem q_pairLD {D : Ends} {tz : TS} {ds : List PyData} (h : EvL K ta σ H ds) (k : ∀ (l dd : Addr) (vs : List V) H', H l = none → H dd = none → l ≠ dd → Same H H' → H' l = some (.lst vs) → DpAll K H' vs ds → H' dd = some (.dK []) → tz D ((σ.set i (some (.ref l))).set j (some (.ref dd))) H') :
    tSeq (tAsg (tTup (tCons ta (tCons tDNewK tNil))) (gTup K 2 (gCons (gName i) (gCons (gName j) gNil)))) tz D σ H := by
  refine h H (Same.refl H) _ fun l0 ys0 H1 hl0 s1 hl1 hd1 => ?_
  intro dd hdd
  refine ⟨by show 2 ≤ sizeLine; decide, fun tt htt => ?_⟩
  have s2 : Same H1 (upd (upd H1 dd (.dK [])) tt (.tup [.ref l0, .ref dd])) := (same_upd hdd).trans (same_upd htt)
  have ndl : dd ≠ l0 := fun z => by rw [z, hl1] at hdd; cases hdd
  have ntl : l0 ≠ tt := fun z => by
    rw [← z, upd_ne ndl.symm, hl1] at htt
    cases htt
  have ntd : dd ≠ tt := fun z => by
    rw [← z, upd_same] at htt
    cases htt
  refine ⟨tt, [.ref l0, .ref dd], rfl, .inl (.inl upd_same), rfl, .ref l0, [.ref dd], rfl, .ref dd, [], rfl, rfl, ?_⟩
  refine k l0 dd ys0 _ hl0 (s1.free hdd) ndl.symm (s1.trans s2) ?_ (dpa_same s2 hd1) ?_
  · rw [upd_ne ntl, upd_ne ndl.symm]
    exact hl1
  · rw [upd_ne ntd]
    exact upd_same
theorem q_dput {D : Ends} {tz : TS} {dd : Addr} {kvs : List (Key × V)} {k : Nat} {d : PyData} (hσ : σ[i]? = some (some (.ref dd))) (hd : H dd = some (.dK kvs)) (hk : EvD K ta σ H (.int (k : Int))) (hv : EvD K te σ H d) (hl : kvs.length ≤ 1000)
    (kk : ∀ v H', Same H H' → Dp K H' v d → tz D σ (upd H' dd (.dK (putK kvs (Sum.inl (k : Int)) v)))) : tSeq (sDPut (tVar i) ta te) tz D σ H :=
  hv H (Same.refl H) _ fun v H1 s1 a1 => ⟨_, hσ, hk H1 s1 _ fun y H2 s2 a2 => by
    cases a2
    exact ⟨dd, _, rfl, DPut.k (k := (Sum.inl (k : Int) : Key)) (s2 _ _ (s1 _ _ hd)) (small1000 hl), kk v H2 (s1.trans s2) (dp_same s2 a1)⟩⟩
theorem ed_maxL {ns : List Int} {m : Int} (h : EvD K ta σ H (.list (ns.map PyData.int))) (h1 : m ∈ ns) (h2 : ∀ y ∈ ns, y ≤ m) : EvD K (tCB (rMax K) (tCons ta tNil)) σ H (.int m) := fun H1 e1 Q q => h H1 e1 _ fun v H2 s a => by
  cases a with
  | lst hs hd =>
    rw [dpa_ints hd] at hs
    refine ⟨_, ns, rfl, hs, List.length_pos_of_mem h1, fun m' a b => ?_⟩
    have : m' = m := Int.le_antisymm (h2 m' a) (b m h1)
    subst this
    exact q _ H2 s (.int _)
/-- list(d) of a dict with int keys -/
theorem el_keys {dd : Addr} {kvs : List (Key × V)} {ns : List Int} (hσ : σ[i]? = some (some (.ref dd))) (hd : H dd = some (.dK kvs)) (hn : kvs.map (fun kv => kV kv.1) = ns.map V.int) : EvL K (tCB rListD (tCons (tVar i) tNil)) σ H (ns.map PyData.int) := fun H1 e1 Q q =>
  ⟨_, hσ, dd, kvs, rfl, e1 _ _ hd, fun p hp => q p _ _ hp (same_upd hp) upd_same (by
    rw [hn]
    exact dpa_int _)⟩
/-- d.get(k, x) of the numbers' dict -/
theorem ed_get {dd : Addr} {kvs : List (Key × V)} {f : List Rat} {n k : Nat} (hσ : σ[i]? = some (some (.ref dd))) (hd : H dd = some (.dK kvs)) (hf : DctIs K H kvs f n) (hk : EvD K ta σ H (.int (k : Int))) (hx : EvD K tb σ H (FrD 0)) : EvD K (tDGet2 (tVar i) ta tb) σ H (FrD (cf f k)) := fun H1 e1 Q q => by
  refine ⟨_, hσ, dd, rfl, .inl ⟨kvs, .inl (e1 _ _ hd)⟩, hk H1 e1 _ fun y H2 s2 a2 => hx H2 (e1.trans s2) _ fun z H3 s3 a3 => ?_⟩
  cases a2
  have hd3 := s3 _ _ (s2 _ _ (e1 _ _ hd))
  refine ⟨_, DGet.k (k := (Sum.inl (k : Int) : Key)) hd3, ?_⟩
  rcases hf.at' k with ⟨v, a, b⟩ | ⟨a, b⟩
  · rw [a]
    exact q v H3 (s2.trans s3) (dp_same ((e1.trans s2).trans s3) b)
  · rw [a]
    show Q z H3
    rw [b] at q
    exact q z H3 (s2.trans s3) a3
end
/-- a cut under way -/
structure PCut (L q : List Rat) (f : Rat) (n kk : Nat) (L' : List Rat) : Prop where
  len : L'.length = L.length
  same : ∀ k, k < n ∨ n + kk ≤ k → cf L' k = cf L k
  high : ∀ k, n ≤ k → k < n + kk → cf L' k = cf L k - f * cf q (k - n)
theorem PCut.first (L q : List Rat) (f : Rat) (n : Nat) : PCut L q f n 0 L := ⟨rfl, fun _ _ => rfl, fun k h1 h2 => by omega⟩
theorem PCut.step {L q L' : List Rat} {f : Rat} {n kk : Nat} (h : PCut L q f n kk L') (hk : n + kk < L.length) : PCut L q f n (kk + 1) (L'.set (n + kk) (cf L' (n + kk) - f * cf q kk)) := ⟨by rw [List.length_set]; exact h.len, fun k hk2 => by
  rw [cf_set_ne _ (by omega)]
  exact h.same k (by omega), fun k h1 h2 => by
  by_cases e : n + kk = k
  · subst e
    rw [cf_set_self _ (by rw [h.len]; exact hk), h.same _ (.inr (Nat.le_refl _)), show n + kk - n = kk by omega]
  · rw [cf_set_ne _ e]
    exact h.high k h1 (by omega)⟩
theorem PCut.done {L q L' : List Rat} {f : Rat} {n : Nat} (h : PCut L q f n q.length L') : Cut L q f n L' := ⟨h.len, fun k hk => h.same k (.inl hk), fun k hk => by
  by_cases hk2 : k < n + q.length
  · exact h.high k hk hk2
  · rw [h.same k (.inr (by omega)), cf_of_ge (p := q) (by omega)]
    grind⟩
section
variable {P : Program} {w : World} {K : PySem.W.Frag} {mg : Str → Option Value} {base : Heap}
theorem ok_divP {f fM fT fO fTm : Addr} {fd fdM fdT fdO fdTm : FuncData} (F : Fun K "divided_poly" "divided_poly" sDivided f fd) (FM : Fun K "minus" "minus" sMinus fM fdM) (gM : mg "minus" = some (.ref fM)) (GM : FnOk P w K mg base CX0 3 fM fdM ["one", "other"] (PF K fMinus))
    (FT : Fun K "times" "times" sTimes fT fdT) (gT : mg "times" = some (.ref fT)) (GT : FnOk P w K mg base CX0 3 fT fdT ["one", "other"] (PF K fTimes)) (FO : Fun K "over" "over" sOver fO fdO) (gO : mg "over" = some (.ref fO)) (GO : FnOk P w K mg base CX0 3 fO fdO ["one", "other"] (PF K fOver))
    (FR : Fun K "trimmed" "trimmed" sTrimmed fTm fdTm) (gR : mg "trimmed" = some (.ref fTm)) (GR : FnOk P w K mg base CX0 1 fTm fdTm ["row"] (PF K fTrim)) (mLen : mg "len" = none) (mR : mg "range" = none) (mM : mg "max" = none) (mL : mg "list" = none) : FnOk P w K mg base CX0 4 f fd ["one", "other"] (PF K fDiv) := by
  have bM := FM.binds (ps := ["one", "other"]) fun _ _ _ _ _ _ us hl => match us, hl with | [_, _], _ => rfl
  have bT := FT.binds (ps := ["one", "other"]) fun _ _ _ _ _ _ us hl => match us, hl with | [_, _], _ => rfl
  have bO := FO.binds (ps := ["one", "other"]) fun _ _ _ _ _ _ us hl => match us, hl with | [_, _], _ => rfl
  have bR := FR.binds (ps := ["row"]) fun _ _ _ _ _ _ us hl => match us, hl with | [_], _ => rfl
  refine F.ok scDivided (fun vs H Q E h => pf_len (n := 2) (fun ds r q => by obtain ⟨_, _, _, _, _, _, _, _, _, _, _, _, rfl, _⟩ := q; rfl) h) (fun cdv A0 outer s0 H vs Q E hr h => ?_)
  obtain ⟨ds, r, ha, ⟨p, q, A, B, s, t, a, a', b, c, c', d, rfl, tp, tq, q0, s0', t0, bs, bt, bp, bq, lp, lq, hsz, hsz', hsz3, hqr, rfl⟩, k⟩ := h
  have hr1 : Room 1 _ := hr.mono (by decide)
  have hu := hu_of hr
  refine ⟨_, pss_cons (ps_asg (pe_tup (pa_cons (pe_callTy call_list_of (by rfl) mL (by decide +kernel) (pa_cons (pv 0) pa_nil)) (pa_cons pe_dnewK pa_nil))) (pg_tup rfl (pgs_cons (pg_name (i := 2) scDivided.nd rfl (.inl rfl)) (pgs_cons (pg_name (i := 3) scDivided.nd rfl (.inr rfl)) pgs_nil))))
    (pss_cons (ps_while PassesOwn.never (pt_cmpR op_ge (pe_callB call_len_seq (by rfl) mLen boot_len (pa_cons (pv 2) pa_nil)) (pe_callB call_len_seq (by rfl) mLen boot_len (pa_cons (pv 1) pa_nil)) (nomark _))
      (pss_cons (ps_set (i := 4) scDivided.nd rfl (.inl rfl) (pe_op op_sub (pe_callB call_len_seq (by rfl) mLen boot_len (pa_cons (pv 2) pa_nil)) (pe_callB call_len_seq (by rfl) mLen boot_len (pa_cons (pv 1) pa_nil))))
      (pss_cons (ps_set (i := 5) scDivided.nd rfl (.inl rfl) (pe_call GO hr (by rfl) gO FO.kp bO .nil pass0 (pa_cons (pe_ix ix_list (pv 2) (pe_un un_neg pe_int) (fun _ _ => rfl)) (pa_cons (pe_ix ix_tup (pv 1) (pe_un un_neg pe_int) (fun _ _ => rfl)) pa_nil))))
      (pss_cons (ps_dput hu (pv 3) (pv 4) (pv 5) rfl)
      (pss_cons (ps_for PassesOwn.never rfl (pi_range1 (by rfl) mR (pa_cons (pe_callB call_len_seq (by rfl) mLen boot_len (pa_cons (pv 1) pa_nil)) pa_nil)) (pg_name (i := 6) scDivided.nd rfl (.inl rfl))
        (pss_one (ps_asg (pe_call GM hr (by rfl) gM FM.kp bM .nil pass0 (pa_cons (pe_ix ix_list (pv 2) (pe_op op_add (pv 4) (pv 6)) (fun _ _ => rfl)) (pa_cons (pe_call GT hr (by rfl) gT FT.kp bT .nil pass0 (pa_cons (pv 5) (pa_cons (pe_ix ix_tup (pv 1) (pv 6) (fun _ _ => rfl)) pa_nil))) pa_nil)))
          (pg_sub (pv 2) (pe_op op_add (pv 4) (pv 6)) set_list))))
      (pss_one (ps_set (i := 2) scDivided.nd rfl (.inl rfl) (pe_callTy call_list_of (by rfl) mL (by decide +kernel) (pa_cons (pe_call GR hr1 (by rfl) gR FR.kp bR .nil pass0 (pa_cons (pe_slice sl_list (pv 2) po_none (po_some (pe_un un_neg pe_int))) pa_nil)) pa_nil)))))))))
    (pss_cons (ps_set (i := 7) scDivided.nd rfl (.inl rfl) (pe_op op_add (pe_callB (cr_max rfl) (by rfl) mM (by decide +kernel) (pa_cons (pe_op op_cat (pe_lst (pa_cons (pe_op op_sub pe_int pe_int) pa_nil)) (pe_callTy (call_list_dK rfl) (by rfl) mL (by decide +kernel) (pa_cons (pv 3) pa_nil))) pa_nil)) pe_int))
    (pss_one (ps_ret (pe_tup (pa_cons (pe_call GR hr1 (by rfl) gR FR.kp bR .nil pass0 (pa_cons (pe_lc (own := [("k", 6)]) (g := gName 6) (tt := tYes) rfl scDivided.nd (pi_range1 (by rfl) mR (pa_cons (pv 7) pa_nil)) (blkOk_by (N := ["one", "other", "left", "found", "shift", "factor", "k", "size"]) (sc := defScope sDivided) (by decide +kernel)) (fun _ _ _ _ _ => pg_name (i := 6) scDivided.nd rfl (.inl rfl)) (fun _ _ _ _ _ => pts_nil)
      (fun _ _ _ _ _ => pe_dget2 hu (pv 3) (pv 6) (pe_tup (pa_cons pe_int (pa_cons pe_int pa_nil))) ⟨rfl, rfl, rfl, rfl⟩)) pa_nil)) (pa_cons (pe_call GR hr1 (by rfl) gR FR.kp bR .nil pass0 (pa_cons (pv 2) pa_nil)) pa_nil))))))), ?_⟩
  have he := env_start (N := ["one", "other", "left", "found", "shift", "factor", "k", "size"]) ha
  have hlen8 : (L2.start ["one", "other", "left", "found", "shift", "factor", "k", "size"] vs).length = 8 := he.1
  -- left, found = list(one), {}
  refine q_pairLD (el_listT (ed_var he rfl)) fun l0 dd ys0 H1 hl0 hd0 ndl s1 hl1 hd1 hdd1 => ?_
  obtain ⟨w0, hw0, hwM⟩ := last_int bq
  have w00 : (w0 : Rat) ≠ 0 := fun z => tq q0 (by rw [hw0, z]; grind)
  have lq0 : 0 < q.length := List.length_pos_iff.mpr q0
  let Inv : Nat → L2.St → Hp → Prop := fun m σ' H' => ∃ (i : Nat) (L f : List Rat) (l : Addr) (xs : List V) (kvs : List (Key × V)), Same H H' ∧ Env K H' σ' [some (PoD p), some (PoD q), none, none, none, none, none, none] ∧ σ'[2]? = some (some (.ref l)) ∧ H l = none ∧ H' l = some (.lst xs) ∧ DpAll K H' xs (L.map FrD) ∧
    σ'[3]? = some (some (.ref dd)) ∧ H' dd = some (.dK kvs) ∧ DctIs K H' kvs f i ∧ DS p q s w0 (2 ^ b) (2 ^ d) i L f ∧ m = L.length
  refine q_while Inv p.length ⟨0, p, [], l0, ys0, [], s1, ((he.same s1).put (i := 2) _).put (i := 3) _, ?_, hl0, hl1, hd1, ?_, hdd1, ⟨Nat.le_refl _, fun e he => by simp at he, fun k => .inr ⟨rfl, cf_nil k⟩⟩, DS.first bp tp, rfl⟩ fun m σ' H' inv => ?_
  · rw [List.getElem?_set_ne (by decide)]
    exact List.getElem?_set_self (by rw [hlen8]; decide)
  · exact List.getElem?_set_self (by rw [List.length_set, hlen8]; decide)
  obtain ⟨i, L, f', l, xs, kvs, s', e', hσ2, hl, hl', hdL, hσ3, hdd', hdct, ds, hm⟩ := inv
  have eL : EvD K (tVar 2) σ' H' (.list (L.map FrD)) := ed_lst hσ2 hl' hdL
  have lenL : L.length ≤ p.length := by have := ds.len; omega
  refine ⟨_, eb_cmpI (ed_lenL eL) (ed_lenT (ed_var (i := 1) e' rfl)), fun hb H2 s2 => ?_, fun hb H2 s2 => ?_⟩
  · -- one turn
    have hge : q.length ≤ L.length := by
      rw [List.length_map, List.length_map] at hb
      have := of_decide_eq_true hb
      omega
    have hi : i ≤ p.length - q.length := by have := ds.len; omega
    have e2 := e'.same s2
    have eL2 := eL.same s2
    -- shift
    refine q_set e2 ((ed_sub (ed_lenL eL2) (ed_lenT (ed_var (i := 1) e2 rfl))).is (d' := .int ((L.length - q.length : Nat) : Int)) (by rw [List.length_map, List.length_map, Int.ofNat_sub hge])) fun v3 H3 s3 e3 => ?_
    have g2 : ∀ {σ2 : L2.St} {x : Option V} {j : Nat}, 4 ≤ j → σ2[2]? = some (some (.ref l)) → (σ2.set j x)[2]? = some (some (.ref l)) := fun hj h => by rw [List.getElem?_set_ne (by omega)]; exact h
    have g3 : ∀ {σ2 : L2.St} {x : Option V} {j : Nat}, 4 ≤ j → σ2[3]? = some (some (.ref dd)) → (σ2.set j x)[3]? = some (some (.ref dd)) := fun hj h => by rw [List.getElem?_set_ne (by omega)]; exact h
    have s23 := s2.trans s3
    have eL3 : EvD K (tVar 2) _ H3 (.list (L.map FrD)) := ed_lst (g2 (j := 4) (x := some v3) (Nat.le_refl _) hσ2) (s23 _ _ hl') (dpa_same s23 hdL)
    -- factor
    have lastL : atI (L.map FrD) (-1) = some (FrD (cf L (L.length - 1))) := by
      have hL0 : L ≠ [] := List.length_pos_iff.mp (by omega)
      have := atI_last (L.dropLast.map FrD) (FrD (L.getLast hL0))
      rw [← List.map_singleton, ← List.map_append, List.dropLast_concat_getLast] at this
      rw [this, List.getLast_eq_getElem, cf_of_lt (by omega)]
    have lastq : atI (q.map FrD) (-1) = some (FrD (cf q (q.length - 1))) := by
      have := atI_last (q.dropLast.map FrD) (FrD (q.getLast q0))
      rw [← List.map_singleton, ← List.map_append, List.dropLast_concat_getLast] at this
      rw [this, List.getLast_eq_getElem, cf_of_lt (by omega)]
    have bw : Bt a (a' + i * d) (s / (w0 : Rat) ^ i) := (bs.div ((Bt.int hwM).pow _) (rpow_ne w00 _)).mono (by omega) (Nat.le_refl _)
    have bdL : Bd (s / (w0 : Rat) ^ i) (2 ^ (b + i * (d + 1))) L := by
      have := ds.bd
      rwa [show 2 ^ b * (2 * 2 ^ d) ^ i = 2 ^ (b + i * (d + 1)) by rw [Nat.pow_add, Nat.mul_comm i, Nat.pow_mul, Nat.pow_succ, Nat.mul_comm 2]] at this
    have hi1 : i + 1 ≤ p.length + 1 - q.length := by omega
    have hm1 : (i + 1) * (d + 1) ≤ (p.length + 1 - q.length) * (d + 1) := Nat.mul_le_mul_right _ hi1
    have hm2 : (i + 1) * d ≤ (p.length + 1 - q.length) * d := Nat.mul_le_mul_right _ hi1
    have x1 : (i + 1) * (d + 1) = i * (d + 1) + (d + 1) := by rw [Nat.add_mul i 1, Nat.one_mul]
    have x2 : (i + 1) * d = i * d + d := by rw [Nat.add_mul i 1, Nat.one_mul]
    have hq1 : cf q (q.length - 1) ≠ 0 := tq q0
    have zL : ∀ k, Sz (cf L k) := fun k => (bdL.bt bw k).sz (by omega) (by omega)
    have zq : ∀ k, Sz (cf q k) := fun k => (bq.bt bt k).sz (by omega) (by omega)
    obtain ⟨m1, hm1', bm1⟩ := bdL (L.length - 1)
    have bw1 : Bt a (a' + (i + 1) * d) (s / (w0 : Rat) ^ (i + 1)) := (bs.div ((Bt.int hwM).pow _) (rpow_ne w00 _)).mono (by omega) (Nat.le_refl _)
    have wi := rpow_ne w00 i
    have hfac : cf L (L.length - 1) / cf q (q.length - 1) = (s / (w0 : Rat) ^ (i + 1)) / t * (m1 : Rat) := by
      rw [hm1', hw0, Rat.pow_succ]
      generalize (w0 : Rat) ^ i = W at *
      generalize (w0 : Rat) = ww at *
      grind
    have zf : Sz (cf L (L.length - 1) / cf q (q.length - 1)) := by
      rw [hfac]
      exact ((bw1.div bt t0).mul (Bt.int bm1)).sz (by omega) (by omega)
    have zfq : ∀ k, Sz (cf L (L.length - 1) / cf q (q.length - 1) * cf q k) := fun k => by
      obtain ⟨ck, hck, bck⟩ := bq k
      have : cf L (L.length - 1) / cf q (q.length - 1) * cf q k = (s / (w0 : Rat) ^ (i + 1)) * ((m1 : Rat) * (ck : Rat)) := by
        rw [hfac, hck]
        grind
      rw [this]
      exact (bw1.mul ((Bt.int bm1).mul (Bt.int bck))).sz (by omega) (by omega)
    generalize hFf : cf L (L.length - 1) / cf q (q.length - 1) = fac at *
    refine q_set e3 (ed_call (ea_cons (ed_ixL eL3 (ed_neg (ed_int 1)) lastL) (ea_cons (ed_ixT (ed_var (i := 1) e3 rfl) (ed_neg (ed_int 1)) lastq) ea_nil)) ⟨_, _, rfl, zL _, zq _, hq1, rfl⟩) fun v4 H4 s4 e4 => ?_
    rw [hFf] at e4
    -- found[shift] = factor
    have s24 := s23.trans s4
    have h3 : (((σ'.set 4 (some v3)).set 5 (some v4)))[3]? = some (some (.ref dd)) := g3 (by omega) (g3 (by omega) hσ3)
    have h2 : (((σ'.set 4 (some v3)).set 5 (some v4)))[2]? = some (some (.ref l)) := g2 (by omega) (g2 (by omega) hσ2)
    refine q_dput (k := L.length - q.length) h3 (s24 _ _ hdd') (ed_var (i := 4) e4 rfl) (ed_var (i := 5) e4 rfl) (by have := hdct.len; have := ds.len; omega) fun v5 H6 s6 hv5 => ?_
    have s26 := s24.trans s6
    have hdd6 := s26 _ _ hdd'
    have hl6 := s26 _ _ hl'
    have e5 := e4.same s6
    have tk7 : TK K H6 (upd H6 dd (.dK (putK kvs (Sum.inl ((L.length - q.length : Nat) : Int)) v5))) := TK.updK hdd6
    have nld : l ≠ dd := ne_of hl6 hdd6 (by intro z; cases z)
    have s7 : Same H (upd H6 dd (.dK (putK kvs (Sum.inl ((L.length - q.length : Nat) : Int)) v5))) := same_mut (s'.trans s26) hd0
    have fE : fzE [some (PoD p), some (PoD q), none, none, some (PyData.int ((L.length - q.length : Nat) : Int)), some (FrD fac), none, none] := fzE_some (fz_po p) (fzE_some (fz_po q) (fzE_none (fzE_none (fzE_some rfl (fzE_some (fz_fr _) (fzE_none (fzE_none fzE_nil)))))))
    have e7 : Env K (upd H6 dd (.dK (putK kvs (Sum.inl ((L.length - q.length : Nat) : Int)) v5))) ((σ'.set 4 (some v3)).set 5 (some v4)) [some (PoD p), some (PoD q), none, none, some (PyData.int ((L.length - q.length : Nat) : Int)), some (FrD fac), none, none] := e5.tk tk7 fE
    have dct7 : DctIs K (upd H6 dd (.dK (putK kvs (Sum.inl ((L.length - q.length : Nat) : Int)) v5))) (putK kvs (Sum.inl ((L.length - q.length : Nat) : Int)) v5) (addL f' (List.replicate (L.length - q.length) 0 ++ [fac])) (i + 1) :=
      ((hdct.tk (TK.same s26)).put hv5 (ds.key _ (by omega)) (by omega)).tk tk7
    have hl7 : (upd H6 dd (.dK (putK kvs (Sum.inl ((L.length - q.length : Nat) : Int)) v5))) l = some (.lst xs) := by rw [upd_ne nld]; exact hl6
    have hd7 := dpa_tk tk7 (fzs_fr L) (dpa_same s26 hdL)
    have hdd7 : (upd H6 dd (.dK (putK kvs (Sum.inl ((L.length - q.length : Nat) : Int)) v5))) dd = some (.dK (putK kvs (Sum.inl ((L.length - q.length : Nat) : Int)) v5)) := upd_same
    generalize upd H6 dd (.dK (putK kvs (Sum.inl ((L.length - q.length : Nat) : Int)) v5)) = H7 at *
    generalize putK kvs (Sum.inl ((L.length - q.length : Nat) : Int)) v5 = kvs7 at *
    -- the inner loop
    refine q_forR (ea_cons (ed_lenT (ed_var (i := 1) e7 rfl)) ea_nil) (by rw [List.length_map]; omega) (fun kk σ8 H8 => ∃ (fl : List Rat) (ys : List V) (S6 : Option PyData), Same H H8 ∧ Env K H8 σ8 [some (PoD p), some (PoD q), none, none, some (PyData.int ((L.length - q.length : Nat) : Int)), some (FrD fac), S6, none] ∧ σ8[2]? = some (some (.ref l)) ∧ σ8[3]? = some (some (.ref dd)) ∧
      H8 l = some (.lst ys) ∧ DpAll K H8 ys (fl.map FrD) ∧ H8 dd = some (.dK kvs7) ∧ DctIs K H8 kvs7 (addL f' (List.replicate (L.length - q.length) 0 ++ [fac])) (i + 1) ∧ PCut L q fac (L.length - q.length) kk fl)
      (fun H8 s8 => ⟨L, xs, none, s7.trans s8, e7.same s8, h2, h3, s8 _ _ hl7, dpa_same s8 hd7, s8 _ _ hdd7, dct7.tk (TK.same s8), PCut.first ..⟩) (fun kk σ8 H8 hk inv => ?_) (fun σ8 H8 inv => ?_)
    · obtain ⟨fl, ys, S6, s8, e8, h82, h83, hl8, hd8, hdd8, dct8, pc⟩ := inv
      rw [List.length_map] at hk
      have hkq : kk < q.length := by omega
      have e9 := e8.set (i := 6) (Dp.int (kk : Int))
      have h92 : (σ8.set 6 (some (V.int (kk : Int))))[2]? = some (some (.ref l)) := g2 (by omega) h82
      have h93 : (σ8.set 6 (some (V.int (kk : Int))))[3]? = some (some (.ref dd)) := g3 (by omega) h83
      have eF : EvD K (tVar 2) _ H8 (.list (fl.map FrD)) := ed_lst h92 hl8 hd8
      have hix : L.length - q.length + kk < fl.length := by rw [pc.len]; omega
      have ix : EvD K (tOp (rI0 fun i j => .int (i + j)) (tVar 4) (tVar 6)) (σ8.set 6 (some (V.int (kk : Int)))) H8 (.int ((L.length - q.length + kk : Nat) : Int)) := by
        rw [Int.natCast_add]
        exact ed_add (ed_var (i := 4) e9 rfl) (ed_var (i := 6) e9 rfl)
      have zc : Sz (cf fl (L.length - q.length + kk)) := by
        rw [pc.same _ (.inr (Nat.le_refl _))]
        exact zL _
      refine q_setixl h92 hl8 (ed_call (ea_cons (ed_ixL eF ix (po_get hix)) (ea_cons (ed_call (ea_cons (ed_var (i := 5) e9 rfl) (ea_cons (ed_ixT (ed_var (i := 1) e9 rfl) (ed_var (i := 6) e9 rfl) (po_get hkq)) ea_nil)) ⟨_, _, rfl, zf, zq _, rfl⟩) ea_nil)) ⟨_, _, rfl, zc, zfq _, rfl⟩) ix (by rw [dpa_len hd8, List.length_map]; exact hix) fun v H9 s9 hv => ?_
      have hl9 := s9 _ _ hl8
      have tk9 : TK K H9 (upd H9 l (.lst (ys.set (L.length - q.length + kk) v))) := TK.upd hl9
      have fE9 : fzE [some (PoD p), some (PoD q), none, none, some (PyData.int ((L.length - q.length : Nat) : Int)), some (FrD fac), some (PyData.int (kk : Int)), none] := fzE_some (fz_po p) (fzE_some (fz_po q) (fzE_none (fzE_none (fzE_some rfl (fzE_some (fz_fr _) (fzE_some rfl (fzE_none fzE_nil)))))))
      have e10 : Env K (upd H9 l (.lst (ys.set (L.length - q.length + kk) v))) (σ8.set 6 (some (V.int (kk : Int)))) [some (PoD p), some (PoD q), none, none, some (PyData.int ((L.length - q.length : Nat) : Int)), some (FrD fac), some (PyData.int (kk : Int)), none] := (e9.same s9).tk tk9 fE9
      refine ⟨fl.set (L.length - q.length + kk) (cf fl (L.length - q.length + kk) - fac * cf q kk), ys.set (L.length - q.length + kk) v, some (PyData.int (kk : Int)), same_mut (s8.trans s9) hl, e10, h92, h93, upd_same, ?_, by rw [upd_ne nld.symm]; exact s9 _ _ hdd8, (dct8.tk (TK.same s9)).tk tk9, pc.step (by omega)⟩
      rw [List.map_set]
      exact dpa_set (dp_tk tk9 (fz_fr _) hv) _ (dpa_tk tk9 (fzs_fr fl) (dpa_same s9 hd8))
    · obtain ⟨fl, ys, S6, s8, e8, h82, h83, hl8, hd8, hdd8, dct8, pc⟩ := inv
      rw [List.length_map, Int.toNat_natCast] at pc
      have cut := pc.done
      have eF : EvD K (tVar 2) σ8 H8 (.list (fl.map FrD)) := ed_lst h82 hl8 hd8
      have ls : fl.dropLast.length ≤ 500 := by rw [List.length_dropLast, pc.len]; omega
      refine (el_listT (ed_call (d := PoD (tr fl.dropLast)) (ea_cons (el_init eF).dd ea_nil) ⟨fl.dropLast, by rw [List.map_dropLast], ls, rfl⟩) : EvL K _ _ _ _) H8 (Same.refl H8) _ fun l2 zs H9 hl20 s9 hl9 hd9 => ?_
      rw [← hFf] at cut dct8
      have st := ds.step bq tq q0 t0 hw0 hwM hge cut
      have slen : (tr fl.dropLast).length < L.length := by
        have := len_tr fl.dropLast
        rw [List.length_dropLast, pc.len] at this
        omega
      refine ⟨(tr fl.dropLast).length, by rw [hm]; exact slen, i + 1, tr fl.dropLast, _, l2, zs, kvs7, s8.trans s9, ?_, List.getElem?_set_self (by have := e8.1; rw [this]; simp), s8.free hl20, hl9, hd9, ?_, s9 _ _ hdd8, dct8.tk (TK.same s9), st, rfl⟩
      · exact ((((e8.same s9).put (i := 2) (some (.ref l2))).drop 4).drop 5).drop 6
      · rw [List.getElem?_set_ne (by decide)]
        exact h83
  · -- the end
    have hlt : L.length < q.length := by
      rw [List.length_map, List.length_map] at hb
      have := of_decide_eq_false hb
      omega
    have hAB := hqr.uniq tq (ds.qr hlt)
    have e2 := e'.same s2
    obtain ⟨ns, hns, hn30, hnin, hnl⟩ := keys_int (K := K) (H := H2) (f := f') (n := i) hdct.keys
    obtain ⟨mx, hmx, hle⟩ := max_ex ((-1 : Int) :: ns) (by simp)
    have hm0 : -1 ≤ mx := hle _ (by simp)
    have hm1 : mx < 30 := by
      rcases List.mem_cons.mp hmx with z | z
      · omega
      · obtain ⟨k', z1, z2⟩ := hn30 _ z
        omega
    have dct2 := hdct.tk (TK.same s2)
    have hdd2 := s2 _ _ hdd'
    have lenk : ns.length ≤ 40 := by
      rw [hnl]
      have := hdct.len
      have := ds.len
      omega
    refine q_set e2 (ed_add (ed_maxL (ns := (-1 : Int) :: ns) ((el_cat (el_lst (ea_cons (ed_sub (ed_int 0) (ed_int 1)) ea_nil) (by simp)) (el_keys hσ3 hdd2 hns) (by simp; omega)).dd) hmx hle) (ed_int 1)) fun v3 H3 s3 e3 => ?_
    have s23 := s2.trans s3
    have g2 : ∀ {σ2 : L2.St} {x : Option V} {j : Nat}, 4 ≤ j → σ2[2]? = some (some (.ref l)) → (σ2.set j x)[2]? = some (some (.ref l)) := fun hj h => by rw [List.getElem?_set_ne (by omega)]; exact h
    have g3 : ∀ {σ2 : L2.St} {x : Option V} {j : Nat}, 4 ≤ j → σ2[3]? = some (some (.ref dd)) → (σ2.set j x)[3]? = some (some (.ref dd)) := fun hj h => by rw [List.getElem?_set_ne (by omega)]; exact h
    have eL3 : EvD K (tVar 2) (σ'.set 7 (some v3)) H3 (.list (L.map FrD)) := ed_lst (g2 (by omega) hσ2) (s23 _ _ hl') (dpa_same s23 hdL)
    have dct3 := dct2.tk (TK.same s3)
    have hdd3 := s3 _ _ hdd2
    refine q_ret (ed_tup (ea_cons (ed_call (d := PoD A) (ea_cons (elc_range (fun _ => true) (fun k => FrD (cf f' k)) (ea_cons (ed_var (i := 7) e3 rfl) ea_nil) (by omega) (wipe1 6) (fun _ _ _ => rfl) (fun _ _ _ _ => eb_yes) (fun k' H4 s4 hk' _ => ?_)).dd ea_nil) ⟨(List.range (mx + 1).toNat).map (cf f'), ?_, by simp; omega, ?_⟩) (ea_cons (ed_call (d := PoD B) (ea_cons eL3 ea_nil) ⟨L, rfl, by omega, ?_⟩) ea_nil)) (by simp)) fun v H4 s4 hv => k v H4 ((s'.trans s23).trans s4) hv
    · have e4 := ((env_wipe e3 [6]).same s4).set (i := 6) (Dp.int (k' : Int))
      refine ed_get (f := f') (n := i) ?_ (s4 _ _ hdd3) (dct3.tk (TK.same s4)) (ed_var (i := 6) e4 rfl) (ed_tup (ea_cons (ed_int 0) (ea_cons (ed_int 1) ea_nil)) (by simp))
      show (((σ'.set 7 (some v3)).set 6 none).set 6 (some (V.int (k' : Int))))[3]? = _
      exact g3 (by omega) (g3 (by omega) (g3 (by omega) hσ3))
    · rw [gv_all, List.map_map]
      rfl
    · rw [hAB.1]
      congr 1
      refine eq_of_cf (Tr_tr _) (Tr_tr _) fun k' => ?_
      rw [cf_tr, cf_tr]
      refine Eq.symm ?_
      by_cases hk' : k' < (mx + 1).toNat
      · rw [cf_of_lt (by simpa using hk')]
        simp
      · rw [cf_of_ge (by simp; omega)]
        rcases dct3.at' k' with ⟨v', a1, a2⟩ | ⟨a1, a2⟩
        · have := hle _ (List.mem_cons_of_mem _ (hnin k' v' a1))
          omega
        · exact a2.symm
    · rw [hAB.2, tr_eq ds.trd]
end
end K11
/-! An own error over ValueError whose __init__ says super().__init__(x). -/
namespace K11
open PySem PySem.Spec PyProof.Rows L2
def clsBody (s : Stmt) : List Stmt := match s with
  | .ClassDef _ _ _ b _ _ _ _ _ _ _ => b
  | _ => []
abbrev sMisInit : Stmt := (clsBody (topS 2)).getD 0 (.Pass ⟨0, 0, 0, 0⟩)
/-- what the written part says of Misstep, at C, and of its __init__, at fI -/
structure MisTxt (P : Program) (K : PySem.W.Frag) (mg : Str → Option Value) (C fI : Addr) (fd : FuncData) : Prop where
  gC : mg "Misstep" = some (.ref C)
  oex : OexC K C
  xf : XfC K C
  noN : PySem.W.findIn K (.ref C) "word" = some none
  iC : PySem.W.findIn K (.ref C) "__init__" = some (some (.ref fI))
  tI : PySem.W.typeIn K (.ref fI) = some (.type "function")
  sup : PySem.W.ks_superIn K C C "__init__" = some (some (.builtin "ValueError.__init__"))
  ve : PySem.W.subIn K (.ref C) (.type "ValueError") = some true
  self : PySem.W.mroIn K C (.ref C) = some true
  opq : PySem.W.nsIn K cStatics "thirdparty.any" = some none
  gS : mg "super" = none
  top : (P.main.scope.names.lookup ("super" : Str)).isSome = false
  te : PySem.W.exmOne K (.ref C) (.ref C) = some true
  fn : ∃ (oc : Value) (od : Option Addr) (kV doc pm : Value) (an : Option Addr) (cda : Addr) (ct : Value) (cc : Addr) (osl : Array (Option Value)) (ccl : Value) (cdd : Option Addr) (vs : Array Value) (ccs : Array (Option Value)) (file : Str) (tf : Tok) (cl : Value) (cld : Option Addr) (csl : Array (Option Value)),
    fd = PySem.W.ksFn "__init__" "Misstep.__init__" (defArgs sMisInit) (defBody sMisInit) (defScope sMisInit) .none kV doc pm an (.ref cda) ct cc ∧ K.lookup fI = some ⟨oc, od, .func fd, osl⟩ ∧ PySem.W.codeIn K (.ref cda) "Misstep.__init__" = true ∧
    K.lookup cda = some ⟨ccl, cdd, .fields vs, ccs⟩ ∧ vs[2]? = some (.str file tf) ∧ ((P.main.file : Str) == file) = true ∧ K.lookup cc = some ⟨cl, cld, .cell (some (.ref C)), csl⟩
/-- .. with what the class's parts say -/
def spMis (K : PySem.W.Frag) (C : Addr) : Sp := fun vs H Q _ => ∃ (a : Addr) (y : V), vs = [.ref a, y] ∧ H a = some (exo a C none) ∧ ∀ dx, H dx = none → dx ≠ a → Q .non (upd (upd H dx (exd dx [("word", y)])) a (exo a C (some dx)))
section
variable {P : Program} {w : World} {K : PySem.W.Frag} {mg : Str → Option Value} {base : Heap}
theorem ok_misinit {CX : CXT} {k : Nat} {C fI : Addr} {fd : FuncData} (T : MisTxt P K mg C fI fd) : FnOk P w K mg base CX (k + 1) fI fd ["self", "word"] (spMis K C) := by
  obtain ⟨oc, od, kV, doc, pm, an, cda, ct, cc, osl, ccl, cdd, fvs, ccs, file, tf, cl, cld, csl, rfl, lk, hcd, lkc, hvs, hfile, lkcc⟩ := T.fn
  refine ⟨fun vs H Q E h => ?_, fun A outer s H args us vs Q E hr e0 hb r hsp => ?_⟩
  · obtain ⟨a, y, rfl, _⟩ := h
    rfl
  obtain ⟨a, y, rfl, ha, hq⟩ := hsp
  cases r with
  | @cons _ u0 _ ur ra rr =>
  obtain rfl : u0 = Value.ref a := ra
  cases rr with
  | @cons _ u _ ur2 ru rn =>
  cases rn
  have KX : K.In s.heap := e0.mod.kin.keeps fun b o e => (e0.bs b o e).1
  have lim : s.heap.NoLimit := e0.mod.nolimit.keeps fun b o e => (e0.bs b o e).1
  obtain ⟨nm, q, N, bs, bm, sn, sub, ab, col, dd, k0, k1, k2, k3, k5, hC, hbm⟩ := T.oex.cls
  have hcl : PySem.W.clsIn K C = some { name := nm, bases := bs, mro := .ref C :: bm, ns := N, qualname := q, hasDict := true, slotNames := sn, subclasses := sub, abstract := ab, collection := col, hasDel := false } := by unfold PySem.W.clsIn; rw [hC] <;> rfl
  refine ks_codeAny_call_defAt (fd := PySem.W.ksFn "__init__" "Misstep.__init__" (defArgs sMisInit) (defBody sMisInit) (defScope sMisInit) .none kV doc pm an (.ref cda) ct cc) (body := defBody sMisInit) (binds := [("self", .ref a), ("word", u)]) hr.depth (KX _ _ lk) rfl lim (PySem.W.codeRec_of KX hcd) rfl hb (by show ∀ x ∈ (defScope sMisInit).names, x.2 ≠ NameKind.cell; decide +kernel) (by
    intro x hx
    rcases List.mem_cons.mp hx with rfl | hx
    · rfl
    · rw [List.mem_singleton.mp hx]
      rfl) (fun h₁ hns hk₁ => ?_)
  let env : PySem.Env := PySem.W.ksEnv "Misstep.__init__" (defScope sMisInit) s.heap.objs.size fI (.ref cda) cc
  let X : Cx := { prog := P, w := w, K := K, mg := mg, base := base, A := A.deeper env, N := ["self", "word"], s_0 := s, H_0 := H, env := env, outer := outer, stack := env :: outer, ex := [], calm := true, fn := fun _ => false, pn := [], xe := fun e s' => wpAny (model P w) (A.deeper env) (leaving env e) (fun _ s'' => CX outer H s E e s'') (fun e' s'' => CX outer H s E e' s'') s' }
  have noA : ∀ b : Addr, b ∉ X.ex := fun b z => absurd (show b ∈ ([] : List Addr) from z) (by simp)
  have hcc : ∀ x c, env.cells.lookup x = some c → x = "__class__" ∧ c = cc := fun x c e => by
    have e' : (if (x == ("__class__" : Str)) = true then some cc else none) = some c := by
      have : List.lookup x [(("__class__" : Str), cc)] = some c := e
      simp only [List.lookup] at this
      split at this
      · rename_i h
        rw [if_pos h]
        exact this
      · cases this
    split at e'
    · rename_i h
      exact ⟨eq_of_beq h, (Option.some.inj e').symm⟩
    · cases e'
  have hccs : s.heap.get? cc = some ⟨cl, cld, .cell (some (.ref C)), csl⟩ := KX _ _ lkcc
  have hnn : Look env h₁ (fun x => [(("self" : Str), Value.ref a), ("word", u)].reverse.lookup x) "self" (.ref a) ∧ Look env h₁ (fun x => [(("self" : Str), Value.ref a), ("word", u)].reverse.lookup x) "word" u := ⟨.inl ⟨rfl, rfl⟩, .inl ⟨rfl, rfl⟩⟩
  have I0 : Inv X [] [some (.ref a), some y] H { s with heap := h₁, toks := s.toks + 2 } := by
    refine ⟨⟨e0.mod, rfl, rfl, rfl, Nat.le_refl _, fun x z c h1 h2 => (hcc x c h1).1.trans (hcc z c h2).1.symm, fun x hx => ?_, fun x c h => (Bool.noConfusion h), fun _ => hr.hd, Around.frames_deeper e0.frames, .inr ⟨rfl, rfl⟩, fun b z => absurd z (noA b), e0.bs, e0.bsz, fun b _ _ => noA b, fun b z => absurd z (noA b), e0.funs, e0.frf⟩,
      rfl, e0.bare, Un.kept hk₁, ⟨_, hns, fun i x v h1 h2 _ => ?_⟩, fun x c h => ?_, e0.hok.fresh (Nat.le_refl _), fun x c h => ?_, fun p hp => absurd (show p ∈ ([] : List (Addr × Obj)) from hp) (by simp), e0.hok.kept hk₁, rfl⟩
    · have hx2 : (defScope sMisInit).names.lookup x = some .cell ∨ (defScope sMisInit).names.lookup x = some .free := hx
      have key : x = "__class__" := by
        have e : (defScope sMisInit).names = [(("self" : Str), NameKind.«local»), ("word", .«local»), ("__class__", .free), ("super", .globalImplicit)] := by rfl
        rw [e] at hx2
        simp only [List.lookup] at hx2
        repeat' split at hx2
        all_goals first | (rename_i h; exact eq_of_beq h) | simp at hx2
      rw [key]
      exact ⟨cc, rfl⟩
    · match i, h1, h2 with
      | 0, h1, h2 =>
        cases h1
        cases h2
        exact ⟨_, rfl, hnn.1⟩
      | 1, h1, h2 =>
        cases h1
        cases h2
        exact ⟨_, ru, hnn.2⟩
      | i + 2, h1, h2 => cases h1
    · rw [(hcc x c h).2]
      exact ⟨_, _, hk₁ _ _ hccs, rfl⟩
    · rw [(hcc x c h).2]
      exact (e0.bs cc _ (e0.mod.kin _ _ lkcc)).2
  have KX1 : K.In h₁ := KX.keeps hk₁
  show PySem.wpAt (model P w) (A.deeper env) (.func (defBody sMisInit) env) (execs (defBody sMisInit) env) _ X.xe _
  refine ks_wpAt_execs_cons (ks_wpAt_Expr_any (ks_wpAt_MethodCall ?_))
  refine ks_wpAt_super_base (env := env) rfl rfl rfl rfl (KX1 _ _ lk) rfl rfl rfl (KX1 _ _ lkc) rfl hvs hfile T.top ?_
  obtain ⟨mb, b1, b2⟩ := e0.mod.blt
  refine PySem.W.ks_loadName_global rfl rfl (Calls.loadGlobal_builtin (env := env) (I0.mod.glob.keeps I0.bk) T.gS (b1.keeps I0.bk) ((b2 "super" (by decide)).trans PyProof.Rows.Boot.«super») ⟨rfl, ?_⟩)
  refine wpAny_loadName_free (c := cc) rfl rfl rfl ⟨_, KX1 _ _ lkcc, rfl⟩ ?_
  refine wpAny_loadName_local (v := .ref a) rfl rfl hns rfl ?_
  refine ks_wpAny_isType_cls (KX1 _ _ hC) rfl ⟨rfl, ?_⟩
  obtain ⟨t1, ho⟩ := exo_at I0.hok ha
  refine ks_wpAny_call_super (KX1 _ _ hC) rfl ho rfl (fun c e => by cases e) (PySem.W.looks_mroIn KX1 T.self) (fun h' e kh => ?_)
  have KX2 : K.In h' := KX1.keeps kh
  have I1 : Inv X [] [some (.ref a), some y] H { s with heap := h', toks := s.toks + 2 } := I0.kept (t' := s.toks + 2) kh
  have J : PySem.W.InstAt h' a _ C none := ⟨kh _ _ ho, rfl, rfl, trivial⟩
  have hI : PySem.W.Looks (model P w) h' (isInstance (.ref a) (.type "ValueError")) true := J.type.andThen (PySem.W.looks_subIn KX2 T.ve)
  have hm := T.sup
  unfold PySem.W.ks_superIn at hm
  rw [hcl] at hm
  refine PySem.W.kxs_getMethod PySem.W.kxs_ValueError e (PySem.W.looks_opaque KX2 T.opq) (l₀ := .ref C :: bm) ?_ rfl KX2 hm hI (PySem.W.ks_ne KX2 J hcl) rfl ?_
  · exact fun A Q E s k q => wpAny_bind ((PySem.W.looks_clsIn KX2 hcl) A _ E s k (wpAny_pure q))
  have kp : ∀ b o, h'.get? b = some o → (h'.push (PySem.W.kxs_mw "ValueError.__init__" a)).get? b = some o := fun b o z => Heap.get?_push_of_some _ z
  have hu : (h'.push (PySem.W.kxs_mw "ValueError.__init__" a)).get? h'.objs.size = some (PySem.W.kxs_mw "ValueError.__init__" a) := Heap.get?_push_at rfl rfl
  have I2 : Inv X [] [some (.ref a), some y] H { s with heap := h'.push (PySem.W.kxs_mw "ValueError.__init__" a), toks := s.toks + 2 + 1 } := I1.kept (t' := s.toks + 2 + 1) kp
  have ho2 := kp _ _ (kh _ _ ho)
  have KX3 := KX2.keeps kp
  generalize hG : h'.push (PySem.W.kxs_mw "ValueError.__init__" a) = G at hu I2 ho2 KX3 ⊢
  have hns2 : G.Ns s.heap.objs.size (fun x => [(("self" : Str), Value.ref a), ("word", u)].reverse.lookup x) := by
    rw [← hG]
    exact (hns.keeps kh).keeps kp
  refine PySem.W.kxs_callWith (i := "ValueError.__init__") (x := a) rfl (Calls.evalArgs_plain ?_)
  refine Calls.spliced_cons (wpAny_Name (wpAny_loadName_local (v := u) rfl rfl hns2 rfl (Calls.spliced_nil ⟨hu, ?_⟩)) rfl)
  refine wpAny_call (codeAny_of_tree ?_)
  show wpAny _ _ (callAny (.ref h'.objs.size) ⟨[u], []⟩) _ _ _
  simp only [callAny]
  refine wpAny_bind (wpAny_load hu ?_)
  simp only [PySem.W.kxs_mw, show (Value.type "method-wrapper" == Value.type "method" || Value.type "method-wrapper" == Value.type "builtin_function_or_method" || Value.type "method-wrapper" == Value.type "method-wrapper") = true by decide, if_true]
  refine PySem.W.KFB.if_so (by decide) ?_
  refine wpAny_bind (PySem.W.check_bound_init PySem.F.excBase_ValueError.toExcCallFacts (KX3 _ _ hC) ho2 rfl ?_)
  refine wpAny_bind (wpAny_pure (wpAny_pure ?_))
  refine ⟨plainId_quiet PySem.F.excBase_ValueError.init.plain _, codeAny_builtin PySem.F.excBase_ValueError.initEntry ?_⟩
  refine PySem.W.exc_init_tree (cls := .ref C) (t0 := t1) (dv := none) (c2 := .none) (c3 := .none) (b4 := .bool false) ho2 (by rw [sizeLine_eq]; exact (by decide : 1 ≤ 16777216)) (fun h3 k3 hx3 _ => ?_)
  have I3 := I2.write (t' := s.toks + 2 + 1) (x := a) (e := a) (o := exo a C none) (by rw [ha]; exact True.intro) (.inl rfl) k3 ⟨_, hx3⟩ (exo_ok hx3)
  have eu : upd H a (exo a C none) = H := by
    funext b
    by_cases hb : b = a
    · rw [hb, upd_same, ha]
    · rw [upd_ne hb]
  rw [eu] at I3
  refine wpAt_of_wpAny ?_
  have ps := (pss_one (ps_ost (X := X) (o := .Name "self" ⟨8, 8, 8, 12⟩) (e := .Name "word" ⟨8, 20, 8, 24⟩) (f := "word") (p' := ⟨8, 8, 8, 17⟩) (pos := ⟨8, 8, 8, 24⟩) (pv 0) (pv 1))).run [] _ [some (.ref a), some y] H { nx := fun _ H' => Q .non H', rt := Q } I3
    ⟨_, rfl, _, rfl, a, C, rfl, T.oex, T.noN, .inl ⟨ha, hq⟩⟩
  refine wpAny_mono ps (fun fl s' hs => ?_) fun e s' hs => hs
  have fin : ∀ {σ' : L2.St} {H' : Hp} {v : V} {uu : Value}, Inv X [] σ' H' s' → RelV v uu → Q v H' → CE outer P w H s Q uu s' := fun {σ' H' v uu} J rv q => ⟨v, H', J.os, J.bare, J.base, J.hok, rv, q⟩
  cases fl with
  | ret uu =>
    obtain ⟨v, σ', H', J, rv, q⟩ := hs
    exact fin J rv q
  | next =>
    obtain ⟨σ', H', J, q⟩ := hs
    exact fin (v := V.non) (uu := Value.none) J rfl q
  | brk =>
    obtain ⟨σ', H', J, q⟩ := hs
    exact q.elim
  | cont =>
    obtain ⟨σ', H', J, q⟩ := hs
    exact q.elim
end
end K11
/-! common_poly. -/
namespace K11
open PySem PySem.Spec PyProof.Rows L2
abbrev sCommon : Stmt := topS 21
theorem scCommon : FnScope ["one", "other"] ["one", "other"] (defScope sCommon) := ⟨rfl, rfl, rfl, by decide +kernel, rfl, by decide +kernel, by decide +kernel⟩
/-- a row of multiples of s -/
structure Row (s : Rat) (a a' b : Nat) (p : List Rat) : Prop where
  tr : Tr p
  s0 : s ≠ 0
  bt : Bt a a' s
  bd : Bd s (2 ^ b) p
/-- Euclid's way stays small -/
def safe : Nat → Nat → Nat → Nat → Nat → Nat → Nat → Nat → Nat → Bool
  | _, la, a, a', b, 0, _, _, _ => decide (a + b < 4000) && decide (a' < 4000) && decide (la ≤ 30)
  | 0, _, _, _, _, _ + 1, _, _, _ => false
  | f + 1, la, a, a', b, lc + 1, c, c', d =>
    (decide (a + c' + b + (la + 1 - (lc + 1)) * (d + 1) < 4000) && decide (a' + c + (la + 1 - (lc + 1)) * d < 4000) && decide (c + d < 4000) && decide (la ≤ 30) && decide (lc + 1 ≤ 30)) &&
      (List.range (lc + 1)).all fun lr => safe f (lc + 1) c c' d lr a (a' + (la + 1 - (lc + 1)) * d) (b + (la + 1 - (lc + 1)) * (d + 1))
theorem safe_zero {f la a a' b c c' d : Nat} (h : safe f la a a' b 0 c c' d = true) : (a + b < 4000 ∧ a' < 4000) ∧ la ≤ 30 := by
  cases f <;> simpa [safe] using h
theorem safe_succ {f la a a' b lc c c' d : Nat} (h : safe f la a a' b lc c c' d = true) (h0 : lc ≠ 0) : ∃ f', (a + c' + b + (la + 1 - lc) * (d + 1) < 4000 ∧ a' + c + (la + 1 - lc) * d < 4000 ∧ c + d < 4000 ∧ la ≤ 30 ∧ lc ≤ 30) ∧
    ∀ lr, lr < lc → safe f' lc c c' d lr a (a' + (la + 1 - lc) * d) (b + (la + 1 - lc) * (d + 1)) = true := by
  cases lc with
  | zero => exact absurd rfl h0
  | succ lc =>
    cases f with
    | zero => simp [safe] at h
    | succ f =>
      simp only [safe, Bool.and_eq_true, decide_eq_true_eq, List.all_eq_true, List.mem_range] at h
      exact ⟨f, ⟨h.1.1.1.1.1, h.1.1.1.1.2, h.1.1.1.2, h.1.1.2, h.1.2⟩, h.2⟩
/-- both rows and their sizes -/
def Eok (p q : List Rat) : Prop := ∃ (s t : Rat) (a a' b c c' d f : Nat), Row s a a' b p ∧ Row t c c' d q ∧ safe f p.length a a' b q.length c c' d = true
theorem Eok.step {p q : List Rat} (h : Eok p q) (q0 : q ≠ []) : ∃ A B, Qr p q A B ∧ Eok q B ∧ fDiv [PoD p, PoD q] (.tuple [PoD A, PoD B]) := by
  obtain ⟨s, t, a, a', b, c, c', d, f, hp, hq, hs⟩ := h
  obtain ⟨f', ⟨h1, h2, h3, h4, h5⟩, h6⟩ := safe_succ hs (fun z => q0 (List.eq_nil_of_length_eq_zero z))
  obtain ⟨A, B, hqr, s', s0', bt', bd'⟩ := qr_ex (c := 0) hp.bt hp.bd hp.tr hq.bd hq.tr q0 hq.s0 hp.s0
  exact ⟨A, B, hqr, ⟨t, s', c, c', d, _, _, _, f', hq, ⟨hqr.tb, s0', bt', bd'⟩, h6 _ hqr.lt⟩, p, q, A, B, s, t, a, a', b, c, c', d, rfl, hp.tr, hq.tr, q0, hp.s0, hq.s0, hp.bt, hq.bt, hp.bd, hq.bd, h4, h5, h1, h2, h3, hqr, rfl⟩
theorem Eok.end {p : List Rat} (h : Eok p []) : (∀ x ∈ p, Sz x) ∧ p.length ≤ 30 := by
  obtain ⟨s, t, a, a', b, c, c', d, f, hp, hq, hs⟩ := h
  have hz := safe_zero hs
  refine ⟨fun x hx => ?_, hz.2⟩
  obtain ⟨k, _, rfl⟩ := mem_cf hx
  exact (hp.bd.bt hp.bt k).sz hz.1.1 hz.1.2
theorem Eok.tp {p q : List Rat} (h : Eok p q) : Tr p := by
  obtain ⟨s, t, a, a', b, c, c', d, f, hp, hq, hs⟩ := h
  exact hp.tr
theorem Eok.tq {p q : List Rat} (h : Eok p q) : Tr q := by
  obtain ⟨s, t, a, a', b, c, c', d, f, hp, hq, hs⟩ := h
  exact hq.tr
/-- led by 1 and made of both: there is one -/
theorem gcd_ex : ∀ (n : Nat) (p q A B : List Rat), q.length ≤ n → (p ≠ [] ∨ q ≠ []) → Eok p q → Eu A B p q → ∃ g, IsG A B g
  | n, p, q, A, B, hn, h0, he, hu => by
    by_cases q0 : q = []
    · subst q0
      exact ⟨_, hu.done he.tp (h0.resolve_right fun z => z rfl)⟩
    · obtain ⟨a, b, hqr, he', _⟩ := he.step q0
      cases n with
      | zero => exact absurd (List.eq_nil_of_length_eq_zero (by omega)) q0
      | succ n => exact gcd_ex n q b A B (by have := hqr.lt; omega) (.inl q0) he' (hu.step hqr.val)
theorem isG_uniq {A B g g' : List Rat} (h : IsG A B g) (h' : IsG A B g') : g = g' := mon_dv h.mon h'.mon (h'.cb |> fun c => Dv.cb c h.dA h.dB) (h.cb |> fun c => Dv.cb c h'.dA h'.dB)
/-- the common divisor, () for two noughts -/
def Com (p q g : List Rat) : Prop := (p = [] ∧ q = [] ∧ g = []) ∨ ((p ≠ [] ∨ q ≠ []) ∧ IsG p q g)
def fCom : List PyData → PyData → Prop := fun ds r => ∃ p q g, ds = [PoD p, PoD q] ∧ Eok p q ∧ Com p q g ∧ r = PoD g
theorem Eok.com {p q : List Rat} (h : Eok p q) : ∃ g, Com p q g := by
  by_cases h0 : p = [] ∧ q = []
  · exact ⟨[], .inl ⟨h0.1, h0.2, rfl⟩⟩
  · have h1 : p ≠ [] ∨ q ≠ [] := by
      by_cases hp : p = []
      · exact .inr fun z => h0 ⟨hp, z⟩
      · exact .inl hp
    obtain ⟨g, hg⟩ := gcd_ex q.length p q p q (Nat.le_refl _) h1 h (Eu.refl p q)
    exact ⟨g, .inr ⟨h1, hg⟩⟩
theorem po_last {p : List Rat} (h : p ≠ []) : atI (p.map FrD) (-1) = some (FrD (cf p (p.length - 1))) := by
  have lp : 0 < p.length := List.length_pos_iff.mpr h
  have := atI_last (p.dropLast.map FrD) (FrD (p.getLast h))
  rw [← List.map_singleton, ← List.map_append, List.dropLast_concat_getLast] at this
  rw [this, List.getLast_eq_getElem, cf_of_lt (by omega)]
theorem Sz.inv {x : Rat} (h : Sz x) (x0 : x ≠ 0) : Sz (1 / x) := by
  have h1 := nd_le (q := 1 / x) (a := (x.den : Int)) (b := x.num) (fun z => x0 (Rat.num_eq_zero.mp z)) (by
    have := fr_self' x
    have := den_ne x
    rw [fr_self' x]
    generalize ((x.den : Int) : Rat) = y at *
    grind)
  rw [Int.natAbs_natCast] at h1
  exact ⟨Nat.lt_of_le_of_lt h1.1 h.2, Nat.lt_of_le_of_lt h1.2 h.1⟩
theorem Sz.one : Sz 1 := Bits.one.sz (by decide)
section
variable {P : Program} {w : World} {K : PySem.W.Frag} {mg : Str → Option Value} {base : Heap}
theorem ok_common {f fD fO fS : Addr} {fd fdD fdO fdS : FuncData} (F : Fun K "common_poly" "common_poly" sCommon f fd) (FD : Fun K "divided_poly" "divided_poly" sDivided fD fdD) (gD : mg "divided_poly" = some (.ref fD)) (GD : FnOk P w K mg base CX0 4 fD fdD ["one", "other"] (PF K fDiv))
    (FO : Fun K "over" "over" sOver fO fdO) (gO : mg "over" = some (.ref fO)) (GO : FnOk P w K mg base CX0 3 fO fdO ["one", "other"] (PF K fOver))
    (FS : Fun K "scaled_poly" "scaled_poly" sScaled fS fdS) (gS : mg "scaled_poly" = some (.ref fS)) (GS : FnOk P w K mg base CX0 4 fS fdS ["factor", "one"] (PF K fScale)) (mLen : mg "len" = none) : FnOk P w K mg base CX0 5 f fd ["one", "other"] (PF K fCom) := by
  have bD := FD.binds (ps := ["one", "other"]) fun _ _ _ _ _ _ us hl => match us, hl with | [_, _], _ => rfl
  have bO := FO.binds (ps := ["one", "other"]) fun _ _ _ _ _ _ us hl => match us, hl with | [_, _], _ => rfl
  have bS := FS.binds (ps := ["factor", "one"]) fun _ _ _ _ _ _ us hl => match us, hl with | [_, _], _ => rfl
  refine F.ok scCommon (fun vs H Q E h => pf_len (n := 2) (fun ds r q => by obtain ⟨_, _, _, rfl, _⟩ := q; rfl) h) (fun cdv A0 outer s0 H vs Q E hr h => ?_)
  obtain ⟨ds, r, ha, ⟨p, q, g, rfl, hE, hC, rfl⟩, k⟩ := h
  refine ⟨_, pss_cons (ps_while PassesOwn.never (pt_cmpR op_gt (pe_callB call_len_seq (by rfl) mLen boot_len (pa_cons (pv 1) pa_nil)) pe_int (nomark _))
      (pss_one (ps_par (i := 0) (j := 1) rfl scCommon.nd rfl rfl (by decide) rfl rfl (pa_cons (pv 1) (pa_cons (pe_ix ix_tup (pe_call GD hr (by rfl) gD FD.kp bD .nil pass0 (pa_cons (pv 0) (pa_cons (pv 1) pa_nil))) pe_int (fun _ _ => rfl)) pa_nil)) (by rfl))))
    (pss_one (ps_ret (pe_ifExp (pt_cmpR op_gt (pe_callB call_len_seq (by rfl) mLen boot_len (pa_cons (pv 0) pa_nil)) pe_int (nomark _))
      (pe_call GS hr (by rfl) gS FS.kp bS .nil pass0 (pa_cons (pe_call GO (hr.mono (by decide)) (by rfl) gO FO.kp bO .nil pass0 (pa_cons (pe_tup (pa_cons pe_int (pa_cons pe_int pa_nil))) (pa_cons (pe_ix ix_tup (pv 0) (pe_un un_neg pe_int) (fun _ _ => rfl)) pa_nil))) (pa_cons (pv 0) pa_nil)))
      (pe_tup pa_nil)))), ?_⟩
  have he := env_start (N := ["one", "other"]) ha
  have nil_of : ∀ {a b c : List Rat}, Cb a b c → a = [] → b = [] → Tr c → c = [] := fun {a b c} h ha hb tc => by
    obtain ⟨u, v, h⟩ := h
    refine tc.ne (Z_of_ev fun n => ?_)
    rw [h, ha, hb, ev_nil]
    grind
  refine q_while (fun m σ' H' => ∃ p' q', Same H H' ∧ Env K H' σ' [some (PoD p'), some (PoD q')] ∧ Eok p' q' ∧ Eu p q p' q' ∧ m = q'.length) q.length
    ⟨p, q, Same.refl H, he, hE, Eu.refl p q, rfl⟩ fun m σ' H' inv => ?_
  obtain ⟨p', q', s', e', hE', hu, hm⟩ := inv
  refine ⟨_, eb_cmpI (ed_lenT (ed_var (i := 1) e' rfl)) (ed_int 0), fun hb H2 s2 => ?_, fun hb H2 s2 => ?_⟩
  · have q0 : q' ≠ [] := fun z => by
      rw [z] at hb
      simp at hb
    obtain ⟨A, B, hqr, hE2, hf⟩ := hE'.step q0
    have e2 := e'.same s2
    refine q_parl e2 (ed_var (i := 1) e2 rfl) (ed_ixT (ed_call (ea_cons (ed_var (i := 0) e2 rfl) (ea_cons (ed_var (i := 1) e2 rfl) ea_nil)) hf) (ed_int 1) rfl) fun σ3 H3 s3 e3 => ?_
    exact ⟨B.length, by rw [hm]; exact hqr.lt, q', B, s'.trans (s2.trans s3), e3, hE2, hu.step hqr.val, rfl⟩
  · have q0 : q' = [] := by
      refine List.eq_nil_of_length_eq_zero ?_
      rw [List.length_map] at hb
      have := of_decide_eq_false hb
      omega
    subst q0
    have e2 := e'.same s2
    have tp := hE'.tp
    refine q_ret (ed_if (eb_cmpI (ed_lenT (ed_var (i := 0) e2 rfl)) (ed_int 0)) (d := PoD g) (fun hb => ?_) (fun hb => ?_)) fun v H3 s3 hv => k v H3 (s'.trans (s2.trans s3)) hv
    · have p0 : p' ≠ [] := fun z => by
        rw [z] at hb
        simp at hb
      have hl := tp p0
      have hz := hE'.end.1
      have hzl : Sz (cf p' (p'.length - 1)) := by
        have : 0 < p'.length := List.length_pos_iff.mpr p0
        rw [cf_of_lt (by omega)]
        exact hz _ (List.getElem_mem _)
      have hd := hu.done tp p0
      have eg : g = sc (1 / cf p' (p'.length - 1)) p' := by
        rcases hC with ⟨z1, z2, z3⟩ | ⟨z1, z2⟩
        · exact absurd (nil_of hu.ca z1 z2 tp) p0
        · exact isG_uniq z2 hd
      have hlen : p'.length ≤ 30 := hE'.end.2
      refine ed_call (ea_cons (ed_call (ea_cons (ed_tup (ea_cons (ed_int 1) (ea_cons (ed_int 1) ea_nil)) (by simp)) (ea_cons (ed_ixT (ed_var (i := 0) e2 rfl) (ed_neg (ed_int 1)) (po_last p0)) ea_nil)) (d := FrD (1 / cf p' (p'.length - 1))) ⟨1, _, rfl, Sz.one, hzl, hl, rfl⟩) (ea_cons (ed_var (i := 0) e2 rfl) ea_nil)) ⟨_, p', rfl, hzl.inv hl, hz, by omega, ?_⟩
      rw [eg]
      congr 1
      exact (tr_eq hd.mon.tr).symm
    · have p0 : p' = [] := by
        refine List.eq_nil_of_length_eq_zero ?_
        rw [List.length_map] at hb
        have := of_decide_eq_false hb
        omega
      subst p0
      have eg : g = [] := by
        rcases hC with ⟨z1, z2, z3⟩ | ⟨z1, z2⟩
        · exact z3
        · exact False.elim (z1.elim (fun z => z (nil_of hu.cA rfl rfl hE.tp)) (fun z => z (nil_of hu.cB rfl rfl hE.tq)))
      rw [eg]
      exact ed_tup (ea_nil (K := K)) (by simp)
end
end K11
/-! sizes of a divisor and of what it leaves. -/
namespace K11
open PySem PySem.Spec PyProof.Rows L2
def kk (n : Nat) : Nat := (Lc n (n + 1) * Sm n (n + 1)).log2 + 1
theorem kk_le (n : Nat) : Lc n (n + 1) * Sm n (n + 1) ≤ 2 ^ kk n := Nat.le_of_lt Nat.lt_log2_self
theorem kk_bd {n m d : Nat} (h : m ≤ n + 1) : ((Lc n m : Nat) : Rat) * (((2 ^ d : Nat) : Rat) * (Sm n (n + 1) : Nat)) ≤ ((2 ^ (d + kk n) : Nat) : Rat) := by
  have h1 : Lc n m * (2 ^ d * Sm n (n + 1)) ≤ 2 ^ (d + kk n) := by
    rw [Nat.pow_add]
    have h2 := Lc_mono (n := n) h
    have h3 := kk_le n
    calc Lc n m * (2 ^ d * Sm n (n + 1)) ≤ Lc n (n + 1) * (2 ^ d * Sm n (n + 1)) := Nat.mul_le_mul_right _ h2
      _ = 2 ^ d * (Lc n (n + 1) * Sm n (n + 1)) := by
        rw [← Nat.mul_assoc, Nat.mul_comm (Lc n (n + 1)), Nat.mul_assoc]
      _ ≤ _ := Nat.mul_le_mul_left _ h3
  have := (by exact_mod_cast h1 : ((Lc n m * (2 ^ d * Sm n (n + 1)) : Nat) : Rat) ≤ ((2 ^ (d + kk n) : Nat) : Rat))
  rwa [Rat.natCast_mul, Rat.natCast_mul] at this
/-- a divisor led by 1, and what it leaves -/
theorem dvb {t : Rat} {c c' d : Nat} {B g q : List Rat} (h : Row t c c' d B) (B0 : B ≠ []) (hg : Mon g) (tq : Tr q) (hv : ∀ x, ev B x = ev q x * ev g x) :
    ∃ u v : Rat, Row u 0 (d + kk (B.length - 1)) (d + kk (B.length - 1)) g ∧ Row v (c + (d + kk (B.length - 1))) c' (d + kk (B.length - 1)) q := by
  obtain ⟨hI, hC, hv2⟩ := h.bd.back h.s0
  obtain ⟨w, w1, wI, wP⟩ := prim_of hg
  have w0 : (w : Rat) ≠ 0 := by
    have : w ≠ 0 := by omega
    exact_mod_cast this
  have q0 : q ≠ [] := fun z => B0 (h.tr.ne (Z_of_ev fun n => by rw [hv, z, ev_nil]; grind))
  have hl := len_mul tq hg.tr h.tr q0 hg.1 hv
  have t0 := h.s0
  have eQ : ∀ x, ev (sc (1 / t) B) x = ev (sc (w : Rat) g) x * ev (sc (1 / (t * w)) q) x := fun x => by
    rw [ev_sc, ev_sc, ev_sc, hv]
    have : 1 / (t * (w : Rat)) * w = 1 / t := by grind
    generalize 1 / (t * (w : Rat)) = y at *
    generalize 1 / t = z at *
    grind
  have iQ := gauss hI wI wP eQ
  have zG : ¬ Z (sc (w : Rat) g) := fun z => not_Z hg.tr hg.1 fun k => by have := z k; rw [cf_sc] at this; grind
  have zQ : ¬ Z (sc (1 / (t * w)) q) := fun z => not_Z tq q0 fun k => by
    have := z k
    rw [cf_sc] at this
    have h0 : 1 / (t * (w : Rat)) ≠ 0 := by grind
    grind
  have lB : 0 < B.length := List.length_pos_iff.mpr B0
  have lg : 0 < g.length := List.length_pos_iff.mpr hg.1
  have lq : 0 < q.length := List.length_pos_iff.mpr q0
  have hN : (0 : Rat) ≤ ((2 ^ d : Nat) : Rat) := cast_nonneg _
  have lI : (sc (1 / t) B).length ≤ B.length - 1 + 1 := by rw [len_sc]; omega
  have kG := kron (A := sc (1 / t) B) (G := sc (w : Rat) g) (Q := sc (1 / (t * w)) q) (n := B.length - 1) hN wI iQ zQ eQ hC lI (by rw [len_sc, len_sc]; omega)
  have kQ := kron (A := sc (1 / t) B) (G := sc (1 / (t * w)) q) (Q := sc (w : Rat) g) (n := B.length - 1) hN iQ wI zG (fun x => by rw [eQ]; grind) hC lI (by rw [len_sc, len_sc]; omega)
  have bG := kG.mono (kk_bd (d := d) (n := B.length - 1) (m := (sc (w : Rat) g).length) (by rw [len_sc]; omega))
  have bQ := kQ.mono (kk_bd (d := d) (n := B.length - 1) (m := (sc (1 / (t * w)) q).length) (by rw [len_sc]; omega))
  have wle : w ≤ 2 ^ (d + kk (B.length - 1)) := by
    have := (bG (g.length - 1)).2
    rw [cf_sc, hg.2] at this
    have h2 : (w : Rat) ≤ ((2 ^ (d + kk (B.length - 1)) : Nat) : Rat) := by
      have e : (w : Rat) * 1 = w := by grind
      rwa [e] at this
    exact_mod_cast h2
  have bw : Bt (d + kk (B.length - 1)) 0 (((w : Int)) : Rat) := Bt.int (by rw [Int.natAbs_natCast]; exact wle)
  have ew : (((w : Int)) : Rat) = (w : Rat) := rfl
  rw [ew] at bw
  refine ⟨1 / (w : Rat), t * w, ⟨hg.tr, by grind, ?_, fun k => ?_⟩, ⟨tq, by grind, (h.bt.mul bw).mono (Nat.le_refl _) (by omega), fun k => ?_⟩⟩
  · have := (Bits.one.bt).div bw w0
    exact this.mono (by omega) (by omega)
  · obtain ⟨i, hi⟩ := wI k
    have hb := bG k
    rw [hi] at hb
    refine ⟨i, ?_, natAbs_le_iff.mpr hb⟩
    rw [cf_sc] at hi
    rw [← hi]
    grind
  · obtain ⟨i, hi⟩ := iQ k
    have hb := bQ k
    rw [hi] at hb
    refine ⟨i, ?_, natAbs_le_iff.mpr hb⟩
    rw [cf_sc] at hi
    rw [← hi]
    grind
/-- ratio's sizes -/
def rsafe (la a a' b lc c c' d : Nat) : Bool :=
  let e := d + kk (lc - 1)
  let e2 := b + kk (la - 1)
  safe (lc + 1) la a a' b lc c c' d && decide (a + e + b + la * (e + 1) < 4000) && decide (a' + la * e < 4000) && decide (e < 4000) && decide (c + e + d + lc * (e + 1) < 4000) && decide (c' + lc * e < 4000) &&
    decide (a + e2 + e2 < 4000) && decide (a' < 4000) && decide (c + e + e < 4000) && decide (c' < 4000) && decide (la ≤ 30) && decide (lc ≤ 30)
def Rok (A B : List Rat) : Prop := ∃ (s t : Rat) (a a' b c c' d : Nat), Row s a a' b A ∧ Row t c c' d B ∧ rsafe A.length a a' b B.length c c' d = true
/-- the shortened one -/
def Rat2 (A B P Q : List Rat) : Prop := Red P Q ∧ ∀ x, ev P x * ev B x = ev A x * ev Q x
theorem Rok.com {A B : List Rat} (h : Rok A B) : Eok A B := by
  obtain ⟨s, t, a, a', b, c, c', d, hA, hB, hs⟩ := h
  simp only [rsafe, Bool.and_eq_true] at hs
  exact ⟨s, t, a, a', b, c, c', d, _, hA, hB, hs.1.1.1.1.1.1.1.1.1.1.1⟩
/-- the way of ratio: the common divisor, both quotients, what // needs -/
theorem Rok.way {A B : List Rat} (h : Rok A B) (B0 : B ≠ []) : ∃ g p1 q1, Com A B g ∧ fDiv [PoD A, PoD g] (.tuple [PoD p1, PoD []]) ∧ fDiv [PoD B, PoD g] (.tuple [PoD q1, PoD []]) ∧ q1 ≠ [] ∧ Tr q1 ∧ (∀ x ∈ p1, Sz x) ∧ (∀ x ∈ q1, Sz x) ∧ p1.length ≤ 30 ∧ q1.length ≤ 30 ∧
    Rat2 A B (sc (1 / cf q1 (q1.length - 1)) p1) (sc (1 / cf q1 (q1.length - 1)) q1) := by
  obtain ⟨g, hC⟩ := h.com.com
  have hG : IsG A B g := by
    rcases hC with ⟨_, z, _⟩ | ⟨_, z⟩
    · exact absurd z B0
    · exact z
  obtain ⟨s, t, a, a', b, c, c', d, hA, hB, hs⟩ := h
  simp only [rsafe, Bool.and_eq_true, decide_eq_true_eq] at hs
  obtain ⟨⟨⟨⟨⟨⟨⟨⟨⟨⟨⟨_, h1⟩, h2⟩, h3⟩, h4⟩, h5⟩, h6⟩, h7⟩, h8⟩, h9⟩, h10⟩, h11⟩ := hs
  have g0 := hG.mon.1
  have tg := hG.mon.tr
  have lg : 0 < g.length := List.length_pos_iff.mpr g0
  -- what is left of B
  have quo : ∀ {C : List Rat} {s : Rat} {a a' b : Nat}, Row s a a' b C → Dv g C → ∃ q1, Qr C g q1 [] := fun {C s a a' b} hC hD => by
    obtain ⟨z, hz⟩ := hD
    exact ⟨tr z, Tr_tr _, Tr_nil, by simpa using lg, fun x => by rw [hz, ev_tr, ev_nil]; grind⟩
  obtain ⟨p1, hp⟩ := quo hA hG.dA
  obtain ⟨q1, hq⟩ := quo hB hG.dB
  have vp : ∀ x, ev A x = ev p1 x * ev g x := fun x => by have := hp.val x; rw [ev_nil] at this; grind
  have vq : ∀ x, ev B x = ev q1 x * ev g x := fun x => by have := hq.val x; rw [ev_nil] at this; grind
  obtain ⟨u, v, rg, rq⟩ := dvb hB B0 hG.mon hq.ta vq
  have q0 : q1 ≠ [] := fun z => B0 (hB.tr.ne (Z_of_ev fun n => by rw [vq, z, ev_nil]; grind))
  have lB := len_mul hq.ta tg hB.tr q0 g0 vq
  have lq : 0 < q1.length := List.length_pos_iff.mpr q0
  have lgB : g.length ≤ B.length := by omega
  have lp : p1 = [] ∨ A.length + 1 = p1.length + g.length := by
    by_cases p0 : p1 = []
    · exact .inl p0
    · exact .inr (len_mul hp.ta tg hA.tr p0 g0 vp)
  have m1 : ∀ n k : Nat, (n + 1 - g.length) * k ≤ n * k := fun n k => Nat.mul_le_mul_right _ (by omega)
  have zp : ∀ x ∈ p1, Sz x := by
    by_cases A0 : A = []
    · have : p1 = [] := hp.ta.ne (by
        have := Z_mul (p := p1) (q := g) fun x => by rw [← vp, A0, ev_nil]
        exact this.resolve_right (not_Z tg g0))
      rw [this]
      intro x hx
      simp at hx
    · obtain ⟨u2, v2, rg2, rp⟩ := dvb hA A0 hG.mon hp.ta vp
      intro x hx
      obtain ⟨k, _, rfl⟩ := mem_cf hx
      exact (rp.bd.bt rp.bt k).sz h6 h7
  refine ⟨g, p1, q1, hC, ⟨A, g, p1, [], s, u, a, a', b, _, _, _, rfl, hA.tr, tg, g0, hA.s0, rg.s0, hA.bt, rg.bt, hA.bd, rg.bd, h10, by omega, ?_, ?_, ?_, hp, rfl⟩, ⟨B, g, q1, [], t, u, c, c', d, _, _, _, rfl, hB.tr, tg, g0, hB.s0, rg.s0, hB.bt, rg.bt, hB.bd, rg.bd, h11, by omega, ?_, ?_, ?_, hq, rfl⟩, q0, hq.ta, zp, ?_, ?_, ?_, ?_⟩
  · have := m1 A.length (d + kk (B.length - 1) + 1); omega
  · have := m1 A.length (d + kk (B.length - 1)); omega
  · omega
  · have := m1 B.length (d + kk (B.length - 1) + 1); omega
  · have := m1 B.length (d + kk (B.length - 1)); omega
  · omega
  · intro x hx
    obtain ⟨k, _, rfl⟩ := mem_cf hx
    exact (rq.bd.bt rq.bt k).sz h8 h9
  · rcases lp with z | z
    · rw [z]; simp
    · omega
  · omega
  · refine ⟨red_of hG vp vq hp.ta hq.ta q0, fun x => ?_⟩
    rw [ev_sc, ev_sc, vp, vq]
    grind
theorem rat2_uniq {A B P Q P' Q' : List Rat} (tB : Tr B) (B0 : B ≠ []) (h : Rat2 A B P Q) (h' : Rat2 A B P' Q') : P = P' ∧ Q = Q' := red_eq h.1 h'.1 (by
  have := cancel (a := mulL P Q') (b := mulL P' Q) (c := B) (not_Z tB B0) fun x => by
    rw [ev_mulL, ev_mulL]
    have h1 := h.2 x
    have h2 := h'.2 x
    grind
  intro x
  have := this x
  rwa [ev_mulL, ev_mulL] at this)
theorem Rok.ex {A B : List Rat} (h : Rok A B) (B0 : B ≠ []) : ∃ P Q, Rat2 A B P Q := by
  obtain ⟨g, p1, q1, _, _, _, _, _, _, _, _, _, hr⟩ := h.way B0
  exact ⟨_, _, hr⟩
end K11
/-! raising, ratio. -/
namespace K11
open PySem PySem.Spec PyProof.Rows L2
/-- a def's promise: the result's data, or Misstep with a word -/
def PX (K : PySem.W.Frag) (C : Addr) (f : List PyData → PyData ⊕ Str → Prop) : Sp := fun vs H Q E => ∃ ds r, DpAll K H vs ds ∧ f ds r ∧ (∀ d, r = .inl d → ∀ v H', Same H H' → Dp K H' v d → Q v H') ∧
  (∀ x, r = .inr x → ∀ d H', Same H H' → H' d = some (.xd [("word", .str x)]) → E (.ref C) (some d) H')
theorem px_len {K : PySem.W.Frag} {C : Addr} {f : List PyData → PyData ⊕ Str → Prop} {n : Nat} (h : ∀ ds r, f ds r → ds.length = n) {vs : List V} {H : Hp} {Q : VK} {E : XK} (k : PX K C f vs H Q E) : vs.length = n := by
  obtain ⟨ds, r, a, b, _⟩ := k
  rw [dpa_len a]
  exact h _ _ b
section
variable {K : PySem.W.Frag} {H H' : Hp} {σ : L2.St} {te : TE} {tA : TA} {ds : List PyData} {d : PyData} {C : Addr}
theorem ed_callX {f : List PyData → PyData ⊕ Str → Prop} {E : XK} (h : EvA K tA σ H ds) (hf : f ds (.inl d)) : EvD K (tCall (PX K C f) [] E tA) σ H d := fun H1 e1 Q q => h H1 e1 _ fun vs H2 s a => by
  show PX K C f (vs ++ []) H2 Q E
  rw [List.append_nil]
  exact ⟨ds, _, a, hf, fun d' e v H3 s3 a3 => by
    cases e
    exact q v H3 (s.trans s3) a3, fun x e => by cases e⟩
/-- return f(..), f one that may raise -/
theorem q_retX {D : Ends} {f : List PyData → PyData ⊕ Str → Prop} {E : L2.St → XK} {r : PyData ⊕ Str} (h : EvA K tA σ H ds) (hf : f ds r) (k1 : ∀ d, r = .inl d → ∀ v H', Same H H' → Dp K H' v d → D.rt v H')
    (k2 : ∀ x, r = .inr x → ∀ d H', Same H H' → H' d = some (.xd [("word", .str x)]) → E σ (.ref C) (some d) H') : tRet (tCallS (PX K C f) E tA) D σ H :=
  h H (Same.refl H) _ fun vs H2 s a => ⟨ds, r, a, hf, fun d e v H3 s3 a3 => k1 d e v H3 (s.trans s3) a3, fun x e d H3 s3 a3 => k2 x e d H3 (s.trans s3) a3⟩
theorem q_raise {x : Str} {Q : XK} (hC : OexC K C) (k : ∀ d H', Same H H' → H' d = some (.xd [("word", .str x)]) → Q (.ref C) (some d) H') : tMkO C (spMis K C) [] (tCons (tC (.str x)) tNil) σ H Q := by
  refine ⟨by show 1 ≤ 1000; decide, fun a ha => ⟨a, .str x, rfl, upd_same, fun dx hn hne => ⟨rfl, dx, _, upd_same, by rw [upd_ne hne, upd_same], ?_, k dx _ (fun b o e => ?_) upd_same⟩⟩⟩
  · rwa [upd_ne hne] at hn
  · have hdx : H dx = none := by rwa [upd_ne hne] at hn
    have b1 : b ≠ dx := ne_of_none e hdx
    have b2 : b ≠ a := ne_of_none e ha
    rw [upd_ne b1, del_ne b2, upd_ne b2, upd_ne b1, upd_ne b2]
    exact e
end
theorem mis_binds {P : Program} {K : PySem.W.Frag} {mg : Str → Option Value} {C fI : Addr} {fd : FuncData} (T : MisTxt P K mg C fI fd) : Binds K fd ["self", "word"] [] := by
  obtain ⟨oc, od, kV, doc, pm, an, cda, ct, cc, osl, ccl, cdd, fvs, ccs, file, tf, cl, cld, csl, rfl, lk, hcd, lkc, hvs, hfile, lkcc⟩ := T.fn
  exact .all fun us hl => match us, hl with | [_, _], _ => rfl
abbrev sRatio : Stmt := topS 22
theorem scRatio : FnScope ["above", "below", "shared", "factor"] ["above", "below"] (defScope sRatio) := ⟨rfl, rfl, rfl, by decide +kernel, rfl, by decide +kernel, by decide +kernel⟩
def QuD (P Q : List Rat) : PyData := .tuple [PoD P, PoD Q]
def fRatio : List PyData → PyData ⊕ Str → Prop := fun ds r => ∃ A B, ds = [PoD A, PoD B] ∧ ((B = [] ∧ r = .inr "nought") ∨ (B ≠ [] ∧ Rok A B ∧ ∃ P Q, Rat2 A B P Q ∧ r = .inl (QuD P Q)))
section
variable {P : Program} {w : World} {K : PySem.W.Frag} {mg : Str → Option Value} {base : Heap}
theorem ok_ratio {f fC fD fO fS C fI : Addr} {fd fdC fdD fdO fdS fdI : FuncData} (F : Fun K "ratio" "ratio" sRatio f fd) (T : MisTxt P K mg C fI fdI)
    (FC : Fun K "common_poly" "common_poly" sCommon fC fdC) (gC : mg "common_poly" = some (.ref fC)) (GC : FnOk P w K mg base CX0 5 fC fdC ["one", "other"] (PF K fCom))
    (FD : Fun K "divided_poly" "divided_poly" sDivided fD fdD) (gD : mg "divided_poly" = some (.ref fD)) (GD : FnOk P w K mg base CX0 4 fD fdD ["one", "other"] (PF K fDiv))
    (FO : Fun K "over" "over" sOver fO fdO) (gO : mg "over" = some (.ref fO)) (GO : FnOk P w K mg base CX0 3 fO fdO ["one", "other"] (PF K fOver))
    (FS : Fun K "scaled_poly" "scaled_poly" sScaled fS fdS) (gS : mg "scaled_poly" = some (.ref fS)) (GS : FnOk P w K mg base CX0 4 fS fdS ["factor", "one"] (PF K fScale)) (mLen : mg "len" = none) : FnOk P w K mg base (L2.CX P w) 6 f fd ["above", "below"] (PX K C fRatio) := by
  have bC := FC.binds (ps := ["one", "other"]) fun _ _ _ _ _ _ us hl => match us, hl with | [_, _], _ => rfl
  have bD := FD.binds (ps := ["one", "other"]) fun _ _ _ _ _ _ us hl => match us, hl with | [_, _], _ => rfl
  have bO := FO.binds (ps := ["one", "other"]) fun _ _ _ _ _ _ us hl => match us, hl with | [_, _], _ => rfl
  have bS := FS.binds (ps := ["factor", "one"]) fun _ _ _ _ _ _ us hl => match us, hl with | [_, _], _ => rfl
  refine F.okX scRatio (fun vs H Q E h => px_len (n := 2) (fun ds r q => by obtain ⟨_, _, rfl, _⟩ := q; rfl) h) (fun cdv A0 outer s0 H vs Q E hr h => ?_)
  obtain ⟨ds, r, ha, ⟨A, B, rfl, hR⟩, k1, k2⟩ := h
  have hr4 : Room 4 _ := hr.mono (by decide)
  refine ⟨_, pss_cons (ps_if (pt_cmpR op_eq (pe_callB call_len_seq (by rfl) mLen boot_len (pa_cons (pv 1) pa_nil)) pe_int (nomark _))
      (pss_one (ps_raise rfl (takes_of rfl rfl rfl rfl) (pmk_oex (CX := CX0) (k := 1) T.oex T.iC T.tI (ok_misinit T) (hr.mono (by decide)) (mis_binds T) .nil pass0 (by rfl) T.gC (pa_cons pe_str pa_nil)))) pss_nil)
    (pss_cons (ps_set (i := 2) scRatio.nd rfl (.inl rfl) (pe_call GC hr (by rfl) gC FC.kp bC .nil pass0 (pa_cons (pv 0) (pa_cons (pv 1) pa_nil))))
    (pss_cons (ps_par (i := 0) (j := 1) rfl scRatio.nd rfl rfl (by decide) rfl rfl (pa_cons (pe_ix ix_tup (pe_call GD hr4 (by rfl) gD FD.kp bD .nil pass0 (pa_cons (pv 0) (pa_cons (pv 2) pa_nil))) pe_int (fun _ _ => rfl)) (pa_cons (pe_ix ix_tup (pe_call GD hr4 (by rfl) gD FD.kp bD .nil pass0 (pa_cons (pv 1) (pa_cons (pv 2) pa_nil))) pe_int (fun _ _ => rfl)) pa_nil)) (by rfl))
    (pss_cons (ps_set (i := 3) scRatio.nd rfl (.inl rfl) (pe_call GO (hr.mono (by decide)) (by rfl) gO FO.kp bO .nil pass0 (pa_cons (pe_tup (pa_cons pe_int (pa_cons pe_int pa_nil))) (pa_cons (pe_ix ix_tup (pv 1) (pe_un un_neg pe_int) (fun _ _ => rfl)) pa_nil))))
    (pss_one (ps_ret (pe_tup (pa_cons (pe_call GS hr4 (by rfl) gS FS.kp bS .nil pass0 (pa_cons (pv 3) (pa_cons (pv 0) pa_nil))) (pa_cons (pe_call GS hr4 (by rfl) gS FS.kp bS .nil pass0 (pa_cons (pv 3) (pa_cons (pv 1) pa_nil))) pa_nil)))))))), ?_⟩
  have he := env_start (N := ["above", "below", "shared", "factor"]) ha
  refine q_if (eb_eqI (ed_lenT (ed_var he rfl)) (ed_int 0)) (fun hb H1 s1 => ?_) (fun hb H1 s1 => ?_)
  · have hB : B = [] := by
      refine List.eq_nil_of_length_eq_zero ?_
      rw [List.length_map] at hb
      have := of_decide_eq_true hb
      omega
    rcases hR with ⟨_, rfl⟩ | ⟨z, _⟩
    · exact q_raise T.oex fun d H2 s2 hd => k2 _ rfl d H2 (s1.trans s2) hd
    · exact absurd hB z
  · have hB : B ≠ [] := fun z => by
      rw [z] at hb
      simp at hb
    rcases hR with ⟨z, _⟩ | ⟨_, hok, P', Q', hrat, rfl⟩
    · exact absurd z hB
    obtain ⟨g, p1, q1, hC, hd1, hd2, q0, tq, zp, zq, lp, lq, hr2⟩ := hok.way hB
    have tB : Tr B := hok.com.tq
    obtain ⟨e1, e2⟩ := rat2_uniq tB hB hrat hr2
    have hl := tq q0
    have lq1 : 0 < q1.length := List.length_pos_iff.mpr q0
    have zl : Sz (cf q1 (q1.length - 1)) := by
      rw [cf_of_lt (by omega)]
      exact zq _ (List.getElem_mem _)
    have he1 := he.same s1
    refine q_set he1 (ed_call (ea_cons (ed_var he1 rfl) (ea_cons (ed_var he1 rfl) ea_nil)) ⟨A, B, g, rfl, hok.com, hC, rfl⟩) fun v2 H2 s2 he2 => ?_
    refine q_par (by decide) he2 (ed_ixT (ed_call (ea_cons (ed_var he2 rfl) (ea_cons (ed_var he2 rfl) ea_nil)) hd1) (ed_int 0) rfl) (ed_ixT (ed_call (ea_cons (ed_var he2 rfl) (ea_cons (ed_var he2 rfl) ea_nil)) hd2) (ed_int 0) rfl) fun σ3 H3 s3 he3 => ?_
    refine q_set he3 (ed_call (ea_cons (ed_tup (ea_cons (ed_int 1) (ea_cons (ed_int 1) ea_nil)) (by simp)) (ea_cons (ed_ixT (ed_var (i := 1) he3 rfl) (ed_neg (ed_int 1)) (po_last q0)) ea_nil)) (d := FrD (1 / cf q1 (q1.length - 1))) ⟨1, _, rfl, Sz.one, zl, hl, rfl⟩) fun v4 H4 s4 he4 => ?_
    refine q_ret (ed_tup (ea_cons (ed_call (ea_cons (ed_var (i := 3) he4 rfl) (ea_cons (ed_var (i := 0) he4 rfl) ea_nil)) (d := PoD P') ⟨_, p1, rfl, zl.inv hl, zp, by omega, ?_⟩) (ea_cons (ed_call (ea_cons (ed_var (i := 3) he4 rfl) (ea_cons (ed_var (i := 1) he4 rfl) ea_nil)) (d := PoD Q') ⟨_, q1, rfl, zl.inv hl, zq, by omega, ?_⟩) ea_nil)) (by simp)) fun v5 H5 s5 hv => k1 _ rfl v5 H5 (s1.trans (s2.trans (s3.trans (s4.trans s5)))) hv
    · rw [tr_eq (e1 ▸ hrat.1.tp), e1]
    · rw [tr_eq (e2 ▸ hrat.1.mq.tr), e2]
end
end K11
/-! is_part, is_poly. -/
namespace K11
open PySem PySem.Spec PyProof.Rows L2
abbrev sIsPart : Stmt := topS 6
abbrev sIsPoly : Stmt := topS 15
theorem scIsPart : FnScope ["value", "number"] ["value"] (defScope sIsPart) := ⟨rfl, rfl, rfl, by decide +kernel, rfl, by decide +kernel, by decide +kernel⟩
theorem scIsPoly : FnScope ["value", "one"] ["value"] (defScope sIsPoly) := ⟨rfl, rfl, rfl, by decide +kernel, rfl, by decide +kernel, by decide +kernel⟩
theorem boot_isi : bootBuiltins "isinstance" = some (.builtin "isinstance") := by decide +kernel
theorem boot_all : bootBuiltins "all" = some (.builtin "all") := by decide +kernel
def tyN : PyData → String
  | .none => "NoneType"
  | .bool _ => "bool"
  | .int _ => "int"
  | .str _ => "str"
  | .list _ => "list"
  | .tuple _ => "tuple"
  | .dict _ => "dict"
def isTup : PyData → Bool
  | .tuple _ => true
  | _ => false
def isInt : PyData → Bool
  | .int _ => true
  | _ => false
def isBool : PyData → Bool
  | .bool _ => true
  | _ => false
section
variable {K : PySem.W.Frag} {H H' : Hp} {σ : L2.St} {ta tb te : TE} {tA : TA} {ds : List PyData} {d : PyData}
theorem tyx_of {v : V} (h : Dp K H v d) : TyX K H v (.type (tyN d)) := by
  cases h with
  | non => exact .base .non
  | bl b => exact .base (.bl b)
  | int i => exact .base (.int i)
  | str x => exact .base (.str x)
  | lst hs _ =>
    rcases hs with (h | ⟨o, h⟩) | ⟨o, its, n, h, hc, _⟩
    · exact .base (.lst h)
    · exact .base (.frz h)
    · exact .kList h hc
  | tup hs _ =>
    rcases hs with (h | ⟨o, h⟩) | ⟨o, its, n, h, hc, _⟩
    · exact .base (.tup h)
    · exact .fTuple h
    · exact .kTuple h hc
theorem ed_isi {n : String} {b : Bool} (h : EvD K ta σ H d) (hk : kitB (tyN d) n = some b) : EvD K (tCB (rIsi K) (tCons ta (tCons (tC (.ty n)) tNil))) σ H (.bool b) := fun H1 e Q q => h H1 e _ fun v H2 s a =>
  ⟨v, .ty n, .type (tyN d), .type n, b, rfl, .ty n, tyx_of a, kit_ty hk, q _ H2 s (.bl b)⟩
theorem kit_tup (d : PyData) : kitB (tyN d) "tuple" = some (isTup d) := by cases d <;> (simp only [tyN, isTup]; decide +kernel)
theorem kit_int (d : PyData) : kitB (tyN d) "int" = some (isInt d || isBool d) := by cases d <;> (simp only [tyN, isInt, isBool]; decide +kernel)
theorem kit_bool (d : PyData) : kitB (tyN d) "bool" = some (isBool d) := by cases d <;> (simp only [tyN, isBool]; decide +kernel)
theorem ed_all {bs : List Bool} (h : EvD K ta σ H (.list (bs.map PyData.bool))) : EvD K (tCB (rAll K) (tCons ta tNil)) σ H (.bool (bs.all id)) := fun H1 e Q q => h H1 e _ fun v H2 s a => by
  cases a with
  | lst hs hd =>
    have bls : ∀ {bs : List Bool} {vs : List V}, DpAll K H2 vs (bs.map PyData.bool) → vs = bs.map V.bl := by
      intro bs
      induction bs with
      | nil =>
        intro vs h
        cases h
        rfl
      | cons b bs ih =>
        intro vs h
        cases h with
        | cons x y =>
          cases x
          rw [ih y]
          rfl
    rw [bls hd] at hs
    exact ⟨_, bs, rfl, hs, q _ H2 s (.bl _)⟩
theorem ed_cmpI {g : Int → Int → Bool} {x y : Int} (ha : EvD K ta σ H (.int x)) (hb : EvD K tb σ H (.int y)) : EvD K (tOp (rI0 fun i j => .bl (g i j)) ta tb) σ H (.bool (g x y)) := ed_opI ha hb fun _ => .bl _
theorem ed_eqI {x y : Int} (ha : EvD K ta σ H (.int x)) (hb : EvD K tb σ H (.int y)) : EvD K (tOp rEq ta tb) σ H (.bool (decide (x = y))) := fun H1 e1 Q q =>
  ha H1 e1 _ fun v H2 s a => hb H2 (e1.trans s) _ fun w H3 s2 a2 => by
    cases a
    cases a2
    refine ⟨rfl, ?_⟩
    have : decide (V.int x = V.int y) = decide (x = y) := decide_eq_decide.mpr ⟨fun z => V.int.inj z, fun z => by rw [z]⟩
    rw [this]
    exact q _ H3 (s.trans s2) (.bl _)
theorem ed_neI {x y : Int} (ha : EvD K ta σ H (.int x)) (hb : EvD K tb σ H (.int y)) : EvD K (tOp rNe ta tb) σ H (.bool (!decide (x = y))) := fun H1 e1 Q q =>
  ha H1 e1 _ fun v H2 s a => hb H2 (e1.trans s) _ fun w H3 s2 a2 => by
    cases a
    cases a2
    refine ⟨rfl, ?_⟩
    have : decide (V.int x = V.int y) = decide (x = y) := decide_eq_decide.mpr ⟨fun z => V.int.inj z, fun z => by rw [z]⟩
    rw [this]
    exact q _ H3 (s.trans s2) (.bl _)
end
def isPart2 : PyData → PyData → Bool
  | .int a, .int b => decide (b ≥ 1) && decide ((Int.gcd a b : Int) = 1)
  | _, _ => false
def isPartL : List PyData → Bool
  | [x, y] => isPart2 x y
  | _ => false
def isPartD : PyData → Bool
  | .tuple ds => isPartL ds
  | _ => false
/-- of a part the upper number is not 0 -/
def upNz : PyData → Bool
  | .tuple (.int a :: _) => !decide (a = 0)
  | _ => true
def isPolyD : PyData → Bool
  | .tuple ds => ds.all isPartD && (ds.isEmpty || upNz (ds.getLast?.getD .none))
  | _ => false
def sml : PyData → Prop
  | .tuple ds => ds.length ≤ 500
  | _ => True
def fIsPart : List PyData → PyData → Prop := fun ds r => ∃ d, ds = [d] ∧ sml d ∧ r = .bool (isPartD d)
def fIsPoly : List PyData → PyData → Prop := fun ds r => ∃ d, ds = [d] ∧ sml d ∧ (∀ es, d = .tuple es → ∀ e ∈ es, sml e) ∧ r = .bool (isPolyD d)
section
variable {P : Program} {w : World} {K : PySem.W.Frag} {mg : Str → Option Value} {base : Heap}
theorem ok_isPart {f fD : Addr} {fd fdD : FuncData} (F : Fun K "is_part" "is_part" sIsPart f fd) (FD : Fun K "divisor" "divisor" sDivisor fD fdD) (gD : mg "divisor" = some (.ref fD)) (GD : FnOk P w K mg base CX0 1 fD fdD ["one", "other"] (PF K fDivisor))
    (mI : mg "isinstance" = none) (mT : mg "tuple" = none) (mLen : mg "len" = none) (mA : mg "all" = none) (mInt : mg "int" = none) (mB : mg "bool" = none) : FnOk P w K mg base CX0 2 f fd ["value"] (PF K fIsPart) := by
  have bD := FD.binds (ps := ["one", "other"]) fun _ _ _ _ _ _ us hl => match us, hl with | [_, _], _ => rfl
  refine F.ok scIsPart (fun vs H Q E h => pf_len (n := 1) (fun ds r q => by obtain ⟨a, rfl, _⟩ := q; rfl) h) (fun cdv A outer s H vs Q E hr h => ?_)
  obtain ⟨ds, r, ha, ⟨d, rfl, hsm, rfl⟩, k⟩ := h
  refine ⟨_, pss_cons (ps_if (PW.pt (pw_or (pt_not (pt_val (pe_callB call_isi (by rfl) mI boot_isi (pa_cons (pv 0) (pa_cons (pe_bltn (v := .ty "tuple") (u := .type "tuple") (by rfl) mT (by decide +kernel) rfl) pa_nil)))))
      (pw_or1 (pt_cmpR op_ne (pe_callB call_len_seq (by rfl) mLen boot_len (pa_cons (pv 0) pa_nil)) pe_int (nomark _))))) (pss_one (ps_ret pe_bl)) pss_nil)
    (pss_cons (ps_if (pt_not (pt_val (pe_callB (cr_all rfl) (by rfl) mA boot_all (pa_cons (pe_lc (own := [("number", 1)]) (g := gName 1) (tt := tYes) rfl scIsPart.nd (pi_tup (pv 0)) (blkOk_by (N := ["value", "number"]) (sc := defScope sIsPart) (by decide +kernel)) (fun _ _ _ _ _ => pg_name (i := 1) scIsPart.nd rfl (.inl rfl)) (fun _ _ _ _ _ => pts_nil)
      (fun _ _ _ _ _ => pe_and (pe_callB (r := rIsi K) call_isi (by rfl) mI boot_isi (pa_cons (pv 1) (pa_cons (pe_bltn (v := .ty "int") (u := .type "int") (by rfl) mInt (by decide +kernel) rfl) pa_nil)))
        (pe_one (pe_not (pe_callB (r := rIsi K) call_isi (by rfl) mI boot_isi (pa_cons (pv 1) (pa_cons (pe_bltn (v := .ty "bool") (u := .type "bool") (by rfl) mB (by decide +kernel) rfl) pa_nil))))))) pa_nil)))) (pss_one (ps_ret pe_bl)) pss_nil)
    (pss_one (ps_ret (pe_and (pe_cmpR op_ge (pe_ix ix_tup (pv 0) pe_int (fun _ _ => rfl)) pe_int (nomark _))
      (pe_one (pe_cmpR op_eq (pe_call GD (hr.mono (by decide)) (by rfl) gD FD.kp bD .nil pass0 (pa_cons (pe_ix ix_tup (pv 0) pe_int (fun _ _ => rfl)) (pa_cons (pe_ix ix_tup (pv 0) pe_int (fun _ _ => rfl)) pa_nil))) pe_int (nomark _))))))), ?_⟩
  have he := env_start (N := ["value", "number"]) ha
  have not_tup : ∀ {d : PyData}, isTup d = false → isPartD d = false := fun {d} h => by
    cases d <;> first | rfl | simp [isTup] at h
  by_cases ht : isTup d = true
  · obtain ⟨es, rfl⟩ : ∃ es, d = .tuple es := by
      cases d <;> first | exact ⟨_, rfl⟩ | simp [isTup] at ht
    have hes : es.length ≤ 500 := hsm
    refine q_if (eb_or (eb_not (eb_B (ed_isi (ed_var he rfl) (kit_tup _)))) (fun _ => eb_neI (ed_lenT (ed_var he rfl)) (ed_int 2))) (fun hb H1 s1 => ?_) (fun hb H1 s1 => ?_)
    · refine q_ret (ed_bl (K := K) false) fun v H2 s2 hv => k v H2 (s1.trans s2) ?_
      have hl : es.length ≠ 2 := fun z => by
        simp [isTup, z] at hb
      have : isPartD (.tuple es) = false := by
        match es, hl with
        | [], _ => rfl
        | [_], _ => rfl
        | [_, _], h => exact absurd rfl h
        | _ :: _ :: _ :: _, _ => rfl
      rw [this]
      exact hv
    · have hl : es.length = 2 := by
        simp [isTup] at hb
        omega
      obtain ⟨x, y, rfl⟩ : ∃ x y, es = [x, y] := by
        match es, hl with
        | [x, y], _ => exact ⟨x, y, rfl⟩
      have he1 := he.same s1
      refine q_if (eb_not (eb_B (ed_all (bs := [isInt x, isInt y]) ((elc_tup (fun _ => true) (fun i => PyData.bool (if i = 0 then isInt x else isInt y)) (ds := [x, y]) (ed_var he1 rfl) (by show 2 ≤ 1000; decide) (wipe1 1) (fun _ _ _ => rfl) (fun _ _ _ _ _ _ _ => eb_yes) (fun i u e H2 s2 hd hx _ => ?_)).dd)))) (fun hb H2 s2 => ?_) (fun hb H2 s2 => ?_)
      · have he2 := ((env_wipe he1 [1]).same s2).set (i := 1) hx
        have e1 := ed_andV (ed_isi (ed_var (i := 1) he2 rfl) (kit_int e)) (fun _ => ed_notV (ed_isi (ed_var (i := 1) he2 rfl) (kit_bool e)))
        refine e1.is ?_
        have hi : i < 2 := (List.getElem?_eq_some_iff.mp hd).1
        have hv : ((isInt e || isBool e) && !isBool e) = isInt e := by cases e <;> rfl
        rw [hv]
        match i, hi, hd with
        | 0, _, hd =>
          cases hd
          rfl
        | 1, _, hd =>
          cases hd
          rfl
      · refine q_ret (ed_bl (K := K) false) fun v H3 s3 hv => k v H3 (s1.trans (s2.trans s3)) ?_
        have : isPartD (.tuple [x, y]) = false := by
          cases x <;> first | rfl | (cases y <;> first | rfl | simp [isInt] at hb)
        rw [this]
        exact hv
      · obtain ⟨a, b, rfl, rfl⟩ : ∃ a b, x = .int a ∧ y = .int b := by
          cases x <;> first | (cases y <;> first | exact ⟨_, _, rfl, rfl⟩ | simp [isInt] at hb) | simp [isInt] at hb
        have he2 := he1.same s2
        refine q_ret (ed_andV (ed_cmpI (ed_ixT (ed_var he2 rfl) (ed_int 1) rfl) (ed_int 1)) (fun _ => ed_eqI (ed_call (ea_cons (ed_ixT (ed_var he2 rfl) (ed_int 0) rfl) (ea_cons (ed_ixT (ed_var he2 rfl) (ed_int 1) rfl) ea_nil)) ⟨a, b, rfl, rfl⟩) (ed_int 1))) fun v H3 s3 hv => k v H3 (s1.trans (s2.trans s3)) hv
  · have ht' : isTup d = false := by simpa using ht
    refine q_if (eb_or (c := true) (eb_not (eb_B (ed_isi (ed_var he rfl) (kit_tup _)))) (fun hb => by simp [ht'] at hb)) (fun hb H1 s1 => ?_) (fun hb H1 s1 => ?_)
    · refine q_ret (ed_bl (K := K) false) fun v H2 s2 hv => k v H2 (s1.trans s2) ?_
      rw [not_tup ht']
      exact hv
    · simp at hb
theorem part_tup {d : PyData} (h : isPartD d = true) : ∃ a b : Int, d = .tuple [.int a, .int b] := by
  cases d with
  | tuple ds =>
    match ds, h with
    | [], h => cases h
    | [_], h => cases h
    | _ :: _ :: _ :: _, h => cases h
    | [x, y], h =>
      cases x with
      | int a =>
        cases y with
        | int b => exact ⟨a, b, rfl⟩
        | _ => cases h
      | _ => cases h
  | _ => cases h
theorem atI_get (ds : List PyData) (h : ds ≠ []) : atI ds (-1) = some (ds.getLast?.getD .none) := by
  have := atI_last ds.dropLast (ds.getLast h)
  rw [List.dropLast_concat_getLast] at this
  rw [this, List.getLast?_eq_some_getLast h]
  rfl
theorem ok_isPoly {f fP : Addr} {fd fdP : FuncData} (F : Fun K "is_poly" "is_poly" sIsPoly f fd) (FP : Fun K "is_part" "is_part" sIsPart fP fdP) (gP : mg "is_part" = some (.ref fP)) (GP : FnOk P w K mg base CX0 2 fP fdP ["value"] (PF K fIsPart))
    (mI : mg "isinstance" = none) (mT : mg "tuple" = none) (mLen : mg "len" = none) (mA : mg "all" = none) : FnOk P w K mg base CX0 3 f fd ["value"] (PF K fIsPoly) := by
  have bP := FP.binds (ps := ["value"]) fun _ _ _ _ _ _ us hl => match us, hl with | [_], _ => rfl
  refine F.ok scIsPoly (fun vs H Q E h => pf_len (n := 1) (fun ds r q => by obtain ⟨a, rfl, _⟩ := q; rfl) h) (fun cdv A outer s H vs Q E hr h => ?_)
  obtain ⟨ds, r, ha, ⟨d, rfl, hsm, hsm2, rfl⟩, k⟩ := h
  refine ⟨_, pss_cons (ps_if (PW.pt (pw_or (pt_not (pt_val (pe_callB call_isi (by rfl) mI boot_isi (pa_cons (pv 0) (pa_cons (pe_bltn (v := .ty "tuple") (u := .type "tuple") (by rfl) mT (by decide +kernel) rfl) pa_nil)))))
      (pw_or1 (pt_not (pt_val (pe_callB (cr_all rfl) (by rfl) mA boot_all (pa_cons (pe_lc (own := [("one", 1)]) (g := gName 1) (tt := tYes) rfl scIsPoly.nd (pi_tup (pv 0)) (blkOk_by (N := ["value", "one"]) (sc := defScope sIsPoly) (by decide +kernel)) (fun _ _ _ _ _ => pg_name (i := 1) scIsPoly.nd rfl (.inl rfl)) (fun _ _ _ _ _ => pts_nil)
        (fun _ _ _ _ _ => pe_call GP hr (by rfl) gP FP.kp bP .nil pass0 (pa_cons (pv 1) pa_nil))) pa_nil))))))) (pss_one (ps_ret pe_bl)) pss_nil)
    (pss_one (ps_ret (pe_or (pe_cmpR op_eq (pe_callB call_len_seq (by rfl) mLen boot_len (pa_cons (pv 0) pa_nil)) pe_int (nomark _))
      (pe_one (pe_cmpR op_ne (pe_ix ix_tup (pe_ix ix_tup (pv 0) (pe_un un_neg pe_int) (fun _ _ => rfl)) pe_int (fun _ _ => rfl)) pe_int (nomark _)))))), ?_⟩
  have he := env_start (N := ["value", "one"]) ha
  by_cases ht : isTup d = true
  · obtain ⟨es, rfl⟩ : ∃ es, d = .tuple es := by
      cases d <;> first | exact ⟨_, rfl⟩ | simp [isTup] at ht
    have hes : es.length ≤ 500 := hsm
    have hall : (es.map isPartD).all id = es.all isPartD := by rw [List.all_map]; rfl
    have e1 : ∀ {H1 : Hp}, Same H H1 → EvB _ _ H1 (es.all isPartD) := fun {H1} s1 => (eb_B (ed_all (bs := es.map isPartD) (((elc_tup (ds := es) (j := 1) (vs := [1]) (fun _ => true) (fun i => PyData.bool (isPartD ((es[i]?).getD .none))) (te := tCall (PF K fIsPart) [] E0 (tCons (tVar 1) tNil)) (t := tYes) (ed_var (i := 0) (he.same s1) rfl) (by omega) (wipe1 1) (fun _ _ _ => rfl) (fun _ _ _ _ _ _ _ => eb_yes) (fun i u e H2 s2 hd hx _ => by
        have he2 := ((env_wipe (he.same s1) [1]).same s2).set (i := 1) hx
        refine ed_call (ea_cons (ed_var (i := 1) he2 rfl) ea_nil) ⟨e, rfl, hsm2 es rfl e (List.mem_of_getElem? hd), ?_⟩
        rw [hd]
        rfl)).dd).is (by
          rw [gv_all, List.map_map]
          congr 1
          refine List.ext_getElem (by simp) fun i h1 h2 => ?_
          simp only [List.length_map, List.length_range] at h1 h2
          simp [h2])))).is hall
    refine q_if (eb_or (eb_not (eb_B (ed_isi (ed_var he rfl) (kit_tup _)))) (fun _ => eb_not (e1 (Same.refl H)))) (fun hb H1 s1 => ?_) (fun hb H1 s1 => ?_)
    · refine q_ret (ed_bl (K := K) false) fun v H2 s2 hv => k v H2 (s1.trans s2) ?_
      have : isPolyD (.tuple es) = false := by
        simp [isTup] at hb
        obtain ⟨x, hx, h0⟩ := hb
        simp only [isPolyD, Bool.and_eq_false_iff]
        left
        rw [List.all_eq_false]
        exact ⟨x, hx, by simp [h0]⟩
      rw [this]
      exact hv
    · have hA : es.all isPartD = true := by
        simp [isTup] at hb
        simpa using hb
      have he1 := he.same s1
      refine q_ret ((ed_orV (ed_eqI (ed_lenT (ed_var he1 rfl)) (ed_int 0)) (c := upNz (es.getLast?.getD .none)) (fun hb => ?_)).is (d' := .bool (isPolyD (.tuple es))) ?_) fun v H3 s3 hv => k v H3 (s1.trans s3) hv
      · have h0 : es ≠ [] := fun z => by
          subst z
          simp at hb
        have hl := atI_get es h0
        have hlast : es.getLast?.getD .none ∈ es := by
          rw [List.getLast?_eq_some_getLast h0]
          exact List.getLast_mem h0
        obtain ⟨a, b, hab⟩ := part_tup (List.all_eq_true.mp hA _ hlast)
        rw [hab] at hl ⊢
        exact ed_neI (ed_ixT (ed_ixT (ed_var he1 rfl) (ed_neg (ed_int 1)) hl) (ed_int 0) rfl) (ed_int 0)
      · simp only [isPolyD, hA, Bool.true_and]
        congr 1
        congr 1
        cases es <;> simp
        omega
  · have ht' : isTup d = false := by simpa using ht
    have : isPolyD d = false := by cases d <;> first | rfl | simp [isTup] at ht'
    refine q_if (eb_or (c := true) (eb_not (eb_B (ed_isi (ed_var he rfl) (kit_tup _)))) (fun hb => by simp [ht'] at hb)) (fun hb H1 s1 => ?_) (fun hb H1 s1 => ?_)
    · refine q_ret (ed_bl (K := K) false) fun v H2 s2 hv => k v H2 (s1.trans s2) ?_
      rw [this]
      exact hv
    · simp at hb
end
end K11
/-! the quotients' defs. -/
namespace K11
open PySem PySem.Spec PyProof.Rows L2
abbrev sIsRatio : Stmt := topS 23
abbrev sOfPart : Stmt := topS 24
abbrev sAdded : Stmt := topS 25
abbrev sLess : Stmt := topS 26
abbrev sMultiplied : Stmt := topS 27
abbrev sDivided2 : Stmt := topS 28
abbrev sRatioAt : Stmt := topS 30
abbrev sSlope : Stmt := topS 31
theorem scIsRatio : FnScope ["value", "one"] ["value"] (defScope sIsRatio) := ⟨rfl, rfl, rfl, by decide +kernel, rfl, by decide +kernel, by decide +kernel⟩
theorem scOfPart : FnScope ["part"] ["part"] (defScope sOfPart) := ⟨rfl, rfl, rfl, by decide +kernel, rfl, by decide +kernel, by decide +kernel⟩
theorem scAdded : FnScope ["one", "other", "above"] ["one", "other"] (defScope sAdded) := ⟨rfl, rfl, rfl, by decide +kernel, rfl, by decide +kernel, by decide +kernel⟩
theorem scLess : FnScope ["one", "other"] ["one", "other"] (defScope sLess) := ⟨rfl, rfl, rfl, by decide +kernel, rfl, by decide +kernel, by decide +kernel⟩
theorem scMultiplied : FnScope ["one", "other"] ["one", "other"] (defScope sMultiplied) := ⟨rfl, rfl, rfl, by decide +kernel, rfl, by decide +kernel, by decide +kernel⟩
theorem scDivided2 : FnScope ["one", "other"] ["one", "other"] (defScope sDivided2) := ⟨rfl, rfl, rfl, by decide +kernel, rfl, by decide +kernel, by decide +kernel⟩
theorem scRatioAt : FnScope ["one", "place", "below"] ["one", "place"] (defScope sRatioAt) := ⟨rfl, rfl, rfl, by decide +kernel, rfl, by decide +kernel, by decide +kernel⟩
theorem scSlope : FnScope ["one", "above", "below", "first", "second"] ["one"] (defScope sSlope) := ⟨rfl, rfl, rfl, by decide +kernel, rfl, by decide +kernel, by decide +kernel⟩
/-- what a product needs -/
def MulOk (p q : List Rat) : Prop := ∃ (s t : Rat) (a b c d : Nat), Bits a s ∧ Bits c t ∧ Bd s (2 ^ b) p ∧ Bd t (2 ^ d) q ∧ a + b + c + d + 12 < 4000 ∧ p.length ≤ 30 ∧ q.length ≤ 30
def Prd (p q : List Rat) : List Rat := tr (mulL p q)
def Sum (p q : List Rat) : List Rat := tr (addL p q)
def SzA (p : List Rat) : Prop := (∀ a ∈ p, Sz a) ∧ p.length ≤ 200
theorem MulOk.f {p q : List Rat} (h : MulOk p q) : fMul [PoD p, PoD q] (PoD (Prd p q)) := by
  obtain ⟨s, t, a, b, c, d, h1, h2, h3, h4, h5, h6, h7⟩ := h
  exact ⟨p, q, s, t, a, b, c, d, rfl, h1, h2, h3, h4, h5, h6, h7, rfl⟩
theorem SzA.add {p q : List Rat} (h : SzA p) (k : SzA q) : fAdd [PoD p, PoD q] (PoD (Sum p q)) := ⟨p, q, rfl, h.1, k.1, h.2, k.2, rfl⟩
theorem SzA.scale {p : List Rat} {c : Rat} (hc : Sz c) (h : SzA p) : fScale [FrD c, PoD p] (PoD (tr (sc c p))) := ⟨c, p, rfl, hc, h.1, by have := h.2; omega, rfl⟩
def fOfPart : List PyData → PyData → Prop := fun ds r => ∃ x : Rat, ds = [FrD x] ∧ r = QuD (tr [x]) [1]
def fMult : List PyData → PyData → Prop := fun ds r => ∃ A B C D : List Rat, ds = [QuD A B, QuD C D] ∧ MulOk A C ∧ MulOk B D ∧ fRatio [PoD (Prd A C), PoD (Prd B D)] (.inl r)
def fDivd : List PyData → PyData ⊕ Str → Prop := fun ds r => ∃ A B C D : List Rat, ds = [QuD A B, QuD C D] ∧ MulOk A D ∧ MulOk B C ∧ fRatio [PoD (Prd A D), PoD (Prd B C)] r
def AddOk (A B C D : List Rat) : Prop := MulOk A D ∧ MulOk C B ∧ MulOk B D ∧ SzA (Prd A D) ∧ SzA (Prd C B)
def fAdded : List PyData → PyData → Prop := fun ds r => ∃ A B C D : List Rat, ds = [QuD A B, QuD C D] ∧ AddOk A B C D ∧ fRatio [PoD (Sum (Prd A D) (Prd C B)), PoD (Prd B D)] (.inl r)
def fLess : List PyData → PyData → Prop := fun ds r => ∃ A B C D : List Rat, ds = [QuD A B, QuD C D] ∧ SzA C ∧ fAdded [QuD A B, QuD (tr (sc (-1) C)) D] r
def AtOk (p : List Rat) (x : Rat) : Prop := ∃ (s : Rat) (a b c : Nat), Bits a s ∧ Bits c x ∧ Bd s (2 ^ b) p ∧ p.length ≤ 30 ∧ a + b + 70 * c + 10 < 4000
theorem AtOk.f {p : List Rat} {x : Rat} (h : AtOk p x) : fAt [PoD p, FrD x] (FrD (ev p x)) := by
  obtain ⟨s, a, b, c, h1, h2, h3, h4, h5⟩ := h
  exact ⟨p, x, s, a, b, c, rfl, h1, h2, h3, h4, h5, rfl⟩
def fRAt : List PyData → PyData ⊕ Str → Prop := fun ds r => ∃ (A B : List Rat) (x : Rat), ds = [QuD A B, FrD x] ∧ AtOk A x ∧ AtOk B x ∧ Sz (ev A x) ∧ Sz (ev B x) ∧ ((ev B x = 0 ∧ r = .inr "nought") ∨ (ev B x ≠ 0 ∧ r = .inl (FrD (ev A x / ev B x))))
/-- the slope's upper row -/
def slA (A B : List Rat) : List Rat := Sum (Prd (tr (der A)) B) (tr (sc (-1) (Prd A (tr (der B)))))
def SlOk (A B : List Rat) : Prop := SzA A ∧ SzA B ∧ MulOk (tr (der A)) B ∧ MulOk A (tr (der B)) ∧ MulOk B B ∧ SzA (Prd (tr (der A)) B) ∧ SzA (Prd A (tr (der B))) ∧ SzA (tr (sc (-1) (Prd A (tr (der B)))))
def fSlope : List PyData → PyData → Prop := fun ds r => ∃ A B : List Rat, ds = [QuD A B] ∧ SlOk A B ∧ fRatio [PoD (slA A B), PoD (Prd B B)] (.inl r)
theorem SzA.der {p : List Rat} (h : SzA p) : fDer [PoD p] (PoD (tr (der p))) := ⟨p, rfl, h.1, by have := h.2; omega, rfl⟩
section
variable {K : PySem.W.Frag} {H H' : Hp} {σ : L2.St} {S : List (Option PyData)} {i : Nat} {te : TE} {D : Ends} {tz : TS} {d e : PyData}
/-- a, b = a pair -/
theorem q_unp {j : Nat} (he : Env K H σ S) (h : EvD K te σ H (.tuple [d, e])) (k : ∀ σ' H', Same H H' → Env K H' σ' ((S.set i (some d)).set j (some e)) → tz D σ' H') : tSeq (tAsg te (gTup K 2 (gCons (gName i) (gCons (gName j) gNil)))) tz D σ H :=
  h H (Same.refl H) _ fun v H2 s a => by
    cases a with
    | tup hs hd =>
      cases hd with
      | cons h1 h2 =>
        cases h2 with
        | cons h2 h3 =>
          cases h3
          exact ⟨_, _, rfl, hs, rfl, _, _, rfl, _, _, rfl, rfl, k _ H2 s (((he.same s).set h1).set h2)⟩
end
theorem sz_neg1 : Sz (-1) := ⟨by decide, by decide⟩
section
variable {P : Program} {w : World} {K : PySem.W.Frag} {mg : Str → Option Value} {base : Heap}
theorem ok_ofPart {f fTm : Addr} {fd fdTm : FuncData} (F : Fun K "of_part" "of_part" sOfPart f fd) (FR : Fun K "trimmed" "trimmed" sTrimmed fTm fdTm) (gR : mg "trimmed" = some (.ref fTm)) (GR : FnOk P w K mg base CX0 1 fTm fdTm ["row"] (PF K fTrim)) : FnOk P w K mg base CX0 2 f fd ["part"] (PF K fOfPart) := by
  have bR := FR.binds (ps := ["row"]) fun _ _ _ _ _ _ us hl => match us, hl with | [_], _ => rfl
  refine F.ok scOfPart (fun vs H Q E h => pf_len (n := 1) (fun ds r q => by obtain ⟨_, rfl, _⟩ := q; rfl) h) (fun cdv A0 outer s0 H vs Q E hr h => ?_)
  obtain ⟨ds, r, ha, ⟨x, rfl, rfl⟩, k⟩ := h
  refine ⟨_, pss_one (ps_ret (pe_tup (pa_cons (pe_call GR hr (by rfl) gR FR.kp bR .nil pass0 (pa_cons (pe_lst (pa_cons (pv 0) pa_nil)) pa_nil)) (pa_cons (pe_tup (pa_cons (pe_tup (pa_cons pe_int (pa_cons pe_int pa_nil))) pa_nil)) pa_nil)))), ?_⟩
  have he := env_start (N := ["part"]) ha
  exact q_ret (ed_tup (ea_cons (ed_call (ea_cons (el_lst (ea_cons (ed_var he rfl) ea_nil) (by simp)).dd ea_nil) ⟨[x], rfl, by simp, rfl⟩) (ea_cons (ed_tup (ea_cons (ed_tup (ea_cons (ed_int 1) (ea_cons (ed_int 1) ea_nil)) (by simp)) ea_nil) (by simp)) ea_nil)) (by simp)) fun v H1 s1 hv => k v H1 s1 hv
theorem ok_mult {f fR fM C : Addr} {fd fdR fdM : FuncData} (F : Fun K "multiplied" "multiplied" sMultiplied f fd) (FR : Fun K "ratio" "ratio" sRatio fR fdR) (gR : mg "ratio" = some (.ref fR)) (GR : FnOk P w K mg base (L2.CX P w) 6 fR fdR ["above", "below"] (PX K C fRatio))
    (FM : Fun K "product_poly" "product_poly" sProduct fM fdM) (gM : mg "product_poly" = some (.ref fM)) (GM : FnOk P w K mg base CX0 4 fM fdM ["one", "other"] (PF K fMul)) : FnOk P w K mg base CX0 7 f fd ["one", "other"] (PF K fMult) := by
  have bR := FR.binds (ps := ["above", "below"]) fun _ _ _ _ _ _ us hl => match us, hl with | [_, _], _ => rfl
  have bM := FM.binds (ps := ["one", "other"]) fun _ _ _ _ _ _ us hl => match us, hl with | [_, _], _ => rfl
  refine F.ok scMultiplied (fun vs H Q E h => pf_len (n := 2) (fun ds r q => by obtain ⟨_, _, _, _, rfl, _⟩ := q; rfl) h) (fun cdv A0 outer s0 H vs Q E hr h => ?_)
  obtain ⟨ds, r, ha, ⟨A, B, C, D, rfl, m1, m2, hR⟩, k⟩ := h
  have hr4 : Room 4 _ := hr.mono (by decide)
  refine ⟨_, pss_one (ps_ret (pe_call GR hr (by rfl) gR FR.kp bR .nil passL (pa_cons (pe_call GM hr4 (by rfl) gM FM.kp bM .nil pass0 (pa_cons (pe_ix ix_tup (pv 0) pe_int (fun _ _ => rfl)) (pa_cons (pe_ix ix_tup (pv 1) pe_int (fun _ _ => rfl)) pa_nil)))
    (pa_cons (pe_call GM hr4 (by rfl) gM FM.kp bM .nil pass0 (pa_cons (pe_ix ix_tup (pv 0) pe_int (fun _ _ => rfl)) (pa_cons (pe_ix ix_tup (pv 1) pe_int (fun _ _ => rfl)) pa_nil))) pa_nil)))), ?_⟩
  have he := env_start (N := ["one", "other"]) ha
  exact q_ret (ed_callX (ea_cons (ed_call (ea_cons (ed_ixT (ed_var he rfl) (ed_int 0) rfl) (ea_cons (ed_ixT (ed_var he rfl) (ed_int 0) rfl) ea_nil)) m1.f) (ea_cons (ed_call (ea_cons (ed_ixT (ed_var he rfl) (ed_int 1) rfl) (ea_cons (ed_ixT (ed_var he rfl) (ed_int 1) rfl) ea_nil)) m2.f) ea_nil)) hR) fun v H1 s1 hv => k v H1 s1 hv
theorem ok_divd {f fR fM C : Addr} {fd fdR fdM : FuncData} (F : Fun K "divided" "divided" sDivided2 f fd) (FR : Fun K "ratio" "ratio" sRatio fR fdR) (gR : mg "ratio" = some (.ref fR)) (GR : FnOk P w K mg base (L2.CX P w) 6 fR fdR ["above", "below"] (PX K C fRatio))
    (FM : Fun K "product_poly" "product_poly" sProduct fM fdM) (gM : mg "product_poly" = some (.ref fM)) (GM : FnOk P w K mg base CX0 4 fM fdM ["one", "other"] (PF K fMul)) : FnOk P w K mg base (L2.CX P w) 7 f fd ["one", "other"] (PX K C fDivd) := by
  have bR := FR.binds (ps := ["above", "below"]) fun _ _ _ _ _ _ us hl => match us, hl with | [_, _], _ => rfl
  have bM := FM.binds (ps := ["one", "other"]) fun _ _ _ _ _ _ us hl => match us, hl with | [_, _], _ => rfl
  refine F.okX scDivided2 (fun vs H Q E h => px_len (n := 2) (fun ds r q => by obtain ⟨_, _, _, _, rfl, _⟩ := q; rfl) h) (fun cdv A0 outer s0 H vs Q E hr h => ?_)
  obtain ⟨ds, r, ha, ⟨A, B, C', D, rfl, m1, m2, hR⟩, k1, k2⟩ := h
  have hr4 : Room 4 _ := hr.mono (by decide)
  refine ⟨_, pss_one (ps_ret (pe_callS (E := WE (fun cls d _ H => E cls d H)) GR hr (by rfl) gR FR.kp bR (fun σ => passAt (takes_of rfl rfl rfl rfl) σ) (pa_cons (pe_call GM hr4 (by rfl) gM FM.kp bM .nil pass0 (pa_cons (pe_ix ix_tup (pv 0) pe_int (fun _ _ => rfl)) (pa_cons (pe_ix ix_tup (pv 1) pe_int (fun _ _ => rfl)) pa_nil)))
    (pa_cons (pe_call GM hr4 (by rfl) gM FM.kp bM .nil pass0 (pa_cons (pe_ix ix_tup (pv 0) pe_int (fun _ _ => rfl)) (pa_cons (pe_ix ix_tup (pv 1) pe_int (fun _ _ => rfl)) pa_nil))) pa_nil)))), ?_⟩
  have he := env_start (N := ["one", "other"]) ha
  exact q_retX (ea_cons (ed_call (ea_cons (ed_ixT (ed_var he rfl) (ed_int 0) rfl) (ea_cons (ed_ixT (ed_var he rfl) (ed_int 1) rfl) ea_nil)) m1.f) (ea_cons (ed_call (ea_cons (ed_ixT (ed_var he rfl) (ed_int 1) rfl) (ea_cons (ed_ixT (ed_var he rfl) (ed_int 0) rfl) ea_nil)) m2.f) ea_nil)) hR k1 k2
theorem ok_added {f fR fM fA C : Addr} {fd fdR fdM fdA : FuncData} (F : Fun K "added" "added" sAdded f fd) (FR : Fun K "ratio" "ratio" sRatio fR fdR) (gR : mg "ratio" = some (.ref fR)) (GR : FnOk P w K mg base (L2.CX P w) 6 fR fdR ["above", "below"] (PX K C fRatio))
    (FM : Fun K "product_poly" "product_poly" sProduct fM fdM) (gM : mg "product_poly" = some (.ref fM)) (GM : FnOk P w K mg base CX0 4 fM fdM ["one", "other"] (PF K fMul))
    (FA : Fun K "added_poly" "added_poly" sAddedP fA fdA) (gA : mg "added_poly" = some (.ref fA)) (GA : FnOk P w K mg base CX0 4 fA fdA ["one", "other"] (PF K fAdd)) : FnOk P w K mg base CX0 7 f fd ["one", "other"] (PF K fAdded) := by
  have bR := FR.binds (ps := ["above", "below"]) fun _ _ _ _ _ _ us hl => match us, hl with | [_, _], _ => rfl
  have bM := FM.binds (ps := ["one", "other"]) fun _ _ _ _ _ _ us hl => match us, hl with | [_, _], _ => rfl
  have bA := FA.binds (ps := ["one", "other"]) fun _ _ _ _ _ _ us hl => match us, hl with | [_, _], _ => rfl
  refine F.ok scAdded (fun vs H Q E h => pf_len (n := 2) (fun ds r q => by obtain ⟨_, _, _, _, rfl, _⟩ := q; rfl) h) (fun cdv A0 outer s0 H vs Q E hr h => ?_)
  obtain ⟨ds, r, ha, ⟨A, B, C, D, rfl, ⟨m1, m2, m3, z1, z2⟩, hR⟩, k⟩ := h
  have hr4 : Room 4 _ := hr.mono (by decide)
  refine ⟨_, pss_cons (ps_set (i := 2) scAdded.nd rfl (.inl rfl) (pe_call GA hr4 (by rfl) gA FA.kp bA .nil pass0 (pa_cons (pe_call GM hr4 (by rfl) gM FM.kp bM .nil pass0 (pa_cons (pe_ix ix_tup (pv 0) pe_int (fun _ _ => rfl)) (pa_cons (pe_ix ix_tup (pv 1) pe_int (fun _ _ => rfl)) pa_nil)))
      (pa_cons (pe_call GM hr4 (by rfl) gM FM.kp bM .nil pass0 (pa_cons (pe_ix ix_tup (pv 1) pe_int (fun _ _ => rfl)) (pa_cons (pe_ix ix_tup (pv 0) pe_int (fun _ _ => rfl)) pa_nil))) pa_nil))))
    (pss_one (ps_ret (pe_call GR hr (by rfl) gR FR.kp bR .nil passL (pa_cons (pv 2) (pa_cons (pe_call GM hr4 (by rfl) gM FM.kp bM .nil pass0 (pa_cons (pe_ix ix_tup (pv 0) pe_int (fun _ _ => rfl)) (pa_cons (pe_ix ix_tup (pv 1) pe_int (fun _ _ => rfl)) pa_nil))) pa_nil))))), ?_⟩
  have he := env_start (N := ["one", "other", "above"]) ha
  refine q_set he (ed_call (ea_cons (ed_call (ea_cons (ed_ixT (ed_var he rfl) (ed_int 0) rfl) (ea_cons (ed_ixT (ed_var he rfl) (ed_int 1) rfl) ea_nil)) m1.f) (ea_cons (ed_call (ea_cons (ed_ixT (ed_var he rfl) (ed_int 0) rfl) (ea_cons (ed_ixT (ed_var he rfl) (ed_int 1) rfl) ea_nil)) m2.f) ea_nil)) (z1.add z2)) fun v1 H1 s1 he1 => ?_
  exact q_ret (ed_callX (ea_cons (ed_var (i := 2) he1 rfl) (ea_cons (ed_call (ea_cons (ed_ixT (ed_var (i := 0) he1 rfl) (ed_int 1) rfl) (ea_cons (ed_ixT (ed_var (i := 1) he1 rfl) (ed_int 1) rfl) ea_nil)) m3.f) ea_nil)) hR) fun v H2 s2 hv => k v H2 (s1.trans s2) hv
theorem ok_less {f fA fS : Addr} {fd fdA fdS : FuncData} (F : Fun K "less" "less" sLess f fd) (FA : Fun K "added" "added" sAdded fA fdA) (gA : mg "added" = some (.ref fA)) (GA : FnOk P w K mg base CX0 7 fA fdA ["one", "other"] (PF K fAdded))
    (FS : Fun K "scaled_poly" "scaled_poly" sScaled fS fdS) (gS : mg "scaled_poly" = some (.ref fS)) (GS : FnOk P w K mg base CX0 4 fS fdS ["factor", "one"] (PF K fScale)) : FnOk P w K mg base CX0 8 f fd ["one", "other"] (PF K fLess) := by
  have bA := FA.binds (ps := ["one", "other"]) fun _ _ _ _ _ _ us hl => match us, hl with | [_, _], _ => rfl
  have bS := FS.binds (ps := ["factor", "one"]) fun _ _ _ _ _ _ us hl => match us, hl with | [_, _], _ => rfl
  refine F.ok scLess (fun vs H Q E h => pf_len (n := 2) (fun ds r q => by obtain ⟨_, _, _, _, rfl, _⟩ := q; rfl) h) (fun cdv A0 outer s0 H vs Q E hr h => ?_)
  obtain ⟨ds, r, ha, ⟨A, B, C, D, rfl, z1, hA⟩, k⟩ := h
  refine ⟨_, pss_one (ps_ret (pe_call GA hr (by rfl) gA FA.kp bA .nil pass0 (pa_cons (pv 0) (pa_cons (pe_tup (pa_cons (pe_call GS (hr.mono (by decide)) (by rfl) gS FS.kp bS .nil pass0 (pa_cons (pe_tup (pa_cons (pe_op op_sub pe_int pe_int) (pa_cons pe_int pa_nil))) (pa_cons (pe_ix ix_tup (pv 1) pe_int (fun _ _ => rfl)) pa_nil)))
    (pa_cons (pe_ix ix_tup (pv 1) pe_int (fun _ _ => rfl)) pa_nil))) pa_nil)))), ?_⟩
  have he := env_start (N := ["one", "other"]) ha
  exact q_ret (ed_call (ea_cons (ed_var (i := 0) he rfl) (ea_cons (ed_tup (ea_cons (ed_call (ea_cons (ed_tup (ea_cons (ed_sub (ed_int 0) (ed_int 1)) (ea_cons (ed_int 1) ea_nil)) (by simp)) (ea_cons (ed_ixT (ed_var he rfl) (ed_int 0) rfl) ea_nil)) (z1.scale sz_neg1)) (ea_cons (ed_ixT (ed_var he rfl) (ed_int 1) rfl) ea_nil)) (by simp)) ea_nil)) hA) fun v H1 s1 hv => k v H1 s1 hv
theorem ok_ratioAt {f fP fO C fI : Addr} {fd fdP fdO fdI : FuncData} (F : Fun K "ratio_at" "ratio_at" sRatioAt f fd) (T : MisTxt P K mg C fI fdI) (FP : Fun K "poly_at" "poly_at" sPolyAt fP fdP) (gP : mg "poly_at" = some (.ref fP)) (GP : FnOk P w K mg base CX0 4 fP fdP ["one", "place"] (PF K fAt))
    (FO : Fun K "over" "over" sOver fO fdO) (gO : mg "over" = some (.ref fO)) (GO : FnOk P w K mg base CX0 3 fO fdO ["one", "other"] (PF K fOver)) : FnOk P w K mg base (L2.CX P w) 5 f fd ["one", "place"] (PX K C fRAt) := by
  have bP := FP.binds (ps := ["one", "place"]) fun _ _ _ _ _ _ us hl => match us, hl with | [_, _], _ => rfl
  have bO := FO.binds (ps := ["one", "other"]) fun _ _ _ _ _ _ us hl => match us, hl with | [_, _], _ => rfl
  refine F.okX scRatioAt (fun vs H Q E h => px_len (n := 2) (fun ds r q => by obtain ⟨_, _, _, rfl, _⟩ := q; rfl) h) (fun cdv A0 outer s0 H vs Q E hr h => ?_)
  obtain ⟨ds, r, ha, ⟨A, B, x, rfl, a1, a2, z1, z2, hR⟩, k1, k2⟩ := h
  refine ⟨_, pss_cons (ps_set (i := 2) scRatioAt.nd rfl (.inl rfl) (pe_call GP hr (by rfl) gP FP.kp bP .nil pass0 (pa_cons (pe_ix ix_tup (pv 0) pe_int (fun _ _ => rfl)) (pa_cons (pv 1) pa_nil))))
    (pss_cons (ps_if (pt_cmpR op_eq (pe_ix ix_tup (pv 2) pe_int (fun _ _ => rfl)) pe_int (nomark _))
      (pss_one (ps_raise rfl (takes_of rfl rfl rfl rfl) (pmk_oex (CX := CX0) (k := 1) T.oex T.iC T.tI (ok_misinit T) (hr.mono (by decide)) (mis_binds T) .nil pass0 (by rfl) T.gC (pa_cons pe_str pa_nil)))) pss_nil)
    (pss_one (ps_ret (pe_call GO (hr.mono (by decide)) (by rfl) gO FO.kp bO .nil pass0 (pa_cons (pe_call GP hr (by rfl) gP FP.kp bP .nil pass0 (pa_cons (pe_ix ix_tup (pv 0) pe_int (fun _ _ => rfl)) (pa_cons (pv 1) pa_nil))) (pa_cons (pv 2) pa_nil)))))), ?_⟩
  have he := env_start (N := ["one", "place", "below"]) ha
  refine q_set he (ed_call (ea_cons (ed_ixT (ed_var he rfl) (ed_int 1) rfl) (ea_cons (ed_var he rfl) ea_nil)) a2.f) fun v1 H1 s1 he1 => ?_
  refine q_if (eb_eqI (ed_ixT (ed_var (i := 2) he1 rfl) (ed_int 0) rfl) (ed_int 0)) (fun hb H2 s2 => ?_) (fun hb H2 s2 => ?_)
  · have h0 : ev B x = 0 := num0.mp (of_decide_eq_true hb)
    rcases hR with ⟨_, rfl⟩ | ⟨z, _⟩
    · exact q_raise T.oex fun d H3 s3 hd => k2 _ rfl d H3 (s1.trans (s2.trans s3)) hd
    · exact absurd h0 z
  · have h0 : ev B x ≠ 0 := fun z => of_decide_eq_false hb (num0.mpr z)
    rcases hR with ⟨z, _⟩ | ⟨_, rfl⟩
    · exact absurd z h0
    · have he2 := he1.same s2
      exact q_ret (ed_call (ea_cons (ed_call (ea_cons (ed_ixT (ed_var (i := 0) he2 rfl) (ed_int 0) rfl) (ea_cons (ed_var (i := 1) he2 rfl) ea_nil)) a1.f) (ea_cons (ed_var (i := 2) he2 rfl) ea_nil)) ⟨_, _, rfl, z1, z2, h0, rfl⟩) fun v H3 s3 hv => k1 _ rfl v H3 (s1.trans (s2.trans s3)) hv
theorem ok_slope {f fR fM fA fS fE C : Addr} {fd fdR fdM fdA fdS fdE : FuncData} (F : Fun K "slope" "slope" sSlope f fd) (FR : Fun K "ratio" "ratio" sRatio fR fdR) (gR : mg "ratio" = some (.ref fR)) (GR : FnOk P w K mg base (L2.CX P w) 6 fR fdR ["above", "below"] (PX K C fRatio))
    (FM : Fun K "product_poly" "product_poly" sProduct fM fdM) (gM : mg "product_poly" = some (.ref fM)) (GM : FnOk P w K mg base CX0 4 fM fdM ["one", "other"] (PF K fMul))
    (FA : Fun K "added_poly" "added_poly" sAddedP fA fdA) (gA : mg "added_poly" = some (.ref fA)) (GA : FnOk P w K mg base CX0 4 fA fdA ["one", "other"] (PF K fAdd))
    (FS : Fun K "scaled_poly" "scaled_poly" sScaled fS fdS) (gS : mg "scaled_poly" = some (.ref fS)) (GS : FnOk P w K mg base CX0 4 fS fdS ["factor", "one"] (PF K fScale))
    (FE : Fun K "derived" "derived" sDerived fE fdE) (gE : mg "derived" = some (.ref fE)) (GE : FnOk P w K mg base CX0 4 fE fdE ["one"] (PF K fDer)) : FnOk P w K mg base CX0 7 f fd ["one"] (PF K fSlope) := by
  have bR := FR.binds (ps := ["above", "below"]) fun _ _ _ _ _ _ us hl => match us, hl with | [_, _], _ => rfl
  have bM := FM.binds (ps := ["one", "other"]) fun _ _ _ _ _ _ us hl => match us, hl with | [_, _], _ => rfl
  have bA := FA.binds (ps := ["one", "other"]) fun _ _ _ _ _ _ us hl => match us, hl with | [_, _], _ => rfl
  have bS := FS.binds (ps := ["factor", "one"]) fun _ _ _ _ _ _ us hl => match us, hl with | [_, _], _ => rfl
  have bE := FE.binds (ps := ["one"]) fun _ _ _ _ _ _ us hl => match us, hl with | [_], _ => rfl
  refine F.ok scSlope (fun vs H Q E h => pf_len (n := 1) (fun ds r q => by obtain ⟨_, _, rfl, _⟩ := q; rfl) h) (fun cdv A0 outer s0 H vs Q E hr h => ?_)
  obtain ⟨ds, r, ha, ⟨A, B, rfl, ⟨z1, z2, m1, m2, m3, z3, z4, z5⟩, hR⟩, k⟩ := h
  have hr4 : Room 4 _ := hr.mono (by decide)
  refine ⟨_, pss_cons (ps_asg (pv 0) (pg_tup rfl (pgs_cons (pg_name (i := 1) scSlope.nd rfl (.inl rfl)) (pgs_cons (pg_name (i := 2) scSlope.nd rfl (.inl rfl)) pgs_nil))))
    (pss_cons (ps_set (i := 3) scSlope.nd rfl (.inl rfl) (pe_call GM hr4 (by rfl) gM FM.kp bM .nil pass0 (pa_cons (pe_call GE hr4 (by rfl) gE FE.kp bE .nil pass0 (pa_cons (pv 1) pa_nil)) (pa_cons (pv 2) pa_nil))))
    (pss_cons (ps_set (i := 4) scSlope.nd rfl (.inl rfl) (pe_call GM hr4 (by rfl) gM FM.kp bM .nil pass0 (pa_cons (pv 1) (pa_cons (pe_call GE hr4 (by rfl) gE FE.kp bE .nil pass0 (pa_cons (pv 2) pa_nil)) pa_nil))))
    (pss_one (ps_ret (pe_call GR hr (by rfl) gR FR.kp bR .nil passL (pa_cons (pe_call GA hr4 (by rfl) gA FA.kp bA .nil pass0 (pa_cons (pv 3) (pa_cons (pe_call GS hr4 (by rfl) gS FS.kp bS .nil pass0 (pa_cons (pe_tup (pa_cons (pe_op op_sub pe_int pe_int) (pa_cons pe_int pa_nil))) (pa_cons (pv 4) pa_nil))) pa_nil)))
      (pa_cons (pe_call GM hr4 (by rfl) gM FM.kp bM .nil pass0 (pa_cons (pv 2) (pa_cons (pv 2) pa_nil))) pa_nil))))))), ?_⟩
  have he := env_start (N := ["one", "above", "below", "first", "second"]) ha
  refine q_unp he (ed_var (i := 0) he rfl) fun σ1 H1 s1 he1 => ?_
  refine q_set he1 (ed_call (ea_cons (ed_call (ea_cons (ed_var (i := 1) he1 rfl) ea_nil) z1.der) (ea_cons (ed_var (i := 2) he1 rfl) ea_nil)) m1.f) fun v2 H2 s2 he2 => ?_
  refine q_set he2 (ed_call (ea_cons (ed_var (i := 1) he2 rfl) (ea_cons (ed_call (ea_cons (ed_var (i := 2) he2 rfl) ea_nil) z2.der) ea_nil)) m2.f) fun v3 H3 s3 he3 => ?_
  exact q_ret (ed_callX (ea_cons (ed_call (ea_cons (ed_var (i := 3) he3 rfl) (ea_cons (ed_call (ea_cons (ed_tup (ea_cons (ed_sub (ed_int 0) (ed_int 1)) (ea_cons (ed_int 1) ea_nil)) (by simp)) (ea_cons (ed_var (i := 4) he3 rfl) ea_nil)) (z4.scale sz_neg1)) ea_nil)) (z3.add z5)) (ea_cons (ed_call (ea_cons (ed_var (i := 2) he3 rfl) (ea_cons (ed_var (i := 2) he3 rfl) ea_nil)) m3.f) ea_nil)) hR) fun v H4 s4 hv => k v H4 (s1.trans (s2.trans (s3.trans s4))) hv
end
end K11
/-! equality of data; is_ratio. -/
namespace K11
open PySem PySem.Spec PyProof.Rows L2
theorem canAll_map {α : Type} {f : α → PyData} (h : ∀ a, PyData.canLay0 (f a) = true) : ∀ l : List α, PyData.canLayAll0 (l.map f) = true
  | [] => rfl
  | a :: l => by
    show (PyData.canLay0 (f a) && PyData.canLayAll0 (l.map f)) = true
    rw [h a, canAll_map h l]
    rfl
theorem depthAll_map {α : Type} {f : α → PyData} {n : Nat} (h : ∀ a, PyData.depth (f a) ≤ n) : ∀ l : List α, PyData.depthAll (l.map f) ≤ n
  | [] => Nat.zero_le _
  | a :: l => by
    show max (PyData.depth (f a)) (PyData.depthAll (l.map f)) ≤ n
    exact Nat.max_le.mpr ⟨h a, depthAll_map h l⟩
theorem can_fr (q : Rat) : PyData.canLay0 (FrD q) = true := rfl
theorem can_po (p : List Rat) : PyData.canLay0 (PoD p) = true := by
  show PyData.canLayAll0 (p.map FrD) = true
  exact canAll_map can_fr p
theorem can_qu (p q : List Rat) : PyData.canLay0 (QuD p q) = true := by
  show (PyData.canLay0 (PoD p) && (PyData.canLay0 (PoD q) && true)) = true
  rw [can_po, can_po]
  rfl
theorem dep_fr (q : Rat) : PyData.depth (FrD q) ≤ 1 := Nat.le_refl 1
theorem dep_po (p : List Rat) : PyData.depth (PoD p) ≤ 2 := by
  show PyData.depthAll (p.map FrD) + 1 ≤ 2
  have := depthAll_map dep_fr p
  omega
theorem dep_qu (p q : List Rat) : PyData.depth (QuD p q) ≤ 3 := by
  show max (PyData.depth (PoD p)) (max (PyData.depth (PoD q)) 0) + 1 ≤ 3
  have := dep_po p
  have := dep_po q
  omega
theorem sh_of {d : PyData} {n : Nat} (h : PyData.canLay0 d = true) (k : PyData.depth d ≤ n) (hn : n ≤ 64 := by decide) : SeqAt.shaped d = true := by
  unfold SeqAt.shaped
  rw [h, Bool.true_and]
  exact decide_eq_true (Nat.le_trans k hn)
theorem sh_fr (q : Rat) : SeqAt.shaped (FrD q) = true := sh_of (can_fr q) (dep_fr q)
theorem sh_po (p : List Rat) : SeqAt.shaped (PoD p) = true := sh_of (can_po p) (dep_po p)
theorem sh_qu (p q : List Rat) : SeqAt.shaped (QuD p q) = true := sh_of (can_qu p q) (dep_qu p q)
theorem eqv_fr (a b : Rat) : PyData.eqv (FrD a) (FrD b) = decide (a = b) := by
  show ((a.num == b.num) && (((a.den : Int) == (b.den : Int)) && true)) = decide (a = b)
  by_cases h : a = b
  · subst h
    simp
  · rw [decide_eq_false h, Bool.and_eq_false_iff]
    by_cases h1 : a.num = b.num
    · right
      have : a.den ≠ b.den := fun z => h (Rat.ext h1 z)
      have h2 : ¬ ((a.den : Int) = (b.den : Int)) := fun z => this (by exact_mod_cast z)
      rw [show ((a.den : Int) == (b.den : Int)) = false from beq_eq_false_iff_ne.mpr h2]
      rfl
    · left
      exact beq_eq_false_iff_ne.mpr h1
theorem eqvAll_fr : ∀ p q : List Rat, PyData.eqvAll (p.map FrD) (q.map FrD) = decide (p = q)
  | [], [] => rfl
  | [], _ :: _ => rfl
  | _ :: _, [] => rfl
  | a :: p, b :: q => by
    show (PyData.eqv (FrD a) (FrD b) && PyData.eqvAll (p.map FrD) (q.map FrD)) = _
    rw [eqv_fr, eqvAll_fr p q]
    by_cases h1 : a = b <;> by_cases h2 : p = q <;> simp [h1, h2]
theorem eqv_po (p q : List Rat) : PyData.eqv (PoD p) (PoD q) = decide (p = q) := by
  show PyData.eqvAll (p.map FrD) (q.map FrD) = _
  exact eqvAll_fr p q
theorem eqv_qu (A B C D : List Rat) : PyData.eqv (QuD A B) (QuD C D) = (decide (A = C) && decide (B = D)) := by
  show (PyData.eqv (PoD A) (PoD C) && (PyData.eqv (PoD B) (PoD D) && true)) = _
  rw [eqv_po, eqv_po, Bool.and_true]
theorem isPart_fr (q : Rat) : isPartD (FrD q) = true := by
  show (decide (((q.den : Nat) : Int) ≥ 1) && decide (((Int.gcd q.num q.den : Nat) : Int) = 1)) = true
  have h1 := q.den_pos
  have h2 : Int.gcd q.num q.den = 1 := q.reduced
  rw [h2]
  simp
  omega
theorem isPoly_po {p : List Rat} (h : Tr p) : isPolyD (PoD p) = true := by
  show ((p.map FrD).all isPartD && ((p.map FrD).isEmpty || upNz ((p.map FrD).getLast?.getD .none))) = true
  have e1 : (p.map FrD).all isPartD = true := by
    rw [List.all_map, List.all_eq_true]
    intro x _
    exact isPart_fr x
  rw [e1, Bool.true_and]
  by_cases p0 : p = []
  · subst p0
    rfl
  · rw [Bool.or_eq_true]
    right
    have hl := h p0
    have lp : 0 < p.length := List.length_pos_iff.mpr p0
    have e2 : (p.map FrD).getLast?.getD .none = FrD (cf p (p.length - 1)) := by
      rw [List.getLast?_map, List.getLast?_eq_getElem?, List.getElem?_eq_getElem (by omega), cf_of_lt (by omega)]
      rfl
    rw [e2]
    show (!decide ((cf p (p.length - 1)).num = 0)) = true
    rw [decide_eq_false (fun z => hl (num0.mp z))]
    rfl
def sm1 : PyData → Bool
  | .tuple ds => decide (ds.length ≤ 500)
  | _ => true
def sm2 : PyData → Bool
  | .tuple ds => decide (ds.length ≤ 500) && ds.all sm1
  | _ => true
def sm3 : PyData → Bool
  | .tuple ds => decide (ds.length ≤ 500) && ds.all sm2
  | _ => true
theorem sm1_ok {d : PyData} (h : sm1 d = true) : sml d := by
  cases d <;> first | exact trivial | (exact (decide_eq_true_eq.mp h : _ ≤ 500))
theorem sm2_ok {d : PyData} (h : sm2 d = true) : sml d ∧ ∀ es, d = .tuple es → ∀ e ∈ es, sml e := by
  refine ⟨?_, fun es he e hm => ?_⟩
  · cases d <;> first | exact trivial | (exact (decide_eq_true_eq.mp (Bool.and_eq_true_iff.mp h).1 : _ ≤ 500))
  · subst he
    exact sm1_ok (List.all_eq_true.mp (Bool.and_eq_true_iff.mp h).2 e hm)
theorem sm2_po {p : List Rat} (h : p.length ≤ 500) : sm2 (PoD p) = true := by
  show (decide ((p.map FrD).length ≤ 500) && (p.map FrD).all sm1) = true
  rw [List.length_map, decide_eq_true h, Bool.true_and, List.all_map, List.all_eq_true]
  intro x _
  rfl
def isQ : PyData → Bool
  | .tuple [x, y] => isPolyD x && isPolyD y
  | _ => false
def fIsRatio : List PyData → PyData → Prop := fun ds r => ∃ d, ds = [d] ∧ sm3 d = true ∧ ((isQ d = false ∧ r = .bool false) ∨ (∃ A, Tr A ∧ d = QuD A [] ∧ r = .bool false) ∨ ∃ A B P Q, d = QuD A B ∧ Tr A ∧ Tr B ∧ B ≠ [] ∧ Rok A B ∧ Rat2 A B P Q ∧ r = .bool (decide (P = A) && decide (Q = B)))
theorem tup2 : ∀ {es : List PyData}, es.length = 2 → ∃ x y, es = [x, y]
  | [x, y], _ => ⟨x, y, rfl⟩
theorem isQ_len {es : List PyData} (h : es.length ≠ 2) : isQ (.tuple es) = false := by
  match es, h with
  | [], _ => rfl
  | [_], _ => rfl
  | [_, _], h => exact absurd rfl h
  | _ :: _ :: _ :: _, _ => rfl
section
variable {P : Program} {w : World} {K : PySem.W.Frag} {mg : Str → Option Value} {base : Heap}
theorem ok_isRatio {f fP fR C : Addr} {fd fdP fdR : FuncData} (F : Fun K "is_ratio" "is_ratio" sIsRatio f fd) (FP : Fun K "is_poly" "is_poly" sIsPoly fP fdP) (gP : mg "is_poly" = some (.ref fP)) (GP : FnOk P w K mg base CX0 3 fP fdP ["value"] (PF K fIsPoly))
    (FR : Fun K "ratio" "ratio" sRatio fR fdR) (gR : mg "ratio" = some (.ref fR)) (GR : FnOk P w K mg base (L2.CX P w) 6 fR fdR ["above", "below"] (PX K C fRatio))
    (mI : mg "isinstance" = none) (mT : mg "tuple" = none) (mLen : mg "len" = none) (mA : mg "all" = none) : FnOk P w K mg base CX0 7 f fd ["value"] (PF K fIsRatio) := by
  have bP := FP.binds (ps := ["value"]) fun _ _ _ _ _ _ us hl => match us, hl with | [_], _ => rfl
  have bR := FR.binds (ps := ["above", "below"]) fun _ _ _ _ _ _ us hl => match us, hl with | [_, _], _ => rfl
  refine F.ok scIsRatio (fun vs H Q E h => pf_len (n := 1) (fun ds r q => by obtain ⟨a, rfl, _⟩ := q; rfl) h) (fun cdv A outer s H vs Q E hr h => ?_)
  obtain ⟨ds, r, ha, ⟨d, rfl, hsm, hq⟩, k⟩ := h
  have hu := hr.units
  refine ⟨_, pss_cons (ps_if (PW.pt (pw_or (pt_not (pt_val (pe_callB call_isi (by rfl) mI boot_isi (pa_cons (pv 0) (pa_cons (pe_bltn (v := .ty "tuple") (u := .type "tuple") (by rfl) mT (by decide +kernel) rfl) pa_nil)))))
      (pw_or (pt_cmpR op_ne (pe_callB call_len_seq (by rfl) mLen boot_len (pa_cons (pv 0) pa_nil)) pe_int (nomark _))
      (pw_or1 (pt_not (pt_val (pe_callB (cr_all rfl) (by rfl) mA boot_all (pa_cons (pe_lc (own := [("one", 1)]) (g := gName 1) (tt := tYes) rfl scIsRatio.nd (pi_tup (pv 0)) (blkOk_by (N := ["value", "one"]) (sc := defScope sIsRatio) (by decide +kernel)) (fun _ _ _ _ _ => pg_name (i := 1) scIsRatio.nd rfl (.inl rfl)) (fun _ _ _ _ _ => pts_nil)
        (fun _ _ _ _ _ => pe_call GP (hr.mono (by decide)) (by rfl) gP FP.kp bP .nil pass0 (pa_cons (pv 1) pa_nil))) pa_nil)))))))) (pss_one (ps_ret pe_bl)) pss_nil)
    (pss_one (ps_ret (pe_and (pe_cmpR op_gt (pe_callB call_len_seq (by rfl) mLen boot_len (pa_cons (pe_ix ix_tup (pv 0) pe_int (fun _ _ => rfl)) pa_nil)) pe_int (nomark _))
      (pe_one (pe_cmpR (op_eqD hu) (pe_call GR hr (by rfl) gR FR.kp bR .nil passL (pa_cons (pe_ix ix_tup (pv 0) pe_int (fun _ _ => rfl)) (pa_cons (pe_ix ix_tup (pv 0) pe_int (fun _ _ => rfl)) pa_nil))) (pv 0) (nomark _)))))), ?_⟩
  have he := env_start (N := ["value", "one"]) ha
  by_cases ht : isTup d = true
  · obtain ⟨es, rfl⟩ : ∃ es, d = .tuple es := by
      cases d <;> first | exact ⟨_, rfl⟩ | simp [isTup] at ht
    have hes : es.length ≤ 500 := of_decide_eq_true (Bool.and_eq_true_iff.mp hsm).1
    have hsm2 := List.all_eq_true.mp (Bool.and_eq_true_iff.mp hsm).2
    have hall : (es.map isPolyD).all id = es.all isPolyD := by rw [List.all_map]; rfl
    have e1 : ∀ {H1 : Hp}, Same H H1 → EvB _ _ H1 (es.all isPolyD) := fun {H1} s1 => (eb_B (ed_all (bs := es.map isPolyD) (((elc_tup (ds := es) (j := 1) (vs := [1]) (fun _ => true) (fun i => PyData.bool (isPolyD ((es[i]?).getD .none))) (te := tCall (PF K fIsPoly) [] E0 (tCons (tVar 1) tNil)) (t := tYes) (ed_var (i := 0) (he.same s1) rfl) (by omega) (wipe1 1) (fun _ _ _ => rfl) (fun _ _ _ _ _ _ _ => eb_yes) (fun i u e H2 s2 hd hx _ => by
        have he2 := ((env_wipe (he.same s1) [1]).same s2).set (i := 1) hx
        have h2 := sm2_ok (hsm2 e (List.mem_of_getElem? hd))
        refine ed_call (ea_cons (ed_var (i := 1) he2 rfl) ea_nil) ⟨e, rfl, h2.1, h2.2, ?_⟩
        rw [hd]
        rfl)).dd).is (by
          rw [gv_all, List.map_map]
          congr 1
          refine List.ext_getElem (by simp) fun i h1 h2 => ?_
          simp only [List.length_map, List.length_range] at h1 h2
          simp [h2])))).is hall
    refine q_if (eb_or (eb_not (eb_B (ed_isi (ed_var he rfl) (kit_tup _)))) (fun _ => eb_or (eb_neI (ed_lenT (ed_var he rfl)) (ed_int 2)) (fun _ => eb_not (e1 (Same.refl H))))) (fun hb H1 s1 => ?_) (fun hb H1 s1 => ?_)
    · refine q_ret (ed_bl (K := K) false) fun v H2 s2 hv => k v H2 (s1.trans s2) ?_
      have hf : isQ (.tuple es) = false := by
        by_cases hl : es.length = 2
        · obtain ⟨x, y, rfl⟩ := tup2 hl
          simp [isTup] at hb
          simp only [isQ, Bool.and_eq_false_iff]
          exact hb
        · exact isQ_len hl
      rcases hq with ⟨_, rfl⟩ | ⟨A', tA, e, _⟩ | ⟨A', B', P', Q', e, tA, tB, _⟩
      · exact hv
      · rw [e] at hf
        have : (isPolyD (PoD A') && isPolyD (PoD [])) = false := hf
        rw [isPoly_po tA, isPoly_po Tr_nil] at this
        cases this
      · rw [e] at hf
        have : (isPolyD (PoD A') && isPolyD (PoD B')) = false := hf
        rw [isPoly_po tA, isPoly_po tB] at this
        cases this
    · have he1 := he.same s1
      have ht : isQ (.tuple es) = true := by
        simp [isTup] at hb
        obtain ⟨x, y, rfl⟩ := tup2 (es := es) (by omega)
        simp [isQ] at hb ⊢
        exact hb
      rcases hq with ⟨z, _⟩ | ⟨A', tA, e, rfl⟩ | ⟨A', B', P', Q', e, tA, tB, B0, hok, hrat, rfl⟩
      · rw [z] at ht
        cases ht
      · rw [e] at he1
        refine q_ret (ed_andV (c := true) (ed_cmpI (ed_lenT (ed_ixT (ed_var (i := 0) he1 rfl) (ed_int 1) (d := PoD []) rfl)) (ed_int 0)) (fun hb => by simp at hb)) fun v H3 s3 hv => k v H3 (s1.trans s3) hv
      · rw [e] at he1
        refine q_ret ((ed_andV (ed_cmpI (ed_lenT (ed_ixT (ed_var (i := 0) he1 rfl) (ed_int 1) (d := PoD B') rfl)) (ed_int 0)) (fun hb => ed_eqD (ed_callX (d := QuD P' Q') (ea_cons (ed_ixT (ed_var (i := 0) he1 rfl) (ed_int 0) rfl) (ea_cons (ed_ixT (ed_var (i := 0) he1 rfl) (ed_int 1) rfl) ea_nil)) ⟨A', B', rfl, .inr ⟨B0, hok, P', Q', hrat, rfl⟩⟩) (ed_var (i := 0) he1 rfl) (sh_qu _ _) (sh_qu A' B'))).is (d' := .bool (decide (P' = A') && decide (Q' = B'))) ?_) fun v H3 s3 hv => k v H3 (s1.trans s3) hv
        have hp : 0 < B'.length := List.length_pos_iff.mpr B0
        rw [eqv_qu, List.length_map, decide_eq_true (show (0 : Int) < (B'.length : Int) by omega), Bool.true_and]
  · have ht' : isTup d = false := by simpa using ht
    refine q_if (eb_or (c := true) (eb_not (eb_B (ed_isi (ed_var he rfl) (kit_tup _)))) (fun hb => by simp [ht'] at hb)) (fun hb H1 s1 => ?_) (fun hb H1 s1 => ?_)
    · refine q_ret (ed_bl (K := K) false) fun v H2 s2 hv => k v H2 (s1.trans s2) ?_
      rcases hq with ⟨_, rfl⟩ | ⟨A', tA, e, _⟩ | ⟨A', B', P', Q', e, tA, tB, _⟩
      · exact hv
      · rw [e] at ht'
        cases ht'
      · rw [e] at ht'
        cases ht'
    · simp at hb
end
end K11
/-! the law's parts. -/
namespace K11
open PySem PySem.Spec PyProof.Rows L2
abbrev sLFr : Stmt := topS 37
abbrev sLAdd : Stmt := topS 40
abbrev sLMul : Stmt := topS 41
abbrev sLSub : Stmt := topS 42
theorem scLFr : FnScope ["above", "below", "one", "other", "turn"] ["above", "below"] (defScope sLFr) := ⟨rfl, rfl, rfl, by decide +kernel, rfl, by decide +kernel, by decide +kernel⟩
theorem scLAdd : FnScope ["one", "other"] ["one", "other"] (defScope sLAdd) := ⟨rfl, rfl, rfl, by decide +kernel, rfl, by decide +kernel, by decide +kernel⟩
theorem scLMul : FnScope ["one", "other"] ["one", "other"] (defScope sLMul) := ⟨rfl, rfl, rfl, by decide +kernel, rfl, by decide +kernel, by decide +kernel⟩
theorem scLSub : FnScope ["one", "other"] ["one", "other"] (defScope sLSub) := ⟨rfl, rfl, rfl, by decide +kernel, rfl, by decide +kernel, by decide +kernel⟩
def fLFr : List PyData → PyData → Prop := fun ds r => ∃ a b : Int, ds = [.int a, .int b] ∧ b ≠ 0 ∧ a.natAbs < 2 ^ 1990 ∧ b.natAbs < 2 ^ 1990 ∧ r = FrD ((a : Rat) / (b : Rat))
/-- small enough for the law's turns -/
def Sl (q : Rat) : Prop := q.num.natAbs < 2 ^ 990 ∧ q.den < 2 ^ 990
def fLAdd : List PyData → PyData → Prop := fun ds r => ∃ a b : Rat, ds = [FrD a, FrD b] ∧ Sl a ∧ Sl b ∧ r = FrD (a + b)
def fLMul : List PyData → PyData → Prop := fun ds r => ∃ a b : Rat, ds = [FrD a, FrD b] ∧ Sl a ∧ Sl b ∧ r = FrD (a * b)
def fLSub : List PyData → PyData → Prop := fun ds r => ∃ a b : Rat, ds = [FrD a, FrD b] ∧ Sl a ∧ Sl b ∧ r = FrD (a - b)
theorem Sl.sz {a : Rat} (h : Sl a) : Sz a := ⟨Nat.lt_trans h.1 (Nat.pow_lt_pow_right (by decide) (by decide)), Nat.lt_trans h.2 (Nat.pow_lt_pow_right (by decide) (by decide))⟩
/-- a turn halves the product -/
theorem half_turn {x y n : Nat} (hy : 0 < y) (hxy : y ≤ x) (h : x * y < 2 ^ (n + 1)) : y * (x % y) < 2 ^ n := by
  have h1 : 2 * (x % y) ≤ x := by
    have h2 := Nat.mod_add_div x y
    have h3 := Nat.mod_lt x hy
    have h4 : 1 ≤ x / y := Nat.div_pos hxy hy
    have h5 : y * 1 ≤ y * (x / y) := Nat.mul_le_mul_left _ h4
    omega
  have h6 : y * (2 * (x % y)) ≤ y * x := Nat.mul_le_mul_left _ h1
  have h7 : y * (2 * (x % y)) = 2 * (y * (x % y)) := by rw [← Nat.mul_assoc, Nat.mul_comm y 2, Nat.mul_assoc]
  have h8 : y * x = x * y := Nat.mul_comm _ _
  rw [Nat.pow_succ] at h
  omega
section
variable {P : Program} {w : World} {K : PySem.W.Frag} {mg : Str → Option Value} {base : Heap}
theorem q_ifk {H : Hp} {σ : L2.St} {D : Ends} {t1 t2 tz : TS} {t : TT} {b : Bool} {J : L2.St → Hp → Prop} (key : ∀ σ' H', J σ' H' → tz D σ' H') (h : EvB t σ H b) (h1 : b = true → ∀ H', Same H H' → (∀ σ' H', J σ' H' → tz D σ' H') → t1 { D with nx := tz D } σ H')
    (h2 : b = false → ∀ H', Same H H' → (∀ σ' H', J σ' H' → tz D σ' H') → t2 { D with nx := tz D } σ H') : tSeq (tIfS t t1 t2) tz D σ H := q_if h (fun hb H' s => h1 hb H' s key) (fun hb H' s => h2 hb H' s key)
theorem ok_lfr {f : Addr} {fd : FuncData} (F : Fun K "_law_fr" "_law_fr" sLFr f fd) (mA : mg "abs" = none) (mR : mg "range" = none) (mI : mg "int" = none) : FnOk P w K mg base CX0 1 f fd ["above", "below"] (PF K fLFr) := by
  refine F.ok scLFr (fun vs H Q E h => pf_len (n := 2) (fun ds r q => by obtain ⟨a, b, rfl, _⟩ := q; rfl) h) (fun cdv A outer s H vs Q E hr h => ?_)
  obtain ⟨ds, r, ha, ⟨a, b, rfl, hb, za, zb, rfl⟩, k⟩ := h
  refine ⟨_, pss_cons (ps_if (pt_cmpR op_lt (pv 1) pe_int (nomark _)) (pss_one (ps_par (i := 0) (j := 1) rfl scLFr.nd rfl rfl (by decide) rfl rfl (pa_cons (pe_op op_sub pe_int (pv 0)) (pa_cons (pe_op op_sub pe_int (pv 1)) pa_nil)) (by rfl))) pss_nil)
    (pss_cons (ps_par (i := 2) (j := 3) rfl scLFr.nd rfl rfl (by decide) rfl rfl (pa_cons (pe_callB call_abs (by rfl) mA boot_abs (pa_cons (pv 0) pa_nil)) (pa_cons (pv 1) pa_nil)) (by rfl))
    (pss_cons (ps_for PassesOwn.never rfl (pi_range1 (by rfl) mR (pa_cons pe_int pa_nil)) (pg_name (i := 4) scLFr.nd rfl (.inl rfl))
      (pss_cons (ps_if (pt_cmpR op_eq (pv 3) pe_int (nomark _)) (pss_one ps_break) pss_nil)
      (pss_one (ps_par (i := 2) (j := 3) rfl scLFr.nd rfl rfl (by decide) rfl rfl (pa_cons (pv 3) (pa_cons (pe_op op_mod (pe_callTy call_int1 (by rfl) mI (by decide +kernel) (pa_cons (pv 2) pa_nil)) (pv 3)) pa_nil)) (by rfl)))))
    (pss_one (ps_ret (pe_tup (pa_cons (pe_op op_fdivW (pv 0) (pv 2)) (pa_cons (pe_op op_fdivW (pv 1) (pv 2)) pa_nil))))))), ?_⟩
  have he := env_start (N := ["above", "below", "one", "other", "turn"]) ha
  -- the end, for a positive lower number
  have fin : ∀ (c : Int) (d g : Nat) (o : Option PyData) (σ' : L2.St) (H' : Hp), 0 < d → d < 2 ^ 1990 → (c : Rat) / ((d : Int) : Rat) = (a : Rat) / (b : Rat) → g = Nat.gcd c.natAbs d → Same H H' → Env K H' σ' [some (.int c), some (.int (d : Int)), some (.int (g : Int)), o, none] →
      tRet (tTup (tCons (tOp (rI CDivW fun i j => .int (i / j)) (tVar 0) (tVar 2)) (tCons (tOp (rI CDivW fun i j => .int (i / j)) (tVar 1) (tVar 2)) tNil))) { nx := fun _ H' => Q .non H', rt := Q } σ' H' := by
    intro c d g o σ' H' hd hd2 e hg s' he'
    have hgi : (g : Int) = (Int.gcd c (d : Int) : Int) := by rw [hg, Int.gcd_eq_natAbs_gcd_natAbs]; rfl
    have hc : CDivW c (g : Int) := by
      rw [hgi]
      exact gcd_small (by omega) (by rw [Int.natAbs_natCast]; exact Nat.lt_trans hd2 (Nat.pow_lt_pow_right (by decide) (by decide)))
    refine q_ret (ed_tup (ea_cons (ed_divW (ed_var (i := 0) he' rfl) (ed_var (i := 2) he' rfl) hc) (ea_cons (ed_divW (ed_var (i := 1) he' rfl) (ed_var (i := 2) he' rfl) ⟨hc.1, hc.2⟩) ea_nil)) (by simp)) fun v H3 s3 hv => k v H3 (s'.trans s3) ?_
    rw [← e]
    unfold FrD
    rw [(fr_eq c d (by omega)).1, (fr_eq c d (by omega)).2, ← hgi]
    exact hv
  refine q_ifk (J := fun σ' H' => ∃ (c : Int) (d : Nat), 0 < d ∧ d < 2 ^ 1990 ∧ c.natAbs < 2 ^ 1990 ∧ (c : Rat) / ((d : Int) : Rat) = (a : Rat) / (b : Rat) ∧ Same H H' ∧ Env K H' σ' [some (.int c), some (.int (d : Int)), none, none, none]) (fun σ' H' jj => ?i3)
    (eb_cmpI (ed_var he rfl) (ed_int 0)) (fun hc H1 s1 key => ?i1) (fun hc H1 s1 key => ?i2)
  case i3 =>
    obtain ⟨c, d, hd, hd2, hc2, e, s', he'⟩ := jj
    refine q_par (by decide) he' (ed_absI (ed_var (i := 0) he' rfl)) (ed_var (i := 1) he' rfl) fun σ1 H1 s1 he1 => ?_
    let Inv : Nat → L2.St → Hp → Prop := fun i σ' H' => ∃ x y : Nat, Same H H' ∧ Env K H' σ' [some (.int c), some (.int (d : Int)), some (.int (x : Int)), some (.int (y : Int)), none] ∧ Nat.gcd x y = Nat.gcd c.natAbs d ∧ ((i = 0 ∧ x < 2 ^ 1990 ∧ y < 2 ^ 1990) ∨ (0 < i ∧ y ≤ x ∧ 0 < x ∧ x * y < 2 ^ (3981 - i)))
    refine q_forR (K := K) (ea_cons (ed_int 4000) ea_nil) (by decide) Inv (fun H2 s2 => ⟨c.natAbs, d, s'.trans (s1.trans s2), he1.same s2, rfl, .inl ⟨rfl, hc2, hd2⟩⟩) (fun i σ3 H3 hi inv => ?_) (fun σ3 H3 inv => ?_)
    · obtain ⟨x, y, s3, e3, hg, hp⟩ := inv
      have e3' := e3.put (i := 4) (some (.int (i : Int)))
      refine q_if (eb_eqI (ed_var (i := 3) e3' rfl) (ed_int 0)) (fun hb H4 s4 => ?_) (fun hb H4 s4 => ?_)
      · have hy : y = 0 := by have := of_decide_eq_true hb; omega
        subst hy
        rw [Nat.gcd_zero_right] at hg
        show tBreak _ _ _
        exact fin c d x _ _ H4 hd hd2 e hg (s3.trans s4) (e3'.same s4)
      · have hy : y ≠ 0 := by have := of_decide_eq_false hb; omega
        refine q_parl (e3'.same s4) (ed_var (i := 3) (e3'.same s4) rfl) (ed_opC (d := .int ((x % y : Nat) : Int)) (ed_int1 (ed_var (i := 2) (e3'.same s4) rfl)) (ed_var (i := 3) (e3'.same s4) rfl) (by omega) fun H => by rw [Int.natCast_emod]; exact .int _) fun σ5 H5 s5 e5 => ?_
        refine ⟨y, x % y, s3.trans (s4.trans s5), e5, ?_, .inr ⟨by omega, Nat.le_of_lt (Nat.mod_lt _ (by omega)), by omega, ?_⟩⟩
        · rw [← hg, Nat.gcd_comm y, ← Nat.gcd_rec, Nat.gcd_comm]
        · rcases hp with ⟨rfl, hx, hy2⟩ | ⟨hi0, hyx, hx0, hm⟩
          · have h1 : x % y ≤ x := Nat.mod_le _ _
            have h2 : y * (x % y) ≤ y * x := Nat.mul_le_mul_left _ h1
            have h3 : y * x < 2 ^ 1990 * 2 ^ 1990 := Nat.mul_lt_mul'' hy2 hx
            rw [← Nat.pow_add] at h3
            exact Nat.lt_of_le_of_lt h2 h3
          · by_cases hi2 : i < 3981
            · have : 3981 - i = 3981 - (i + 1) + 1 := by omega
              rw [this] at hm
              exact half_turn (by omega) hyx hm
            · have : 3981 - i = 0 := by omega
              rw [this] at hm
              have h9 : 1 * 1 ≤ x * y := Nat.mul_le_mul (by omega) (by omega)
              have h10 : (2 : Nat) ^ 0 = 1 := rfl
              omega
    · obtain ⟨x, y, s3, e3, hg, hp⟩ := inv
      have hy : y = 0 := by
        rcases hp with ⟨z, _⟩ | ⟨hi0, hyx, hx0, hm⟩
        · exact absurd z (by decide)
        · have h0 : 3981 - (4000 : Int).toNat = 0 := by decide
          rw [h0] at hm
          refine Classical.byContradiction fun z => ?_
          have h9 : 1 * 1 ≤ x * y := Nat.mul_le_mul (by omega) (by omega)
          have h10 : (2 : Nat) ^ 0 = 1 := rfl
          omega
      subst hy
      rw [Nat.gcd_zero_right] at hg
      exact fin c d x _ _ H3 hd hd2 e hg s3 e3
  case i1 =>
    have hb0 : b < 0 := of_decide_eq_true hc
    refine q_parl (he.same s1) (ed_sub (ed_int 0) (ed_var (he.same s1) rfl)) (ed_sub (ed_int 0) (ed_var (he.same s1) rfl)) fun σ2 H2 s2 he2 => ?_
    obtain ⟨d, hd⟩ := Int.eq_ofNat_of_zero_le (show 0 ≤ 0 - b by omega)
    rw [hd] at he2
    refine key σ2 H2 ⟨0 - a, d, by omega, by omega, by omega, ?_, s1.trans s2, he2⟩
    rw [← hd]
    exact (fr_neg a b).symm
  case i2 =>
    have hb0 : ¬ b < 0 := of_decide_eq_false hc
    obtain ⟨d, hd⟩ := Int.eq_ofNat_of_zero_le (show 0 ≤ b by omega)
    subst hd
    exact key _ H1 ⟨a, d, by omega, by omega, za, rfl, s1, he.same s1⟩
theorem Sl.mul {a b : Rat} (ha : Sl a) (hb : Sl b) : a.num.natAbs * b.num.natAbs < 2 ^ 1980 ∧ a.num.natAbs * b.den < 2 ^ 1980 ∧ a.den * b.den < 2 ^ 1980 ∧ b.num.natAbs * a.den < 2 ^ 1980 := by
  have e : (2 : Nat) ^ 1980 = 2 ^ 990 * 2 ^ 990 := by rw [← Nat.pow_add]
  rw [e]
  exact ⟨Nat.mul_lt_mul'' ha.1 hb.1, Nat.mul_lt_mul'' ha.1 hb.2, Nat.mul_lt_mul'' ha.2 hb.2, Nat.mul_lt_mul'' hb.1 ha.2⟩
theorem two1990 : (2 : Nat) ^ 1980 + 2 ^ 1980 < 2 ^ 1990 := by
  have : (2 : Nat) ^ 1990 = 2 ^ 10 * 2 ^ 1980 := by rw [← Nat.pow_add]
  have h : 0 < (2 : Nat) ^ 1980 := Nat.pow_pos (by decide)
  rw [this]
  generalize (2 : Nat) ^ 1980 = z at *
  omega
theorem ok_ladd {f fP : Addr} {fd fdP : FuncData} (F : Fun K "_law_add" "_law_add" sLAdd f fd) (FP : Fun K "_law_fr" "_law_fr" sLFr fP fdP) (gP : mg "_law_fr" = some (.ref fP)) (GP : FnOk P w K mg base CX0 1 fP fdP ["above", "below"] (PF K fLFr)) : FnOk P w K mg base CX0 2 f fd ["one", "other"] (PF K fLAdd) := by
  have bP := FP.binds (ps := ["above", "below"]) fun _ _ _ _ _ _ us hl => match us, hl with | [_, _], _ => rfl
  refine F.ok scLAdd (fun vs H Q E h => pf_len (n := 2) (fun ds r q => by obtain ⟨a, b, rfl, _⟩ := q; rfl) h) (fun cdv A outer s H vs Q E hr h => ?_)
  obtain ⟨ds, r, ha, ⟨a, b, rfl, la, lb, rfl⟩, k⟩ := h
  have sa := la.sz
  have sb := lb.sz
  have hm := la.mul lb
  refine ⟨_, pss_one (ps_ret (pe_call GP hr (by rfl) gP FP.kp bP .nil pass0 (pa_cons (pe_op op_add (pe_op op_mulW (pe_ix ix_tup (pv 0) pe_int (fun _ _ => rfl)) (pe_ix ix_tup (pv 1) pe_int (fun _ _ => rfl))) (pe_op op_mulW (pe_ix ix_tup (pv 1) pe_int (fun _ _ => rfl)) (pe_ix ix_tup (pv 0) pe_int (fun _ _ => rfl))))
    (pa_cons (pe_op op_mulW (pe_ix ix_tup (pv 0) pe_int (fun _ _ => rfl)) (pe_ix ix_tup (pv 1) pe_int (fun _ _ => rfl))) pa_nil)))), ?_⟩
  have he := env_start (N := ["one", "other"]) ha
  refine q_ret (ed_call (ea_cons (ed_add (ed_mulW (ed_ixT (ed_var he rfl) (ed_int 0) rfl) (ed_ixT (ed_var he rfl) (ed_int 1) rfl) (sa.mul sb).2.1) (ed_mulW (ed_ixT (ed_var he rfl) (ed_int 0) rfl) (ed_ixT (ed_var he rfl) (ed_int 1) rfl) (sa.mul sb).2.2.2.1))
    (ea_cons (ed_mulW (ed_ixT (ed_var he rfl) (ed_int 1) rfl) (ed_ixT (ed_var he rfl) (ed_int 1) rfl) (sa.mul sb).2.2.1) ea_nil)) ⟨_, _, rfl, den_mul_ne a b, ?_, ?_, rfl⟩) fun v H1 s1 hv => k v H1 s1 ?_
  · have h1 : (a.num * (b.den : Int)).natAbs = a.num.natAbs * b.den := by rw [Int.natAbs_mul, Int.natAbs_natCast]
    have h2 : (b.num * (a.den : Int)).natAbs = b.num.natAbs * a.den := by rw [Int.natAbs_mul, Int.natAbs_natCast]
    have h3 := two1990
    have h4 := hm.2.1
    have h5 := hm.2.2.2
    have h6 := Int.natAbs_add_le (a.num * (b.den : Int)) (b.num * (a.den : Int))
    rw [h1, h2] at h6
    exact Nat.lt_of_le_of_lt h6 (Nat.lt_trans (Nat.add_lt_add h4 h5) h3)
  · rw [Int.natAbs_mul, Int.natAbs_natCast, Int.natAbs_natCast]
    exact Nat.lt_trans hm.2.2.1 (Nat.pow_lt_pow_right (by decide) (by decide))
  · rwa [fr_add] at hv
theorem ok_lmul {f fP : Addr} {fd fdP : FuncData} (F : Fun K "_law_mul" "_law_mul" sLMul f fd) (FP : Fun K "_law_fr" "_law_fr" sLFr fP fdP) (gP : mg "_law_fr" = some (.ref fP)) (GP : FnOk P w K mg base CX0 1 fP fdP ["above", "below"] (PF K fLFr)) : FnOk P w K mg base CX0 2 f fd ["one", "other"] (PF K fLMul) := by
  have bP := FP.binds (ps := ["above", "below"]) fun _ _ _ _ _ _ us hl => match us, hl with | [_, _], _ => rfl
  refine F.ok scLMul (fun vs H Q E h => pf_len (n := 2) (fun ds r q => by obtain ⟨a, b, rfl, _⟩ := q; rfl) h) (fun cdv A outer s H vs Q E hr h => ?_)
  obtain ⟨ds, r, ha, ⟨a, b, rfl, la, lb, rfl⟩, k⟩ := h
  have sa := la.sz
  have sb := lb.sz
  have hm := la.mul lb
  refine ⟨_, pss_one (ps_ret (pe_call GP hr (by rfl) gP FP.kp bP .nil pass0 (pa_cons (pe_op op_mulW (pe_ix ix_tup (pv 0) pe_int (fun _ _ => rfl)) (pe_ix ix_tup (pv 1) pe_int (fun _ _ => rfl)))
    (pa_cons (pe_op op_mulW (pe_ix ix_tup (pv 0) pe_int (fun _ _ => rfl)) (pe_ix ix_tup (pv 1) pe_int (fun _ _ => rfl))) pa_nil)))), ?_⟩
  have he := env_start (N := ["one", "other"]) ha
  refine q_ret (ed_call (ea_cons (ed_mulW (ed_ixT (ed_var he rfl) (ed_int 0) rfl) (ed_ixT (ed_var he rfl) (ed_int 0) rfl) (sa.mul sb).1)
    (ea_cons (ed_mulW (ed_ixT (ed_var he rfl) (ed_int 1) rfl) (ed_ixT (ed_var he rfl) (ed_int 1) rfl) (sa.mul sb).2.2.1) ea_nil)) ⟨_, _, rfl, den_mul_ne a b, ?_, ?_, rfl⟩) fun v H1 s1 hv => k v H1 s1 ?_
  · rw [Int.natAbs_mul]
    exact Nat.lt_trans hm.1 (Nat.pow_lt_pow_right (by decide) (by decide))
  · rw [Int.natAbs_mul, Int.natAbs_natCast, Int.natAbs_natCast]
    exact Nat.lt_trans hm.2.2.1 (Nat.pow_lt_pow_right (by decide) (by decide))
  · rwa [fr_mul] at hv
theorem fr_negD (b : Rat) : (PyData.tuple [.int (0 - b.num), .int b.den]) = FrD (-b) := by
  unfold FrD
  rw [Rat.neg_num, Rat.neg_den]
  congr 2
  congr 1
  omega
theorem Sl.neg {b : Rat} (h : Sl b) : Sl (-b) := ⟨by rw [Rat.neg_num, Int.natAbs_neg]; exact h.1, h.2⟩
theorem ok_lsub {f fP : Addr} {fd fdP : FuncData} (F : Fun K "_law_sub" "_law_sub" sLSub f fd) (FP : Fun K "_law_add" "_law_add" sLAdd fP fdP) (gP : mg "_law_add" = some (.ref fP)) (GP : FnOk P w K mg base CX0 2 fP fdP ["one", "other"] (PF K fLAdd)) : FnOk P w K mg base CX0 3 f fd ["one", "other"] (PF K fLSub) := by
  have bP := FP.binds (ps := ["one", "other"]) fun _ _ _ _ _ _ us hl => match us, hl with | [_, _], _ => rfl
  refine F.ok scLSub (fun vs H Q E h => pf_len (n := 2) (fun ds r q => by obtain ⟨a, b, rfl, _⟩ := q; rfl) h) (fun cdv A outer s H vs Q E hr h => ?_)
  obtain ⟨ds, r, ha, ⟨a, b, rfl, la, lb, rfl⟩, k⟩ := h
  refine ⟨_, pss_one (ps_ret (pe_call GP hr (by rfl) gP FP.kp bP .nil pass0 (pa_cons (pv 0) (pa_cons (pe_tup (pa_cons (pe_op op_sub pe_int (pe_ix ix_tup (pv 1) pe_int (fun _ _ => rfl))) (pa_cons (pe_ix ix_tup (pv 1) pe_int (fun _ _ => rfl)) pa_nil))) pa_nil)))), ?_⟩
  have he := env_start (N := ["one", "other"]) ha
  refine q_ret (ed_call (ea_cons (ed_var (i := 0) he rfl) (ea_cons ((ed_tup (ea_cons (ed_sub (ed_int 0) (ed_ixT (ed_var (i := 1) he rfl) (ed_int 0) rfl)) (ea_cons (ed_ixT (ed_var (i := 1) he rfl) (ed_int 1) rfl) ea_nil)) (by simp)).is (fr_negD b)) ea_nil)) ⟨a, -b, rfl, la, lb.neg, rfl⟩) fun v H1 s1 hv => k v H1 s1 ?_
  rwa [← Rat.sub_eq_add_neg] at hv
end
end K11
/-! the law's rows: times, at, sum, product. -/
namespace K11
open PySem PySem.Spec PyProof.Rows L2
abbrev sLSum : Stmt := topS 45
abbrev sLProduct : Stmt := topS 46
abbrev sLTimes : Stmt := topS 47
abbrev sLAt : Stmt := topS 48
theorem scLSum : FnScope ["one", "other", "size", "row", "turn", "k"] ["one", "other"] (defScope sLSum) := ⟨rfl, rfl, rfl, by decide +kernel, rfl, by decide +kernel, by decide +kernel⟩
theorem scLProduct : FnScope ["one", "other", "row", "j", "k"] ["one", "other"] (defScope sLProduct) := ⟨rfl, rfl, rfl, by decide +kernel, rfl, by decide +kernel, by decide +kernel⟩
theorem scLTimes : FnScope ["one", "factor", "n"] ["one", "factor"] (defScope sLTimes) := ⟨rfl, rfl, rfl, by decide +kernel, rfl, by decide +kernel, by decide +kernel⟩
theorem scLAt : FnScope ["one", "spot", "found", "power", "n"] ["one", "spot"] (defScope sLAt) := ⟨rfl, rfl, rfl, by decide +kernel, rfl, by decide +kernel, by decide +kernel⟩
theorem Bits.sl {α : Nat} {s : Rat} (h : Bits α s) (k : α < 990) : Sl s := by
  have h1 : 2 ^ α < 2 ^ 990 := Nat.pow_lt_pow_right (by decide) k
  exact ⟨Nat.lt_of_le_of_lt h.1 h1, Nat.lt_of_le_of_lt h.2 h1⟩
def SlA (p : List Rat) : Prop := (∀ a ∈ p, Sl a) ∧ p.length ≤ 200
def fLTimes : List PyData → PyData → Prop := fun ds r => ∃ (p : List Rat) (c : Rat), ds = [PoD p, FrD c] ∧ Tr p ∧ SlA p ∧ Sl c ∧ r = PoD (tr (sc c p))
def AtSl (p : List Rat) (x : Rat) : Prop := ∃ (s : Rat) (a b c : Nat), Bits a s ∧ Bits c x ∧ Bd s (2 ^ b) p ∧ p.length ≤ 30 ∧ a + b + 70 * c + 10 < 900
def fLAt : List PyData → PyData → Prop := fun ds r => ∃ (p : List Rat) (x : Rat), ds = [PoD p, FrD x] ∧ AtSl p x ∧ r = FrD (ev p x)
def fLSum : List PyData → PyData → Prop := fun ds r => ∃ p q : List Rat, ds = [PoD p, PoD q] ∧ SlA p ∧ SlA q ∧ r = PoD (Sum p q)
def MulSl (p q : List Rat) : Prop := ∃ (s t : Rat) (a b c d : Nat), Bits a s ∧ Bits c t ∧ Bd s (2 ^ b) p ∧ Bd t (2 ^ d) q ∧ a + b + c + d + 12 < 900 ∧ p.length ≤ 30 ∧ q.length ≤ 30
def fLProduct : List PyData → PyData → Prop := fun ds r => ∃ p q : List Rat, ds = [PoD p, PoD q] ∧ Tr p ∧ Tr q ∧ MulSl p q ∧ r = PoD (Prd p q)
theorem Tr_sc {c : Rat} {p : List Rat} (hc : c ≠ 0) (h : Tr p) : Tr (sc c p) := fun z => by
  rw [cf_sc, len_sc]
  have p0 : p ≠ [] := fun e => z (by rw [e]; rfl)
  have := h p0
  intro e
  grind
theorem tr_zero {p : List Rat} (h : Z p) : tr p = [] := (Tr_tr p).ne fun k => by rw [cf_tr]; exact h k
section
variable {P : Program} {w : World} {K : PySem.W.Frag} {mg : Str → Option Value} {base : Heap}
theorem ok_ltimes {f fT : Addr} {fd fdT : FuncData} (F : Fun K "_law_times" "_law_times" sLTimes f fd) (FT : Fun K "_law_mul" "_law_mul" sLMul fT fdT) (gT : mg "_law_mul" = some (.ref fT)) (GT : FnOk P w K mg base CX0 2 fT fdT ["one", "other"] (PF K fLMul)) (mT : mg "tuple" = none) : FnOk P w K mg base CX0 3 f fd ["one", "factor"] (PF K fLTimes) := by
  have bT := FT.binds (ps := ["one", "other"]) fun _ _ _ _ _ _ us hl => match us, hl with | [_, _], _ => rfl
  refine F.ok scLTimes (fun vs H Q E h => pf_len (n := 2) (fun ds r q => by obtain ⟨_, _, rfl, _⟩ := q; rfl) h) (fun cdv A outer s H vs Q E hr h => ?_)
  obtain ⟨ds, r, ha, ⟨p, c, rfl, tp, sp, hc, rfl⟩, k⟩ := h
  refine ⟨_, pss_one (ps_ret (pe_ifExp (pt_cmpR op_ne (pe_ix ix_tup (pv 1) pe_int (fun _ _ => rfl)) pe_int (nomark _)) (pe_callTy call_tuple_of (by rfl) mT (by decide +kernel) (pa_cons (pe_lc (own := [("n", 2)]) (g := gName 2) (tt := tYes) rfl scLTimes.nd (pi_tup (pv 0)) (blkOk_by (N := ["one", "factor", "n"]) (sc := defScope sLTimes) (by decide +kernel)) (fun _ _ _ _ _ => pg_name (i := 2) scLTimes.nd rfl (.inl rfl)) (fun _ _ _ _ _ => pts_nil)
    (fun _ _ _ _ _ => pe_call GT hr (by rfl) gT FT.kp bT .nil pass0 (pa_cons (pv 2) (pa_cons (pv 1) pa_nil)))) pa_nil)) (pe_tup pa_nil))), ?_⟩
  have he := env_start (N := ["one", "factor", "n"]) ha
  have hlen := sp.2
  refine q_ret (ed_if (eb_neI (ed_ixT (ed_var (i := 1) he rfl) (ed_int 0) rfl) (ed_int 0)) (d := PoD (tr (sc c p))) (fun hb => ?_) (fun hb => ?_)) fun v H1 s1 hv => k v H1 s1 hv
  · have c0 : c ≠ 0 := fun z => by
      have : c.num = 0 := num0.mpr z
      simp [this] at hb
    refine (ed_tupleL (elc_tup (ds := p.map FrD) (fun _ => true) (fun i => FrD (cf p i * c)) (ed_var (i := 0) he rfl) (by rw [List.length_map]; omega) (wipe1 2) (fun _ _ _ => rfl) (fun _ _ _ _ _ _ _ => eb_yes) (fun i x d H1 s1 hd hx _ => ?_)).dd).is ?_
    · rw [List.getElem?_map] at hd
      cases e : p[i]? with
      | none =>
        rw [e] at hd
        cases hd
      | some a =>
        rw [e] at hd
        injection hd with hd
        subst hd
        have hi := (List.getElem?_eq_some_iff.mp e)
        have ea : cf p i = a := by rw [cf_of_lt hi.1, hi.2]
        have he1 := ((env_wipe he [2]).same s1).set (i := 2) hx
        exact ed_call (ea_cons (ed_var (i := 2) he1 rfl) (ea_cons (ed_var (i := 1) he1 rfl) ea_nil)) ⟨a, c, rfl, sp.1 a (List.mem_of_getElem? e), hc, by rw [ea]⟩
    · rw [gv_all, List.length_map, tr_eq (Tr_sc c0 tp)]
      unfold PoD sc
      rw [List.map_map]
      congr 1
      refine List.ext_getElem (by simp) fun i h1 h2 => ?_
      simp only [List.length_map, List.length_range] at h1 h2
      simp [cf_of_lt h2, Rat.mul_comm]
  · have c0 : c = 0 := by
      have := of_decide_eq_true (by simpa using hb : decide (c.num = 0) = true)
      exact num0.mp this
    have : tr (sc c p) = [] := tr_zero fun k => by rw [cf_sc, c0]; grind
    rw [this]
    exact ed_tup (ea_nil (K := K)) (by simp)
theorem ok_lat {f fP fT : Addr} {fd fdP fdT : FuncData} (F : Fun K "_law_at" "_law_at" sLAt f fd) (FP : Fun K "_law_add" "_law_add" sLAdd fP fdP) (gP : mg "_law_add" = some (.ref fP)) (GP : FnOk P w K mg base CX0 2 fP fdP ["one", "other"] (PF K fLAdd))
    (FT : Fun K "_law_mul" "_law_mul" sLMul fT fdT) (gT : mg "_law_mul" = some (.ref fT)) (GT : FnOk P w K mg base CX0 2 fT fdT ["one", "other"] (PF K fLMul)) : FnOk P w K mg base CX0 3 f fd ["one", "spot"] (PF K fLAt) := by
  have bP := FP.binds (ps := ["one", "other"]) fun _ _ _ _ _ _ us hl => match us, hl with | [_, _], _ => rfl
  have bT := FT.binds (ps := ["one", "other"]) fun _ _ _ _ _ _ us hl => match us, hl with | [_, _], _ => rfl
  refine F.ok scLAt (fun vs H Q E h => pf_len (n := 2) (fun ds r q => by obtain ⟨_, _, rfl, _⟩ := q; rfl) h) (fun cdv A outer s H vs Q E hr h => ?_)
  obtain ⟨ds, r, ha, ⟨p, x, rfl, ⟨s, a, b, c, bs, bx, bp, lp, hsz⟩, rfl⟩, k⟩ := h
  refine ⟨_, pss_cons (ps_asg (pe_tup (pa_cons (pe_tup (pa_cons pe_int (pa_cons pe_int pa_nil))) (pa_cons (pe_tup (pa_cons pe_int (pa_cons pe_int pa_nil))) pa_nil))) (pg_tup rfl (pgs_cons (pg_name (i := 2) scLAt.nd rfl (.inl rfl)) (pgs_cons (pg_name (i := 3) scLAt.nd rfl (.inl rfl)) pgs_nil))))
    (pss_cons (ps_for PassesOwn.never rfl (pi_tup (pv 0)) (pg_name (i := 4) scLAt.nd rfl (.inl rfl))
      (pss_one (ps_par (i := 2) (j := 3) rfl scLAt.nd rfl rfl (by decide) rfl rfl (pa_cons (pe_call GP hr (by rfl) gP FP.kp bP .nil pass0 (pa_cons (pv 2) (pa_cons (pe_call GT hr (by rfl) gT FT.kp bT .nil pass0 (pa_cons (pv 4) (pa_cons (pv 3) pa_nil))) pa_nil))) (pa_cons (pe_call GT hr (by rfl) gT FT.kp bT .nil pass0 (pa_cons (pv 3) (pa_cons (pv 1) pa_nil))) pa_nil)) (by rfl))))
    (pss_one (ps_ret (pv 2)))), ?_⟩
  have he := env_start (N := ["one", "spot", "found", "power", "n"]) ha
  refine q_unp he (ed_tup (ea_cons (ed_tup (ea_cons (ed_int 0) (ea_cons (ed_int 1) ea_nil)) (by simp)) (ea_cons (ed_tup (ea_cons (ed_int 1) (ea_cons (ed_int 1) ea_nil)) (by simp)) ea_nil)) (by simp)) fun σ1 H1 s1 he1 => ?_
  have szE : ∀ i, Bits (a + b + 35 * c + 5 + 30 * c) (ev (p.take i) x) := fun i => by
    have hl : (p.take i).length ≤ 30 := by rw [List.length_take]; omega
    refine (ev_bits bs bx (bp.take i) (by omega)).mono ?_
    have e1 : c * (p.take i).length ≤ c * 30 := Nat.mul_le_mul_left _ hl
    have e2 : (p.take i).length * c ≤ 30 * c := Nat.mul_le_mul_right _ hl
    omega
  refine q_forT (ed_var (i := 0) he1 rfl) (fun H2 i σ' H' => Same H H2 ∧ Same H2 H' ∧ ∃ S4, Env K H' σ' [some (PoD p), some (FrD x), some (FrD (ev (p.take i) x)), some (FrD (x ^ i)), S4]) (fun H2 s2 => ⟨s1.trans s2, Same.refl H2, none, ?_⟩) (fun _ _ _ _ inv => inv.2.1) (fun H2 i y d σ' H' hd hy inv => ?_) (fun H2 σ' H' inv => ?_)
  · rw [List.take_zero, Rat.pow_zero]
    exact he1.same s2
  · obtain ⟨s2, s3, S3, e3⟩ := inv
    have hi : i < p.length := by
      have := (List.getElem?_eq_some_iff.mp hd).1
      simpa using this
    have hdv : d = FrD (cf p i) := by
      rw [List.getElem?_map, List.getElem?_eq_getElem (by omega)] at hd
      rw [cf_of_lt (by omega)]
      exact (Option.some.inj hd).symm
    subst hdv
    have e4 := e3.set (i := 4) hy
    have e5 : c * i ≤ c * 30 := Nat.mul_le_mul_left _ (by omega)
    have e6 : i * c = c * i := Nat.mul_comm _ _
    have bpw : Bits (30 * c) (x ^ i) := (bx.pow i).mono (by omega)
    have bcf := bp.bits bs i
    show tPar 2 3 _ _ _ _
    refine q_parl e4 (ed_call (ea_cons (ed_var (i := 2) e4 rfl) (ea_cons (ed_call (ea_cons (ed_var (i := 4) e4 rfl) (ea_cons (ed_var (i := 3) e4 rfl) ea_nil)) ⟨cf p i, x ^ i, rfl, bcf.sl (by omega), bpw.sl (by omega), rfl⟩) ea_nil)) (d := FrD (ev (p.take (i + 1)) x)) ⟨_, _, rfl, (szE i).sl (by omega), (bcf.mul bpw).sl (by omega), by rw [ev_take_succ]⟩) (ed_call (ea_cons (ed_var (i := 3) e4 rfl) (ea_cons (ed_var (i := 1) e4 rfl) ea_nil)) (d := FrD (x ^ (i + 1))) ⟨_, _, rfl, bpw.sl (by omega), bx.sl (by omega), by rw [Rat.pow_succ]⟩) fun σ5 H5 s5 e5 => ?_
    exact ⟨s2, s3.trans s5, _, e5⟩
  · obtain ⟨s2, s3, S3, e3⟩ := inv
    rw [List.length_map, List.take_length] at e3
    exact q_ret (ed_var (i := 2) e3 rfl) fun v H4 s4 hv => k v H4 ((s2.trans s3).trans s4) hv
end
end K11
/-! the law's sum and product. -/
namespace K11
open PySem PySem.Spec PyProof.Rows L2
theorem Sl.zero : Sl 0 := Bits.sl (α := 0) ⟨by decide, by decide⟩ (by decide)
theorem SlA.cf {p : List Rat} (h : SlA p) (i : Nat) : Sl (cf p i) := by
  by_cases hl : i < p.length
  · rw [cf_of_lt hl]
    exact h.1 _ (List.getElem_mem hl)
  · rw [cf_of_ge (by omega)]
    exact Sl.zero
section
variable {P : Program} {w : World} {K : PySem.W.Frag} {mg : Str → Option Value} {base : Heap}
theorem ok_lproduct {f fP fT : Addr} {fd fdP fdT : FuncData} (F : Fun K "_law_product" "_law_product" sLProduct f fd) (FP : Fun K "_law_add" "_law_add" sLAdd fP fdP) (gP : mg "_law_add" = some (.ref fP)) (GP : FnOk P w K mg base CX0 2 fP fdP ["one", "other"] (PF K fLAdd))
    (FT : Fun K "_law_mul" "_law_mul" sLMul fT fdT) (gT : mg "_law_mul" = some (.ref fT)) (GT : FnOk P w K mg base CX0 2 fT fdT ["one", "other"] (PF K fLMul)) (mTu : mg "tuple" = none) (mLen : mg "len" = none) (mR : mg "range" = none) : FnOk P w K mg base CX0 3 f fd ["one", "other"] (PF K fLProduct) := by
  have bP := FP.binds (ps := ["one", "other"]) fun _ _ _ _ _ _ us hl => match us, hl with | [_, _], _ => rfl
  have bT := FT.binds (ps := ["one", "other"]) fun _ _ _ _ _ _ us hl => match us, hl with | [_, _], _ => rfl
  refine F.ok scLProduct (fun vs H Q E h => pf_len (n := 2) (fun ds r q => by obtain ⟨_, _, rfl, _⟩ := q; rfl) h) (fun cdv A outer s H vs Q E hr h => ?_)
  obtain ⟨ds, r, ha, ⟨p, q, rfl, tp, tq, ⟨s, t, a, b, c, d, bs, bt, bp, bq, hsz, lp, lq⟩, rfl⟩, k⟩ := h
  refine ⟨_, pss_cons (ps_if (PW.pt (pw_or (pt_cmpR op_eq (pe_callB call_len_seq (by rfl) mLen boot_len (pa_cons (pv 0) pa_nil)) pe_int (nomark _)) (pw_or1 (pt_cmpR op_eq (pe_callB call_len_seq (by rfl) mLen boot_len (pa_cons (pv 1) pa_nil)) pe_int (nomark _))))) (pss_one (ps_ret (pe_tup pa_nil))) pss_nil)
    (pss_cons (ps_set (i := 2) scLProduct.nd rfl (.inl rfl) (pe_op op_rep (pe_lst (pa_cons (pe_tup (pa_cons pe_int (pa_cons pe_int pa_nil))) pa_nil)) (pe_op op_sub (pe_op op_add (pe_callB call_len_seq (by rfl) mLen boot_len (pa_cons (pv 0) pa_nil)) (pe_callB call_len_seq (by rfl) mLen boot_len (pa_cons (pv 1) pa_nil))) pe_int)))
    (pss_cons (ps_for PassesOwn.never rfl (pi_range1 (by rfl) mR (pa_cons (pe_callB call_len_seq (by rfl) mLen boot_len (pa_cons (pv 0) pa_nil)) pa_nil)) (pg_name (i := 3) scLProduct.nd rfl (.inl rfl))
      (pss_one (ps_for PassesOwn.never rfl (pi_range1 (by rfl) mR (pa_cons (pe_callB call_len_seq (by rfl) mLen boot_len (pa_cons (pv 1) pa_nil)) pa_nil)) (pg_name (i := 4) scLProduct.nd rfl (.inl rfl))
        (pss_one (ps_asg (pe_call GP hr (by rfl) gP FP.kp bP .nil pass0 (pa_cons (pe_ix ix_list (pv 2) (pe_op op_add (pv 3) (pv 4)) (fun _ _ => rfl)) (pa_cons (pe_call GT hr (by rfl) gT FT.kp bT .nil pass0 (pa_cons (pe_ix ix_tup (pv 0) (pv 3) (fun _ _ => rfl)) (pa_cons (pe_ix ix_tup (pv 1) (pv 4) (fun _ _ => rfl)) pa_nil))) pa_nil)))
          (pg_sub (pv 2) (pe_op op_add (pv 3) (pv 4)) set_list))))))
    (pss_one (ps_ret (pe_callTy call_tuple_of (by rfl) mTu (by decide +kernel) (pa_cons (pv 2) pa_nil)))))), ?_⟩
  have he := env_start (N := ["one", "other", "found", "j", "k"]) ha
  refine q_if (eb_or (eb_eqI (ed_lenT (ed_var he rfl)) (ed_int 0)) (fun _ => eb_eqI (ed_lenT (ed_var he rfl)) (ed_int 0))) (fun hb H1 s1 => ?_) (fun hb H1 s1 => ?_)
  · refine q_ret (ed_tup (ea_nil (K := K)) (by simp)) fun v H2 s2 hv => k v H2 (s1.trans s2) ?_
    rw [List.length_map, List.length_map, Bool.or_eq_true] at hb
    have e : tr (mulL p q) = [] := by
      rcases hb with hb | hb
      · have : p = [] := List.eq_nil_of_length_eq_zero (by have := of_decide_eq_true hb; omega)
        rw [this]
        rfl
      · have : q = [] := List.eq_nil_of_length_eq_zero (by have := of_decide_eq_true hb; omega)
        rw [this]
        exact tr_mul_nil p
    show Dp K H2 v (PoD (tr (mulL p q)))
    rw [e]
    exact hv
  · have hb' : 0 < p.length ∧ 0 < q.length := by
      rw [List.length_map, List.length_map, Bool.or_eq_false_iff] at hb
      have h1 := of_decide_eq_false hb.1
      have h2 := of_decide_eq_false hb.2
      omega
    have he1 := he.same s1
    refine q_setL he1 (el_rep1 (d := FrD 0) (el_lst (ea_cons (ed_tup (ea_cons (ed_int 0) (ea_cons (ed_int 1) ea_nil)) (by simp)) ea_nil) (by simp)) (ed_sub (ed_add (ed_lenT (ed_var he1 rfl)) (ed_lenT (ed_var he1 rfl))) (ed_int 1)) (by rw [List.length_map, List.length_map]; omega)) fun l vs2 H2 hl0 s2 hl2 hd2 he2 => ?_
    have hlen2 : (L2.start ["one", "other", "found", "j", "k"] vs).length = 5 := he.1
    have en : (((p.map FrD).length : Int) + ((q.map FrD).length : Int) - 1).toNat = p.length + q.length - 1 := by rw [List.length_map, List.length_map]; omega
    rw [en] at hd2
    have l0 : H l = none := s1.free hl0
    let Iv : Nat → Nat → L2.St → Hp → Prop := fun j kk σ' H' => ∃ xs fl, Same H H' ∧ σ'[2]? = some (some (.ref l)) ∧ H' l = some (.lst xs) ∧ DpAll K H' xs (fl.map FrD) ∧ fl.length = p.length + q.length - 1 ∧ Conv p q s t (2 ^ b) (2 ^ d) j kk fl
    refine q_forR (ea_cons (ed_lenT (ed_var he2 rfl)) ea_nil) (by rw [List.length_map]; omega) (fun j σ' H' => Env K H' σ' [some (PoD p), some (PoD q), none, none, none] ∧ Iv j 0 σ' H') (fun H3 s3 => ⟨?_, vs2, List.replicate (p.length + q.length - 1) 0, (s1.trans s2).trans s3, List.getElem?_set_self (by rw [hlen2]; decide), s3 _ _ hl2, ?_, by simp, Conv.first ..⟩) (fun j σ3 H3 hj inv => ?_) (fun σ3 H3 inv => ?_)
    · exact he2.same s3
    · rw [List.map_replicate]
      exact dpa_same s3 hd2
    · rw [List.length_map] at hj
      obtain ⟨e3, xs3, fl3, s3, hσ3, hl3, hd3, hn3, cv3⟩ := inv
      have e3' := e3.set (i := 3) (Dp.int (j : Int))
      have hσ3' : (σ3.set 3 (some (V.int (j : Int))))[2]? = some (some (.ref l)) := by rw [List.getElem?_set_ne (by decide)]; exact hσ3
      refine q_forRl (ea_cons (ed_lenT (ed_var e3' rfl)) ea_nil) (by rw [List.length_map]; omega) (fun kk σ' H' => Env K H' σ' [some (PoD p), some (PoD q), none, some (.int (j : Int)), none] ∧ Iv j kk σ' H') (fun H4 s4 => ⟨?_, xs3, fl3, s3.trans s4, hσ3', s4 _ _ hl3, dpa_same s4 hd3, hn3, cv3⟩) (fun kk σ4 H4 hk inv => ?_) (fun σ4 H4 inv => ?_)
      · exact e3'.same s4
      · rw [List.length_map] at hk
        obtain ⟨e4, xs4, fl4, s4, hσ4, hl4, hd4, hn4, cv4⟩ := inv
        have e4' := e4.set (i := 4) (Dp.int (kk : Int))
        have hσ4' : (σ4.set 4 (some (V.int (kk : Int))))[2]? = some (some (.ref l)) := by rw [List.getElem?_set_ne (by decide)]; exact hσ4
        have eF : EvD K (tVar 2) _ H4 (.list (fl4.map FrD)) := ed_lst hσ4' hl4 hd4
        have ix : EvD K (tOp (rI0 fun i j => .int (i + j)) (tVar 3) (tVar 4)) (σ4.set 4 (some (V.int (kk : Int)))) H4 (.int ((j + kk : Nat) : Int)) := by
          rw [Int.natCast_add]
          exact ed_add (ed_var e4' rfl) (ed_var e4' rfl)
        have hjp : j < p.length := by omega
        have hkq : kk < q.length := by omega
        have hjk : j + kk < fl4.length := by omega
        have szN : Bits (a + c) (s * t) := bs.mul bt
        have bd4 : Bd (s * t) (2 ^ (b + d + 10)) fl4 := cv4.bd.mono (by
          rw [show b + d + 10 = 10 + (b + d) by omega, Nat.pow_add, Nat.pow_add 2 b d]
          refine Nat.mul_le_mul_right _ ?_
          have : j * q.length ≤ 30 * 30 := Nat.mul_le_mul (by omega) (by omega)
          show j * q.length + kk ≤ 1024
          omega)
        have z1 : Sl (cf fl4 (j + kk)) := (bd4.bits szN _).sl (by omega)
        have z2 : Sl (cf p j) := (bp.bits bs _).sl (by omega)
        have z3 : Sl (cf q kk) := (bq.bits bt _).sl (by omega)
        have z4 : Sl (cf p j * cf q kk) := ((bp.bits bs _).mul (bq.bits bt _)).sl (by omega)
        refine q_setixl hσ4' hl4 (ed_call (ea_cons (ed_ixL eF ix (po_get hjk)) (ea_cons (ed_call (ea_cons (ed_ixT (ed_var e4' rfl) (ed_var e4' rfl) (po_get hjp)) (ea_cons (ed_ixT (ed_var e4' rfl) (ed_var e4' rfl) (po_get hkq)) ea_nil)) ⟨_, _, rfl, z2, z3, rfl⟩) ea_nil)) ⟨_, _, rfl, z1, z4, rfl⟩) ix (by rw [dpa_len hd4, List.length_map]; exact hjk) fun v H5 s5 hv => ?_
        have hl5 := s5 _ _ hl4
        have fE : fzE [some (PoD p), some (PoD q), none, some (PyData.int (j : Int)), some (PyData.int (kk : Int))] := fzE_some (fz_po p) (fzE_some (fz_po q) (fzE_none (fzE_some rfl (fzE_some rfl fzE_nil))))
        have e5 : Env K (upd H5 l (.lst (xs4.set (j + kk) v))) (σ4.set 4 (some (V.int (kk : Int)))) [some (PoD p), some (PoD q), none, some (PyData.int (j : Int)), some (PyData.int (kk : Int))] := (e4'.same s5).tk (TK.upd hl5) fE
        refine ⟨e5.drop 4, xs4.set (j + kk) v, fl4.set (j + kk) (cf fl4 (j + kk) + cf p j * cf q kk), same_mut (s4.trans s5) l0, hσ4', upd_same, ?_, by rw [List.length_set]; exact hn4, cv4.step bp bq hkq hjk⟩
        rw [List.map_set]
        exact dpa_set (dp_tk (TK.upd hl5) (fz_fr _) hv) _ (dpa_tk (TK.upd hl5) (fzs_fr fl4) (dpa_same s5 hd4))
      · obtain ⟨e4, xs4, fl4, s4, hσ4, hl4, hd4, hn4, cv4⟩ := inv
        rw [List.length_map, Int.toNat_natCast] at cv4
        exact ⟨e4.drop 3, xs4, fl4, s4, hσ4, hl4, hd4, hn4, cv4.next⟩
    · obtain ⟨e3, xs3, fl3, s3, hσ3, hl3, hd3, hn3, cv3⟩ := inv
      rw [List.length_map, Int.toNat_natCast] at cv3
      refine q_ret (ed_tupleL (ed_lst hσ3 hl3 hd3)) fun v H4 s4 hv => k v H4 (s3.trans s4) ?_
      have e : fl3 = Prd p q := by
        rw [Prd, ← cv3.done]
        refine (tr_eq fun _ => ?_).symm
        have h1 : cf fl3 (fl3.length - 1) = cf (mulL p q) ((p.length - 1) + (q.length - 1)) := by
          rw [← cf_tr fl3, cv3.done, cf_tr, show fl3.length - 1 = (p.length - 1) + (q.length - 1) by omega]
        rw [h1, cf_mulL_top p q _ _ (by omega) (by omega)]
        have h2 := tp (List.length_pos_iff.mp hb'.1)
        have h3 := tq (List.length_pos_iff.mp hb'.2)
        intro z
        rcases Rat.mul_eq_zero.mp z with z | z
        · exact h2 z
        · exact h3 z
      rw [← e]
      exact hv
theorem ok_lsum {f fP : Addr} {fd fdP : FuncData} (F : Fun K "_law_sum" "_law_sum" sLSum f fd) (FP : Fun K "_law_add" "_law_add" sLAdd fP fdP) (gP : mg "_law_add" = some (.ref fP)) (GP : FnOk P w K mg base CX0 2 fP fdP ["one", "other"] (PF K fLAdd))
    (mLen : mg "len" = none) (mR : mg "range" = none) (mM : mg "max" = none) (mT : mg "tuple" = none) : FnOk P w K mg base CX0 3 f fd ["one", "other"] (PF K fLSum) := by
  have bP := FP.binds (ps := ["one", "other"]) fun _ _ _ _ _ _ us hl => match us, hl with | [_, _], _ => rfl
  refine F.ok scLSum (fun vs H Q E h => pf_len (n := 2) (fun ds r q => by obtain ⟨_, _, rfl, _⟩ := q; rfl) h) (fun cdv A outer s H vs Q E hr h => ?_)
  obtain ⟨ds, r, ha, ⟨p, q, rfl, sp, sq, rfl⟩, k⟩ := h
  have lp := sp.2
  have lq := sq.2
  refine ⟨_, pss_cons (ps_set (i := 2) scLSum.nd rfl (.inl rfl) (pe_callB (call_max2 rfl) (by rfl) mM (by decide +kernel) (pa_cons (pe_callB call_len_seq (by rfl) mLen boot_len (pa_cons (pv 0) pa_nil)) (pa_cons (pe_callB call_len_seq (by rfl) mLen boot_len (pa_cons (pv 1) pa_nil)) pa_nil))))
    (pss_cons (ps_setLc (i := 3) (own := [("k", 5)]) (g := gName 5) (tt := tYes) rfl scLSum.nd rfl rfl (sw_true rfl rfl rfl (by decide +kernel)) (pi_range1 (by rfl) mR (pa_cons (pv 2) pa_nil)) (blkOk_by (N := ["one", "other", "size", "row", "turn", "k"]) (sc := defScope sLSum) (by decide +kernel)) (fun _ _ _ _ _ => pg_name (i := 5) scLSum.nd rfl (.inl rfl)) (fun _ _ _ _ _ => pts_nil)
      (fun _ _ _ _ _ => pe_call GP hr (by rfl) gP FP.kp bP .nil pass0 (pa_cons (pe_ifExp (pt_cmpR op_lt (pv 5) (pe_callB (r := fun xs H Q => ∃ p ys, xs = [V.ref p] ∧ (SqL K H p ys ∨ SqT K H p ys) ∧ Q (.int ys.length) H) call_len_seq (by rfl) mLen boot_len (pa_cons (pv 0) pa_nil)) (nomark _)) (pe_ix (r := rIxT K) ix_tup (pv 0) (pv 5) (fun _ _ => rfl)) (pe_tup (pa_cons pe_int (pa_cons pe_int pa_nil))))
        (pa_cons (pe_ifExp (pt_cmpR op_lt (pv 5) (pe_callB (r := fun xs H Q => ∃ p ys, xs = [V.ref p] ∧ (SqL K H p ys ∨ SqT K H p ys) ∧ Q (.int ys.length) H) call_len_seq (by rfl) mLen boot_len (pa_cons (pv 1) pa_nil)) (nomark _)) (pe_ix (r := rIxT K) ix_tup (pv 1) (pv 5) (fun _ _ => rfl)) (pe_tup (pa_cons pe_int (pa_cons pe_int pa_nil)))) pa_nil))))
    (pss_cons (ps_for PassesOwn.never rfl (pi_range1 (by rfl) mR (pa_cons (pv 2) pa_nil)) (pg_name (i := 4) scLSum.nd rfl (.inl rfl))
      (pss_one (ps_set (i := 3) scLSum.nd rfl (.inl rfl) (pe_ifExp (PW.pt (pw_and (pt_cmpR op_gt (pe_callB call_len_seq (by rfl) mLen boot_len (pa_cons (pv 3) pa_nil)) pe_int (nomark _))
        (pw_and1 (pt_cmpR op_eq (pe_ix ix_tup (pe_ix ix_list (pv 3) (pe_un un_neg pe_int) (fun _ _ => rfl)) pe_int (fun _ _ => rfl)) pe_int (nomark _))))) (pe_slice sl_list (pv 3) po_none (po_some (pe_un un_neg pe_int))) (pv 3)))))
    (pss_one (ps_ret (pe_callTy call_tuple_of (by rfl) mT (by decide +kernel) (pa_cons (pv 3) pa_nil)))))), ?_⟩
  have he := env_start (N := ["one", "other", "size", "row", "turn", "k"]) ha
  refine q_set he (ed_max2 (ed_lenT (ed_var (i := 0) he rfl)) (ed_lenT (ed_var (i := 1) he rfl))) fun v1 H1 s1 he1 => ?_
  rw [List.length_map, List.length_map] at he1
  have hmx : (max (p.length : Int) (q.length : Int)).toNat = max p.length q.length := by omega
  refine q_set he1 ((elc_range (j := 5) (vs := [5]) (fun _ => true) (fun i => FrD (cf p i + cf q i)) (ea_cons (ed_var (i := 2) he1 rfl) ea_nil) (by omega) (wipe1 5) (fun _ _ _ => rfl) (fun _ _ _ _ => eb_yes) (fun i H2 s2 hi _ => ?_)).dd.is (d' := .list ((addL p q).map FrD)) ?_) fun v2 H2 s2 he2 => ?_
  · have e2 := ((env_wipe he1 [5]).same s2).set (i := 5) (Dp.int (i : Int))
    have arg : ∀ {r : List Rat} {j : Nat}, EvD K (tVar j) _ H2 (PoD r) → EvD K (tIf _ _ _) _ H2 (FrD (cf r i)) := fun {r j} hv =>
      ed_if (eb_cmpI (g := fun i j => decide (i < j)) (ed_var (i := 5) e2 rfl) (ed_lenT hv)) (fun hb => ed_ixT hv (ed_var (i := 5) e2 rfl) (po_get (by
        rw [List.length_map] at hb
        have := of_decide_eq_true hb
        omega))) (fun hb => (ed_tup (ea_cons (ed_int 0) (ea_cons (ed_int 1) ea_nil)) (by simp)).is (d' := FrD (cf r i)) (by
        rw [List.length_map] at hb
        have := of_decide_eq_false hb
        rw [cf_of_ge (by omega)]
        rfl))
    exact ed_call (ea_cons (arg (j := 0) (ed_var (i := 0) e2 rfl)) (ea_cons (arg (j := 1) (ed_var (i := 1) e2 rfl)) ea_nil)) ⟨_, _, rfl, sp.cf i, sq.cf i, rfl⟩
  · rw [gv_all, hmx, add_row]
  refine q_forR (ea_cons (ed_var (i := 2) he2 rfl) ea_nil) (by omega) (fun i σ' H' => ∃ q' : List Rat, Same H H' ∧ Env K H' σ' [some (PoD p), some (PoD q), some (.int (max (p.length : Int) (q.length : Int))), some (.list (q'.map FrD)), none, none] ∧ tr q' = Sum p q ∧ (Tr q' ∨ q'.length + i ≤ max p.length q.length))
    (fun H3 s3 => ⟨addL p q, s1.trans (s2.trans s3), he2.same s3, rfl, .inr (by rw [len_addL]; omega)⟩) (fun i σ3 H3 hi inv => ?_) (fun σ3 H3 inv => ?_)
  · obtain ⟨q', s3, e3, ht, hl⟩ := inv
    have e4 := e3.put (i := 4) (some (.int (i : Int)))
    have eR : EvD K (tVar 3) _ H3 (.list (q'.map FrD)) := ed_var (i := 3) e4 rfl
    show tAsg _ (gName 3) _ _ _
    rcases List.eq_nil_or_concat q' with hn | ⟨q0, a, hc⟩
    · subst hn
      refine (ed_if (d := .list (([] : List Rat).map FrD)) (eb_and (eb_cmpI (ed_lenL eR) (ed_int 0)) (c := false) (fun hb => by simp at hb)) (fun hb => by simp at hb) (fun _ => eR) : EvD K _ _ _ _) H3 (Same.refl H3) _ fun v H4 s4 hv => ?_
      exact ⟨[], s3.trans s4, (e4.same s4).set (i := 3) hv, ht, .inl Tr_nil⟩
    · rw [List.concat_eq_append] at hc
      subst hc
      have hlast : atI ((q0 ++ [a]).map FrD) (-1) = some (FrD a) := by
        rw [List.map_append]
        exact atI_last _ _
      by_cases h0 : a = 0
      · subst h0
        refine (ed_if (d := .list (q0.map FrD)) (eb_and (eb_cmpI (ed_lenL eR) (ed_int 0)) (fun _ => eb_eqI (ed_ixT (ed_ixL eR (ed_neg (ed_int 1)) hlast) (ed_int 0) rfl) (ed_int 0))) (fun hb => (el_init eR).dd.is (by rw [List.map_append, List.map_singleton, List.dropLast_concat])) (fun hb => by simp at hb) : EvD K _ _ _ _) H3 (Same.refl H3) _ fun v H4 s4 hv => ?_
        refine ⟨q0, s3.trans s4, (e4.same s4).set (i := 3) hv, by rw [← ht, tr_snoc0], .inr ?_⟩
        rcases hl with hl | hl
        · have := hl (by simp)
          rw [cf_of_lt (by simp)] at this
          simp at this
        · simp at hl
          omega
      · refine (ed_if (d := .list ((q0 ++ [a]).map FrD)) (eb_and (eb_cmpI (ed_lenL eR) (ed_int 0)) (fun _ => eb_eqI (ed_ixT (ed_ixL eR (ed_neg (ed_int 1)) hlast) (ed_int 0) rfl) (ed_int 0))) (fun hb => by simp at hb; exact absurd hb h0) (fun hb => eR) : EvD K _ _ _ _) H3 (Same.refl H3) _ fun v H4 s4 hv => ?_
        refine ⟨q0 ++ [a], s3.trans s4, (e4.same s4).set (i := 3) hv, ht, .inl fun _ => ?_⟩
        rw [cf_of_lt (by simp)]
        simpa using h0
  · obtain ⟨q', s3, e3, ht, hl⟩ := inv
    rw [hmx] at hl
    have tq : Tr q' := by
      rcases hl with hl | hl
      · exact hl
      · have : q' = [] := List.eq_nil_of_length_eq_zero (by omega)
        rw [this]
        exact Tr_nil
    refine q_ret (ed_tupleL (ed_var (i := 3) e3 rfl)) fun v H4 s4 hv => k v H4 (s3.trans s4) ?_
    rw [← ht, tr_eq tq]
    exact hv
end
end K11
/-! the law's numbers: state, take. -/
namespace K11
open PySem PySem.Spec PyProof.Rows L2
abbrev sLState : Stmt := topS 34
abbrev sLTake : Stmt := topS 35
theorem scLState : FnScope ["script", "cells", "cell"] ["script"] (defScope sLState) := ⟨rfl, rfl, rfl, by decide +kernel, rfl, by decide +kernel, by decide +kernel⟩
theorem scLTake : FnScope ["state", "most", "cells", "at", "cell", "mixed"] ["state", "most"] (defScope sLTake) := ⟨rfl, rfl, rfl, by decide +kernel, rfl, by decide +kernel, by decide +kernel⟩
/-- the state: at a, its numbers at c, at most m taken -/
def StOk (H : Hp) (a c : Addr) (m : Nat) : Prop := ∃ (n : Nat) (cells : List Int), H a = some (.lst [.int (n : Int), .ref c]) ∧ H c = some (.lst (cells.map V.int)) ∧ a ≠ c ∧ n ≤ m ∧ 0 < cells.length ∧ cells.length ≤ 63 ∧ ∀ x ∈ cells, 0 ≤ x
def But (a c : Addr) (H H' : Hp) : Prop := ∀ b o, b ≠ a → b ≠ c → H b = some o → H' b = some o
theorem StOk.same {H H' : Hp} {a c : Addr} {m : Nat} (h : StOk H a c m) (e : Same H H') : StOk H' a c m := by
  obtain ⟨n, cells, h1, h2, h3⟩ := h
  exact ⟨n, cells, e _ _ h1, e _ _ h2, h3⟩
theorem StOk.mono {H : Hp} {a c : Addr} {m k : Nat} (h : StOk H a c m) (e : m ≤ k) : StOk H a c k := by
  obtain ⟨n, cells, h1, h2, h3, h4, h5⟩ := h
  exact ⟨n, cells, h1, h2, h3, Nat.le_trans h4 e, h5⟩
theorem But.of_same {H H' : Hp} {a c : Addr} (e : Same H H') : But a c H H' := fun b o _ _ h => e b o h
theorem But.trans {H H1 H2 : Hp} {a c : Addr} (h : But a c H H1) (k : But a c H1 H2) : But a c H H2 := fun b o x y e => k b o x y (h b o x y e)
theorem But.tk {K : PySem.W.Frag} {H H' : Hp} {a c : Addr} {m : Nat} (h : But a c H H') (s : StOk H a c m) : TK K H H' := fun x xs q => by
  obtain ⟨n, cells, h1, h2, _⟩ := s
  have ne : ∀ {o : HO}, H x = some o → (∀ ys, o ≠ .lst ys) → x ≠ a ∧ x ≠ c := fun {o} e z => ⟨fun w => by
    rw [w, h1] at e
    exact z _ (Option.some.inj e).symm, fun w => by
    rw [w, h2] at e
    exact z _ (Option.some.inj e).symm⟩
  rcases q with (q | ⟨o, q⟩) | q
  · have := ne q (by intro ys z; cases z)
    exact .inl (.inl (h _ _ this.1 this.2 q))
  · have := ne q (by intro ys z; cases z)
    exact .inl (.inr ⟨o, h _ _ this.1 this.2 q⟩)
  · exact .inr q
def spTake : Sp := fun vs H Q _ => ∃ (a c : Addr) (m : Nat) (most : Int), vs = [.ref a, .int most] ∧ StOk H a c m ∧ m < 1000 ∧ 2 ≤ most ∧ most ≤ 100 ∧ ∀ r H', 0 ≤ r → r < most → StOk H' a c (m + 1) → But a c H H' → Q (.int r) H'
theorem atI_of {α : Type} {xs : List α} {j : Nat} (h : j < xs.length) : atI xs (j : Int) = some xs[j] := atI_nat (List.getElem?_eq_getElem h)
theorem q_ref {K : PySem.W.Frag} {H : Hp} {σ : L2.St} {D : Ends} {tz : TS} {i j : Nat} {l : Addr} {xs : List V} {x : V} {k : Int} (hσ : σ[i]? = some (some (.ref l))) (hl : H l = some (.lst xs)) (hx : atI xs k = some x) (kk : tz D (σ.set j (some x)) H) : tSeq (tAsg (tOp (rIxL K) (tVar i) (tC (.int k))) (gName j)) tz D σ H :=
  ⟨_, hσ, l, xs, k, x, rfl, rfl, .inl (.inl hl), hx, kk⟩
section
variable {P : Program} {w : World} {K : PySem.W.Frag} {mg : Str → Option Value} {base : Heap}
theorem ok_ltake {f : Addr} {fd : FuncData} (F : Fun K "_law_take" "_law_take" sLTake f fd) (mI : mg "int" = none) (mLen : mg "len" = none) : FnOk P w K mg base CX0 1 f fd ["state", "most"] spTake := by
  refine F.ok scLTake (fun vs H Q E h => by obtain ⟨_, _, _, _, rfl, _⟩ := h; rfl) (fun cdv A outer s H vs Q E hr h => ?_)
  obtain ⟨a, c, m, most, rfl, ⟨n, cells, hA, hC, hac, hn, hl0, hl, hcs⟩, hm, m2, m100, k⟩ := h
  refine ⟨_, pss_cons (ps_if (pt_cmpR op_lt (pv 1) pe_int (nomark _)) (pss_one (ps_ret pe_int)) pss_nil)
    (pss_cons (ps_set (i := 2) scLTake.nd rfl (.inl rfl) (pe_ix ix_list (pv 0) pe_int (fun _ _ => rfl)))
    (pss_cons (ps_set (i := 3) scLTake.nd rfl (.inl rfl) (pe_op op_mod (pe_callTy call_int1 (by rfl) mI (by decide +kernel) (pa_cons (pe_ix ix_list (pv 0) pe_int (fun _ _ => rfl)) pa_nil)) (pe_callB call_len_seq (by rfl) mLen boot_len (pa_cons (pv 2) pa_nil))))
    (pss_cons (ps_set (i := 4) scLTake.nd rfl (.inl rfl) (pe_ix ix_list (pv 2) (pv 3) (fun _ _ => rfl)))
    (pss_cons (ps_if (pt_cmpR op_ge (pv 4) pe_int (nomark _))
      (pss_cons (ps_asg (pe_op op_fdivW (pv 4) (pv 1)) (pg_sub (pv 2) (pv 3) set_list))
      (pss_one (ps_ret (pe_op op_mod (pe_callTy call_int1 (by rfl) mI (by decide +kernel) (pa_cons (pv 4) pa_nil)) (pv 1))))) pss_nil)
    (pss_cons (ps_asg (pe_op op_add (pe_ix ix_list (pv 0) pe_int (fun _ _ => rfl)) pe_int) (pg_sub (pv 0) pe_int set_list))
    (pss_cons (ps_set (i := 5) scLTake.nd rfl (.inl rfl) (pe_op op_mod (pe_callTy call_int1 (by rfl) mI (by decide +kernel) (pa_cons (pe_op op_add (pe_op op_mulW (pv 4) pe_int) (pe_op op_mulW (pe_ix ix_list (pv 0) pe_int (fun _ _ => rfl)) pe_int)) pa_nil)) pe_int))
    (pss_cons (ps_set (i := 5) scLTake.nd rfl (.inl rfl) (pe_op op_mod (pe_callTy call_int1 (by rfl) mI (by decide +kernel) (pa_cons (pe_op op_add (pe_op op_mulW (pv 5) pe_int) (pe_op op_mulW (pe_ix ix_list (pv 0) pe_int (fun _ _ => rfl)) pe_int)) pa_nil)) pe_int))
    (pss_one (ps_ret (pe_op op_mod (pe_callTy call_int1 (by rfl) mI (by decide +kernel) (pa_cons (pe_op op_fdivW (pv 5) pe_int) pa_nil)) (pv 1))))))))))), ?_⟩
  have hda : DpAll K H [.ref a, .int most] [.list [.int (n : Int), .list (cells.map PyData.int)], .int most] := .cons (.lst (.inl (.inl hA)) (.cons (.int _) (.cons (.lst (.inl (.inl hC)) (dpa_int cells)) .nil))) (.cons (.int _) .nil)
  have he0 := env_start (N := ["state", "most", "cells", "at", "cell", "mixed"]) hda
  have he := he0.drop 0
  have hlen6 : (L2.start ["state", "most", "cells", "at", "cell", "mixed"] [.ref a, .int most]).length = 6 := he0.1
  refine q_if (eb_cmpI (ed_var (i := 1) he rfl) (ed_int 2)) (fun hb H1 s1 => ?_) (fun hb H1 s1 => ?_)
  · have := of_decide_eq_true hb
    omega
  have hA1 := s1 _ _ hA
  have hC1 := s1 _ _ hC
  -- cells = state[1]
  refine q_ref rfl hA1 rfl ?_
  have he1 := (he.same s1).put (i := 2) (some (V.ref c))
  have st : ∀ {σ : L2.St} {H2 : Hp} {n : Nat}, σ[0]? = some (some (.ref a)) → H2 a = some (.lst [.int (n : Int), .ref c]) → H2 c = some (.lst (cells.map V.int)) → EvD K (tVar 0) σ H2 (.list [.int (n : Int), .list (cells.map PyData.int)]) := fun {σ H2 n} h1 h2 h3 =>
    ed_lst h1 h2 (.cons (.int _) (.cons (.lst (.inl (.inl h3)) (dpa_int cells)) .nil))
  have hσ0 : ((L2.start ["state", "most", "cells", "at", "cell", "mixed"] [.ref a, .int most]).set 2 (some (V.ref c)))[0]? = some (some (.ref a)) := rfl
  have hσ2 : ((L2.start ["state", "most", "cells", "at", "cell", "mixed"] [.ref a, .int most]).set 2 (some (V.ref c)))[2]? = some (some (.ref c)) := rfl
  generalize (L2.start ["state", "most", "cells", "at", "cell", "mixed"] [.ref a, .int most]).set 2 (some (V.ref c)) = σ1 at *
  have keep : ∀ {σ : L2.St} {i : Nat} {x : Option V}, 3 ≤ i → σ[0]? = some (some (.ref a)) ∧ σ[2]? = some (some (.ref c)) → (σ.set i x)[0]? = some (some (.ref a)) ∧ (σ.set i x)[2]? = some (some (.ref c)) := fun hi h => by
    rw [List.getElem?_set_ne (by omega), List.getElem?_set_ne (by omega)]
    exact h
  -- at
  refine q_set he1 (ed_opC (d := .int ((n % cells.length : Nat) : Int)) (ed_int1 (ed_ixL (st hσ0 hA1 hC1) (ed_int 0) rfl)) (ed_lenL (ed_lst hσ2 hC1 (dpa_int cells))) (by rw [List.length_map]; omega) fun H => by rw [List.length_map, Int.natCast_emod]; exact .int _) fun v2 H2 s2 he2 => ?_
  have hj : n % cells.length < cells.length := Nat.mod_lt _ hl0
  generalize n % cells.length = j at *
  have k2 := keep (i := 3) (x := some v2) (Nat.le_refl _) ⟨hσ0, hσ2⟩
  have hA2 := s2 _ _ hA1
  have hC2 := s2 _ _ hC1
  -- cell
  refine q_set he2 (ed_ixL (ed_lst k2.2 hC2 (dpa_int cells)) (ed_var (i := 3) he2 rfl) (d := .int cells[j]) (by
    rw [atI_nat (v := .int cells[j])]
    rw [List.getElem?_map, List.getElem?_eq_getElem hj]
    rfl)) fun v3 H3 s3 he3 => ?_
  have hx0 : 0 ≤ cells[j] := hcs _ (List.getElem_mem hj)
  generalize hx : cells[j] = x at *
  have k3 := keep (i := 4) (x := some v3) (by decide) k2
  have hA3 := s3 _ _ hA2
  have hC3 := s3 _ _ hC2
  have s03 := s1.trans (s2.trans s3)
  refine q_if (eb_cmpI (ed_var (i := 4) he3 rfl) (ed_int 1000000000000000000)) (fun hb H4 s4 => ?_) (fun hb H4 s4 => ?_)
  · -- a great one
    have he4 := he3.same s4
    have hA4 := s4 _ _ hA3
    have hC4 := s4 _ _ hC3
    refine q_setix k3.2 hC4 (ed_divW (ed_var (i := 4) he4 rfl) (ed_var (i := 1) he4 rfl) (wide_div (b := 10) (by omega) (by omega) (by decide) (by decide))) (ed_var (i := 3) he4 rfl) (by rw [List.length_map]; exact hj) fun v5 H5 s5 hv5 => ?_
    cases hv5
    have hC5 := s5 _ _ hC4
    have hA5 := s5 _ _ hA4
    have he5 := (he4.same s5).tk (TK.upd (o := .lst ((cells.map V.int).set j (.int (x / most)))) hC5) (fzE_none (fzE_some rfl (fzE_none (fzE_some rfl (fzE_some rfl (fzE_none fzE_nil))))))
    refine q_ret (ed_opC (d := .int (x % most)) (ed_int1 (ed_var (i := 4) he5 rfl)) (ed_var (i := 1) he5 rfl) (by omega) fun H => .int _) fun v6 H6 s6 hv6 => ?_
    cases hv6
    refine k _ H6 (Int.emod_nonneg _ (by omega)) (Int.emod_lt_of_pos _ (by omega)) ⟨n, cells.set j (x / most), s6 _ _ (by rw [upd_ne hac]; exact hA5), s6 _ _ (by rw [upd_same, List.map_set]), hac, by omega, by rw [List.length_set]; exact hl0, by rw [List.length_set]; exact hl, fun y hy => ?_⟩ (fun b o b1 b2 e => ?_)
    · rcases List.mem_or_eq_of_mem_set hy with h | h
      · exact hcs y h
      · rw [h]
        exact Int.ediv_nonneg hx0 (by omega)
    · exact s6 _ _ (by rw [upd_ne b2]; exact s5 _ _ (s4 _ _ (s03 _ _ e)))
  · have hxs : x < 1000000000000000000 := by
      have := of_decide_eq_false hb
      omega
    have he4 := he3.same s4
    have hA4 := s4 _ _ hA3
    have hC4 := s4 _ _ hC3
    refine q_setix (j := 0) k3.1 hA4 (ed_add (ed_ixL (st k3.1 hA4 hC4) (ed_int 0) rfl) (ed_int 1)) (ed_int 0) (by simp) fun v5 H5 s5 hv5 => ?_
    cases hv5
    have hA5 := s5 _ _ hA4
    have hC5 := s5 _ _ hC4
    have he5 := (he4.same s5).tk (TK.upd (o := .lst (([.int (n : Int), .ref c] : List V).set 0 (.int ((n : Int) + 1)))) hA5) (fzE_none (fzE_some rfl (fzE_none (fzE_some rfl (fzE_some rfl (fzE_none fzE_nil))))))
    have hA6 : (upd H5 a (.lst (([.int (n : Int), .ref c] : List V).set 0 (.int ((n : Int) + 1))))) a = some (.lst [.int ((n + 1 : Nat) : Int), .ref c]) := by
      rw [upd_same]
      rfl
    have hC6 : (upd H5 a (.lst (([.int (n : Int), .ref c] : List V).set 0 (.int ((n : Int) + 1))))) c = some (.lst (cells.map V.int)) := by
      rw [upd_ne hac.symm]
      exact hC5
    have hB6 : But a c H (upd H5 a (.lst (([.int (n : Int), .ref c] : List V).set 0 (.int ((n : Int) + 1))))) := fun b o b1 b2 e => by
      rw [upd_ne b1]
      exact s5 _ _ (s4 _ _ (s03 _ _ e))
    generalize upd H5 a (.lst (([.int (n : Int), .ref c] : List V).set 0 (.int ((n : Int) + 1)))) = H6 at *
    have zx : x.natAbs < 2 ^ 60 := by omega
    have zn : ((n + 1 : Nat) : Int).natAbs < 2 ^ 12 := by omega
    refine q_set he5 (ed_opC (d := .int ((x * 48271 + ((n + 1 : Nat) : Int) * 69621) % 2147483647)) (ed_int1 (ed_add (ed_mulW (ed_var (i := 4) he5 rfl) (ed_int 48271) (wide_mul (b := 20) zx (by decide) (by decide) (by decide) (by decide))) (ed_mulW (ed_ixL (st k3.1 hA6 hC6) (ed_int 0) rfl) (ed_int 69621) (wide_mul (b := 20) zn (by decide) (by decide) (by decide) (by decide))))) (ed_int 2147483647) (by decide) fun H => .int _) fun v7 H7 s7 he7 => ?_
    have y0 := Int.emod_nonneg (x * 48271 + ((n + 1 : Nat) : Int) * 69621) (b := 2147483647) (by decide)
    have y1 := Int.emod_lt_of_pos (x * 48271 + ((n + 1 : Nat) : Int) * 69621) (b := 2147483647) (by decide)
    generalize (x * 48271 + ((n + 1 : Nat) : Int) * 69621) % 2147483647 = y at *
    have k7 := keep (i := 5) (x := some v7) (by decide) k3
    have hA7 := s7 _ _ hA6
    have hC7 := s7 _ _ hC6
    refine q_set he7 (ed_opC (d := .int ((y * 16807 + ((n + 1 : Nat) : Int) * 7919) % 1000000007)) (ed_int1 (ed_add (ed_mulW (ed_var (i := 5) he7 rfl) (ed_int 16807) (wide_mul (a := 40) (b := 20) (by omega) (by decide) (by decide) (by decide) (by decide))) (ed_mulW (ed_ixL (st k7.1 hA7 hC7) (ed_int 0) rfl) (ed_int 7919) (wide_mul (b := 20) zn (by decide) (by decide) (by decide) (by decide))))) (ed_int 1000000007) (by decide) fun H => .int _) fun v8 H8 s8 he8 => ?_
    have z0 := Int.emod_nonneg (y * 16807 + ((n + 1 : Nat) : Int) * 7919) (b := 1000000007) (by decide)
    generalize (y * 16807 + ((n + 1 : Nat) : Int) * 7919) % 1000000007 = z at *
    refine q_ret (ed_opC (d := .int (z / 7 % most)) (ed_int1 (ed_divW (ed_var (i := 5) he8 rfl) (ed_int 7) (wide_div (b := 10) (by decide) (by decide) (by decide) (by decide)))) (ed_var (i := 1) he8 rfl) (by omega) fun H => .int _) fun v9 H9 s9 hv9 => ?_
    cases hv9
    have s69 := s7.trans (s8.trans s9)
    exact k _ H9 (Int.emod_nonneg _ (by omega)) (Int.emod_lt_of_pos _ (by omega)) ⟨n + 1, cells, s69 _ _ hA6, s69 _ _ hC6, hac, by omega, hl0, hl, hcs⟩ (hB6.trans (But.of_same s69))
end
end K11
/-! the law's state and polynomials. -/
namespace K11
open PySem PySem.Spec PyProof.Rows L2
abbrev sLPoly : Stmt := topS 44
theorem scLPoly : FnScope ["state", "many", "row", "turn", "k"] ["state", "many"] (defScope sLPoly) := ⟨rfl, rfl, rfl, by decide +kernel, rfl, by decide +kernel, by decide +kernel⟩
def spState (K : PySem.W.Frag) : Sp := fun vs H Q _ => ∃ (v : V) (ns : List Int), vs = [v] ∧ Dp K H v (.list (ns.map PyData.int)) ∧ ∀ a c H', StOk H' a c 0 → Same H H' → Q (.ref a) H'
/-- a drawn one -/
structure Drawn (n : Nat) (p : List Rat) : Prop where
  tr : Tr p
  len : p.length ≤ n
  bd : Bd (1 / 2) 4 p
def spPoly (K : PySem.W.Frag) : Sp := fun vs H Q _ => ∃ (a c : Addr) (m n : Nat), vs = [.ref a, .int ((n + 1 : Nat) : Int)] ∧ StOk H a c m ∧ m < 900 ∧ 1 ≤ n ∧ n ≤ 4 ∧ ∀ p v H', Drawn n p → StOk H' a c (m + 11) → But a c H H' → Dp K H' v (PoD p) → Q v H'
section
variable {K : PySem.W.Frag} {H : Hp} {σ : L2.St} {ta : TE} {ds : List PyData}
theorem cut_take (vs : List V) (n : Nat) : cutV vs none (some (n : Int)) = vs.take n := by
  unfold cutV
  rw [HT.sIx_none, List.drop_zero, HT.sIx_nat, Nat.sub_zero]
  by_cases h : n ≤ vs.length
  · rw [Nat.min_eq_left h]
  · rw [Nat.min_eq_right (by omega), List.take_length, List.take_of_length_le (by omega)]
theorem el_take {n : Nat} (ha : EvD K ta σ H (.list ds)) : EvL K (tSl (rSlL K) ta tNoPart (tPart (tC (.int (n : Int))))) σ H (ds.take n) := fun H1 s Q q =>
  ha H1 s _ fun v H2 s2 a => by
    cases a with
    | lst hs hd =>
      refine ⟨(n : Int), rfl, _, _, rfl, hs, fun p hp => ?_⟩
      rw [cut_take]
      exact q p _ _ (s2.free hp) (s2.trans (same_upd hp)) upd_same (dpa_same (same_upd hp) (dpa_take n hd))
/-- row[:-1] if the last one is 0 -/
theorem ed_trim {q' : List Rat} {i : Nat} (eR : EvD K (tVar i) σ H (.list (q'.map FrD))) : ∃ q'' : List Rat, EvD K (tIf (tAnd (tTest (tOp (rI0 fun i j => .bl (decide (j < i))) (tCB (fun xs H Q => ∃ p ys, xs = [.ref p] ∧ (SqL K H p ys ∨ SqT K H p ys) ∧ Q (.int ys.length) H) (tCons (tVar i) tNil)) (tC (.int 0))))
      (tTest (tOp rEq (tOp (rIxT K) (tOp (rIxL K) (tVar i) (tUn (rU fun i => .int (-i)) (tC (.int 1)))) (tC (.int 0))) (tC (.int 0))))) (tSl (rSlL K) (tVar i) tNoPart (tPart (tUn (rU fun i => .int (-i)) (tC (.int 1))))) (tVar i)) σ H (.list (q''.map FrD)) ∧ tr q'' = tr q' ∧ (Tr q'' ∨ q''.length + 1 ≤ q'.length) ∧ (Tr q' → q'' = q') := by
  rcases List.eq_nil_or_concat q' with hn | ⟨q0, a, hc⟩
  · subst hn
    exact ⟨[], ed_if (eb_and (eb_cmpI (ed_lenL eR) (ed_int 0)) (c := false) (fun hb => by simp at hb)) (fun hb => by simp at hb) (fun _ => eR), rfl, .inl Tr_nil, fun _ => rfl⟩
  · rw [List.concat_eq_append] at hc
    subst hc
    have hlast : atI ((q0 ++ [a]).map FrD) (-1) = some (FrD a) := by
      rw [List.map_append]
      exact atI_last _ _
    by_cases h0 : a = 0
    · subst h0
      refine ⟨q0, ed_if (eb_and (eb_cmpI (ed_lenL eR) (ed_int 0)) (fun _ => eb_eqI (ed_ixT (ed_ixL eR (ed_neg (ed_int 1)) hlast) (ed_int 0) rfl) (ed_int 0))) (fun hb => (el_init eR).dd.is (by rw [List.map_append, List.map_singleton, List.dropLast_concat])) (fun hb => by simp at hb), (tr_snoc0 q0).symm, .inr (by simp), fun ht => ?_⟩
      have := ht (by simp)
      rw [cf_of_lt (by simp)] at this
      simp at this
    · refine ⟨q0 ++ [a], ed_if (eb_and (eb_cmpI (ed_lenL eR) (ed_int 0)) (fun _ => eb_eqI (ed_ixT (ed_ixL eR (ed_neg (ed_int 1)) hlast) (ed_int 0) rfl) (ed_int 0))) (fun hb => by simp at hb; exact absurd hb h0) (fun hb => eR), rfl, .inl fun _ => ?_, fun _ => rfl⟩
      rw [cf_of_lt (by simp)]
      simpa using h0
end
theorem yes_if {σ : L2.St} {H : Hp} {A B : Hp → Prop} (h : A H) : tYes σ H (fun b H3 => if b = true then A H3 else B H3) := by
  show (if true = true then A H else B H)
  rw [if_pos rfl]
  exact h
theorem half_of {r1 r2 : Int} (h1 : 0 ≤ r1) (h2 : r1 < 5) (h3 : 0 ≤ r2) (h4 : r2 < 2) : ∃ z : Int, ((r1 - 2 : Int) : Rat) / ((1 + r2 : Int) : Rat) = (1 / 2) * (z : Rat) ∧ z.natAbs ≤ 4 := by
  by_cases h : r2 = 0
  · subst h
    refine ⟨2 * (r1 - 2), ?_, by omega⟩
    rw [Rat.intCast_mul]
    have e1 : (((1 + 0 : Int)) : Rat) = 1 := rfl
    have e2 : ((2 : Int) : Rat) = 2 := rfl
    rw [e1, e2]
    grind
  · have : r2 = 1 := by omega
    subst this
    refine ⟨r1 - 2, ?_, by omega⟩
    have e1 : (((1 + 1 : Int)) : Rat) = 2 := rfl
    rw [e1]
    grind
section
variable {P : Program} {w : World} {K : PySem.W.Frag} {mg : Str → Option Value} {base : Heap}
theorem ok_lstate {f : Addr} {fd : FuncData} (F : Fun K "_law_state" "_law_state" sLState f fd) (mA : mg "abs" = none) (mLen : mg "len" = none) : FnOk P w K mg base CX0 1 f fd ["script"] (spState K) := by
  refine F.ok scLState (fun vs H Q E h => by obtain ⟨_, _, rfl, _⟩ := h; rfl) (fun cdv A outer s H vs Q E hr h => ?_)
  obtain ⟨v, ns, rfl, hd, k⟩ := h
  refine ⟨_, pss_cons (ps_setLc (i := 1) (own := [("cell", 2)]) (g := gName 2) (tt := tYes) rfl scLState.nd rfl rfl (sw_true rfl rfl rfl (by decide +kernel)) (pi_list (pe_slice sl_list (pv 0) po_none (po_some pe_int))) (blkOk_by (N := ["script", "cells", "cell"]) (sc := defScope sLState) (by decide +kernel)) (fun _ _ _ _ _ => pg_name (i := 2) scLState.nd rfl (.inl rfl)) (fun _ _ _ _ _ => pts_nil)
      (fun _ _ _ _ _ => pe_callB (r := fun xs H Q => ∃ i, xs = [V.int i] ∧ Q (.int (if i < 0 then -i else i)) H) call_abs (by rfl) mA boot_abs (pa_cons (pv 2) pa_nil)))
    (pss_cons (ps_if (pt_cmpR op_eq (pe_callB call_len_seq (by rfl) mLen boot_len (pa_cons (pv 1) pa_nil)) pe_int (nomark _)) (pss_one (ps_set (i := 1) scLState.nd rfl (.inl rfl) (pe_lst (pa_cons pe_int pa_nil)))) pss_nil)
    (pss_one (ps_ret (pe_lst (pa_cons pe_int (pa_cons (pv 1) pa_nil)))))), ?_⟩
  have he := env_start (N := ["script", "cells", "cell"]) (K := K) (H := H) (vs := [v]) (ds := [.list (ns.map PyData.int)]) (.cons hd .nil)
  have fin : ∀ (σ' : L2.St) (H' : Hp) (c : Addr) (cells : List Int), σ'[1]? = some (some (.ref c)) → H' c = some (.lst (cells.map V.int)) → 0 < cells.length → cells.length ≤ 63 → (∀ x ∈ cells, 0 ≤ x) → Same H H' →
      tRet (tLst (tCons (tC (.int 0)) (tCons (tVar 1) tNil))) { nx := fun _ H' => Q .non H', rt := Q } σ' H' := fun σ' H' c cells h1 h2 h3 h4 h5 h6 =>
    ⟨_, h1, by show 2 ≤ sizeLine; decide, fun p hp => k p c _ ⟨0, cells, upd_same, by rw [upd_ne (ne_of_none h2 hp)]; exact h2, (ne_of_none h2 hp).symm, Nat.le_refl _, h3, h4, h5⟩ (h6.trans (same_upd hp))⟩
  refine q_setL he ((elc_lst (j := 2) (vs := [2]) (ds := (ns.map PyData.int).take 63) (fun _ => true) (fun i => .int (((ns.getD i 0).natAbs : Nat) : Int)) (el_take (n := 63) (ed_var (i := 0) he rfl)).dd (by rw [List.length_take]; omega) (wipe1 2) (fun _ _ _ => rfl) (fun _ _ _ _ _ _ _ => eb_yes) (fun i x d H1 s1 hdx hx _ => ?_)).is (ds' := ((ns.take 63).map fun n => ((n.natAbs : Nat) : Int)).map PyData.int) ?_) fun p vs1 H1 hp s1 hl1 hd1 he1 => ?_
  · have hi : i < ((ns.map PyData.int).take 63).length := (List.getElem?_eq_some_iff.mp hdx).1
    rw [List.length_take, List.length_map] at hi
    rw [List.getElem?_take_of_lt (by omega), List.getElem?_map, List.getElem?_eq_getElem (by omega)] at hdx
    cases hdx
    have he1 := ((env_wipe he [2]).same s1).set (i := 2) hx
    have := ed_absI (ed_var (i := 2) he1 rfl)
    refine this.is ?_
    rw [List.getD_eq_getElem?_getD, List.getElem?_eq_getElem (by omega)]
    rfl
  · rw [gv_all, List.length_take, List.length_map]
    refine List.ext_getElem (by simp) fun i h1 h2 => ?_
    simp only [List.length_map, List.length_range] at h1
    simp only [List.getElem_map, List.getElem_range, List.getElem_take]
    rw [List.getD_eq_getElem?_getD, List.getElem?_eq_getElem (by omega)]
    rfl
  · have hv := dpa_ints hd1
    rw [hv] at hl1
    have hlen3 : (L2.start ["script", "cells", "cell"] [v]).length = 3 := he.1
    have hσ1 : ((L2.start ["script", "cells", "cell"] [v]).set 1 (some (V.ref p)))[1]? = some (some (.ref p)) := List.getElem?_set_self (by rw [hlen3]; decide)
    generalize hcs : (ns.take 63).map (fun n => ((n.natAbs : Nat) : Int)) = cells at *
    have hc63 : cells.length ≤ 63 := by rw [← hcs, List.length_map, List.length_take]; omega
    have hc0 : ∀ x ∈ cells, 0 ≤ x := fun x hx => by
      rw [← hcs] at hx
      obtain ⟨n, _, rfl⟩ := List.mem_map.mp hx
      omega
    refine q_if (eb_eqI (ed_lenL (ed_lst (K := K) hσ1 hl1 (dpa_int cells))) (ed_int 0)) (fun hb H2 s2 => ?_) (fun hb H2 s2 => ?_)
    · refine (el_lst (K := K) (ea_cons (ed_int 0) ea_nil) (by simp) : EvL K (tLst (tCons (tC (.int 0)) tNil)) _ H2 [.int 0]) H2 (Same.refl H2) _ fun p2 vs2 H3 hp2 s3 hl3 hd3 => ?_
      have hv2 := dpa_ints (ns := [0]) hd3
      rw [hv2] at hl3
      exact fin _ H3 p2 [0] (List.getElem?_set_self (by rw [List.length_set, hlen3]; decide)) hl3 (by decide) (by decide) (by simp) (s1.trans (s2.trans s3))
    · have h0 : 0 < cells.length := by
        rw [List.length_map] at hb
        have := of_decide_eq_false hb
        omega
      exact fin _ H2 p cells hσ1 (s2 _ _ hl1) h0 hc63 hc0 (s1.trans s2)
theorem ok_lpoly {f fT fR : Addr} {fd fdT fdR : FuncData} (F : Fun K "_law_poly" "_law_poly" sLPoly f fd) (FT : Fun K "_law_take" "_law_take" sLTake fT fdT) (gT : mg "_law_take" = some (.ref fT)) (GT : FnOk P w K mg base CX0 1 fT fdT ["state", "most"] spTake)
    (FR : Fun K "_law_fr" "_law_fr" sLFr fR fdR) (gR : mg "_law_fr" = some (.ref fR)) (GR : FnOk P w K mg base CX0 1 fR fdR ["above", "below"] (PF K fLFr)) (mR : mg "range" = none) (mLen : mg "len" = none) (mTu : mg "tuple" = none) : FnOk P w K mg base CX0 2 f fd ["state", "many"] (spPoly K) := by
  have bT := FT.binds (ps := ["state", "most"]) fun _ _ _ _ _ _ us hl => match us, hl with | [_, _], _ => rfl
  have bR := FR.binds (ps := ["above", "below"]) fun _ _ _ _ _ _ us hl => match us, hl with | [_, _], _ => rfl
  refine F.ok scLPoly (fun vs H Q E h => by obtain ⟨_, _, _, _, rfl, _⟩ := h; rfl) (fun cdv A outer s H vs Q E hr h => ?_)
  obtain ⟨a, c, m, n, rfl, hst, hm, n1, n4, k⟩ := h
  refine ⟨_, pss_cons (ps_setLc (i := 2) (own := [("k", 4)]) (g := gName 4) (tt := tYes) rfl scLPoly.nd rfl rfl (sw_true rfl rfl rfl (by decide +kernel)) (pi_range1 (by rfl) mR (pa_cons (pe_call GT hr (by rfl) gT FT.kp bT .nil pass0 (pa_cons (pv 0) (pa_cons (pv 1) pa_nil))) pa_nil)) (blkOk_by (N := ["state", "many", "row", "turn", "k"]) (sc := defScope sLPoly) (by decide +kernel)) (fun _ _ _ _ _ => pg_name (i := 4) scLPoly.nd rfl (.inl rfl)) (fun _ _ _ _ _ => pts_nil)
      (fun _ _ _ _ _ => pe_call GR hr (by rfl) gR FR.kp bR .nil pass0 (pa_cons (pe_op op_sub (pe_call GT hr (by rfl) gT FT.kp bT .nil pass0 (pa_cons (pv 0) (pa_cons pe_int pa_nil))) pe_int) (pa_cons (pe_op op_add pe_int (pe_call GT hr (by rfl) gT FT.kp bT .nil pass0 (pa_cons (pv 0) (pa_cons pe_int pa_nil)))) pa_nil))))
    (pss_cons (ps_for PassesOwn.never rfl (pi_range1 (by rfl) mR (pa_cons (pv 1) pa_nil)) (pg_name (i := 3) scLPoly.nd rfl (.inl rfl))
      (pss_one (ps_set (i := 2) scLPoly.nd rfl (.inl rfl) (pe_ifExp (PW.pt (pw_and (pt_cmpR op_gt (pe_callB call_len_seq (by rfl) mLen boot_len (pa_cons (pv 2) pa_nil)) pe_int (nomark _))
        (pw_and1 (pt_cmpR op_eq (pe_ix ix_tup (pe_ix ix_list (pv 2) (pe_un un_neg pe_int) (fun _ _ => rfl)) pe_int (fun _ _ => rfl)) pe_int (nomark _))))) (pe_slice sl_list (pv 2) po_none (po_some (pe_un un_neg pe_int))) (pv 2)))))
    (pss_one (ps_ret (pe_callTy call_tuple_of (by rfl) mTu (by decide +kernel) (pa_cons (pv 2) pa_nil))))), ?_⟩
  have hst0 := hst
  obtain ⟨n0, cells, hA, hC, hac, _⟩ := hst
  have hda : DpAll K H [.ref a, .int ((n + 1 : Nat) : Int)] [.list [.int (n0 : Int), .list (cells.map PyData.int)], .int ((n + 1 : Nat) : Int)] := .cons (.lst (.inl (.inl hA)) (.cons (.int _) (.cons (.lst (.inl (.inl hC)) (dpa_int cells)) .nil))) (.cons (.int _) .nil)
  have he := (env_start (N := ["state", "many", "row", "turn", "k"]) hda).drop 0
  -- the row
  refine ⟨_, rfl, _, rfl, a, c, m, ((n + 1 : Nat) : Int), rfl, hst0, by omega, by omega, by omega, fun r H1 r0 r1 st1 b1 => ⟨r, rfl, by omega, by omega, fun Dl hD => ?_⟩⟩
  refine lc_range (lo := 0) (n := r.toNat) (fun i H' => ∃ (ys : List V) (f : List Rat), StOk H' a c (m + 1 + 2 * i) ∧ But a c H1 H' ∧ H' Dl = some (.lst ys) ∧ DpAll K H' ys (f.map FrD) ∧ f.length = i ∧ ∀ x ∈ f, ∃ z : Int, x = (1 / 2) * (z : Rat) ∧ z.natAbs ≤ 4)
    ⟨[], [], st1.same (same_upd hD), But.of_same (same_upd hD), upd_same, .nil, rfl, by simp⟩ (fun i H' hi p => ⟨wipe1 4 _, ?_⟩) (fun H' p => ?_)
  · obtain ⟨ys, f, st2, b2, hl, hd, hf, hh⟩ := p
    have hi4 : i ≤ 4 := by omega
    have DA : Dl ≠ a ∧ Dl ≠ c := by
      obtain ⟨_, _, x1, x2, _⟩ := st1
      exact ⟨fun z => by (rw [z, x1] at hD; cases hD), fun z => by (rw [z, x2] at hD; cases hD)⟩
    refine yes_if ?_
    refine ⟨_, rfl, a, c, _, 5, rfl, st2, by omega, by decide, by decide, fun r1 H2 h1 h2 st3 b3 => ⟨r1, 2, rfl, rfl, ?_⟩⟩
    refine ⟨_, rfl, a, c, _, 2, rfl, st3, by omega, by decide, by decide, fun r2 H3 h3 h4 st4 b4 => ⟨1, r2, rfl, rfl, ?_⟩⟩
    obtain ⟨z, hz, hz4⟩ := half_of h1 h2 h3 h4
    refine ⟨[.int (r1 - 2), .int (1 + r2)], FrD (((r1 - 2 : Int) : Rat) / ((1 + r2 : Int) : Rat)), .cons (.int _) (.cons (.int _) .nil), ⟨_, _, rfl, by omega, Nat.lt_of_lt_of_le (show (r1 - 2).natAbs < 2 ^ 4 by omega) (Nat.pow_le_pow_right (by decide) (by decide)), Nat.lt_of_lt_of_le (show (1 + r2).natAbs < 2 ^ 4 by omega) (Nat.pow_le_pow_right (by decide) (by decide)), rfl⟩, fun v H4 s4 hv => ?_⟩
    have hl4 : H4 Dl = some (.lst ys) := s4 _ _ (b4 _ _ DA.1 DA.2 (b3 _ _ DA.1 DA.2 hl))
    have tk4 : TK K H' H4 := (b3.tk st2).trans ((b4.tk st3).trans (TK.same s4))
    refine ⟨ys, hl4, small1000 (by rw [dpa_len hd, List.length_map]; omega), ys ++ [v], f ++ [((r1 - 2 : Int) : Rat) / ((1 + r2 : Int) : Rat)], ?_, ?_, upd_same, ?_, by rw [List.length_append, hf]; rfl, fun x hx => ?_⟩
    · obtain ⟨nn, cc, x1, x2, x3, x4, x5⟩ := st4
      exact ⟨nn, cc, by rw [upd_ne DA.1.symm]; exact s4 _ _ x1, by rw [upd_ne DA.2.symm]; exact s4 _ _ x2, x3, by omega, x5⟩
    · intro b o y1 y2 e
      have hb : b ≠ Dl := ne_of_none e hD
      rw [upd_ne hb]
      exact s4 _ _ (b4 _ _ y1 y2 (b3 _ _ y1 y2 (b2 _ _ y1 y2 e)))
    · rw [List.map_append]
      refine dpa_append (dpa_tk (tk4.trans (TK.upd hl4)) (fzs_fr f) hd) (.cons (dp_tk (TK.upd hl4) (fz_fr _) hv) .nil)
    · rcases List.mem_append.mp hx with h | h
      · exact hh x h
      · rw [List.mem_singleton.mp h]
        exact ⟨z, hz, hz4⟩
  · obtain ⟨ys, f, st2, b2, hl, hd, hf, hh⟩ := p
    have b3 : But a c H H' := b1.trans b2
    have he1 := (he.tk (b3.tk hst0) (fzE_none (fzE_some rfl (fzE_none (fzE_none (fzE_none fzE_nil)))))).set (i := 2) (Dp.lst (.inl (.inl hl)) hd)
    show tSeq _ _ _ _ _
    have hfl : f.length ≤ n := by omega
    have hbd : Bd (1 / 2) 4 f := fun j => by
      by_cases hj : j < f.length
      · rw [cf_of_lt hj]
        exact hh _ (List.getElem_mem hj)
      · rw [cf_of_ge (by omega)]
        exact ⟨0, by simp, by decide⟩
    refine q_forR (K := K) (ea_cons (ed_var (i := 1) he1 rfl) ea_nil) (by omega) (fun i σ' H2 => ∃ q' : List Rat, Same H' H2 ∧ Env K H2 σ' [none, some (.int ((n + 1 : Nat) : Int)), some (.list (q'.map FrD)), none, none] ∧ tr q' = tr f ∧ (Tr q' ∨ q'.length + i ≤ n + 1))
      (fun H3 s3 => ⟨f, s3, he1.same s3, rfl, .inr (by omega)⟩) (fun i σ3 H3 hi inv => ?_) (fun σ3 H3 inv => ?_)
    · obtain ⟨q', s3, e3, ht, hl⟩ := inv
      have e4 := e3.put (i := 3) (some (.int (i : Int)))
      obtain ⟨q'', hev, h1, h2, h3⟩ := ed_trim (ed_var (i := 2) e4 rfl)
      show tAsg _ (gName 2) _ _ _
      refine hev H3 (Same.refl H3) _ fun v H4 s4 hv => ⟨q'', s3.trans s4, (e4.same s4).set (i := 2) hv, h1.trans ht, ?_⟩
      rcases hl with hl | hl
      · left
        rw [h3 hl]
        exact hl
      · rcases h2 with h2 | h2
        · exact .inl h2
        · right
          omega
    · obtain ⟨q', s3, e3, ht, hl⟩ := inv
      have tq : Tr q' := by
        rcases hl with hl | hl
        · exact hl
        · have : q' = [] := List.eq_nil_of_length_eq_zero (by omega)
          rw [this]
          exact Tr_nil
      refine q_ret (ed_tupleL (ed_var (i := 2) e3 rfl)) fun v H4 s4 hv => k q' v H4 ⟨tq, ?_, ?_⟩ (((st2.mono (by omega)).same s3).same s4) (b3.trans ((But.of_same s3).trans (But.of_same s4))) hv
      · have := len_tr f
        rw [← ht, tr_eq tq] at this
        omega
      · rw [← tr_eq tq, ht]
        exact hbd.tr
end
end K11
/-! the law's told, read, good. -/
namespace K11
open PySem PySem.Spec PyProof.Rows L2
abbrev sLTold : Stmt := topS 49
abbrev sLRead : Stmt := topS 50
abbrev sLGood : Stmt := topS 51
theorem scLTold : FnScope ["call", "one", "other", "e"] ["call", "one", "other"] (defScope sLTold) := ⟨rfl, rfl, rfl, by decide +kernel, rfl, by decide +kernel, by decide +kernel⟩
theorem scLRead : FnScope ["one", "spot", "low"] ["one", "spot"] (defScope sLRead) := ⟨rfl, rfl, rfl, by decide +kernel, rfl, by decide +kernel, by decide +kernel⟩
theorem scLGood : FnScope ["one", "shared", "row"] ["one"] (defScope sLGood) := ⟨rfl, rfl, rfl, by decide +kernel, rfl, by decide +kernel, by decide +kernel⟩
def toldD : PyData ⊕ Str → PyData
  | .inl d => d
  | .inr x => .str x
def fTold : List PyData → PyData → Prop := fun ds r => ∃ (n : Int) (d1 d2 : PyData) (q : PyData ⊕ Str), ds = [.int n, d1, d2] ∧ ((n = 0 ∧ fRatio [d1, d2] q) ∨ (n = 1 ∧ fDivd [d1, d2] q) ∨ (n = 2 ∧ fRAt [d1, d2] q)) ∧ r = toldD q
def rdD (A B : List Rat) (x : Rat) : PyData := if ev B x = 0 then .str "nought" else FrD (ev A x / ev B x)
def fLRead : List PyData → PyData → Prop := fun ds r => ∃ (A B : List Rat) (x : Rat), ds = [QuD A B, FrD x] ∧ AtSl A x ∧ AtSl B x ∧ Sl (ev A x) ∧ Sl (ev B x) ∧ r = rdD A B x
def fGood : List PyData → PyData → Prop := fun ds r => ∃ P Q : List Rat, ds = [QuD P Q] ∧ Red P Q ∧ Eok P Q ∧ r = .bool true
theorem Sl.inv {x : Rat} (h : Sl x) (x0 : x ≠ 0) : Sl (1 / x) := by
  have h1 := nd_le (q := 1 / x) (a := (x.den : Int)) (b := x.num) (fun z => x0 (Rat.num_eq_zero.mp z)) (by
    have := fr_self' x
    have := den_ne x
    rw [fr_self' x]
    generalize ((x.den : Int) : Rat) = y at *
    grind)
  rw [Int.natAbs_natCast] at h1
  exact ⟨Nat.lt_of_le_of_lt h1.1 h.2, Nat.lt_of_le_of_lt h1.2 h.1⟩
theorem Red.com {P Q : List Rat} (h : Red P Q) : Com P Q [1] := by
  obtain ⟨u, v, hc⟩ := h.co
  exact .inr ⟨.inr h.mq.1, ⟨⟨by simp, by simp [cf]⟩, ⟨P, fun x => by simp only [ev]; grind⟩, ⟨Q, fun x => by simp only [ev]; grind⟩, ⟨u, v, fun x => by have := hc x; simp only [ev]; grind⟩⟩⟩
section
variable {P : Program} {w : World} {K : PySem.W.Frag} {mg : Str → Option Value} {base : Heap}
theorem ok_told {f fR fD fA C fI : Addr} {fd fdR fdD fdA fdI : FuncData} (F : Fun K "_law_told" "_law_told" sLTold f fd) (T : MisTxt P K mg C fI fdI)
    (FR : Fun K "ratio" "ratio" sRatio fR fdR) (gR : mg "ratio" = some (.ref fR)) (GR : FnOk P w K mg base (L2.CX P w) 6 fR fdR ["above", "below"] (PX K C fRatio))
    (FD : Fun K "divided" "divided" sDivided2 fD fdD) (gD : mg "divided" = some (.ref fD)) (GD : FnOk P w K mg base (L2.CX P w) 7 fD fdD ["one", "other"] (PX K C fDivd))
    (FA : Fun K "ratio_at" "ratio_at" sRatioAt fA fdA) (gA : mg "ratio_at" = some (.ref fA)) (GA : FnOk P w K mg base (L2.CX P w) 5 fA fdA ["one", "place"] (PX K C fRAt)) : FnOk P w K mg base CX0 8 f fd ["call", "one", "other"] (PF K fTold) := by
  have bR := FR.binds (ps := ["above", "below"]) fun _ _ _ _ _ _ us hl => match us, hl with | [_, _], _ => rfl
  have bD := FD.binds (ps := ["one", "other"]) fun _ _ _ _ _ _ us hl => match us, hl with | [_, _], _ => rfl
  have bA := FA.binds (ps := ["one", "place"]) fun _ _ _ _ _ _ us hl => match us, hl with | [_, _], _ => rfl
  refine F.ok scLTold (fun vs H Q E h => pf_len (n := 3) (fun ds r q => by obtain ⟨_, _, _, _, rfl, _⟩ := q; rfl) h) (fun cdv A outer s H vs Q E hr h => ?_)
  obtain ⟨ds, r, ha, ⟨n, d1, d2, q, rfl, hq, rfl⟩, k⟩ := h
  have hr5 : Room 5 _ := hr.mono (by decide)
  have hr6 : Room 6 _ := hr.mono (by decide)
  refine ⟨_, pss_one (ps_try_as (i := 3) (ts := fun a cls d => tRet (tXf a cls d C "word" (tVar 3))) (Wout := fun _ _ _ _ => False) (tb := fun W => tSeq (tIfS (tTest (tOp rEq (tVar 0) (tC (.int 0)))) (tRet (tCallS (PX K C fRatio) (WE W) (tCons (tVar 1) (tCons (tVar 2) tNil)))) tNext)
        (tSeq (tIfS (tTest (tOp rEq (tVar 0) (tC (.int 1)))) (tRet (tCallS (PX K C fDivd) (WE W) (tCons (tVar 1) (tCons (tVar 2) tNil)))) tNext)
        (tRet (tCallS (PX K C fRAt) (WE W) (tCons (tVar 1) (tCons (tVar 2) tNil)))))) rfl rfl scLTold.nd rfl rfl ⟨rfl, by decide, Or.inl T.gC⟩ takes0
      (fun W pn xe tk _ => pss_cons (ps_if (pt_cmpR op_eq (pv 0) pe_int (nomark _)) (pss_one (ps_ret (pe_callS GR hr6 rfl gR FR.kp bR (fun σ => passAt tk σ) (pa_cons (pv 1) (pa_cons (pv 2) pa_nil))))) pss_nil)
        (pss_cons (ps_if (pt_cmpR op_eq (pv 0) pe_int (nomark _)) (pss_one (ps_ret (pe_callS GD hr rfl gD FD.kp bD (fun σ => passAt tk σ) (pa_cons (pv 1) (pa_cons (pv 2) pa_nil))))) pss_nil)
        (pss_one (ps_ret (pe_callS GA hr5 rfl gA FA.kp bA (fun σ => passAt tk σ) (pa_cons (pv 1) (pa_cons (pv 2) pa_nil)))))))
      (fun a oe cls d pn hz hf => pss_one (ps_ret (pe_xf T.xf T.noN hz hf (pv 3))))), ?_⟩
  have he := env_start (N := ["call", "one", "other", "e"]) ha
  have hlen : (L2.start ["call", "one", "other", "e"] vs).length = 4 := he.1
  have kk1 : ∀ d, q = .inl d → ∀ v H', Same H H' → Dp K H' v d → Q v H' := fun d e v H' s hv => k v H' s (by rw [e]; exact hv)
  have kk2 : ∀ (D : Ends), D.rt = Q → ∀ x, q = .inr x → ∀ (d : Addr) (H' : Hp), Same H H' → H' d = some (.xd [("word", .str x)]) → wAs K (.ref C) 3 (fun a cls d => tRet (tXf a cls d C "word" (tVar 3))) (fun _ _ _ _ => False) D (.ref C) (some d) (L2.start ["call", "one", "other", "e"] vs) H' := fun D hD x e d H' s hd =>
    ⟨true, T.te, fun _ a0 _ => ⟨_, List.getElem?_set_self (by rw [hlen]; decide), rfl, rfl, d, _, .str x, rfl, hd, rfl, by
      show D.rt (.str x) H'
      rw [hD]
      refine k _ H' s ?_
      rw [e]
      exact .str x⟩, fun z => by cases z⟩
  refine q_if (eb_eqI (ed_var (i := 0) he rfl) (ed_int 0)) (fun hb H1 s1 => ?_) (fun hb H1 s1 => ?_)
  · have hn : n = 0 := of_decide_eq_true hb
    have h1 : fRatio [d1, d2] q := by
      rcases hq with ⟨_, h⟩ | ⟨z, _⟩ | ⟨z, _⟩
      · exact h
      · omega
      · omega
    have he1 := he.same s1
    exact q_retX (ea_cons (ed_var (i := 1) he1 rfl) (ea_cons (ed_var (i := 2) he1 rfl) ea_nil)) h1 (fun d e v H' s hv => kk1 d e v H' (s1.trans s) hv) (fun x e d H' s hd => kk2 _ rfl x e d H' (s1.trans s) hd)
  · have hn : n ≠ 0 := of_decide_eq_false hb
    have he1 := he.same s1
    refine q_if (eb_eqI (ed_var (i := 0) he1 rfl) (ed_int 1)) (fun hb2 H2 s2 => ?_) (fun hb2 H2 s2 => ?_)
    · have hn1 : n = 1 := of_decide_eq_true hb2
      have h1 : fDivd [d1, d2] q := by
        rcases hq with ⟨z, _⟩ | ⟨_, h⟩ | ⟨z, _⟩
        · omega
        · exact h
        · omega
      have he2 := he1.same s2
      exact q_retX (ea_cons (ed_var (i := 1) he2 rfl) (ea_cons (ed_var (i := 2) he2 rfl) ea_nil)) h1 (fun d e v H' s hv => kk1 d e v H' (s1.trans (s2.trans s)) hv) (fun x e d H' s hd => kk2 _ rfl x e d H' (s1.trans (s2.trans s)) hd)
    · have hn1 : n ≠ 1 := of_decide_eq_false hb2
      have h1 : fRAt [d1, d2] q := by
        rcases hq with ⟨z, _⟩ | ⟨z, _⟩ | ⟨_, h⟩
        · omega
        · omega
        · exact h
      have he2 := he1.same s2
      exact q_retX (ea_cons (ed_var (i := 1) he2 rfl) (ea_cons (ed_var (i := 2) he2 rfl) ea_nil)) h1 (fun d e v H' s hv => kk1 d e v H' (s1.trans (s2.trans s)) hv) (fun x e d H' s hd => kk2 _ rfl x e d H' (s1.trans (s2.trans s)) hd)
theorem ok_lread {f fA fM fR : Addr} {fd fdA fdM fdR : FuncData} (F : Fun K "_law_read" "_law_read" sLRead f fd) (FA : Fun K "_law_at" "_law_at" sLAt fA fdA) (gA : mg "_law_at" = some (.ref fA)) (GA : FnOk P w K mg base CX0 3 fA fdA ["one", "spot"] (PF K fLAt))
    (FM : Fun K "_law_mul" "_law_mul" sLMul fM fdM) (gM : mg "_law_mul" = some (.ref fM)) (GM : FnOk P w K mg base CX0 2 fM fdM ["one", "other"] (PF K fLMul))
    (FR : Fun K "_law_fr" "_law_fr" sLFr fR fdR) (gR : mg "_law_fr" = some (.ref fR)) (GR : FnOk P w K mg base CX0 1 fR fdR ["above", "below"] (PF K fLFr)) : FnOk P w K mg base CX0 4 f fd ["one", "spot"] (PF K fLRead) := by
  have bA := FA.binds (ps := ["one", "spot"]) fun _ _ _ _ _ _ us hl => match us, hl with | [_, _], _ => rfl
  have bM := FM.binds (ps := ["one", "other"]) fun _ _ _ _ _ _ us hl => match us, hl with | [_, _], _ => rfl
  have bR := FR.binds (ps := ["above", "below"]) fun _ _ _ _ _ _ us hl => match us, hl with | [_, _], _ => rfl
  refine F.ok scLRead (fun vs H Q E h => pf_len (n := 2) (fun ds r q => by obtain ⟨_, _, _, rfl, _⟩ := q; rfl) h) (fun cdv A0 outer s H vs Q E hr h => ?_)
  obtain ⟨ds, r, ha, ⟨A, B, x, rfl, a1, a2, z1, z2, rfl⟩, k⟩ := h
  refine ⟨_, pss_cons (ps_set (i := 2) scLRead.nd rfl (.inl rfl) (pe_call GA hr (by rfl) gA FA.kp bA .nil pass0 (pa_cons (pe_ix ix_tup (pv 0) pe_int (fun _ _ => rfl)) (pa_cons (pv 1) pa_nil))))
    (pss_one (ps_ret (pe_ifExp (pt_cmpR op_eq (pe_ix ix_tup (pv 2) pe_int (fun _ _ => rfl)) pe_int (nomark _)) pe_str
      (pe_call GM (hr.mono (by decide)) (by rfl) gM FM.kp bM .nil pass0 (pa_cons (pe_call GA hr (by rfl) gA FA.kp bA .nil pass0 (pa_cons (pe_ix ix_tup (pv 0) pe_int (fun _ _ => rfl)) (pa_cons (pv 1) pa_nil)))
        (pa_cons (pe_call GR (hr.mono (by decide)) (by rfl) gR FR.kp bR .nil pass0 (pa_cons (pe_ix ix_tup (pv 2) pe_int (fun _ _ => rfl)) (pa_cons (pe_ix ix_tup (pv 2) pe_int (fun _ _ => rfl)) pa_nil))) pa_nil)))))), ?_⟩
  have he := env_start (N := ["one", "spot", "low"]) ha
  refine q_set he (ed_call (ea_cons (ed_ixT (ed_var (i := 0) he rfl) (ed_int 1) rfl) (ea_cons (ed_var (i := 1) he rfl) ea_nil)) ⟨B, x, rfl, a2, rfl⟩) fun v1 H1 s1 he1 => ?_
  refine q_ret (ed_if (eb_eqI (ed_ixT (ed_var (i := 2) he1 rfl) (ed_int 0) rfl) (ed_int 0)) (d := rdD A B x) (fun hb => ?_) (fun hb => ?_)) fun v H2 s2 hv => k v H2 (s1.trans s2) hv
  · have h0 : ev B x = 0 := num0.mp (of_decide_eq_true hb)
    unfold rdD
    rw [if_pos h0]
    exact ed_str _
  · have h0 : ev B x ≠ 0 := fun z => of_decide_eq_false hb (num0.mpr z)
    unfold rdD
    rw [if_neg h0]
    have hn : (ev B x).num ≠ 0 := fun z => h0 (num0.mp z)
    have up : (990 : Nat) ≤ 1990 := by decide
    have l1 : (ev B x).den < 2 ^ 1990 := Nat.lt_of_lt_of_le z2.2 (Nat.pow_le_pow_right (by decide) up)
    have l2 : (ev B x).num.natAbs < 2 ^ 1990 := Nat.lt_of_lt_of_le z2.1 (Nat.pow_le_pow_right (by decide) up)
    have e : (((ev B x).den : Int) : Rat) / (((ev B x).num : Int) : Rat) = 1 / ev B x := by
      have := fr_self' (ev B x)
      have := den_ne (ev B x)
      rw [fr_self' (ev B x)]
      generalize (((ev B x).den : Int) : Rat) = y at *
      grind
    exact ed_call (ea_cons (ed_call (ea_cons (ed_ixT (ed_var (i := 0) he1 rfl) (ed_int 0) rfl) (ea_cons (ed_var (i := 1) he1 rfl) ea_nil)) ⟨A, x, rfl, a1, rfl⟩) (ea_cons (ed_call (ea_cons (ed_ixT (ed_var (i := 2) he1 rfl) (ed_int 1) rfl) (ea_cons (ed_ixT (ed_var (i := 2) he1 rfl) (ed_int 0) rfl) ea_nil)) (d := FrD (1 / ev B x)) ⟨_, _, rfl, hn, by rw [Int.natAbs_natCast]; exact l1, l2, by rw [e]⟩) ea_nil)) ⟨_, _, rfl, z1, z2.inv h0, by congr 1; grind⟩
theorem ok_lgood {f fC : Addr} {fd fdC : FuncData} (F : Fun K "_law_good" "_law_good" sLGood f fd) (FC : Fun K "common_poly" "common_poly" sCommon fC fdC) (gC : mg "common_poly" = some (.ref fC)) (GC : FnOk P w K mg base CX0 5 fC fdC ["one", "other"] (PF K fCom)) (mLen : mg "len" = none) : FnOk P w K mg base CX0 6 f fd ["one"] (PF K fGood) := by
  have bC := FC.binds (ps := ["one", "other"]) fun _ _ _ _ _ _ us hl => match us, hl with | [_, _], _ => rfl
  refine F.ok scLGood (fun vs H Q E h => pf_len (n := 1) (fun ds r q => by obtain ⟨_, _, rfl, _⟩ := q; rfl) h) (fun cdv A0 outer s H vs Q E hr h => ?_)
  obtain ⟨ds, r, ha, ⟨A, B, rfl, hR, hE, rfl⟩, k⟩ := h
  have hu := hr.units
  refine ⟨_, pss_cons (ps_if (PW.pt (pw_or (pt_cmpR op_eq (pe_callB call_len_seq (by rfl) mLen boot_len (pa_cons (pe_ix ix_tup (pv 0) pe_int (fun _ _ => rfl)) pa_nil)) pe_int (nomark _))
      (pw_or1 (pt_cmpR (op_neD hu) (pe_ix ix_tup (pe_ix ix_tup (pv 0) pe_int (fun _ _ => rfl)) (pe_un un_neg pe_int) (fun _ _ => rfl)) (pe_tup (pa_cons pe_int (pa_cons pe_int pa_nil))) (nomark _))))) (pss_one (ps_ret pe_bl)) pss_nil)
    (pss_cons (ps_set (i := 1) scLGood.nd rfl (.inl rfl) (pe_call GC hr (by rfl) gC FC.kp bC .nil pass0 (pa_cons (pe_ix ix_tup (pv 0) pe_int (fun _ _ => rfl)) (pa_cons (pe_ix ix_tup (pv 0) pe_int (fun _ _ => rfl)) pa_nil))))
    (pss_one (ps_ret (pe_and (pe_cmpR (op_eqD hu) (pv 1) (pe_tup (pa_cons (pe_tup (pa_cons pe_int (pa_cons pe_int pa_nil))) pa_nil)) (nomark _))
      (pe_one (pe_cmpR op_eq (pe_callB call_len_seq (by rfl) mLen boot_len (pa_cons (pe_lc (own := [("row", 2)]) (g := gName 2) rfl scLGood.nd (pi_tup (pv 0)) (blkOk_by (N := ["one", "shared", "row"]) (sc := defScope sLGood) (by decide +kernel)) (fun _ _ _ _ _ => pg_name (i := 2) scLGood.nd rfl (.inl rfl))
        (fun _ _ _ _ _ => pts_one (PW.pt (pw_and (pt_cmpR op_gt (pe_callB (r := fun xs H Q => ∃ p ys, xs = [V.ref p] ∧ (SqL K H p ys ∨ SqT K H p ys) ∧ Q (.int ys.length) H) call_len_seq (by rfl) mLen boot_len (pa_cons (pv 2) pa_nil)) pe_int (nomark _)) (pw_and1 (pt_cmpR op_eq (pe_ix (r := rIxT K) ix_tup (pe_ix (r := rIxT K) ix_tup (pv 2) (pe_un un_neg pe_int) (fun _ _ => rfl)) pe_int (fun _ _ => rfl)) pe_int (nomark _))))))
        (fun _ _ _ _ _ => pv 2)) pa_nil)) pe_int (nomark _))))))), ?_⟩
  have he := env_start (N := ["one", "shared", "row"]) ha
  have hB := hR.mq.1
  have lB : 0 < B.length := List.length_pos_iff.mpr hB
  have he1v : PyData.eqv (FrD (cf B (B.length - 1))) (FrD 1) = true := by rw [eqv_fr, hR.mq.2]; rfl
  refine q_if (eb_or (eb_eqI (ed_lenT (ed_ixT (ed_var (i := 0) he rfl) (ed_int 1) (d := PoD B) rfl)) (ed_int 0)) (fun _ => eb_ev (ed_neD (ed_ixT (ed_ixT (ed_var (i := 0) he rfl) (ed_int 1) (d := PoD B) rfl) (ed_neg (ed_int 1)) (po_last hB)) ((ed_tup (ea_cons (ed_int 1) (ea_cons (ed_int 1) ea_nil)) (by simp)).is (d' := FrD 1) rfl) (sh_fr _) (sh_fr 1)))) (fun hb H1 s1 => ?_) (fun hb H1 s1 => ?_)
  · rw [he1v] at hb
    simp at hb
    exact absurd hb hB
  · have he1 := he.same s1
    refine q_set he1 (ed_call (ea_cons (ed_ixT (ed_var (i := 0) he1 rfl) (ed_int 0) rfl) (ea_cons (ed_ixT (ed_var (i := 0) he1 rfl) (ed_int 1) rfl) ea_nil)) ⟨A, B, [1], rfl, hE, hR.com, rfl⟩) fun v2 H2 s2 he2 => ?_
    have hlast : ∀ {r : List Rat}, Tr r → r ≠ [] → (cf r (r.length - 1)).num ≠ 0 := fun {r} h h0 z => h h0 (num0.mp z)
    refine q_ret ((ed_andV (ed_eqD (ed_var (i := 1) he2 rfl) ((ed_tup (ea_cons (ed_tup (ea_cons (ed_int 1) (ea_cons (ed_int 1) ea_nil)) (by simp)) ea_nil) (by simp)).is (d' := PoD [1]) rfl) (sh_po _) (sh_po [1])) (fun _ => ed_eqI (ed_lenL ((elc_tup (ds := [PoD A, PoD B]) (j := 2) (vs := [2]) (fun _ => false) (fun _ => .none) (ed_var (i := 0) he2 rfl) (by show 2 ≤ 1000; decide) (wipe1 2) (fun _ _ _ => rfl) (fun i x d H3 s3 hd hx => ?_) (fun _ _ _ _ _ _ _ hb => by cases hb)).dd)) (ed_int 0))).is (d' := .bool true) ?_) fun v H3 s3 hv => k v H3 (s1.trans (s2.trans s3)) hv
    · have he3 := ((env_wipe he2 [2]).same s3).set (i := 2) hx
      obtain ⟨r, rfl, tr⟩ : ∃ r, d = PoD r ∧ Tr r := by
        match i, hd with
        | 0, hd =>
          cases hd
          exact ⟨A, rfl, hR.tp⟩
        | 1, hd =>
          cases hd
          exact ⟨B, rfl, hR.mq.tr⟩
        | i + 2, hd => simp at hd
      by_cases r0 : r = []
      · subst r0
        exact (eb_and (eb_cmpI (g := fun i j => decide (j < i)) (ed_lenT (ed_var (i := 2) he3 rfl)) (ed_int 0)) (c := false) (fun hb => by simp at hb)).is rfl
      · refine (eb_and (eb_cmpI (g := fun i j => decide (j < i)) (ed_lenT (ed_var (i := 2) he3 rfl)) (ed_int 0)) (fun _ => eb_eqI (ed_ixT (ed_ixT (ed_var (i := 2) he3 rfl) (ed_neg (ed_int 1)) (po_last r0)) (ed_int 0) rfl) (ed_int 0))).is ?_
        rw [decide_eq_false (hlast tr r0), Bool.and_false]
    · have : gv 2 (fun _ => false) (fun _ => PyData.none) = [] := rfl
      rw [show PyData.eqv (PoD [1]) (PoD [1]) = true from by rw [eqv_po]; rfl]
      rfl
end
end K11
/-! sizes of rows and of shortened quotients. -/
namespace K11
open PySem PySem.Spec PyProof.Rows L2
def lg (n : Nat) : Nat := if n ≤ 1 then 0 else (n - 1).log2 + 1
theorem lg_le (n : Nat) : n ≤ 2 ^ lg n := by
  unfold lg
  split
  · rename_i h
    exact h
  · have := Nat.lt_log2_self (n := n - 1)
    omega
theorem Row.bits {s : Rat} {a a' b : Nat} {p : List Rat} (h : Row s a a' b p) : Bits (a + a') s := ⟨Nat.le_trans h.bt.1 (Nat.pow_le_pow_right (by decide) (by omega)), Nat.le_trans h.bt.2 (Nat.pow_le_pow_right (by decide) (by omega))⟩
theorem Row.cfb {s : Rat} {a a' b : Nat} {p : List Rat} (h : Row s a a' b p) (k : Nat) : Bits (a + a' + b) (cf p k) := h.bd.bits h.bits k
theorem Row.szA {s : Rat} {a a' b : Nat} {p : List Rat} (h : Row s a a' b p) (hl : p.length ≤ 200) (hz : a + a' + b < 4000) : SzA p := ⟨fun x hx => by
  obtain ⟨k, _, rfl⟩ := mem_cf hx
  exact (h.cfb k).sz hz, hl⟩
theorem Row.slA {s : Rat} {a a' b : Nat} {p : List Rat} (h : Row s a a' b p) (hl : p.length ≤ 200) (hz : a + a' + b < 990) : SlA p := ⟨fun x hx => by
  obtain ⟨k, _, rfl⟩ := mem_cf hx
  exact (h.cfb k).sl hz, hl⟩
theorem Row.mulOk {s t : Rat} {a a' b c c' d : Nat} {p q : List Rat} (h : Row s a a' b p) (k : Row t c c' d q) (hz : a + a' + b + (c + c') + d + 12 < 4000) (lp : p.length ≤ 30) (lq : q.length ≤ 30) : MulOk p q := ⟨s, t, a + a', b, c + c', d, h.bits, k.bits, h.bd, k.bd, by omega, lp, lq⟩
theorem Row.mulSl {s t : Rat} {a a' b c c' d : Nat} {p q : List Rat} (h : Row s a a' b p) (k : Row t c c' d q) (hz : a + a' + b + (c + c') + d + 12 < 900) (lp : p.length ≤ 30) (lq : q.length ≤ 30) : MulSl p q := ⟨s, t, a + a', b, c + c', d, h.bits, k.bits, h.bd, k.bd, by omega, lp, lq⟩
theorem Row.atOk {s : Rat} {a a' b c : Nat} {p : List Rat} {x : Rat} (h : Row s a a' b p) (hx : Bits c x) (hz : a + a' + b + 70 * c + 10 < 4000) (lp : p.length ≤ 30) : AtOk p x := ⟨s, a + a', b, c, h.bits, hx, h.bd, lp, by omega⟩
theorem Row.atSl {s : Rat} {a a' b c : Nat} {p : List Rat} {x : Rat} (h : Row s a a' b p) (hx : Bits c x) (hz : a + a' + b + 70 * c + 10 < 900) (lp : p.length ≤ 30) : AtSl p x := ⟨s, a + a', b, c, h.bits, hx, h.bd, lp, by omega⟩
theorem Row.evSl {s : Rat} {a a' b c : Nat} {p : List Rat} {x : Rat} (h : Row s a a' b p) (hx : Bits c x) (hz : a + a' + b + 70 * c + 10 < 900) (lp : p.length ≤ 30) : Sl (ev p x) := by
  refine Bits.sl (α := a + a' + (b + c * p.length + 5) + p.length * c) (ev_bits h.bits hx h.bd (by omega)) ?_
  have e1 : c * p.length ≤ c * 30 := Nat.mul_le_mul_left _ lp
  have e2 : p.length * c = c * p.length := Nat.mul_comm _ _
  omega
theorem Row.evBits {s : Rat} {a a' b c : Nat} {p : List Rat} {x : Rat} (h : Row s a a' b p) (hx : Bits c x) (lp : p.length ≤ 30) : Bits (a + a' + b + 5 + 60 * c) (ev p x) := by
  refine (ev_bits h.bits hx h.bd (by omega)).mono ?_
  have e1 : c * p.length ≤ c * 30 := Nat.mul_le_mul_left _ lp
  have e2 : p.length * c = c * p.length := Nat.mul_comm _ _
  omega
theorem Row.mono {s : Rat} {a a' b c c' d : Nat} {p : List Rat} (h : Row s a a' b p) (h1 : a ≤ c) (h2 : a' ≤ c') (h3 : b ≤ d) : Row s c c' d p := ⟨h.tr, h.s0, h.bt.mono h1 h2, h.bd.mono (Nat.pow_le_pow_right (by decide) h3)⟩
theorem Bd.mul {s t : Rat} {N M : Nat} : ∀ {p q : List Rat}, Bd s N p → Bd t M q → Bd (s * t) (p.length * (N * M)) (mulL p q)
  | [], q, _, _ => fun k => ⟨0, by rw [show mulL [] q = [] from rfl, cf_nil]; simp, by simp⟩
  | x :: p, q, hp, hq => fun k => by
    have ht : Bd s N p := fun j => by
      have := hp (j + 1)
      rwa [cf_succ] at this
    have ih := Bd.mul ht hq
    obtain ⟨i, hi, bi⟩ := hp 0
    rw [cf_zero] at hi
    have e : ∀ k, cf (mulL (x :: p) q) k = x * cf q k + (if k = 0 then 0 else cf (mulL p q) (k - 1)) := by
      have e1 : ∀ k, cf (mulL (x :: p) q) k = cf (addL (sc x q) (0 :: mulL p q)) k := cf_eq_of_ev fun y => by
        rw [ev_mulL, ev_addL, ev_sc, ev_cons, ev_cons, ev_mulL]
        grind
      intro k
      rw [e1, cf_addL, cf_sc]
      cases k with
      | zero => rw [cf_zero, if_pos rfl]
      | succ k => rw [cf_succ, if_neg (by omega), Nat.add_sub_cancel]
    obtain ⟨j, hj, bj⟩ := hq k
    have hij : (i * j).natAbs ≤ N * M := by
      rw [Int.natAbs_mul]
      exact Nat.mul_le_mul bi bj
    have hlen : (x :: p).length * (N * M) = p.length * (N * M) + N * M := by rw [List.length_cons, Nat.add_mul, Nat.one_mul]
    rw [e k, hlen]
    cases k with
    | zero => exact ⟨i * j, by rw [if_pos rfl, hi, hj, Rat.intCast_mul]; grind, Nat.le_trans hij (by omega)⟩
    | succ k =>
      obtain ⟨m, hm, bm⟩ := ih k
      refine ⟨i * j + m, by rw [if_neg (by omega), Nat.add_sub_cancel, hi, hj, hm, Rat.intCast_add, Rat.intCast_mul]; grind, ?_⟩
      have := Int.natAbs_add_le (i * j) m
      omega
theorem ev_prd (p q : List Rat) (x : Rat) : ev (Prd p q) x = ev p x * ev q x := by rw [Prd, ev_tr, ev_mulL]
theorem prd_comm (p q : List Rat) : Prd p q = Prd q p := eq_of_ev (Tr_tr _) (Tr_tr _) fun x => by rw [ev_prd, ev_prd]; grind
theorem ev_sum (p q : List Rat) (x : Rat) : ev (Sum p q) x = ev p x + ev q x := by rw [Sum, ev_tr, ev_addL]
theorem prd_row1 {s t : Rat} {a a' b c c' d k : Nat} {p q : List Rat} (h : Row s a a' b p) (j : Row t c c' d q) (hl : p.length ≤ 2 ^ k) : Row (s * t) (a + c) (a' + c') (b + d + k) (Prd p q) :=
  ⟨Tr_tr _, fun z => by rcases Rat.mul_eq_zero.mp z with z | z; exact h.s0 z; exact j.s0 z, h.bt.mul j.bt, ((h.bd.mul j.bd).mono (by
    rw [Nat.pow_add, Nat.pow_add, Nat.mul_comm]
    exact Nat.mul_le_mul_left _ hl)).tr⟩
theorem prd_row {s t : Rat} {a a' b c c' d : Nat} {p q : List Rat} (h : Row s a a' b p) (j : Row t c c' d q) : Row (s * t) (a + c) (a' + c') (b + d + lg (min p.length q.length)) (Prd p q) := by
  by_cases hl : p.length ≤ q.length
  · rw [Nat.min_eq_left hl]
    exact prd_row1 h j (lg_le _)
  · rw [Nat.min_eq_right (by omega), prd_comm, Rat.mul_comm s t]
    exact (prd_row1 j h (lg_le _)).mono (by omega) (by omega) (by omega)
def ln (a b : Nat) : Nat := if a = 0 ∨ b = 0 then 0 else a + b - 1
theorem prd_len {p q : List Rat} (tp : Tr p) (tq : Tr q) : (Prd p q).length = ln p.length q.length := by
  unfold ln
  split
  · rename_i h
    have : Prd p q = [] := by
      rcases h with h | h
      · rw [List.eq_nil_of_length_eq_zero h]
        rfl
      · rw [prd_comm, List.eq_nil_of_length_eq_zero h]
        rfl
    rw [this]
    rfl
  · rename_i h
    have hp : p ≠ [] := fun z => h (.inl (by rw [z]; rfl))
    have hq : q ≠ [] := fun z => h (.inr (by rw [z]; rfl))
    have := len_mul tp tq (Tr_tr (mulL p q)) hp hq fun x => by rw [ev_tr, ev_mulL]
    show (tr (mulL p q)).length = _
    omega
theorem prd_ne {p q : List Rat} (tp : Tr p) (tq : Tr q) (hp : p ≠ []) (hq : q ≠ []) : Prd p q ≠ [] := fun z => by
  have := prd_len tp tq
  have h1 := List.length_pos_iff.mpr hp
  have h2 := List.length_pos_iff.mpr hq
  rw [z] at this
  unfold ln at this
  rw [if_neg (by omega)] at this
  simp at this
  omega
theorem sum_row {s : Rat} {a a' b d : Nat} {p q : List Rat} (h : Row s a a' b p) (j : Row s a a' d q) : Row s a a' (max b d + 1) (Sum p q) := ⟨Tr_tr _, h.s0, h.bt, (show Bd s (2 ^ (max b d + 1)) (addL p q) from fun k => by
  obtain ⟨i, hi, bi⟩ := h.bd k
  obtain ⟨m, hm, bm⟩ := j.bd k
  refine ⟨i + m, by rw [cf_addL, hi, hm, Rat.intCast_add]; grind, ?_⟩
  have h1 : 2 ^ b ≤ 2 ^ max b d := Nat.pow_le_pow_right (by decide) (by omega)
  have h2 : 2 ^ d ≤ 2 ^ max b d := Nat.pow_le_pow_right (by decide) (by omega)
  have := Int.natAbs_add_le i m
  rw [Nat.pow_succ]
  omega).tr⟩
theorem sum_len (p q : List Rat) : (Sum p q).length ≤ max p.length q.length := by
  have := len_tr (addL p q)
  rwa [len_addL] at this
theorem neg_tr {p : List Rat} (h : Tr p) : tr (sc (-1) p) = sc (-1) p := tr_eq (Tr_sc (by decide) h)
theorem neg_row {s : Rat} {a a' b : Nat} {p : List Rat} (h : Row s a a' b p) : Row s a a' b (tr (sc (-1) p)) := ⟨Tr_tr _, h.s0, h.bt, (show Bd s (2 ^ b) (sc (-1) p) from fun k => by
  obtain ⟨i, hi, bi⟩ := h.bd k
  exact ⟨-i, by rw [cf_sc, hi, Rat.intCast_neg]; grind, by rw [Int.natAbs_neg]; exact bi⟩).tr⟩
theorem neg_len {p : List Rat} (h : Tr p) : (tr (sc (-1) p)).length = p.length := by rw [neg_tr h, len_sc]
theorem cf_der (p : List Rat) (k : Nat) : cf (der p) k = ((1 + k : Nat) : Rat) * cf p (1 + k) := by
  unfold der
  by_cases h : k < p.length - 1
  · rw [cf_of_lt (by simpa using h)]
    simp
  · rw [cf_of_ge (by simp; omega), cf_of_ge (by omega)]
    grind
theorem der_tr {p : List Rat} (h : Tr p) : Tr (der p) := fun z => by
  have hl : (der p).length = p.length - 1 := by unfold der; simp
  have l0 : 0 < (der p).length := List.length_pos_iff.mpr z
  have p0 : p ≠ [] := fun e => by
    rw [e] at hl l0
    rw [hl] at l0
    simp at l0
  rw [cf_der, hl, show 1 + (p.length - 1 - 1) = p.length - 1 by omega]
  intro e
  rcases Rat.mul_eq_zero.mp e with e | e
  · have : (p.length - 1 : Nat) = 0 := by exact_mod_cast e
    omega
  · exact h p0 e
theorem der_len {p : List Rat} (h : Tr p) : (tr (der p)).length = p.length - 1 := by
  rw [tr_eq (der_tr h)]
  unfold der
  simp
theorem der_row {s : Rat} {a a' b : Nat} {p : List Rat} (h : Row s a a' b p) (hl : p.length ≤ 5) : Row s a a' (b + 2) (tr (der p)) := ⟨Tr_tr _, h.s0, h.bt, (show Bd s (2 ^ (b + 2)) (der p) from fun k => by
  rw [cf_der]
  by_cases hk : 1 + k < p.length
  · obtain ⟨i, hi, bi⟩ := h.bd (1 + k)
    refine ⟨((1 + k : Nat) : Int) * i, by rw [hi, Rat.intCast_mul]; have : (((1 + k : Nat) : Int) : Rat) = ((1 + k : Nat) : Rat) := rfl; rw [this]; grind, ?_⟩
    rw [Int.natAbs_mul, Int.natAbs_natCast, Nat.pow_add, Nat.mul_comm]
    exact Nat.mul_le_mul bi (by omega)
  · exact ⟨0, by rw [cf_of_ge (by omega)]; simp, by simp⟩).tr⟩

/-! ### the shortened quotients' sizes -/
def kkm (n m : Nat) : Nat := (Lc n m * Sm n (n + 1)).log2 + 1
theorem kkm_bd (n m d : Nat) : ((Lc n m : Nat) : Rat) * (((2 ^ d : Nat) : Rat) * (Sm n (n + 1) : Nat)) ≤ ((2 ^ (d + kkm n m) : Nat) : Rat) := by
  have h1 : Lc n m * (2 ^ d * Sm n (n + 1)) ≤ 2 ^ (d + kkm n m) := by
    rw [Nat.pow_add]
    have h3 : Lc n m * Sm n (n + 1) ≤ 2 ^ kkm n m := Nat.le_of_lt Nat.lt_log2_self
    calc Lc n m * (2 ^ d * Sm n (n + 1)) = 2 ^ d * (Lc n m * Sm n (n + 1)) := by rw [← Nat.mul_assoc, Nat.mul_comm (Lc n m), Nat.mul_assoc]
      _ ≤ _ := Nat.mul_le_mul_left _ h3
  have := (by exact_mod_cast h1 : ((Lc n m * (2 ^ d * Sm n (n + 1)) : Nat) : Rat) ≤ ((2 ^ (d + kkm n m) : Nat) : Rat))
  rwa [Rat.natCast_mul, Rat.natCast_mul] at this
/-- the upper row's length, its scale's bits, its numbers' bits; the lower row's length, bits -/
structure Qc where
  lp : Nat
  y : Nat
  b : Nat
  lq : Nat
  e : Nat
def outs (la b lc d x : Nat) : List Qc := ⟨la, x + d, b, lc, d⟩ :: (List.range (lc - 1)).flatMap fun i =>
  [⟨la - (i + 1), x + (d + kkm (lc - 1) (lc - (i + 1))), b + kkm (la - 1) (la - (i + 1)), lc - (i + 1), d + kkm (lc - 1) (lc - (i + 1))⟩, ⟨0, x + (d + kkm (lc - 1) (lc - (i + 1))), 0, lc - (i + 1), d + kkm (lc - 1) (lc - (i + 1))⟩]
/-- a shortened quotient of such sizes; u the upper row's scale over the lower one's -/
structure Cls (q : Qc) (u : Rat) (P Q : List Rat) : Prop where
  red : Red P Q
  lp : P.length = q.lp
  lq : Q.length = q.lq
  ex : ∃ v : Rat, Row v 0 q.e q.e Q ∧ Row (u * v) 0 q.y q.b P
theorem inv_int {l : Int} {d : Nat} (l0 : l ≠ 0) (h : l.natAbs ≤ 2 ^ d) : Bt 0 d (1 / (l : Rat)) := by
  have := (Bits.one.bt).div (Bt.int h) (by exact_mod_cast l0)
  exact this.mono (by omega) (by omega)
theorem rat_out {A B P Q : List Rat} {s t u : Rat} {a a' b c c' d x : Nat} (hA : Row s a a' b A) (hB : Row t c c' d B) (B0 : B ≠ []) (hu : u = s / t) (bu : Bt 0 x u) (h : Rat2 A B P Q) : ∃ q ∈ outs A.length b B.length d x, Cls q u P Q := by
  obtain ⟨IA, CA, vA⟩ := hA.bd.back hA.s0
  obtain ⟨IB, CB, vB⟩ := hB.bd.back hB.s0
  have s1 : (1 / s : Rat) ≠ 0 := by have := hA.s0; grind
  have t1 : (1 / t : Rat) ≠ 0 := by have := hB.s0; grind
  have lB : 0 < B.length := List.length_pos_iff.mpr B0
  have u0 : u ≠ 0 := by
    have h1 := hA.s0
    have h2 := hB.s0
    rw [hu]
    grind
  obtain ⟨QA, QB, l, iA, iB, l0, hl, hP, hQ, hcase⟩ := red_bd (n := A.length - 1) (m := B.length - 1) IA IB (Tr_sc s1 hA.tr) (Tr_sc t1 hB.tr) (fun z => B0 (List.map_eq_nil_iff.mp z)) hA.s0 hB.s0 h.1 (fun y => by rw [← vA, ← vB]; exact h.2 y) (cast_nonneg _) (cast_nonneg _) CA CB (by rw [len_sc]; omega) (by rw [len_sc]; omega)
  rw [len_sc, len_sc] at hcase
  have l0' : (l : Rat) ≠ 0 := by exact_mod_cast l0
  have eP : s / (t * (l : Rat)) = u * (1 / (l : Rat)) := by
    rw [hu]
    have := hB.s0
    grind
  have mkQ : ∀ {e : Nat}, Cfb ((2 ^ e : Nat) : Rat) QB → Row (1 / (l : Rat)) 0 e e Q ∧ l.natAbs ≤ 2 ^ e := fun {e} hc => by
    have hle : l.natAbs ≤ 2 ^ e := by
      have := hc (Q.length - 1)
      rw [hl] at this
      exact natAbs_le_iff.mpr this
    refine ⟨⟨h.1.mq.tr, by grind, inv_int l0 hle, ?_⟩, hle⟩
    rw [hQ]
    exact Bd.of iB hc
  have mkP : ∀ {e y : Nat}, Cfb ((2 ^ y : Nat) : Rat) QA → l.natAbs ≤ 2 ^ e → Row (u * (1 / (l : Rat))) 0 (x + e) y P := fun {e y} hc hle => by
    refine ⟨h.1.tp, by
      intro z
      rcases Rat.mul_eq_zero.mp z with z | z
      · exact u0 z
      · grind, (bu.mul (inv_int l0 hle)).mono (by omega) (Nat.le_refl _), ?_⟩
    rw [← eP]
    rw [hP]
    exact Bd.of iA hc
  rcases hcase with ⟨e1, e2, c1, c2⟩ | ⟨δ, hδ, e1, e2, c1, c2⟩
  · obtain ⟨rQ, hle⟩ := mkQ c2
    exact ⟨⟨A.length, x + d, b, B.length, d⟩, List.mem_cons_self, h.1, e2, e1, _, rQ, mkP c1 hle⟩
  · have lQ : 0 < Q.length := List.length_pos_iff.mpr h.1.mq.1
    have c2' := c2.mono (kkm_bd (B.length - 1) Q.length d)
    obtain ⟨rQ, hle⟩ := mkQ c2'
    have eq : Q.length = B.length - (δ - 1 + 1) := by omega
    rcases e2 with e2 | e2
    · refine ⟨⟨0, x + (d + kkm (B.length - 1) (B.length - (δ - 1 + 1))), 0, B.length - (δ - 1 + 1), d + kkm (B.length - 1) (B.length - (δ - 1 + 1))⟩, ?_, h.1, by rw [e2]; rfl, eq, 1 / (l : Rat), by rw [← eq]; exact rQ, ?_⟩
      · exact List.mem_cons_of_mem _ (List.mem_flatMap.mpr ⟨δ - 1, List.mem_range.mpr (by omega), List.mem_cons_of_mem _ List.mem_cons_self⟩)
      · have hp := mkP (e := d + kkm (B.length - 1) Q.length) (y := 0) (fun k => by
          have : QA = [] := by
            rw [e2] at hP
            have := congrArg List.length hP
            rw [len_sc] at this
            exact List.eq_nil_of_length_eq_zero this.symm
          rw [this, cf_nil]
          constructor <;> decide) hle
        rw [← eq]
        exact hp
    · refine ⟨⟨A.length - (δ - 1 + 1), x + (d + kkm (B.length - 1) (B.length - (δ - 1 + 1))), b + kkm (A.length - 1) (A.length - (δ - 1 + 1)), B.length - (δ - 1 + 1), d + kkm (B.length - 1) (B.length - (δ - 1 + 1))⟩, ?_, h.1, by show P.length = A.length - (δ - 1 + 1); omega, eq, 1 / (l : Rat), by rw [← eq]; exact rQ, ?_⟩
      · exact List.mem_cons_of_mem _ (List.mem_flatMap.mpr ⟨δ - 1, List.mem_range.mpr (by omega), List.mem_cons_self⟩)
      · have hp := mkP (e := d + kkm (B.length - 1) Q.length) (c1.mono (kkm_bd (A.length - 1) P.length b)) hle
        rw [← eq, show A.length - (δ - 1 + 1) = P.length by omega]
        exact hp
end K11
/-! the law's sizes, looked through. -/
namespace K11
open PySem PySem.Spec PyProof.Rows L2
/-- what the law asks of a shortened quotient's sizes -/
def gd (q : Qc) : Bool := safe (q.lq + 1) q.lp 0 q.y q.b q.lq 0 q.e q.e && decide (q.y + q.b ≤ 300) && decide (q.e + q.e ≤ 300) && decide (q.lp ≤ 30) && decide (q.lq ≤ 30)
def opSafe (S BB LA LC : Nat) : Bool := (List.range (LA + 1)).all fun la => (List.range LC).all fun j => rsafe la 0 S BB (j + 1) 0 S BB && (outs la BB (j + 1) BB 0).all gd
theorem op_FF1 : opSafe 4 8 7 5 = true := by decide +kernel
theorem op_FF2 : opSafe 4 8 6 6 = true := by decide +kernel
theorem op_FR : opSafe 10 21 6 5 = true := by decide +kernel
theorem op_RR : opSafe 16 33 5 4 = true := by decide +kernel
/-- a quotient that the law may read -/
structure Rd1 (P Q : List Rat) : Prop where
  red : Red P Q
  com : Eok P Q
  at' : ∀ x, Bits 2 x → AtSl P x ∧ AtSl Q x ∧ Sl (ev P x) ∧ Sl (ev Q x)
  bt : ∀ x, Bits 2 x → Bits 480 (ev P x) ∧ Bits 480 (ev Q x)
theorem rd_of {q : Qc} {u : Rat} {P Q : List Rat} (h : Cls q u P Q) (hg : gd q = true) : Rd1 P Q := by
  obtain ⟨hr, hp, hq, v, rQ, rP⟩ := h
  simp only [gd, Bool.and_eq_true, decide_eq_true_eq] at hg
  obtain ⟨⟨⟨⟨g1, g2⟩, g3⟩, g4⟩, g5⟩ := hg
  exact ⟨hr, ⟨_, _, _, _, _, _, _, _, _, rP, rQ, by rw [hp, hq]; exact g1⟩, fun x hx => ⟨rP.atSl hx (by omega) (by omega), rQ.atSl hx (by omega) (by omega), rP.evSl hx (by omega) (by omega), rQ.evSl hx (by omega) (by omega)⟩, fun x hx => ⟨(rP.evBits hx (by omega)).mono (by omega), (rQ.evBits hx (by omega)).mono (by omega)⟩⟩
theorem told_ok {S BB LA LC : Nat} {σ : Rat} {A B : List Rat} (hs : opSafe S BB LA LC = true) (hA : Row σ 0 S BB A) (hB : Row σ 0 S BB B) (lA : A.length ≤ LA) (lB : B.length ≤ LC) (B0 : B ≠ []) : Rok A B ∧ ∀ P Q, Rat2 A B P Q → Rd1 P Q := by
  have l0 : 0 < B.length := List.length_pos_iff.mpr B0
  have h := List.all_eq_true.mp (List.all_eq_true.mp hs A.length (List.mem_range.mpr (by omega))) (B.length - 1) (List.mem_range.mpr (by omega))
  rw [Bool.and_eq_true, show B.length - 1 + 1 = B.length by omega] at h
  refine ⟨⟨σ, σ, 0, S, BB, 0, S, BB, hA, hB, h.1⟩, fun P Q hr => ?_⟩
  have h0 := hA.s0
  obtain ⟨q, hq, hc⟩ := rat_out (u := 1) (x := 0) hA hB B0 (by grind) Bits.one.bt hr
  exact rd_of hc (List.all_eq_true.mp h.2 q hq)
/-- first and second: their sizes -/
structure Grp (b e LP LQ : Nat) (P Q : List Rat) : Prop where
  red : Red P Q
  lp : P.length ≤ LP
  lq : Q.length ≤ LQ
  ex : ∃ v : Rat, Row v 0 e e Q ∧ Row v 0 e b P
def fsSafe : Bool := (List.range 5).all fun la => (List.range 3).all fun j => rsafe la 0 1 3 (j + 1) 0 1 2 && (outs la 3 (j + 1) 2 0).all fun q => gd q && rsafe q.lp 0 q.y q.b q.lq 0 q.e q.e && ((decide (q.lp ≤ 4) && decide (q.lq ≤ 3) && decide (q.b ≤ 3) && decide (q.e ≤ 2) && decide (q.y ≤ 2)) || (decide (q.lp ≤ 3) && decide (q.lq ≤ 2) && decide (q.b ≤ 15) && decide (q.e ≤ 8) && decide (q.y ≤ 8)))
theorem fs_safe : fsSafe = true := by decide +kernel
theorem fs_ok {A B : List Rat} (hA : Row (1 / 2) 0 1 3 A) (hB : Row (1 / 2) 0 1 2 B) (lA : A.length ≤ 4) (lB : B.length ≤ 3) (B0 : B ≠ []) : Rok A B ∧ ∀ P Q, Rat2 A B P Q → Rd1 P Q ∧ Rok P Q ∧ (Grp 3 2 4 3 P Q ∨ Grp 15 8 3 2 P Q) := by
  have l0 : 0 < B.length := List.length_pos_iff.mpr B0
  have h := List.all_eq_true.mp (List.all_eq_true.mp fs_safe A.length (List.mem_range.mpr (by omega))) (B.length - 1) (List.mem_range.mpr (by omega))
  rw [Bool.and_eq_true, show B.length - 1 + 1 = B.length by omega] at h
  refine ⟨⟨_, _, 0, 1, 3, 0, 1, 2, hA, hB, h.1⟩, fun P Q hr => ?_⟩
  obtain ⟨q, hq, hc⟩ := rat_out (u := 1) (x := 0) hA hB B0 (by grind) Bits.one.bt hr
  have hg := List.all_eq_true.mp h.2 q hq
  rw [Bool.and_eq_true, Bool.and_eq_true] at hg
  refine ⟨rd_of hc hg.1.1, ?_⟩
  obtain ⟨hr, hp, hq, v, rQ, rP⟩ := hc
  refine ⟨⟨_, _, _, _, _, _, _, _, rP, rQ, by rw [hp, hq]; exact hg.1.2⟩, ?_⟩
  rw [show (1 : Rat) * v = v by grind] at rP
  have hg2 := hg.2
  simp only [Bool.or_eq_true, Bool.and_eq_true, decide_eq_true_eq] at hg2
  rcases hg2 with ⟨⟨⟨⟨c1, c2⟩, c3⟩, c4⟩, c5⟩ | ⟨⟨⟨⟨c1, c2⟩, c3⟩, c4⟩, c5⟩
  · exact .inl ⟨hr, by omega, by omega, v, rQ.mono (by omega) (by omega) (by omega), rP.mono (by omega) (by omega) (by omega)⟩
  · exact .inr ⟨hr, by omega, by omega, v, rQ.mono (by omega) (by omega) (by omega), rP.mono (by omega) (by omega) (by omega)⟩
theorem lg_2 {n : Nat} (h : n ≤ 4) : lg n ≤ 2 := by
  have : ∀ n, n < 5 → lg n ≤ 2 := by decide +kernel
  exact this n (by omega)
theorem ln_le {a b A B : Nat} (h : a ≤ A) (k : b ≤ B) (hA : 1 ≤ A) (hB : 1 ≤ B) : ln a b ≤ A + B - 1 := by
  unfold ln
  split <;> omega
/-- products of two quotients' rows -/
theorem prd_grp {v v' : Rat} {b e b' e' m n : Nat} {p q : List Rat} (h : Row v 0 e b p) (k : Row v' 0 e' b' q) (lp : p.length ≤ 4) : Row (v * v') 0 (e + e') (b + b' + 2) (Prd p q) :=
  (prd_row h k).mono (by omega) (by omega) (by have := lg_2 (n := min p.length q.length) (by omega); omega)
/-- what the law asks of both -/
structure Ops (P1 Q1 P2 Q2 : List Rat) : Prop where
  add : AddOk P1 Q1 P2 Q2 ∧ Rok (Sum (Prd P1 Q2) (Prd P2 Q1)) (Prd Q1 Q2) ∧ ∀ P Q, Rat2 (Sum (Prd P1 Q2) (Prd P2 Q1)) (Prd Q1 Q2) P Q → Rd1 P Q
  sub : SzA P2 ∧ AddOk P1 Q1 (tr (sc (-1) P2)) Q2 ∧ Rok (Sum (Prd P1 Q2) (Prd (tr (sc (-1) P2)) Q1)) (Prd Q1 Q2) ∧ ∀ P Q, Rat2 (Sum (Prd P1 Q2) (Prd (tr (sc (-1) P2)) Q1)) (Prd Q1 Q2) P Q → Rd1 P Q
  mul : MulOk P1 P2 ∧ MulOk Q1 Q2 ∧ Rok (Prd P1 P2) (Prd Q1 Q2) ∧ ∀ P Q, Rat2 (Prd P1 P2) (Prd Q1 Q2) P Q → Rd1 P Q
  div : MulOk P1 Q2 ∧ MulOk Q1 P2 ∧ (P2 ≠ [] → Rok (Prd P1 Q2) (Prd Q1 P2) ∧ ∀ P Q, Rat2 (Prd P1 Q2) (Prd Q1 P2) P Q → Rd1 P Q)
theorem ops_of {b1 e1 LP1 LQ1 b2 e2 LP2 LQ2 BB : Nat} {P1 Q1 P2 Q2 : List Rat} (h1 : Grp b1 e1 LP1 LQ1 P1 Q1) (h2 : Grp b2 e2 LP2 LQ2 P2 Q2) (n1 : LP1 ≤ 4) (n2 : LP2 ≤ 4) (m1 : LQ1 ≤ 3) (m2 : LQ2 ≤ 3) (x1 : 1 ≤ LP1) (x2 : 1 ≤ LP2) (y1 : 1 ≤ LQ1) (y2 : 1 ≤ LQ2)
    (hb : b1 + e2 + 3 ≤ BB ∧ b2 + e1 + 3 ≤ BB ∧ b1 + b2 + 2 ≤ BB ∧ e1 + e2 + 2 ≤ BB) (hBB : BB + (e1 + e2) < 200)
    (s1 : opSafe (e1 + e2) BB (max (max (LP1 + LQ2 - 1) (LP2 + LQ1 - 1)) (LP1 + LP2 - 1)) (LQ1 + LQ2 - 1) = true) (s2 : opSafe (e1 + e2) BB (LP1 + LQ2 - 1) (LQ1 + LP2 - 1) = true) : Ops P1 Q1 P2 Q2 := by
  obtain ⟨r1, p1, q1, v, qv, pv⟩ := h1
  obtain ⟨r2, p2, q2, w, qw, pw⟩ := h2
  have pQ1 := r1.mq.tr
  have pQ2 := r2.mq.tr
  have a1 : Row (v * w) 0 (e1 + e2) (BB - 1) (Prd P1 Q2) := (prd_grp (m := 0) (n := 0) pv qw (by omega)).mono (by omega) (by omega) (by omega)
  have a2 : Row (v * w) 0 (e1 + e2) (BB - 1) (Prd P2 Q1) := by
    have := (prd_grp (m := 0) (n := 0) pw qv (by omega)).mono (c := 0) (c' := e1 + e2) (d := BB - 1) (by omega) (by omega) (by omega)
    rwa [Rat.mul_comm w v] at this
  have pw' := neg_row pw
  have l2' : (tr (sc (-1) P2)).length = P2.length := neg_len r2.tp
  have a2' : Row (v * w) 0 (e1 + e2) (BB - 1) (Prd (tr (sc (-1) P2)) Q1) := by
    have := (prd_grp (m := 0) (n := 0) pw' qv (by omega)).mono (c := 0) (c' := e1 + e2) (d := BB - 1) (by omega) (by omega) (by omega)
    rwa [Rat.mul_comm w v] at this
  have qq : Row (v * w) 0 (e1 + e2) BB (Prd Q1 Q2) := (prd_grp (m := 0) (n := 0) qv qw (by omega)).mono (by omega) (by omega) (by omega)
  have q0 : Prd Q1 Q2 ≠ [] := prd_ne pQ1 pQ2 r1.mq.1 r2.mq.1
  have lqq : (Prd Q1 Q2).length ≤ LQ1 + LQ2 - 1 := by rw [prd_len pQ1 pQ2]; exact ln_le q1 q2 y1 y2
  have l1 : (Prd P1 Q2).length ≤ LP1 + LQ2 - 1 := by rw [prd_len r1.tp pQ2]; exact ln_le p1 q2 x1 y2
  have l2 : (Prd P2 Q1).length ≤ LP2 + LQ1 - 1 := by rw [prd_len r2.tp pQ1]; exact ln_le p2 q1 x2 y1
  have l3 : (Prd (tr (sc (-1) P2)) Q1).length ≤ LP2 + LQ1 - 1 := by rw [prd_len (Tr_tr _) pQ1, l2']; exact ln_le p2 q1 x2 y1
  have l4 : (Prd P1 P2).length ≤ LP1 + LP2 - 1 := by rw [prd_len r1.tp r2.tp]; exact ln_le p1 p2 x1 x2
  have l5 : (Prd Q1 P2).length ≤ LQ1 + LP2 - 1 := by rw [prd_len pQ1 r2.tp]; exact ln_le q1 p2 y1 x2
  have sA : Row (v * w) 0 (e1 + e2) BB (Sum (Prd P1 Q2) (Prd P2 Q1)) := (sum_row a1 a2).mono (Nat.le_refl _) (Nat.le_refl _) (by omega)
  have sS : Row (v * w) 0 (e1 + e2) BB (Sum (Prd P1 Q2) (Prd (tr (sc (-1) P2)) Q1)) := (sum_row a1 a2').mono (Nat.le_refl _) (Nat.le_refl _) (by omega)
  have lA := sum_len (Prd P1 Q2) (Prd P2 Q1)
  have lS := sum_len (Prd P1 Q2) (Prd (tr (sc (-1) P2)) Q1)
  have pp : Row (v * w) 0 (e1 + e2) BB (Prd P1 P2) := (prd_grp (m := 0) (n := 0) pv pw (by omega)).mono (by omega) (by omega) (by omega)
  have qp : Row (v * w) 0 (e1 + e2) BB (Prd Q1 P2) := (prd_grp (m := 0) (n := 0) qv pw (by omega)).mono (by omega) (by omega) (by omega)
  have a1' : Row (v * w) 0 (e1 + e2) BB (Prd P1 Q2) := a1.mono (Nat.le_refl _) (Nat.le_refl _) (by omega)
  have k1 : MulOk P1 Q2 := pv.mulOk qw (by omega) (by omega) (by omega)
  have k2 : MulOk P2 Q1 := pw.mulOk qv (by omega) (by omega) (by omega)
  have k3 : MulOk Q1 Q2 := qv.mulOk qw (by omega) (by omega) (by omega)
  have k4 : MulOk (tr (sc (-1) P2)) Q1 := pw'.mulOk qv (by omega) (by omega) (by omega)
  have k5 : MulOk P1 P2 := pv.mulOk pw (by omega) (by omega) (by omega)
  have k6 : MulOk Q1 P2 := qv.mulOk pw (by omega) (by omega) (by omega)
  refine ⟨⟨⟨k1, k2, k3, a1.szA (by omega) (by omega), a2.szA (by omega) (by omega)⟩, told_ok s1 sA qq (by omega) lqq q0⟩, ⟨pw.szA (by omega) (by omega), ⟨k1, k4, k3, a1.szA (by omega) (by omega), a2'.szA (by omega) (by omega)⟩, told_ok s1 sS qq (by omega) lqq q0⟩,
    ⟨k5, k3, told_ok s1 pp qq (by omega) lqq q0⟩, ⟨k1, k6, fun z => told_ok s2 a1' qp l1 l5 (prd_ne pQ1 r2.tp r1.mq.1 z)⟩⟩
theorem ops_all {P1 Q1 P2 Q2 : List Rat} (h1 : Grp 3 2 4 3 P1 Q1 ∨ Grp 15 8 3 2 P1 Q1) (h2 : Grp 3 2 4 3 P2 Q2 ∨ Grp 15 8 3 2 P2 Q2) : Ops P1 Q1 P2 Q2 := by
  have w : ∀ {S BB LA LC LA' LC' : Nat}, opSafe S BB LA LC = true → LA' ≤ LA → LC' ≤ LC → opSafe S BB LA' LC' = true := fun {S BB LA LC LA' LC'} h h1 h2 => by
    refine List.all_eq_true.mpr fun la hla => List.all_eq_true.mpr fun j hj => ?_
    exact List.all_eq_true.mp (List.all_eq_true.mp h la (List.mem_range.mpr (by have := List.mem_range.mp hla; omega))) j (List.mem_range.mpr (by have := List.mem_range.mp hj; omega))
  rcases h1 with h1 | h1 <;> rcases h2 with h2 | h2
  · exact ops_of (BB := 8) h1 h2 (by decide) (by decide) (by decide) (by decide) (by decide) (by decide) (by decide) (by decide) (by decide) (by decide) (w op_FF1 (by decide) (by decide)) (w op_FF2 (by decide) (by decide))
  · exact ops_of (BB := 21) h1 h2 (by decide) (by decide) (by decide) (by decide) (by decide) (by decide) (by decide) (by decide) (by decide) (by decide) (w op_FR (by decide) (by decide)) (w op_FR (by decide) (by decide))
  · exact ops_of (BB := 21) h1 h2 (by decide) (by decide) (by decide) (by decide) (by decide) (by decide) (by decide) (by decide) (by decide) (by decide) (w op_FR (by decide) (by decide)) (w op_FR (by decide) (by decide))
  · exact ops_of (BB := 33) h1 h2 (by decide) (by decide) (by decide) (by decide) (by decide) (by decide) (by decide) (by decide) (by decide) (by decide) (w op_RR (by decide) (by decide)) (w op_RR (by decide) (by decide))
end K11
/-! common divisors, quotients, slopes: sizes and values. -/
namespace K11
open PySem PySem.Spec PyProof.Rows L2
theorem one_row : Row 1 0 0 0 [1] := ⟨fun _ => by decide, by decide, Bits.one.bt, fun k => by
  cases k with
  | zero => exact ⟨1, by rw [cf_zero]; simp, by decide⟩
  | succ k => exact ⟨0, by rw [cf_succ, cf_nil]; simp, by decide⟩⟩
theorem prd_one {p : List Rat} (h : Tr p) : Prd p [1] = p := eq_of_ev (Tr_tr _) h fun x => by rw [ev_prd]; simp only [ev]; grind
theorem one_prd {p : List Rat} (h : Tr p) : Prd [1] p = p := by rw [prd_comm, prd_one h]
/-- a division without a rest -/
theorem fdiv_of {s t : Rat} {a a' b c c' d : Nat} {p q : List Rat} (hp : Row s a a' b p) (hq : Row t c c' d q) (q0 : q ≠ []) (hd : Dv q p) (lp : p.length ≤ 30) (lq : q.length ≤ 30)
    (z1 : a + c' + b + p.length * (d + 1) < 4000) (z2 : a' + c + p.length * d < 4000) (z3 : c + d < 4000) : ∃ z, fDiv [PoD p, PoD q] (.tuple [PoD z, PoD []]) := by
  obtain ⟨z, hz⟩ := hd
  have l0 : 0 < q.length := List.length_pos_iff.mpr q0
  have m1 : (p.length + 1 - q.length) * (d + 1) ≤ p.length * (d + 1) := Nat.mul_le_mul_right _ (by omega)
  have m2 : (p.length + 1 - q.length) * d ≤ p.length * d := Nat.mul_le_mul_right _ (by omega)
  exact ⟨tr z, p, q, tr z, [], s, t, a, a', b, c, c', d, rfl, hp.tr, hq.tr, q0, hp.s0, hq.s0, hp.bt, hq.bt, hp.bd, hq.bd, lp, lq, by omega, by omega, z3, ⟨Tr_tr _, Tr_nil, l0, fun x => by rw [hz, ev_tr, ev_nil]; grind⟩, rfl⟩
/-! ### the quotient of a division -/
theorem DS.stepF {p q L f : List Rat} {s t : Rat} {w : Int} {N M i : Nat} (h : DS p q s w N M i L f) (hf : Bd (s / (t * (w : Rat) ^ i)) (N * (2 * M) ^ i) f) (t0 : t ≠ 0) (w0 : (w : Rat) ≠ 0) (hw : cf q (q.length - 1) = t * w) (hwM : w.natAbs ≤ M) (hl : q.length ≤ L.length) :
    Bd (s / (t * (w : Rat) ^ (i + 1))) (N * (2 * M) ^ (i + 1)) (addL f (List.replicate (L.length - q.length) 0 ++ [cf L (L.length - 1) / cf q (q.length - 1)])) := fun k => by
  obtain ⟨z, hz, bz⟩ := hf k
  obtain ⟨y, hy, by'⟩ := h.bd (L.length - 1)
  have w1 : w ≠ 0 := by
    intro e
    rw [e] at w0
    exact w0 rfl
  have M1 : 1 ≤ M := by omega
  have wi := rpow_ne w0 i
  have e1 : s / (t * (w : Rat) ^ i) = s / (t * (w : Rat) ^ (i + 1)) * w := by rw [Rat.pow_succ]; grind
  have hMN : N * (2 * M) ^ (i + 1) = 2 * (M * (N * (2 * M) ^ i)) := by
    rw [Nat.pow_succ, ← Nat.mul_assoc, Nat.mul_comm (N * (2 * M) ^ i), Nat.mul_assoc]
  have hwz : (w * z).natAbs ≤ M * (N * (2 * M) ^ i) := by
    rw [Int.natAbs_mul]
    exact Nat.mul_le_mul hwM bz
  have hy2 : N * (2 * M) ^ i ≤ M * (N * (2 * M) ^ i) := Nat.le_mul_of_pos_left _ M1
  by_cases hk : k = L.length - q.length
  · refine ⟨w * z + y, ?_, ?_⟩
    · rw [cf_addL, hz, hk, cf_shift_ge _ (Nat.le_refl _), Nat.sub_self, cf_zero, hw, hy, e1, Rat.intCast_add, Rat.intCast_mul, Rat.pow_succ]
      have : s / (w : Rat) ^ i * (y : Rat) / (t * (w : Rat)) = s / (t * ((w : Rat) ^ i * w)) * y := by grind
      rw [this]
      grind
    · have := Int.natAbs_add_le (w * z) y
      omega
  · refine ⟨w * z, ?_, by omega⟩
    have hc : cf (List.replicate (L.length - q.length) 0 ++ [cf L (L.length - 1) / cf q (q.length - 1)]) k = 0 := by
      by_cases hl : k < L.length - q.length
      · exact cf_shift_lt _ hl
      · rw [cf_shift_ge _ (by omega)]
        exact cf_of_ge (by simp; omega)
    rw [cf_addL, hc, hz, e1, Rat.intCast_mul]
    grind
theorem DS.endsF {p q : List Rat} {s t : Rat} {w : Int} {N M : Nat} (hq : Bd t M q) (tq : Tr q) (q0 : q ≠ []) (t0 : t ≠ 0) (hw : cf q (q.length - 1) = t * w) (hwM : w.natAbs ≤ M) :
    ∀ (n i : Nat) (L f : List Rat), L.length ≤ n → DS p q s w N M i L f → Bd (s / (t * (w : Rat) ^ i)) (N * (2 * M) ^ i) f → i ≤ p.length + 1 - q.length → ∃ i' L' f', DS p q s w N M i' L' f' ∧ Bd (s / (t * (w : Rat) ^ i')) (N * (2 * M) ^ i') f' ∧ L'.length < q.length ∧ i' ≤ p.length + 1 - q.length
  | 0, i, L, f, hn, h, hf, hi => by
    have lq : 0 < q.length := List.length_pos_iff.mpr q0
    exact ⟨i, L, f, h, hf, by omega, hi⟩
  | n + 1, i, L, f, hn, h, hf, hi => by
    have lq : 0 < q.length := List.length_pos_iff.mpr q0
    have w0 : (w : Rat) ≠ 0 := fun z => tq q0 (by rw [hw, z]; grind)
    by_cases hl : q.length ≤ L.length
    · obtain ⟨L', hc⟩ := cut_ex L q (cf L (L.length - 1) / cf q (q.length - 1)) hl
      have st := h.step hq tq q0 t0 hw hwM hl hc
      have hlen := h.len
      refine DS.endsF hq tq q0 t0 hw hwM n (i + 1) _ _ ?_ st (h.stepF hf t0 w0 hw hwM hl) (by omega)
      have := st.len
      have e1 := len_tr L'.dropLast
      rw [List.length_dropLast, hc.len] at e1
      omega
    · exact ⟨i, L, f, h, hf, by omega, hi⟩
/-- quotient and rest, with their sizes -/
theorem qr_rows {p q : List Rat} {s t : Rat} {a a' b c c' d n : Nat} (hp : Row s a a' b p) (hq : Row t c c' d q) (q0 : q ≠ []) (hn : p.length + 1 - q.length ≤ n) :
    ∃ A B, Qr p q A B ∧ (∃ v, Row v (a + c') (a' + c + n * d) (b + n * (d + 1)) A) ∧ (∃ v, Row v a (a' + n * d) (b + n * (d + 1)) B) := by
  obtain ⟨w, hw, hwM⟩ := last_int hq.bd
  have w0 : (w : Rat) ≠ 0 := fun z => hq.tr q0 (by rw [hw, z]; grind)
  have t0 := hq.s0
  have s0 := hp.s0
  obtain ⟨i, L, f, h, hf, hl, hi⟩ := DS.endsF (s := s) (N := 2 ^ b) hq.bd hq.tr q0 t0 hw hwM p.length 0 p [] (Nat.le_refl _) (DS.first (q := q) (w := w) (M := 2 ^ d) hp.bd hp.tr) (fun k => ⟨0, by rw [cf_nil]; simp, by simp⟩) (Nat.zero_le _)
  have wi := rpow_ne w0 i
  have id1 : i * d ≤ n * d := Nat.mul_le_mul_right _ (by omega)
  have id2 : i * (d + 1) ≤ n * (d + 1) := Nat.mul_le_mul_right _ (by omega)
  have e2 : 2 ^ b * (2 * 2 ^ d) ^ i = 2 ^ (b + i * (d + 1)) := by rw [Nat.pow_add, Nat.mul_comm i, Nat.pow_mul, Nat.pow_succ, Nat.mul_comm 2]
  have up : 2 ^ (b + i * (d + 1)) ≤ 2 ^ (b + n * (d + 1)) := Nat.pow_le_pow_right (by decide) (by omega)
  refine ⟨tr f, L, h.qr hl, ⟨s / (t * (w : Rat) ^ i), Tr_tr _, by grind, ?_, ?_⟩, ⟨s / (w : Rat) ^ i, h.trd, by grind, ?_, ?_⟩⟩
  · have := hp.bt.div (hq.bt.mul ((Bt.int hwM).pow i)) (by grind)
    exact this.mono (by omega) (by omega)
  · rw [e2] at hf
    exact (hf.mono up).tr
  · exact (hp.bt.div ((Bt.int hwM).pow i) wi).mono (by omega) (by omega)
  · have := h.bd
    rw [e2] at this
    exact this.mono up
/-! ### the common divisor of the drawn ones -/
theorem Drawn.row {n : Nat} {p : List Rat} (h : Drawn n p) : Row (1 / 2) 0 1 2 p := ⟨h.tr, by decide +kernel, ⟨by decide +kernel, by decide +kernel⟩, h.bd⟩
def cmSafe : Bool := (List.range 7).all fun la => (List.range 6).all fun lc => rsafe la 0 2 6 lc 0 2 6
theorem cm_safe : cmSafe = true := by decide +kernel
theorem kk_5 : ∀ n, n < 6 → kk n ≤ kk 5 := by decide +kernel
theorem kk_v : kk 5 ≤ 40 := by decide +kernel
/-- all that the law asks of the common divisor -/
theorem cm_ok {p q t : List Rat} (hp : Drawn 4 p) (hq : Drawn 3 q) (ht : Drawn 3 t) : ∃ g, Eok (Prd p t) (Prd q t) ∧ Com (Prd p t) (Prd q t) g ∧ (t ≠ [] → Prd q t ≠ [] → Rok (Prd p t) (Prd q t)) ∧
    (((p = [] ∧ q = []) ∨ t = []) → g = []) ∧ (¬ ((p = [] ∧ q = []) ∨ t = []) → Mon g ∧ (∃ z, fDiv [PoD (Prd p t), PoD g] (.tuple [PoD z, PoD []])) ∧ (∃ z, fDiv [PoD (Prd q t), PoD g] (.tuple [PoD z, PoD []])) ∧ ∃ z, fDiv [PoD g, PoD t] (.tuple [PoD z, PoD []])) := by
  have rA := (prd_grp (m := 0) (n := 0) hp.row ht.row hp.len).mono (d := 6) (Nat.le_refl _) (Nat.le_refl _) (by omega)
  have rB := (prd_grp (m := 0) (n := 0) hq.row ht.row (by have := hq.len; omega)).mono (d := 6) (Nat.le_refl _) (Nat.le_refl _) (by omega)
  have lA : (Prd p t).length ≤ 6 := by rw [prd_len hp.tr ht.tr]; exact ln_le hp.len ht.len (by decide) (by decide)
  have lB : (Prd q t).length ≤ 5 := by rw [prd_len hq.tr ht.tr]; exact ln_le hq.len ht.len (by decide) (by decide)
  have hs := List.all_eq_true.mp (List.all_eq_true.mp cm_safe (Prd p t).length (List.mem_range.mpr (by omega))) (Prd q t).length (List.mem_range.mpr (by omega))
  have hR : Rok (Prd p t) (Prd q t) := ⟨_, _, 0, 2, 6, 0, 2, 6, rA, rB, hs⟩
  obtain ⟨g, hC⟩ := hR.com.com
  refine ⟨g, hR.com, hC, fun _ _ => hR, fun h => ?_, fun h => ?_⟩
  · have z : Prd p t = [] ∧ Prd q t = [] := by
      rcases h with ⟨h1, h2⟩ | h
      · rw [h1, h2]
        exact ⟨rfl, rfl⟩
      · rw [h, prd_comm p, prd_comm q]
        exact ⟨rfl, rfl⟩
    rcases hC with ⟨_, _, h⟩ | ⟨h, _⟩
    · exact h
    · rcases h with h | h
      · exact absurd z.1 h
      · exact absurd z.2 h
  · have t0 : t ≠ [] := fun z => h (.inr z)
    have hne : Prd p t ≠ [] ∨ Prd q t ≠ [] := by
      by_cases p0 : p = []
      · right
        exact prd_ne hq.tr ht.tr (fun z => h (.inl ⟨p0, z⟩)) t0
      · exact .inl (prd_ne hp.tr ht.tr p0 t0)
    have hG : IsG (Prd p t) (Prd q t) g := by
      rcases hC with ⟨z1, z2, _⟩ | ⟨_, h⟩
      · rcases hne with z | z
        · exact absurd z1 z
        · exact absurd z2 z
      · exact h
    have rg : ∃ u, Row u 0 46 46 g ∧ g.length ≤ 6 := by
      have key : ∀ {C : List Rat}, Row (1 / 2 * (1 / 2)) 0 2 6 C → C ≠ [] → C.length ≤ 6 → Dv g C → ∃ u, Row u 0 46 46 g ∧ g.length ≤ 6 := fun {C} rC C0 lC hD => by
        obtain ⟨z, hz⟩ := hD
        have e : ∀ x, ev C x = ev (tr z) x * ev g x := fun x => by rw [hz, ev_tr]; grind
        obtain ⟨u, v, r1, r2⟩ := dvb rC C0 hG.mon (Tr_tr z) e
        have z0 : tr z ≠ [] := fun w => C0 (rC.tr.ne (Z_of_ev fun n => by rw [e, w, ev_nil]; grind))
        have hl := len_mul (Tr_tr z) hG.mon.tr rC.tr z0 hG.mon.1 e
        have lz : 0 < (tr z).length := List.length_pos_iff.mpr z0
        have k1 := kk_5 (C.length - 1) (by omega)
        have k2 := kk_v
        exact ⟨u, r1.mono (Nat.le_refl _) (by omega) (by omega), by omega⟩
      rcases hne with z | z
      · exact key rA z lA hG.dA
      · exact key rB z (by omega) hG.dB
    obtain ⟨u, rg, lg6⟩ := rg
    have m1 : (Prd p t).length * (46 + 1) ≤ 6 * (46 + 1) := Nat.mul_le_mul_right _ lA
    have m2 : (Prd p t).length * 46 ≤ 6 * 46 := Nat.mul_le_mul_right _ lA
    have m3 : (Prd q t).length * (46 + 1) ≤ 5 * (46 + 1) := Nat.mul_le_mul_right _ lB
    have m4 : (Prd q t).length * 46 ≤ 5 * 46 := Nat.mul_le_mul_right _ lB
    have m5 : g.length * (2 + 1) ≤ 6 * (2 + 1) := Nat.mul_le_mul_right _ lg6
    have dt : ∀ r, Dv t (Prd r t) := fun r => ⟨r, fun x => by rw [ev_prd]; grind⟩
    exact ⟨hG.mon, fdiv_of rA rg hG.mon.1 hG.dA (by omega) (by omega) (by omega) (by omega) (by omega), fdiv_of rB rg hG.mon.1 hG.dB (by omega) (by omega) (by omega) (by omega) (by omega),
      fdiv_of rg ht.row t0 (Dv.cb hG.cb (dt p) (dt q)) (by omega) (by have := ht.len; omega) (by omega) (by omega) (by omega)⟩
/-! ### slopes -/
def dueSafe (b e LP LQ : Nat) : Bool := (List.range (LP + LQ - 1)).all fun la => (List.range LQ).all fun j =>
  rsafe la 0 (e + e) (b + e + 4) (j + 1) 0 e e && (outs la (b + e + 4) (j + 1) e e).all fun m =>
    decide (m.b + m.y + m.e + m.e + m.lp + m.lq ≤ 200 ∧ m.lp ≤ 30 ∧ m.lq ≤ 30) && (List.range (max (LP - 1 + m.lq) m.lp + 1)).all fun la2 =>
      rsafe la2 0 (max (e + m.e) m.y) (max (b + 2 + m.e + 2) m.b + 1) m.lq 0 m.e m.e && (outs la2 (max (b + 2 + m.e + 2) m.b + 1) m.lq m.e e).all fun r =>
        decide (r.b + r.y + r.e + r.e + r.lq ≤ 300) && decide (r.lp ≤ 30) && decide (r.lq ≤ 30) && rsafe r.lp 0 r.y r.b (ln r.lq (j + 1)) 0 (r.e + e) (r.e + e + 2)
def slSafe (b e LP LQ : Nat) : Bool := (List.range (LP + LQ - 1)).all fun la => (List.range (LQ + LQ)).all fun lc => rsafe la 0 (e + e) (b + e + 5) (lc + 1) 0 (e + e) (e + e + 2)
theorem due_F : dueSafe 3 2 4 3 = true := by decide +kernel
theorem due_R : dueSafe 15 8 3 2 = true := by decide +kernel
theorem sl_F : slSafe 3 2 4 3 = true := by decide +kernel
theorem sl_R : slSafe 15 8 3 2 = true := by decide +kernel
end K11
/-! the slope is what the law makes of it. -/
namespace K11
open PySem PySem.Spec PyProof.Rows L2
structure SlAll (P Q : List Rat) : Prop where
  ex : ∃ MP MQ KP KQ SP SQ, fMult [QuD P Q, QuD (tr (der Q)) [1]] (QuD MP MQ) ∧ fLess [QuD (tr (der P)) [1], QuD MP MQ] (QuD KP KQ) ∧ fDivd [QuD KP KQ, QuD Q [1]] (.inl (QuD SP SQ)) ∧ fSlope [QuD P Q] (QuD SP SQ)
  dP : fDer [PoD P] (PoD (tr (der P)))
  dQ : fDer [PoD Q] (PoD (tr (der Q)))
theorem sl_ok {b e LP LQ : Nat} {P Q : List Rat} (h : Grp b e LP LQ P Q) (n1 : LP ≤ 4) (n2 : LQ ≤ 3) (x1 : 1 ≤ LP) (x2 : 1 ≤ LQ) (hb : b + e + e < 100) (d1 : dueSafe b e LP LQ = true) (d2 : slSafe b e LP LQ = true) : SlAll P Q := by
  obtain ⟨hr, lP, lQ, v, qv, pv⟩ := h
  have tP := hr.tp
  have tQ := hr.mq.tr
  have Q0 := hr.mq.1
  have l0 : 0 < Q.length := List.length_pos_iff.mpr Q0
  have v0 := qv.s0
  have dp := der_row pv (by omega)
  have dq := der_row qv (by omega)
  have ldp := der_len tP
  have ldq := der_len tQ
  have tdP := Tr_tr (der P)
  have tdQ := Tr_tr (der Q)
  -- the slope itself
  have a1 : Row (v * v) 0 (e + e) (b + e + 4) (Prd (tr (der P)) Q) := (prd_grp (m := 0) (n := 0) dp qv (by omega)).mono (Nat.le_refl _) (Nat.le_refl _) (by omega)
  have a2 : Row (v * v) 0 (e + e) (b + e + 4) (Prd P (tr (der Q))) := (prd_grp (m := 0) (n := 0) pv dq (by omega)).mono (Nat.le_refl _) (Nat.le_refl _) (by omega)
  have a2n := neg_row a2
  have sA : Row (v * v) 0 (e + e) (b + e + 5) (slA P Q) := (sum_row a1 a2n).mono (Nat.le_refl _) (Nat.le_refl _) (by omega)
  have qq : Row (v * v) 0 (e + e) (e + e + 2) (Prd Q Q) := prd_grp (m := 0) (n := 0) qv qv (by omega)
  have qq0 := prd_ne tQ tQ Q0 Q0
  have l1 : (Prd (tr (der P)) Q).length ≤ LP + LQ - 2 := by
    rw [prd_len tdP tQ, ldp]
    unfold ln
    split <;> omega
  have l2 : (Prd P (tr (der Q))).length ≤ LP + LQ - 2 := by
    rw [prd_len tP tdQ, ldq]
    unfold ln
    split <;> omega
  have l2n : (tr (sc (-1) (Prd P (tr (der Q))))).length = (Prd P (tr (der Q))).length := neg_len a2.tr
  have lA : (slA P Q).length ≤ LP + LQ - 2 := by
    have := sum_len (Prd (tr (der P)) Q) (tr (sc (-1) (Prd P (tr (der Q)))))
    show (Sum _ _).length ≤ _
    omega
  have lqq : (Prd Q Q).length ≤ LQ + LQ - 1 := by rw [prd_len tQ tQ]; exact ln_le lQ lQ x2 x2
  have lqq0 : 0 < (Prd Q Q).length := List.length_pos_iff.mpr qq0
  have hs := List.all_eq_true.mp (List.all_eq_true.mp d2 (slA P Q).length (List.mem_range.mpr (by omega))) ((Prd Q Q).length - 1) (List.mem_range.mpr (by omega))
  rw [show (Prd Q Q).length - 1 + 1 = (Prd Q Q).length by omega] at hs
  have hRok : Rok (slA P Q) (Prd Q Q) := ⟨_, _, 0, e + e, b + e + 5, 0, e + e, e + e + 2, sA, qq, hs⟩
  have slok : SlOk P Q := ⟨pv.szA (by omega) (by omega), qv.szA (by omega) (by omega), dp.mulOk qv (by omega) (by omega) (by omega), pv.mulOk dq (by omega) (by omega) (by omega), qv.mulOk qv (by omega) (by omega) (by omega), a1.szA (by omega) (by omega), a2.szA (by omega) (by omega), a2n.szA (by omega) (by omega)⟩
  -- the product
  have hm := List.all_eq_true.mp (List.all_eq_true.mp d1 (Prd P (tr (der Q))).length (List.mem_range.mpr (by omega))) (Q.length - 1) (List.mem_range.mpr (by omega))
  rw [Bool.and_eq_true, show Q.length - 1 + 1 = Q.length by omega] at hm
  have okM : Rok (Prd P (tr (der Q))) (Prd Q [1]) := by
    rw [prd_one tQ]
    exact ⟨_, _, 0, e + e, b + e + 4, 0, e, e, a2, qv, hm.1⟩
  have Q10 : Prd Q [1] ≠ [] := by rw [prd_one tQ]; exact Q0
  obtain ⟨MP, MQ, hM⟩ := okM.ex Q10
  have hM' := hM
  rw [prd_one tQ] at hM'
  obtain ⟨m, hmm, cm, mlp, mlq, w, qw, pw⟩ := rat_out (u := v) (x := e) a2 qv Q0 (by grind) qv.bt hM'
  have hm2 := List.all_eq_true.mp hm.2 m hmm
  rw [Bool.and_eq_true, decide_eq_true_eq] at hm2
  obtain ⟨⟨hm3, hm5, hm6⟩, hm4⟩ := hm2
  have MQ0 := cm.mq.1
  have tMQ := cm.mq.tr
  have tMP := cm.tp
  have w0 := qw.s0
  -- the difference
  have c1 : Row (v * w) 0 (max (e + m.e) m.y) (b + 2 + m.e + 2) (Prd (tr (der P)) MQ) := (prd_grp (m := 0) (n := 0) dp qw (by omega)).mono (Nat.le_refl _) (by omega) (by omega)
  have c2 : Row (v * w) 0 (max (e + m.e) m.y) m.b (Prd (tr (sc (-1) MP)) [1]) := by
    rw [prd_one (Tr_tr _)]
    exact (neg_row pw).mono (Nat.le_refl _) (by omega) (Nat.le_refl _)
  have sL : Row (v * w) 0 (max (e + m.e) m.y) (max (b + 2 + m.e + 2) m.b + 1) (Sum (Prd (tr (der P)) MQ) (Prd (tr (sc (-1) MP)) [1])) := sum_row c1 c2
  have lL : (Sum (Prd (tr (der P)) MQ) (Prd (tr (sc (-1) MP)) [1])).length ≤ max (LP - 1 + m.lq) m.lp := by
    have h1 := sum_len (Prd (tr (der P)) MQ) (Prd (tr (sc (-1) MP)) [1])
    have h2 : (Prd (tr (der P)) MQ).length ≤ LP - 1 + m.lq := by
      rw [prd_len tdP tMQ, ldp, mlq]
      unfold ln
      split <;> omega
    have h3 : (Prd (tr (sc (-1) MP)) [1]).length = m.lp := by rw [prd_one (Tr_tr _), neg_len tMP, mlp]
    omega
  have hl := List.all_eq_true.mp hm4 _ (List.mem_range.mpr (Nat.lt_succ_of_le lL))
  rw [Bool.and_eq_true] at hl
  have okL : Rok (Sum (Prd (tr (der P)) MQ) (Prd (tr (sc (-1) MP)) [1])) (Prd [1] MQ) := by
    rw [one_prd tMQ]
    exact ⟨_, _, 0, max (e + m.e) m.y, max (b + 2 + m.e + 2) m.b + 1, 0, m.e, m.e, sL, qw, by rw [mlq]; exact hl.1⟩
  have MQ10 : Prd [1] MQ ≠ [] := by rw [one_prd tMQ]; exact MQ0
  obtain ⟨KP, KQ, hK⟩ := okL.ex MQ10
  have hK' := hK
  rw [one_prd tMQ] at hK'
  obtain ⟨r, hrr, cr, rlp, rlq, z, qz, pz⟩ := rat_out (u := v) (x := e) sL qw MQ0 (by grind) qv.bt hK'
  rw [mlq] at hrr
  have hr2 := List.all_eq_true.mp hl.2 r hrr
  simp only [Bool.and_eq_true, decide_eq_true_eq] at hr2
  obtain ⟨⟨⟨hr3, hr4⟩, hr5⟩, hr6⟩ := hr2
  have KQ0 := cr.mq.1
  have tKQ := cr.mq.tr
  have tKP := cr.tp
  -- the quotient
  have qs : Row (z * v) 0 (r.e + e) (r.e + e + 2) (Prd KQ Q) := by
    have := prd_row qz qv
    have hlg := lg_2 (n := min KQ.length Q.length) (by omega)
    exact this.mono (Nat.le_refl _) (Nat.le_refl _) (by omega)
  have ps : Row (z * v) 0 r.y r.b (Prd KP [1]) := by
    rw [prd_one tKP, Rat.mul_comm z v]
    exact pz
  have okS : Rok (Prd KP [1]) (Prd KQ Q) := ⟨_, _, 0, r.y, r.b, 0, r.e + e, r.e + e + 2, ps, qs, by rw [prd_one tKP, prd_len tKQ tQ, rlp, rlq]; exact hr6⟩
  have S0 := prd_ne tKQ tQ KQ0 Q0
  obtain ⟨SP, SQ, hS⟩ := okS.ex S0
  -- the values
  have hv : ∀ x, ev SP x * ev (Prd Q Q) x = ev (slA P Q) x * ev SQ x := by
    refine fun x => ?_
    have := cancel (a := mulL SP (Prd Q Q)) (b := mulL (slA P Q) SQ) (c := mulL MQ KQ) (fun hz => by
      rcases Z_mul (p := MQ) (q := KQ) (fun y => by rw [← ev_mulL]; exact Z_ev hz y) with h | h
      · exact not_Z tMQ MQ0 h
      · exact not_Z tKQ KQ0 h) fun y => ?_
    · have h2 := this x
      rwa [ev_mulL, ev_mulL] at h2
    · have e1 := hM.2 y
      have e2 := hK.2 y
      have e3 := hS.2 y
      rw [prd_one tQ, ev_prd] at e1
      rw [one_prd tMQ, ev_sum, ev_prd, ev_prd, ev_tr (sc (-1) MP), ev_sc] at e2
      rw [prd_one tKP, ev_prd] at e3
      rw [ev_mulL, ev_mulL, ev_mulL, ev_prd]
      have e4 : ev (slA P Q) y = ev (tr (der P)) y * ev Q y - ev P y * ev (tr (der Q)) y := by
        show ev (Sum _ _) y = _
        rw [ev_sum, ev_prd, ev_tr (sc (-1) (Prd P (tr (der Q)))), ev_sc, ev_prd]
        grind
      rw [e4]
      simp only [ev] at e2
      generalize ev (tr (der P)) y = p' at *
      generalize ev (tr (der Q)) y = q' at *
      generalize ev P y = p at *
      generalize ev Q y = q at *
      generalize ev MP y = mp at *
      generalize ev MQ y = mq at *
      generalize ev KP y = kp at *
      generalize ev KQ y = kq at *
      generalize ev SP y = sp at *
      generalize ev SQ y = sq at *
      grind
  refine ⟨⟨MP, MQ, KP, KQ, SP, SQ, ⟨P, Q, tr (der Q), [1], rfl, pv.mulOk dq (by omega) (by omega) (by omega), qv.mulOk one_row (by omega) (by omega) (by decide), _, _, rfl, .inr ⟨Q10, okM, MP, MQ, hM, rfl⟩⟩,
    ⟨tr (der P), [1], MP, MQ, rfl, pw.szA (by omega) (by omega), tr (der P), [1], tr (sc (-1) MP), MQ, rfl, ⟨dp.mulOk qw (by omega) (by omega) (by omega), (neg_row pw).mulOk one_row (by omega) (by rw [neg_len tMP]; omega) (by decide), one_row.mulOk qw (by omega) (by decide) (by omega), c1.szA (by
      rw [prd_len tdP tMQ, ldp, mlq]
      unfold ln
      split <;> omega) (by omega), c2.szA (by rw [prd_one (Tr_tr _), neg_len tMP]; omega) (by omega)⟩, _, _, rfl, .inr ⟨MQ10, okL, KP, KQ, hK, rfl⟩⟩,
    ⟨KP, KQ, Q, [1], rfl, pz.mulOk one_row (by omega) (by omega) (by decide), qz.mulOk qv (by omega) (by omega) (by omega), _, _, rfl, .inr ⟨S0, okS, SP, SQ, hS, rfl⟩⟩, P, Q, rfl, slok, _, _, rfl, .inr ⟨qq0, hRok, SP, SQ, ⟨hS.1, hv⟩, rfl⟩⟩, slok.1.der, slok.2.1.der⟩
theorem sl_all {P Q : List Rat} (h : Grp 3 2 4 3 P Q ∨ Grp 15 8 3 2 P Q) : SlAll P Q := by
  rcases h with h | h
  · exact sl_ok h (by decide) (by decide) (by decide) (by decide) (by decide) due_F sl_F
  · exact sl_ok h (by decide) (by decide) (by decide) (by decide) (by decide) due_R sl_R
end K11
/-! the law's edges. -/
namespace K11
open PySem PySem.Spec PyProof.Rows L2
abbrev sLEdges : Stmt := topS 52
theorem scLEdges : FnScope ["state", "part_v", "odd", "row", "value_told"] ["state"] (defScope sLEdges) := ⟨rfl, rfl, rfl, by decide +kernel, rfl, by decide +kernel, by decide +kernel⟩
/-- the module's constants -/
structure Consts (K : PySem.W.Frag) (mg : Str → Option Value) (a0 a1 a2 : Addr) : Prop where
  g0 : mg "NOUGHT" = some (.ref a0)
  g1 : mg "WHOLE" = some (.ref a1)
  g2 : mg "UNKNOWN" = some (.ref a2)
  d0 : ∀ H, Dp K H (.ref a0) (QuD [] [1])
  d1 : ∀ H, Dp K H (.ref a1) (QuD [1] [1])
  d2 : ∀ H, Dp K H (.ref a2) (QuD [0, 1] [1])
def spEdges : Sp := fun vs H Q _ => ∃ (a c : Addr) (m : Nat), vs = [.ref a] ∧ StOk H a c m ∧ m < 900 ∧ ∀ H', Q (.bl true) H'
theorem row_of {p : List Rat} {b : Nat} (ht : Tr p) (h : ∀ k, ∃ i : Int, cf p k = (i : Rat) ∧ i.natAbs ≤ 2 ^ b) : Row 1 0 0 b p := ⟨ht, by decide, Bits.one.bt, fun k => by
  obtain ⟨i, h1, h2⟩ := h k
  exact ⟨i, by rw [h1]; grind, h2⟩⟩
theorem cf_lit (p : List Rat) (l : List Int) (b : Nat) (e : p = l.map fun i : Int => (i : Rat)) (hb : ∀ i ∈ l, i.natAbs ≤ 2 ^ b) (k : Nat) : ∃ i : Int, cf p k = (i : Rat) ∧ i.natAbs ≤ 2 ^ b := by
  subst e
  by_cases h : k < l.length
  · exact ⟨l[k], by rw [cf_of_lt (by simpa using h)]; simp, hb _ (List.getElem_mem h)⟩
  · exact ⟨0, by rw [cf_of_ge (by simpa using h)]; rfl, by simp⟩
theorem row_nil : Row 1 0 0 1 [] := row_of Tr_nil fun k => ⟨0, by rw [cf_nil]; rfl, by decide⟩
theorem tr1 {p : List Rat} {x : Rat} (h : x ≠ 0) : Tr (p ++ [x]) := fun _ => by
  rw [cf_of_lt (by simp)]
  simpa using h
theorem row_1 : Row 1 0 0 1 [1] := row_of (tr1 (p := []) (by decide)) (cf_lit _ [1] 1 rfl (by decide))
theorem row_2 : Row 1 0 0 1 [2] := row_of (tr1 (p := []) (by decide)) (cf_lit _ [2] 1 rfl (by decide))
theorem row_01 : Row 1 0 0 1 [0, 1] := row_of (tr1 (p := [0]) (by decide)) (cf_lit _ [0, 1] 1 rfl (by decide))
theorem row_11 : Row 1 0 0 1 [1, 1] := row_of (tr1 (p := [1]) (by decide)) (cf_lit _ [1, 1] 1 rfl (by decide))
theorem red_one {p : List Rat} (h : Tr p) : Red p [1] := ⟨h, ⟨by simp, by simp [cf]⟩, ⟨[], [1], fun x => by simp only [ev]; grind⟩⟩
theorem ed_notB {K : PySem.W.Frag} {H : Hp} {σ : L2.St} {ta tb : TE} {a b : Bool} (ha : EvD K ta σ H (.bool a)) (hb : EvD K tb σ H (.bool b)) : EvD K (tOp (fun x y H Q => ∃ a b, x = V.bl a ∧ y = V.bl b ∧ Q (V.bl (!decide (a = b))) H) ta tb) σ H (.bool (!decide (a = b))) := fun H1 e1 Q q =>
  ha H1 e1 _ fun v H2 s a2 => hb H2 (e1.trans s) _ fun w H3 s2 b2 => by
    cases a2
    cases b2
    exact ⟨_, _, rfl, rfl, q _ H3 (s.trans s2) (.bl _)⟩
theorem ed_isB {K : PySem.W.Frag} {H : Hp} {σ : L2.St} {ta tb : TE} {a b : Bool} (ha : EvD K ta σ H (.bool a)) (hb : EvD K tb σ H (.bool b)) : EvD K (tOp (fun x y H Q => ∃ a b, x = V.bl a ∧ y = V.bl b ∧ Q (V.bl (decide (a = b))) H) ta tb) σ H (.bool (decide (a = b))) := fun H1 e1 Q q =>
  ha H1 e1 _ fun v H2 s a2 => hb H2 (e1.trans s) _ fun w H3 s2 b2 => by
    cases a2
    cases b2
    exact ⟨_, _, rfl, rfl, q _ H3 (s.trans s2) (.bl _)⟩
/-- the law's values of other kinds -/
def oddD : List PyData := [.none, .tuple [], QuD [] [], QuD [1] [2], QuD [1, 1] [1, 1], .list [PoD [], PoD [1]], QuD [] [0, 1]]
def rowsD : List PyData := [.tuple [], .tuple [.tuple [.int 1, .int 2]], .tuple [.tuple [.int 0, .int 1]], .tuple [.tuple [.int 1, .int 1], .tuple [.int 0, .int 1]], .list [.tuple [.int 1, .int 1]], .none, .tuple [.tuple [.int 2, .int 4]], .tuple [.int 1]]
theorem odd_false : ∀ d ∈ oddD, fIsRatio [d] (.bool false) := by
  intro d hd
  have r1 : rsafe 1 0 0 1 1 0 0 1 = true := by decide +kernel
  have r2 : rsafe 2 0 0 1 2 0 0 1 = true := by decide +kernel
  have r3 : rsafe 0 0 0 1 2 0 0 1 = true := by decide +kernel
  simp only [oddD, List.mem_cons, List.not_mem_nil, or_false] at hd
  rcases hd with rfl | rfl | rfl | rfl | rfl | rfl | rfl
  · exact ⟨_, rfl, rfl, .inl ⟨rfl, rfl⟩⟩
  · exact ⟨_, rfl, rfl, .inl ⟨rfl, rfl⟩⟩
  · exact ⟨_, rfl, rfl, .inr (.inl ⟨[], Tr_nil, rfl, rfl⟩)⟩
  · exact ⟨_, rfl, rfl, .inr (.inr ⟨[1], [2], [1 / 2], [1], rfl, row_1.tr, row_2.tr, by simp, ⟨1, 1, 0, 0, 1, 0, 0, 1, row_1, row_2, r1⟩, ⟨red_one (tr1 (p := []) (by decide +kernel)), fun x => by simp only [ev]; grind⟩, by
      rw [show decide (([1] : List Rat) = [2]) = false by decide +kernel, Bool.and_false]⟩)⟩
  · exact ⟨_, rfl, rfl, .inr (.inr ⟨[1, 1], [1, 1], [1], [1], rfl, row_11.tr, row_11.tr, by simp, ⟨1, 1, 0, 0, 1, 0, 0, 1, row_11, row_11, r2⟩, ⟨red_one row_1.tr, fun x => by simp only [ev]; grind⟩, by
      rw [show decide (([1] : List Rat) = [1, 1]) = false by decide +kernel, Bool.and_false]⟩)⟩
  · exact ⟨_, rfl, rfl, .inl ⟨rfl, rfl⟩⟩
  · exact ⟨_, rfl, rfl, .inr (.inr ⟨[], [0, 1], [], [1], rfl, Tr_nil, row_01.tr, by simp, ⟨1, 1, 0, 0, 1, 0, 0, 1, row_nil, row_01, r3⟩, ⟨red_one Tr_nil, fun x => by simp only [ev]; grind⟩, by
      rw [show decide (([1] : List Rat) = [0, 1]) = false by decide +kernel, Bool.and_false]⟩)⟩
theorem unk_true : fIsRatio [QuD [0, 1] [1]] (.bool true) :=
  ⟨_, rfl, rfl, .inr (.inr ⟨[0, 1], [1], [0, 1], [1], rfl, row_01.tr, row_1.tr, by simp, ⟨1, 1, 0, 0, 1, 0, 0, 1, row_01, row_1, by decide +kernel⟩, ⟨red_one row_01.tr, fun x => rfl⟩, by simp⟩)⟩
theorem told_nought : fTold [.int 1, QuD [1] [1], QuD [] [1]] (.str "nought") :=
  ⟨1, _, _, .inr "nought", rfl, .inr (.inl ⟨rfl, [1], [1], [], [1], rfl, row_1.mulOk row_1 (by decide) (by decide) (by decide), row_1.mulOk row_nil (by decide) (by decide) (by decide), _, _, rfl, .inl ⟨by rw [prd_comm]; rfl, rfl⟩⟩), rfl⟩
theorem sh_nought : SeqAt.shaped (.str "nought") = true := by decide +kernel
end K11
/-! _law_edges. -/
namespace K11
open PySem PySem.Spec PyProof.Rows L2
/-- the drawn place -/
theorem spot_of {r1 r2 : Int} {k : Int} (h1 : 0 ≤ r1) (h2 : r1 - k ≤ 4) (h2' : -4 ≤ r1 - k) (h3 : 0 ≤ r2) (h4 : r2 < 3) : Bits 2 (((r1 - k : Int) : Rat) / ((1 + r2 : Int) : Rat)) := by
  have := nd_le (q := ((r1 - k : Int) : Rat) / ((1 + r2 : Int) : Rat)) (a := r1 - k) (b := 1 + r2) (by omega) rfl
  exact ⟨Nat.le_trans this.1 (by omega), Nat.le_trans this.2 (by omega)⟩
section
variable {P : Program} {w : World} {K : PySem.W.Frag} {mg : Str → Option Value} {base : Heap}
/-- _law_fr(_law_take(state, A) - B, 1 + _law_take(state, C)) into a slot -/
theorem q_spot {H : Hp} {σ : L2.St} {D : Ends} {tz : TS} {i j : Nat} {A B C : Int} {a c : Addr} {m : Nat} (hσ : σ[i]? = some (some (.ref a))) (hst : StOk H a c m) (hm : m < 900) (hA : 2 ≤ A) (hA2 : A ≤ 100) (hC : 2 ≤ C) (hC2 : C ≤ 100)
    (kk : ∀ (r1 r2 : Int) v H', 0 ≤ r1 → r1 < A → 0 ≤ r2 → r2 < C → StOk H' a c (m + 2) → But a c H H' → Dp K H' v (FrD (((r1 - B : Int) : Rat) / ((1 + r2 : Int) : Rat))) → tz D (σ.set j (some v)) H') (hB : -1000 ≤ B) (hB2 : B ≤ 1000) :
    tSeq (tAsg (tCall (PF K fLFr) [] E0 (tCons (tOp (rI0 fun i j => .int (i - j)) (tCall spTake [] E0 (tCons (tVar i) (tCons (tC (.int A)) tNil))) (tC (.int B))) (tCons (tOp (rI0 fun i j => .int (i + j)) (tC (.int 1)) (tCall spTake [] E0 (tCons (tVar i) (tCons (tC (.int C)) tNil)))) tNil))) (gName j)) tz D σ H := by
  refine ⟨_, hσ, a, c, m, A, rfl, hst, by omega, hA, hA2, fun r1 H2 h1 h2 st3 b3 => ⟨r1, B, rfl, rfl, ?_⟩⟩
  refine ⟨_, hσ, a, c, m + 1, C, rfl, st3, by omega, hC, hC2, fun r2 H3 h3 h4 st4 b4 => ⟨1, r2, rfl, rfl, ?_⟩⟩
  refine ⟨[.int (r1 - B), .int (1 + r2)], FrD (((r1 - B : Int) : Rat) / ((1 + r2 : Int) : Rat)), .cons (.int _) (.cons (.int _) .nil), ⟨_, _, rfl, by omega, Nat.lt_of_lt_of_le (show (r1 - B).natAbs < 2 ^ 20 by omega) (Nat.pow_le_pow_right (by decide) (by decide)), Nat.lt_of_lt_of_le (show (1 + r2).natAbs < 2 ^ 20 by omega) (Nat.pow_le_pow_right (by decide) (by decide)), rfl⟩, fun v H4 s4 hv => ?_⟩
  exact kk r1 r2 v H4 h1 h2 h3 h4 (st4.same s4) (b3.trans (b4.trans (But.of_same s4))) hv
theorem ok_ledges {f fT fR fO fA fS fP fI C fM a0 a1 a2 : Addr} {fd fdT fdR fdO fdA fdS fdP fdI : FuncData} (F : Fun K "_law_edges" "_law_edges" sLEdges f fd) (KC : Consts K mg a0 a1 a2)
    (FT : Fun K "_law_take" "_law_take" sLTake fT fdT) (gT : mg "_law_take" = some (.ref fT)) (GT : FnOk P w K mg base CX0 1 fT fdT ["state", "most"] spTake)
    (FR : Fun K "_law_fr" "_law_fr" sLFr fR fdR) (gR : mg "_law_fr" = some (.ref fR)) (GR : FnOk P w K mg base CX0 1 fR fdR ["above", "below"] (PF K fLFr))
    (FO : Fun K "of_part" "of_part" sOfPart fO fdO) (gO : mg "of_part" = some (.ref fO)) (GO : FnOk P w K mg base CX0 2 fO fdO ["part"] (PF K fOfPart))
    (FA : Fun K "ratio_at" "ratio_at" sRatioAt fA fdA) (gA : mg "ratio_at" = some (.ref fA)) (GA : FnOk P w K mg base (L2.CX P w) 5 fA fdA ["one", "place"] (PX K C fRAt))
    (FS : Fun K "_law_told" "_law_told" sLTold fS fdS) (gS : mg "_law_told" = some (.ref fS)) (GS : FnOk P w K mg base CX0 8 fS fdS ["call", "one", "other"] (PF K fTold))
    (FP : Fun K "is_poly" "is_poly" sIsPoly fP fdP) (gP : mg "is_poly" = some (.ref fP)) (GP : FnOk P w K mg base CX0 3 fP fdP ["value"] (PF K fIsPoly))
    (FI : Fun K "is_ratio" "is_ratio" sIsRatio fI fdI) (gI : mg "is_ratio" = some (.ref fI)) (GI : FnOk P w K mg base CX0 7 fI fdI ["value"] (PF K fIsRatio)) (mLen : mg "len" = none) : FnOk P w K mg base CX0 9 f fd ["state"] spEdges := by
  have bT := FT.binds (ps := ["state", "most"]) fun _ _ _ _ _ _ us hl => match us, hl with | [_, _], _ => rfl
  have bR := FR.binds (ps := ["above", "below"]) fun _ _ _ _ _ _ us hl => match us, hl with | [_, _], _ => rfl
  have bO := FO.binds (ps := ["part"]) fun _ _ _ _ _ _ us hl => match us, hl with | [_], _ => rfl
  have bA := FA.binds (ps := ["one", "place"]) fun _ _ _ _ _ _ us hl => match us, hl with | [_, _], _ => rfl
  have bS := FS.binds (ps := ["call", "one", "other"]) fun _ _ _ _ _ _ us hl => match us, hl with | [_, _, _], _ => rfl
  have bP := FP.binds (ps := ["value"]) fun _ _ _ _ _ _ us hl => match us, hl with | [_], _ => rfl
  have bI := FI.binds (ps := ["value"]) fun _ _ _ _ _ _ us hl => match us, hl with | [_], _ => rfl
  refine F.ok scLEdges (fun vs H Q E h => by obtain ⟨_, _, _, rfl, _⟩ := h; rfl) (fun cdv A outer s H vs Q E hr h => ?_)
  obtain ⟨a, c, m, rfl, hst, hm, k⟩ := h
  have hu := hr.units
  refine ⟨_, pss_cons (ps_set (i := 1) scLEdges.nd rfl (.inl rfl) (pe_call GR (hr.mono (by decide)) (by rfl) gR FR.kp bR .nil pass0 (pa_cons (pe_op op_sub (pe_call GT (hr.mono (by decide)) (by rfl) gT FT.kp bT .nil pass0 (pa_cons (pv 0) (pa_cons pe_int pa_nil))) pe_int) (pa_cons (pe_op op_add pe_int (pe_call GT (hr.mono (by decide)) (by rfl) gT FT.kp bT .nil pass0 (pa_cons (pv 0) (pa_cons pe_int pa_nil)))) pa_nil))))
    (pss_cons (ps_if (PW.pt (pw_or (pt_cmpR (op_neD hu) (pe_call GO (hr.mono (by decide)) (by rfl) gO FO.kp bO .nil pass0 (pa_cons (pv 1) pa_nil)) (pe_tup (pa_cons (pe_ifExp (pt_cmpR op_ne (pe_ix ix_tup (pv 1) pe_int (fun _ _ => rfl)) pe_int (nomark _)) (pe_tup (pa_cons (pv 1) pa_nil)) (pe_tup pa_nil)) (pa_cons (pe_tup (pa_cons (pe_tup (pa_cons pe_int (pa_cons pe_int pa_nil))) pa_nil)) pa_nil))) (nomark _))
        (pw_or (pt_cmpR (op_neD hu) (pe_glob (v := .ref a0) (by rfl) KC.g0 rfl) (pe_tup (pa_cons (pe_tup pa_nil) (pa_cons (pe_tup (pa_cons (pe_tup (pa_cons pe_int (pa_cons pe_int pa_nil))) pa_nil)) pa_nil))) (nomark _))
        (pw_or1 (pt_cmpR (op_neD hu) (pe_glob (v := .ref a1) (by rfl) KC.g1 rfl) (pe_tup (pa_cons (pe_tup (pa_cons (pe_tup (pa_cons pe_int (pa_cons pe_int pa_nil))) pa_nil)) (pa_cons (pe_tup (pa_cons (pe_tup (pa_cons pe_int (pa_cons pe_int pa_nil))) pa_nil)) pa_nil))) (nomark _)))))) (pss_one (ps_ret pe_bl)) pss_nil)
    (pss_cons (ps_if (PW.pt (pw_or (pt_cmpR (op_neD hu) (pe_glob (v := .ref a2) (by rfl) KC.g2 rfl) (pe_tup (pa_cons (pe_tup (pa_cons (pe_tup (pa_cons pe_int (pa_cons pe_int pa_nil))) (pa_cons (pe_tup (pa_cons pe_int (pa_cons pe_int pa_nil))) pa_nil))) (pa_cons (pe_tup (pa_cons (pe_tup (pa_cons pe_int (pa_cons pe_int pa_nil))) pa_nil)) pa_nil))) (nomark _))
        (pw_or (pt_cmpR (op_neD hu) (pe_call GA (hr.mono (by decide)) (by rfl) gA FA.kp bA .nil passL (pa_cons (pe_glob (v := .ref a2) (by rfl) KC.g2 rfl) (pa_cons (pv 1) pa_nil))) (pv 1) (nomark _))
        (pw_or1 (pt_cmpR (op_neD hu) (pe_call GS hr (by rfl) gS FS.kp bS .nil pass0 (pa_cons pe_int (pa_cons (pe_glob (v := .ref a1) (by rfl) KC.g1 rfl) (pa_cons (pe_glob (v := .ref a0) (by rfl) KC.g0 rfl) pa_nil)))) pe_str (nomark _)))))) (pss_one (ps_ret pe_bl)) pss_nil)
    (pss_cons (ps_if (pt_cmpR (op_neD hu) (pe_lc (own := [("row", 3)]) (g := gName 3) (tt := tYes) rfl scLEdges.nd (pi_list (pe_lst (pa_cons (pe_tup pa_nil) (pa_cons (pe_tup (pa_cons (pe_tup (pa_cons pe_int (pa_cons pe_int pa_nil))) pa_nil)) (pa_cons (pe_tup (pa_cons (pe_tup (pa_cons pe_int (pa_cons pe_int pa_nil))) pa_nil)) (pa_cons (pe_tup (pa_cons (pe_tup (pa_cons pe_int (pa_cons pe_int pa_nil))) (pa_cons (pe_tup (pa_cons pe_int (pa_cons pe_int pa_nil))) pa_nil)))
        (pa_cons (pe_lst (pa_cons (pe_tup (pa_cons pe_int (pa_cons pe_int pa_nil))) pa_nil)) (pa_cons pe_non (pa_cons (pe_tup (pa_cons (pe_tup (pa_cons pe_int (pa_cons pe_int pa_nil))) pa_nil)) (pa_cons (pe_tup (pa_cons pe_int pa_nil)) pa_nil)))))))))) (blkOk_by (N := ["state", "part_v", "odd", "row", "value_told"]) (sc := defScope sLEdges) (by decide +kernel)) (fun _ _ _ _ _ => pg_name (i := 3) scLEdges.nd rfl (.inl rfl)) (fun _ _ _ _ _ => pts_nil)
        (fun _ _ _ _ _ => pe_call GP (hr.mono (by decide)) (by rfl) gP FP.kp bP .nil pass0 (pa_cons (pv 3) pa_nil)))
        (pe_lst (pa_cons pe_bl (pa_cons pe_bl (pa_cons pe_bl (pa_cons pe_bl (pa_cons pe_bl (pa_cons pe_bl (pa_cons pe_bl (pa_cons pe_bl pa_nil))))))))) (nomark _)) (pss_one (ps_ret pe_bl)) pss_nil)
    (pss_cons (ps_set (i := 2) scLEdges.nd rfl (.inl rfl) (pe_lst (pa_cons pe_non (pa_cons (pe_tup pa_nil) (pa_cons (pe_tup (pa_cons (pe_tup pa_nil) (pa_cons (pe_tup pa_nil) pa_nil)))
        (pa_cons (pe_tup (pa_cons (pe_tup (pa_cons (pe_tup (pa_cons pe_int (pa_cons pe_int pa_nil))) pa_nil)) (pa_cons (pe_tup (pa_cons (pe_tup (pa_cons pe_int (pa_cons pe_int pa_nil))) pa_nil)) pa_nil)))
        (pa_cons (pe_tup (pa_cons (pe_tup (pa_cons (pe_tup (pa_cons pe_int (pa_cons pe_int pa_nil))) (pa_cons (pe_tup (pa_cons pe_int (pa_cons pe_int pa_nil))) pa_nil))) (pa_cons (pe_tup (pa_cons (pe_tup (pa_cons pe_int (pa_cons pe_int pa_nil))) (pa_cons (pe_tup (pa_cons pe_int (pa_cons pe_int pa_nil))) pa_nil))) pa_nil)))
        (pa_cons (pe_lst (pa_cons (pe_tup pa_nil) (pa_cons (pe_tup (pa_cons (pe_tup (pa_cons pe_int (pa_cons pe_int pa_nil))) pa_nil)) pa_nil)))
        (pa_cons (pe_tup (pa_cons (pe_tup pa_nil) (pa_cons (pe_tup (pa_cons (pe_tup (pa_cons pe_int (pa_cons pe_int pa_nil))) (pa_cons (pe_tup (pa_cons pe_int (pa_cons pe_int pa_nil))) pa_nil))) pa_nil))) pa_nil)))))))))
    (pss_one (ps_ret (pe_and (pe_cmpR op_eq (pe_callB call_len_seq (by rfl) mLen boot_len (pa_cons (pe_lc (own := [("value_told", 4)]) (g := gName 4) rfl scLEdges.nd (pi_list (pv 2)) (blkOk_by (N := ["state", "part_v", "odd", "row", "value_told"]) (sc := defScope sLEdges) (by decide +kernel)) (fun _ _ _ _ _ => pg_name (i := 4) scLEdges.nd rfl (.inl rfl))
        (fun _ _ _ _ _ => pts_one (pt_cmpR op_notBl (pe_call GI (hr.mono (by decide)) (by rfl) gI FI.kp bI .nil pass0 (pa_cons (pv 4) pa_nil)) pe_bl (nomark _))) (fun _ _ _ _ _ => pv 4)) pa_nil)) pe_int (nomark _))
      (pe_one (pe_cmpR op_isBl (pe_call GI (hr.mono (by decide)) (by rfl) gI FI.kp bI .nil pass0 (pa_cons (pe_glob (v := .ref a2) (by rfl) KC.g2 rfl) pa_nil)) pe_bl (nomark _)))))))))), ?_⟩
  obtain ⟨n0, cells, hA, hC, hac, _⟩ := id hst
  have hda : DpAll K H [.ref a] [.list [.int (n0 : Int), .list (cells.map PyData.int)]] := .cons (.lst (.inl (.inl hA)) (.cons (.int _) (.cons (.lst (.inl (.inl hC)) (dpa_int cells)) .nil))) .nil
  have he := (env_start (N := ["state", "part_v", "odd", "row", "value_told"]) hda).drop 0
  refine q_spot (i := 0) rfl hst hm (by decide) (by decide) (by decide) (by decide) (fun r1 r2 v1 H1 x1 x2 x3 x4 st1 b1 hv1 => ?_) (by decide) (by decide)
  have bx := spot_of (k := 3) x1 (by omega) (by omega) x3 x4
  have e1 := (he.tk (b1.tk hst) (fzE_none (fzE_none (fzE_none (fzE_none (fzE_none fzE_nil)))))).set (i := 1) hv1
  generalize (((r1 - 3 : Int) : Rat) / ((1 + r2 : Int) : Rat)) = x at *
  have c0 : ∀ {σ H}, EvD K (tC (.ref a0)) σ H (QuD [] [1]) := ed_c fun H1 _ => KC.d0 H1
  have c1 : ∀ {σ H}, EvD K (tC (.ref a1)) σ H (QuD [1] [1]) := ed_c fun H1 _ => KC.d1 H1
  have c2 : ∀ {σ H}, EvD K (tC (.ref a2)) σ H (QuD [0, 1] [1]) := ed_c fun H1 _ => KC.d2 H1
  have fr : ∀ {σ H} (n d : Int), EvD K (tTup (tCons (tC (.int n)) (tCons (tC (.int d)) tNil))) σ H (.tuple [.int n, .int d]) := fun n d => ed_tup (ea_cons (ed_int n) (ea_cons (ed_int d) ea_nil)) (by simp)
  have nl : ∀ {σ H}, EvD K (tTup tNil) σ H (.tuple []) := ed_tup (ea_nil (K := K)) (by simp)
  have t1 : ∀ {σ H te d}, EvD K te σ H d → EvD K (tTup (tCons te tNil)) σ H (.tuple [d]) := fun h => ed_tup (ea_cons h ea_nil) (by simp)
  have t2 : ∀ {σ H ta tb d e}, EvD K ta σ H d → EvD K tb σ H e → EvD K (tTup (tCons ta (tCons tb tNil))) σ H (.tuple [d, e]) := fun h k => ed_tup (ea_cons h (ea_cons k ea_nil)) (by simp)
  have eqq : ∀ A B : List Rat, PyData.eqv (QuD A B) (QuD A B) = true := fun A B => by rw [eqv_qu]; simp
  have eqf : PyData.eqv (FrD x) (FrD x) = true := by rw [eqv_fr]; simp
  have part : EvD K (tTup (tCons (tIf (tTest (tOp rNe (tOp (rIxT K) (tVar 1) (tC (.int 0))) (tC (.int 0)))) (tTup (tCons (tVar 1) tNil)) (tTup tNil)) (tCons (tTup (tCons (tTup (tCons (tC (.int 1)) (tCons (tC (.int 1)) tNil))) tNil)) tNil))) _ H1 (QuD (tr [x]) [1]) :=
    (t2 (d := PoD (tr [x])) (ed_if (eb_neI (ed_ixT (ed_var (i := 1) e1 rfl) (ed_int 0) (d := .int x.num) rfl) (ed_int 0)) (fun hb => (t1 (ed_var (i := 1) e1 rfl)).is (by
      have : x ≠ 0 := fun z => by
        have := num0.mpr z
        simp [this] at hb
      rw [show tr [x] = [x] from tr_eq (tr1 (p := []) this)]
      rfl)) (fun hb => nl.is (by
      have : x = 0 := num0.mp (by simpa using hb)
      rw [this]
      rfl))) (t1 (fr 1 1))).is rfl
  refine q_if (eb_or (eb_ev (ed_neD (ed_call (ea_cons (ed_var (i := 1) e1 rfl) ea_nil) ⟨x, rfl, rfl⟩) part (sh_qu _ _) (sh_qu _ _))) (fun _ => eb_or (eb_ev (ed_neD c0 ((t2 nl (t1 (fr 1 1))).is (d' := QuD [] [1]) rfl) (sh_qu _ _) (sh_qu _ _))) (fun _ => eb_ev (ed_neD c1 ((t2 (t1 (fr 1 1)) (t1 (fr 1 1))).is (d' := QuD [1] [1]) rfl) (sh_qu _ _) (sh_qu _ _))))) (fun hb H2 s2 => ?_) (fun hb H2 s2 => ?_)
  · rw [eqq, eqq, eqq] at hb
    simp at hb
  have e2 := e1.same s2
  have rat : fRAt [QuD [0, 1] [1], FrD x] (.inl (FrD x)) := ⟨[0, 1], [1], x, rfl, row_01.atOk bx (by decide) (by decide), row_1.atOk bx (by decide) (by decide), (row_01.evSl bx (by decide) (by decide)).sz, (row_1.evSl bx (by decide) (by decide)).sz, .inr ⟨by simp only [ev]; grind, by
    congr 1
    congr 1
    simp only [ev]
    grind⟩⟩
  refine q_if (eb_or (eb_ev (ed_neD c2 ((t2 (t2 (fr 0 1) (fr 1 1)) (t1 (fr 1 1))).is (d' := QuD [0, 1] [1]) rfl) (sh_qu _ _) (sh_qu _ _))) (fun _ => eb_or (eb_ev (ed_neD (ed_callX (ea_cons c2 (ea_cons (ed_var (i := 1) e2 rfl) ea_nil)) rat) (ed_var (i := 1) e2 rfl) (sh_fr _) (sh_fr _)))
    (fun _ => eb_ev (ed_neD (ed_call (ea_cons (ed_int 1) (ea_cons c1 (ea_cons c0 ea_nil))) told_nought) (ed_str _) sh_nought sh_nought)))) (fun hb H3 s3 => ?_) (fun hb H3 s3 => ?_)
  · rw [eqq, eqf, show PyData.eqv (.str "nought") (.str "nought") = true by decide +kernel] at hb
    simp at hb
  have e3 := e2.same s3
  have rows := fun (σ : L2.St) => (el_lst (K := K) (σ := σ) (H := H3) (ea_cons nl (ea_cons (t1 (fr 1 2)) (ea_cons (t1 (fr 0 1)) (ea_cons (t2 (fr 1 1) (fr 0 1)) (ea_cons (el_lst (ea_cons (fr 1 1) ea_nil) (by simp)).dd (ea_cons ed_non (ea_cons (t1 (fr 2 4)) (ea_cons (t1 (ed_int 1)) ea_nil)))))))) (by simp)).dd.is (d' := .list rowsD) rfl
  have smr : ∀ d ∈ rowsD, sm2 d = true := by decide +kernel
  have lstb : ∀ {σ H ta tA} {b : Bool} {ds : List PyData}, EvD K ta σ H (.bool b) → EvA K tA σ H ds → EvA K (tCons ta tA) σ H (.bool b :: ds) := fun h k => ea_cons h k
  refine q_if (eb_ev (ed_neD (d := .list [.bool true, .bool true, .bool false, .bool false, .bool false, .bool false, .bool false, .bool false]) ((elc_lst (ds := rowsD) (j := 3) (vs := [3]) (fun _ => true) (fun i => .bool (isPolyD (rowsD[i]?.getD .none))) (rows _) (by decide) (wipe1 3) (fun _ _ _ => rfl) (fun _ _ _ _ _ _ _ => eb_yes) (fun i u d H4 s4 hd hu' _ => ?_)).dd.is ?_)
    ((el_lst (ea_cons (ed_bl true) (ea_cons (ed_bl true) (ea_cons (ed_bl false) (ea_cons (ed_bl false) (ea_cons (ed_bl false) (ea_cons (ed_bl false) (ea_cons (ed_bl false) (ea_cons (ed_bl false) ea_nil)))))))) (by simp)).dd) (by decide +kernel) (by decide +kernel))) (fun hb H4 s4 => ?_) (fun hb H4 s4 => ?_)
  · have e4 := ((env_wipe e3 [3]).same s4).set (i := 3) hu'
    have h2 := sm2_ok (smr d (List.mem_of_getElem? hd))
    refine ed_call (ea_cons (ed_var (i := 3) e4 rfl) ea_nil) ⟨d, rfl, h2.1, h2.2, ?_⟩
    rw [hd]
    rfl
  · rw [gv_all]
    rfl
  · rw [show PyData.eqv (.list [.bool true, .bool true, .bool false, .bool false, .bool false, .bool false, .bool false, .bool false]) (.list [.bool true, .bool true, .bool false, .bool false, .bool false, .bool false, .bool false, .bool false]) = true by decide +kernel] at hb
    cases hb
  have e4 := e3.same s4
  have odds := fun (σ : L2.St) => (el_lst (K := K) (σ := σ) (H := H4) (ea_cons ed_non (ea_cons nl (ea_cons (t2 nl nl) (ea_cons (t2 (t1 (fr 1 1)) (t1 (fr 2 1))) (ea_cons (t2 (t2 (fr 1 1) (fr 1 1)) (t2 (fr 1 1) (fr 1 1))) (ea_cons (el_lst (ea_cons nl (ea_cons (t1 (fr 1 1)) ea_nil)) (by simp)).dd (ea_cons (t2 nl (t2 (fr 0 1) (fr 1 1))) ea_nil))))))) (by simp)).dd.is (d' := .list oddD) rfl
  refine q_set e4 (odds _) fun v5 H5 s5 e5 => ?_
  refine q_ret ((ed_andV (ed_eqI (ed_lenL ((elc_lst (ds := oddD) (j := 4) (vs := [4]) (fun _ => false) (fun _ => .none) (ed_var (i := 2) e5 rfl) (by decide) (wipe1 4) (fun _ _ _ => rfl) (fun i u d H6 s6 hd hu' => ?_) (fun _ _ _ _ _ _ _ hb => by cases hb)).dd)) (ed_int 0)) (fun _ => ed_isB (ed_call (ea_cons c2 ea_nil) unk_true) (ed_bl true))).is (d' := .bool true) ?_) fun v6 H6 s6 hv6 => ?_
  · have e6 := ((env_wipe e5 [4]).same s6).set (i := 4) hu'
    exact (eb_ev (ed_notB (ed_call (ea_cons (ed_var (i := 4) e6 rfl) ea_nil) (odd_false d (List.mem_of_getElem? hd))) (ed_bl false))).is rfl
  · rfl
  · cases hv6
    exact k H6
end
end K11
/-! the law's text. -/
namespace K11
open PySem PySem.Spec PyProof.Rows L2
/-- a def that may be called by its name -/
structure Cl2 (P : Program) (w : World) (K : PySem.W.Frag) (mg : Str → Option Value) (base : Heap) (CX : CXT) (k : Nat) (x : Str) (ps : List Str) (sp : Sp) : Prop where
  ex : ∃ (f : Addr) (fd : FuncData), FnOk P w K mg base CX k f fd ps sp ∧ mg x = some (.ref f) ∧ PySem.W.keepIn K (.ref f) = true ∧ Binds K fd ps []
section
variable {X : Cx} {CX : CXT} {k : Nat} {x : Str} {ps : List Str} {sp : Sp} {E : XK} {p pos : Pos} {e : Expr} {es : List Expr} {t : TA}
theorem pe_cl (C : Cl2 X.prog X.w X.K X.mg X.base CX k x ps sp) (hr : Room k X.A) (hg : Gl X x) (hx : Passes CX X E) (ha : PA X (e :: es) t) (hdb : (x == ("__debug__" : Str)) = false := by decide) (he : starEach (e :: es) X.env = (false, eval e X.env) :: starEach es X.env := by rfl) (hpl : (backTo pos (starEach es X.env)).any (·.1) = false := by rfl) :
    PE X (.Call (.Name x p) (e :: es) [] pos) (tCall sp [] E t) := by
  obtain ⟨f, fd, F, gm, kp, b⟩ := C.ex
  exact pe_call F hr hg gm kp b .nil hx ha hdb he hpl
end
theorem Cl2.mk' {P : Program} {w : World} {K : PySem.W.Frag} {mg : Str → Option Value} {base : Heap} {CX : CXT} {k : Nat} {x q : Str} {ps : List Str} {sp : Sp} {st : Stmt} {f : Addr} {fd : FuncData} (F : Fun K q x st f fd) (G : FnOk P w K mg base CX k f fd ps sp) (g : mg x = some (.ref f)) (b : Binds K fd ps []) : Cl2 P w K mg base CX k x ps sp := ⟨f, fd, G, g, F.kp, b⟩
abbrev sLaw : Stmt := topS 53
abbrev lawN : List Str := ["script", "state", "one", "other", "third", "spot", "factor", "told", "both", "first", "low", "second", "spot_told", "a", "b", "plain", "rows", "due", "row", "k"]
theorem scLaw : FnScope lawN ["script"] (defScope sLaw) := ⟨rfl, rfl, rfl, by decide +kernel, rfl, by decide +kernel, by decide +kernel⟩
/-- all that the law calls -/
structure Calls (P : Program) (w : World) (K : PySem.W.Frag) (mg : Str → Option Value) (base : Heap) (C : Addr) : Prop where
  st : Cl2 P w K mg base CX0 1 "_law_state" ["script"] (spState K)
  po : Cl2 P w K mg base CX0 2 "_law_poly" ["state", "many"] (spPoly K)
  fr : Cl2 P w K mg base CX0 1 "_law_fr" ["above", "below"] (PF K fLFr)
  tk : Cl2 P w K mg base CX0 1 "_law_take" ["state", "most"] spTake
  ap : Cl2 P w K mg base CX0 4 "added_poly" ["one", "other"] (PF K fAdd)
  ls : Cl2 P w K mg base CX0 3 "_law_sum" ["one", "other"] (PF K fLSum)
  pp : Cl2 P w K mg base CX0 4 "product_poly" ["one", "other"] (PF K fMul)
  lp : Cl2 P w K mg base CX0 3 "_law_product" ["one", "other"] (PF K fLProduct)
  sp : Cl2 P w K mg base CX0 4 "scaled_poly" ["factor", "one"] (PF K fScale)
  lt : Cl2 P w K mg base CX0 3 "_law_times" ["one", "factor"] (PF K fLTimes)
  pa : Cl2 P w K mg base CX0 4 "poly_at" ["one", "place"] (PF K fAt)
  la : Cl2 P w K mg base CX0 3 "_law_at" ["one", "spot"] (PF K fLAt)
  tr : Cl2 P w K mg base CX0 1 "trimmed" ["row"] (PF K fTrim)
  dp : Cl2 P w K mg base CX0 4 "divided_poly" ["one", "other"] (PF K fDiv)
  cp : Cl2 P w K mg base CX0 5 "common_poly" ["one", "other"] (PF K fCom)
  to : Cl2 P w K mg base CX0 8 "_law_told" ["call", "one", "other"] (PF K fTold)
  ed : Cl2 P w K mg base CX0 9 "_law_edges" ["state"] spEdges
  ra : Cl2 P w K mg base (L2.CX P w) 6 "ratio" ["above", "below"] (PX K C fRatio)
  gd : Cl2 P w K mg base CX0 6 "_law_good" ["one"] (PF K fGood)
  ir : Cl2 P w K mg base CX0 7 "is_ratio" ["value"] (PF K fIsRatio)
  rd : Cl2 P w K mg base CX0 4 "_law_read" ["one", "spot"] (PF K fLRead)
  lm : Cl2 P w K mg base CX0 2 "_law_mul" ["one", "other"] (PF K fLMul)
  lad : Cl2 P w K mg base CX0 2 "_law_add" ["one", "other"] (PF K fLAdd)
  lsb : Cl2 P w K mg base CX0 3 "_law_sub" ["one", "other"] (PF K fLSub)
  ad : Cl2 P w K mg base CX0 7 "added" ["one", "other"] (PF K fAdded)
  le : Cl2 P w K mg base CX0 8 "less" ["one", "other"] (PF K fLess)
  mu : Cl2 P w K mg base CX0 7 "multiplied" ["one", "other"] (PF K fMult)
  dv : Cl2 P w K mg base (L2.CX P w) 7 "divided" ["one", "other"] (PX K C fDivd)
  de : Cl2 P w K mg base CX0 4 "derived" ["one"] (PF K fDer)
  sl : Cl2 P w K mg base CX0 7 "slope" ["one"] (PF K fSlope)
  mLen : mg "len" = none
  mList : mg "list" = none
  mTup : mg "tuple" = none
  mRange : mg "range" = none
def spLaw (K : PySem.W.Frag) : Sp := fun vs H Q _ => ∃ (v : V) (ns : List Int), vs = [v] ∧ Dp K H v (.list (ns.map PyData.int)) ∧ ∀ H', Q (.bl true) H'
theorem rat2_mul {p q t P Q : List Rat} (h : Rat2 p q P Q) : Rat2 (Prd p t) (Prd q t) P Q := ⟨h.1, fun x => by
  rw [ev_prd, ev_prd]
  have := h.2 x
  grind⟩
theorem eqp (l : List Rat) : PyData.eqv (PoD l) (PoD l) = true := by rw [eqv_po]; simp
theorem eqf (x : Rat) : PyData.eqv (FrD x) (FrD x) = true := by rw [eqv_fr]; simp
theorem eqq (A B : List Rat) : PyData.eqv (QuD A B) (QuD A B) = true := by rw [eqv_qu]; simp
theorem fz_qu (A B : List Rat) : fz (QuD A B) = true := by
  show (fz (PoD A) && (fz (PoD B) && true)) = true
  rw [fz_po, fz_po]
  rfl
theorem sm3_qu {A B : List Rat} (h : A.length ≤ 500) (k : B.length ≤ 500) : sm3 (QuD A B) = true := by
  show (decide (2 ≤ 500) && (sm2 (PoD A) && (sm2 (PoD B) && true))) = true
  rw [sm2_po h, sm2_po k]
  rfl
theorem fzE_rep : ∀ n : Nat, fzE (List.replicate n none)
  | 0 => fzE_nil
  | n + 1 => fzE_none (fzE_rep n)
theorem one_sl : SlA [1] := one_row.slA (by decide) (by decide)
/-- between the law's rows: the names' values, the state -/
def Mid (K : PySem.W.Frag) (a c : Addr) (S : List (Option PyData)) (σ : L2.St) (H : Hp) : Prop := Env K H σ S ∧ σ[1]? = some (some (.ref a)) ∧ StOk H a c 40
theorem Mid.same {K : PySem.W.Frag} {a c : Addr} {S : List (Option PyData)} {σ : L2.St} {H H' : Hp} (h : Mid K a c S σ H) (e : Same H H') : Mid K a c S σ H' := ⟨h.1.same e, h.2.1, h.2.2.same e⟩
theorem Mid.set {K : PySem.W.Frag} {a c : Addr} {S : List (Option PyData)} {σ : L2.St} {H : Hp} {i : Nat} {v : V} {d : PyData} (h : Mid K a c S σ H) (hv : Dp K H v d) (hi : 1 ≠ i := by decide) : Mid K a c (S.set i (some d)) (σ.set i (some v)) H := ⟨h.1.set hv, by rw [List.getElem?_set_ne (by omega)]; exact h.2.1, h.2.2⟩
theorem Mid.drop {K : PySem.W.Frag} {a c : Addr} {S : List (Option PyData)} {σ : L2.St} {H : Hp} (h : Mid K a c S σ H) (i : Nat) : Mid K a c (S.set i none) σ H := ⟨h.1.drop i, h.2.1, h.2.2⟩
section
variable {K : PySem.W.Frag} {a c : Addr} {S : List (Option PyData)} {σ : L2.St} {H : Hp} {D : Ends} {tz : TS} {i : Nat} {te : TE} {d : PyData}
theorem m_set (h : Mid K a c S σ H) (he : EvD K te σ H d) (k : ∀ σ' H', Mid K a c (S.set i (some d)) σ' H' → tz D σ' H') (hi : 1 ≠ i := by decide) : tSeq (tAsg te (gName i)) tz D σ H :=
  he H (Same.refl H) _ fun v H' s hv => k _ H' ((h.same s).set hv hi)
/-- if ..: return .., the test false -/
theorem m_no {t1 : TS} {t : TT} {b : Bool} (h : Mid K a c S σ H) (ht : EvB t σ H b) (hb : b = false) (k : ∀ H', Mid K a c S σ H' → tz D σ H') : tSeq (tIfS t t1 tNext) tz D σ H :=
  q_if ht (fun z => by rw [hb] at z; cases z) (fun _ H' s => k H' (h.same s))
theorem m_nol {t1 : TS} {t : TT} {b : Bool} (h : Mid K a c S σ H) (ht : EvB t σ H b) (hb : b = false) (k : ∀ H', Mid K a c S σ H' → D.nx σ H') : tIfS t t1 tNext D σ H :=
  q_ifl ht (fun z => by rw [hb] at z; cases z) (fun _ H' s => k H' (h.same s))
end
theorem AtSl.ok {p : List Rat} {x : Rat} (h : AtSl p x) : AtOk p x := by
  obtain ⟨s, a, b, c, h1, h2, h3, h4, h5⟩ := h
  exact ⟨s, a, b, c, h1, h2, h3, h4, by omega⟩
theorem inv_fr {v : Rat} (h : Sl v) (v0 : v ≠ 0) : fLFr [.int (v.den : Int), .int v.num] (FrD (1 / v)) := by
  have up : (990 : Nat) ≤ 1990 := by decide
  have l1 : v.den < 2 ^ 1990 := Nat.lt_of_lt_of_le h.2 (Nat.pow_le_pow_right (by decide) up)
  have l2 : v.num.natAbs < 2 ^ 1990 := Nat.lt_of_lt_of_le h.1 (Nat.pow_le_pow_right (by decide) up)
  have e : (((v.den : Int) : Rat)) / ((v.num : Int) : Rat) = 1 / v := by
    have := fr_self' v
    have := den_ne v
    rw [fr_self' v]
    generalize ((v.den : Int) : Rat) = y at *
    grind
  exact ⟨_, _, rfl, fun z => v0 (num0.mp z), by rw [Int.natAbs_natCast]; exact l1, l2, by rw [e]⟩
section
variable {K : PySem.W.Frag} {a c : Addr} {S : List (Option PyData)} {σ : L2.St} {H : Hp} {D : Ends} {tz : TS} {i : Nat} {te : TE} {d : PyData}
theorem m_setS (h : Mid K a c S σ H) (he : EvD K te σ H d) (k : ∀ σ' H', Same H H' → Mid K a c (S.set i (some d)) σ' H' → tz D σ' H') (hi : 1 ≠ i := by decide) : tSeq (tAsg te (gName i)) tz D σ H :=
  he H (Same.refl H) _ fun v H' s hv => k _ H' s ((h.same s).set hv hi)
theorem m_noS {t1 : TS} {t : TT} {b : Bool} (h : Mid K a c S σ H) (ht : EvB t σ H b) (hb : b = false) (k : ∀ H', Same H H' → Mid K a c S σ H' → tz D σ H') : tSeq (tIfS t t1 tNext) tz D σ H :=
  q_if ht (fun z => by rw [hb] at z; cases z) (fun _ H' s => k H' s (h.same s))
theorem m_nolS {t1 : TS} {t : TT} {b : Bool} (h : Mid K a c S σ H) (ht : EvB t σ H b) (hb : b = false) (k : ∀ H', Same H H' → Mid K a c S σ H' → D.nx σ H') : tIfS t t1 tNext D σ H :=
  q_ifl ht (fun z => by rw [hb] at z; cases z) (fun _ H' s => k H' s (h.same s))
end
/-- a quotient with its value -/
def Ent (y : Rat) (d : PyData) : Prop := ∃ R S : List Rat, d = .tuple [QuD R S, FrD (ev R y / ev S y)] ∧ Rd1 R S ∧ ev S y ≠ 0
theorem half_fr : PyData.tuple [.int 1, .int 2] = FrD (1 / 2) := by
  unfold FrD
  rw [show (1 / 2 : Rat).num = 1 by decide +kernel, show (1 / 2 : Rat).den = 2 by decide +kernel]
  rfl
theorem half_one : Row (1 / 2) 0 1 1 [1] := ⟨fun _ => by decide, by decide +kernel, ⟨by decide +kernel, by decide +kernel⟩, fun k => by
  cases k with
  | zero => exact ⟨2, by rw [cf_zero]; decide +kernel, by decide⟩
  | succ k => exact ⟨0, by rw [cf_succ, cf_nil]; simp, by decide⟩⟩
theorem m_par {K : PySem.W.Frag} {a c : Addr} {S : List (Option PyData)} {σ : L2.St} {H : Hp} {D : Ends} {tz : TS} {i j : Nat} {ta tb : TE} {d e : PyData} (h : Mid K a c S σ H) (ha : EvD K ta σ H d) (hb : EvD K tb σ H e) (k : ∀ σ' H', Same H H' → Mid K a c ((S.set i (some d)).set j (some e)) σ' H' → tz D σ' H') (hi : 1 ≠ i := by decide) (hj : 1 ≠ j := by decide) :
    tSeq (tPar i j (tCons ta (tCons tb tNil))) tz D σ H := ha H (Same.refl H) _ fun v H2 s a2 => hb H2 s _ fun w H3 s2 b2 =>
  ⟨v, w, rfl, k _ H3 (s.trans s2) (((h.same (s.trans s2)).set (dp_same s2 a2) hi).set b2 hj)⟩
theorem q_forLl {K : PySem.W.Frag} {H : Hp} {σ : L2.St} {D : Ends} {t1 : TS} {te : TE} {ds : List PyData} {g : TG} (h : EvD K te σ H (.list ds)) (Pv : Hp → Nat → L2.St → Hp → Prop) (h0 : ∀ H1, Same H H1 → Pv H1 0 σ H1) (hk : ∀ H1 i σ' H', Pv H1 i σ' H' → Same H1 H')
    (hs : ∀ H1 (i : Nat) x d σ' H', ds[i]? = some d → Dp K H' x d → Pv H1 i σ' H' → g x σ' H' fun σ2 H2 => t1 { D with nx := Pv H1 (i + 1), ct := Pv H1 (i + 1), bk := D.nx } σ2 H2) (hd : ∀ H1 σ' H', Pv H1 ds.length σ' H' → D.nx σ' H') : tFor (iList K te) g t1 D σ H :=
  h H (Same.refl H) _ fun v H1 s1 a => by
    cases a with
    | lst hx hd' =>
      have hl := dpa_len hd'
      refine ⟨_, rfl, ⟨_, hx⟩, ?_⟩
      refine for_list (D := D) (Pv H1) (h0 H1 s1) (fun i σ' H' _ p => (hk _ _ _ _ p).seq hx) (fun i x σ' H' hi p => ?_) (fun σ' H' p => hd H1 σ' H' (hl ▸ p))
      obtain ⟨d, hd1, hd2⟩ := dpa_of (dpa_same (hk _ _ _ _ p) hd') hi
      exact hs H1 i x d σ' H' hd1 hd2 p
theorem sh_rd (A B : List Rat) (x : Rat) : SeqAt.shaped (rdD A B x) = true := by
  unfold rdD
  split
  · exact sh_nought
  · exact sh_fr _
theorem eqrd (A B : List Rat) (x : Rat) : PyData.eqv (rdD A B x) (rdD A B x) = true := by
  unfold rdD
  split
  · decide +kernel
  · exact eqf _
/-- a shortened quotient's value -/
theorem rat_val {A B R S : List Rat} {y : Rat} (h : Rat2 A B R S) (hB : ev B y ≠ 0) : ev S y ≠ 0 ∧ ev R y / ev S y = ev A y / ev B y := by
  obtain ⟨z, hz⟩ : Dv S B := red_dv h.1.co h.2
  have hS : ev S y ≠ 0 := fun e => hB (by rw [hz, e]; grind)
  refine ⟨hS, ?_⟩
  have := h.2 y
  grind
section
variable {P : Program} {w : World} {K : PySem.W.Frag} {mg : Str → Option Value} {base : Heap}
theorem ok_law {C : Addr} {f : Addr} {fd : FuncData} (F : Fun K "law" "law" sLaw f fd) (T : Calls P w K mg base C) : FnOk P w K mg base CX0 10 f fd ["script"] (spLaw K) := by
  refine F.ok scLaw (fun vs H Q E h => by obtain ⟨_, _, rfl, _⟩ := h; rfl) (fun cdv A outer s H vs Q E hr h => ?_)
  obtain ⟨v, ns, rfl, hd, k⟩ := h
  have hu := hr.units
  have r1 : Room 1 _ := hr.mono (by decide)
  have r2 : Room 2 _ := hr.mono (by decide)
  have r3 : Room 3 _ := hr.mono (by decide)
  have r4 : Room 4 _ := hr.mono (by decide)
  have r5 : Room 5 _ := hr.mono (by decide)
  have r6 : Room 6 _ := hr.mono (by decide)
  have r7 : Room 7 _ := hr.mono (by decide)
  have r8 : Room 8 _ := hr.mono (by decide)
  refine ⟨_, pss_cons (ps_set (i := 1) scLaw.nd rfl (.inl rfl) (pe_cl T.st r1 (by rfl) pass0 (pa_cons (pv 0) pa_nil)))
    (pss_cons (ps_asg (pe_tup (pa_cons (pe_cl T.po r2 (by rfl) pass0 (pa_cons (pv 1) (pa_cons pe_int pa_nil))) (pa_cons (pe_cl T.po r2 (by rfl) pass0 (pa_cons (pv 1) (pa_cons pe_int pa_nil))) (pa_cons (pe_cl T.po r2 (by rfl) pass0 (pa_cons (pv 1) (pa_cons pe_int pa_nil))) pa_nil))))
      (pg_tup rfl (pgs_cons (pg_name (i := 2) scLaw.nd rfl (.inr rfl)) (pgs_cons (pg_name (i := 3) scLaw.nd rfl (.inl rfl)) (pgs_cons (pg_name (i := 4) scLaw.nd rfl (.inl rfl)) pgs_nil)))))
    (pss_cons (ps_set (i := 5) scLaw.nd rfl (.inl rfl) (pe_cl T.fr r1 (by rfl) pass0 (pa_cons (pe_op op_sub (pe_cl T.tk r1 (by rfl) pass0 (pa_cons (pv 1) (pa_cons pe_int pa_nil))) pe_int) (pa_cons (pe_op op_add pe_int (pe_cl T.tk r1 (by rfl) pass0 (pa_cons (pv 1) (pa_cons pe_int pa_nil)))) pa_nil))))
    (pss_cons (ps_if (PW.pt (pw_or (pt_cmpR (op_neD hu) (pe_cl T.ap r4 (by rfl) pass0 (pa_cons (pv 2) (pa_cons (pv 3) pa_nil))) (pe_cl T.ls r3 (by rfl) pass0 (pa_cons (pv 2) (pa_cons (pv 3) pa_nil))) (nomark _))
      (pw_or1 (pt_cmpR (op_neD hu) (pe_cl T.pp r4 (by rfl) pass0 (pa_cons (pv 2) (pa_cons (pv 3) pa_nil))) (pe_cl T.lp r3 (by rfl) pass0 (pa_cons (pv 2) (pa_cons (pv 3) pa_nil))) (nomark _))))) (pss_one (ps_ret pe_bl)) pss_nil)
    (pss_cons (ps_set (i := 6) scLaw.nd rfl (.inl rfl) (pe_cl T.fr r1 (by rfl) pass0 (pa_cons (pe_op op_sub (pe_cl T.tk r1 (by rfl) pass0 (pa_cons (pv 1) (pa_cons pe_int pa_nil))) pe_int) (pa_cons (pe_op op_add pe_int (pe_cl T.tk r1 (by rfl) pass0 (pa_cons (pv 1) (pa_cons pe_int pa_nil)))) pa_nil))))
    (pss_cons (ps_if (PW.pt (pw_or (pt_cmpR (op_neD hu) (pe_cl T.sp r4 (by rfl) pass0 (pa_cons (pv 6) (pa_cons (pv 2) pa_nil))) (pe_cl T.lt r3 (by rfl) pass0 (pa_cons (pv 2) (pa_cons (pv 6) pa_nil))) (nomark _))
      (pw_or (pt_cmpR (op_neD hu) (pe_cl T.pa r4 (by rfl) pass0 (pa_cons (pv 2) (pa_cons (pv 5) pa_nil))) (pe_cl T.la r3 (by rfl) pass0 (pa_cons (pv 2) (pa_cons (pv 5) pa_nil))) (nomark _))
      (pw_or1 (pt_cmpR (op_neD hu) (pe_cl T.tr r1 (by rfl) pass0 (pa_cons (pe_op op_cat (pe_callTy call_list_of (by rfl) T.mList (by decide +kernel) (pa_cons (pv 2) pa_nil)) (pe_op op_rep (pe_lst (pa_cons (pe_tup (pa_cons pe_int (pa_cons pe_int pa_nil))) pa_nil)) pe_int)) pa_nil)) (pv 2) (nomark _)))))) (pss_one (ps_ret pe_bl)) pss_nil)
    (pss_cons (ps_if (pt_cmpR op_gt (pe_callB call_len_seq (by rfl) T.mLen boot_len (pa_cons (pv 3) pa_nil)) pe_int (nomark _))
      (pss_cons (ps_set (i := 7) scLaw.nd rfl (.inl rfl) (pe_cl T.dp r4 (by rfl) pass0 (pa_cons (pv 2) (pa_cons (pv 3) pa_nil))))
      (pss_one (ps_if (PW.pt (pw_or (pt_cmpR (op_neD hu) (pe_cl T.ls r3 (by rfl) pass0 (pa_cons (pe_cl T.lp r3 (by rfl) pass0 (pa_cons (pe_ix ix_tup (pv 7) pe_int (fun _ _ => rfl)) (pa_cons (pv 3) pa_nil))) (pa_cons (pe_ix ix_tup (pv 7) pe_int (fun _ _ => rfl)) pa_nil))) (pv 2) (nomark _))
        (pw_or1 (pt_cmpR op_ge (pe_callB call_len_seq (by rfl) T.mLen boot_len (pa_cons (pe_ix ix_tup (pv 7) pe_int (fun _ _ => rfl)) pa_nil)) (pe_callB call_len_seq (by rfl) T.mLen boot_len (pa_cons (pv 3) pa_nil)) (nomark _))))) (pss_one (ps_ret pe_bl)) pss_nil))) pss_nil)
    (pss_cons (ps_set (i := 8) scLaw.nd rfl (.inr rfl) (pe_cl T.cp r5 (by rfl) pass0 (pa_cons (pe_cl T.lp r3 (by rfl) pass0 (pa_cons (pv 2) (pa_cons (pv 4) pa_nil))) (pa_cons (pe_cl T.lp r3 (by rfl) pass0 (pa_cons (pv 3) (pa_cons (pv 4) pa_nil))) pa_nil))))
    (pss_cons (ps_if (PW.pt (pw_or (pt_cmpR op_eq (pe_op op_add (pe_callB call_len_seq (by rfl) T.mLen boot_len (pa_cons (pv 2) pa_nil)) (pe_callB call_len_seq (by rfl) T.mLen boot_len (pa_cons (pv 3) pa_nil))) pe_int (nomark _)) (pw_or1 (pt_cmpR op_eq (pe_callB call_len_seq (by rfl) T.mLen boot_len (pa_cons (pv 4) pa_nil)) pe_int (nomark _)))))
      (pss_one (ps_if (pt_cmpR (op_neD hu) (pv 8) (pe_tup pa_nil) (nomark _)) (pss_one (ps_ret pe_bl)) pss_nil))
      (pss_cons (ps_if (PW.pt (pw_or (pt_cmpR (op_neD hu) (pe_ix ix_tup (pv 8) (pe_un un_neg pe_int) (fun _ _ => rfl)) (pe_tup (pa_cons pe_int (pa_cons pe_int pa_nil))) (nomark _))
        (pw_or1 (pt_cmpR op_gt (pe_callB call_len_seq (by rfl) T.mLen boot_len (pa_cons (pe_lc (own := [("row", 18)]) (g := gName 18) rfl scLaw.nd (pi_tup (pe_tup (pa_cons (pe_cl T.lp r3 (by rfl) pass0 (pa_cons (pv 2) (pa_cons (pv 4) pa_nil))) (pa_cons (pe_cl T.lp r3 (by rfl) pass0 (pa_cons (pv 3) (pa_cons (pv 4) pa_nil))) pa_nil)))) (blkOk_by (N := lawN) (sc := defScope sLaw) (by decide +kernel)) (fun _ _ _ _ _ => pg_name (i := 18) scLaw.nd rfl (.inl rfl))
          (fun _ _ _ _ _ => pts_one (pt_cmpR (r := rNeD K) (op_neD hu) (pe_ix (r := rIxT K) ix_tup (pe_cl T.dp r4 (by rfl) pass0 (pa_cons (pv 18) (pa_cons (pv 8) pa_nil))) pe_int (fun _ _ => rfl)) (pe_tup pa_nil) (nomark _))) (fun _ _ _ _ _ => pv 18)) pa_nil)) pe_int (nomark _))))) (pss_one (ps_ret pe_bl)) pss_nil)
      (pss_one (ps_if (pt_cmpR (op_neD hu) (pe_ix ix_tup (pe_cl T.dp r4 (by rfl) pass0 (pa_cons (pv 8) (pa_cons (pv 4) pa_nil))) pe_int (fun _ _ => rfl)) (pe_tup pa_nil) (nomark _)) (pss_one (ps_ret pe_bl)) pss_nil))))
    (pss_cons (ps_if (pt_cmpR op_eq (pe_callB call_len_seq (by rfl) T.mLen boot_len (pa_cons (pv 3) pa_nil)) pe_int (nomark _)) (pss_one (ps_ret (pe_and (pe_cmpR (op_eqD hu) (pe_cl T.to r8 (by rfl) pass0 (pa_cons pe_int (pa_cons (pv 2) (pa_cons (pv 3) pa_nil)))) pe_str (nomark _)) (pe_one (pe_cl T.ed hr (by rfl) pass0 (pa_cons (pv 1) pa_nil)))))) pss_nil)
    (pss_cons (ps_set (i := 9) scLaw.nd rfl (.inl rfl) (pe_cl T.ra r6 (by rfl) passL (pa_cons (pe_ifExp (pt_cmpR op_gt (pe_callB call_len_seq (by rfl) T.mLen boot_len (pa_cons (pv 4) pa_nil)) pe_int (nomark _)) (pe_cl T.lp r3 (by rfl) pass0 (pa_cons (pv 2) (pa_cons (pv 4) pa_nil))) (pv 2)) (pa_cons (pe_ifExp (pt_cmpR op_gt (pe_callB call_len_seq (by rfl) T.mLen boot_len (pa_cons (pv 4) pa_nil)) pe_int (nomark _)) (pe_cl T.lp r3 (by rfl) pass0 (pa_cons (pv 3) (pa_cons (pv 4) pa_nil))) (pv 3)) pa_nil))))
    (pss_cons (ps_set (i := 10) scLaw.nd rfl (.inl rfl) (pe_ifExp (pt_cmpR op_gt (pe_callB call_len_seq (by rfl) T.mLen boot_len (pa_cons (pv 4) pa_nil)) pe_int (nomark _)) (pv 4) (pv 3)))
    (pss_cons (ps_set (i := 11) scLaw.nd rfl (.inl rfl) (pe_cl T.ra r6 (by rfl) passL (pa_cons (pe_cl T.ls r3 (by rfl) pass0 (pa_cons (pv 2) (pa_cons (pe_tup (pa_cons (pe_tup (pa_cons pe_int (pa_cons pe_int pa_nil))) pa_nil)) pa_nil))) (pa_cons (pv 10) pa_nil))))
    (pss_cons (ps_if (PW.pt (pw_or (pt_not (pt_val (pe_cl T.gd r6 (by rfl) pass0 (pa_cons (pv 9) pa_nil)))) (pw_or (pt_not (pt_val (pe_cl T.gd r6 (by rfl) pass0 (pa_cons (pv 11) pa_nil)))) (pw_or (pt_cmpR op_notBl (pe_cl T.ir r7 (by rfl) pass0 (pa_cons (pv 9) pa_nil)) pe_bl (nomark _)) (pw_or1 (pt_cmpR (op_neD hu) (pv 9) (pe_cl T.ra r6 (by rfl) passL (pa_cons (pv 2) (pa_cons (pv 3) pa_nil))) (nomark _))))))) (pss_one (ps_ret pe_bl)) pss_nil)
    (pss_cons (ps_for PassesOwn.never rfl (pi_tup (pe_tup (pa_cons (pv 5) (pa_cons (pe_tup (pa_cons pe_int (pa_cons pe_int pa_nil))) (pa_cons (pe_tup (pa_cons pe_int (pa_cons pe_int pa_nil))) pa_nil))))) (pg_name (i := 12) scLaw.nd rfl (.inl rfl))
      (pss_cons (ps_par (i := 13) (j := 14) rfl scLaw.nd rfl rfl (by decide) rfl rfl (pa_cons (pe_cl T.rd r4 (by rfl) pass0 (pa_cons (pv 9) (pa_cons (pv 12) pa_nil))) (pa_cons (pe_cl T.rd r4 (by rfl) pass0 (pa_cons (pv 11) (pa_cons (pv 12) pa_nil))) pa_nil)) (by rfl))
      (pss_cons (ps_if (pt_cmpR (op_neD hu) (pe_cl T.to r8 (by rfl) pass0 (pa_cons pe_int (pa_cons (pv 9) (pa_cons (pv 12) pa_nil)))) (pv 13) (nomark _)) (pss_one (ps_ret pe_bl)) pss_nil)
      (pss_cons (ps_set (i := 15) scLaw.nd rfl (.inl rfl) (pe_cl T.la r3 (by rfl) pass0 (pa_cons (pv 3) (pa_cons (pv 12) pa_nil))))
      (pss_cons (ps_if (PW.pt (pw_and (pt_cmpR op_ne (pe_ix ix_tup (pv 15) pe_int (fun _ _ => rfl)) pe_int (nomark _)) (pw_and1 (pt_cmpR (op_neD hu) (pv 13) (pe_cl T.lm r2 (by rfl) pass0 (pa_cons (pe_cl T.la r3 (by rfl) pass0 (pa_cons (pv 2) (pa_cons (pv 12) pa_nil))) (pa_cons (pe_cl T.fr r1 (by rfl) pass0 (pa_cons (pe_ix ix_tup (pv 15) pe_int (fun _ _ => rfl)) (pa_cons (pe_ix ix_tup (pv 15) pe_int (fun _ _ => rfl)) pa_nil))) pa_nil))) (nomark _))))) (pss_one (ps_ret pe_bl)) pss_nil)
      (pss_cons (ps_if (PW.pt (pw_or (pt_cmpR (op_eqD hu) (pv 13) pe_str (nomark _)) (pw_or1 (pt_cmpR (op_eqD hu) (pv 14) pe_str (nomark _))))) (pss_one ps_continue) pss_nil)
      (pss_cons (ps_set (i := 16) scLaw.nd rfl (.inl rfl) (pe_lst (pa_cons (pe_tup (pa_cons (pe_cl T.ad r7 (by rfl) pass0 (pa_cons (pv 9) (pa_cons (pv 11) pa_nil))) (pa_cons (pe_cl T.lad r2 (by rfl) pass0 (pa_cons (pv 13) (pa_cons (pv 14) pa_nil))) pa_nil)))
        (pa_cons (pe_tup (pa_cons (pe_cl T.le r8 (by rfl) pass0 (pa_cons (pv 9) (pa_cons (pv 11) pa_nil))) (pa_cons (pe_cl T.lsb r3 (by rfl) pass0 (pa_cons (pv 13) (pa_cons (pv 14) pa_nil))) pa_nil)))
        (pa_cons (pe_tup (pa_cons (pe_cl T.mu r7 (by rfl) pass0 (pa_cons (pv 9) (pa_cons (pv 11) pa_nil))) (pa_cons (pe_cl T.lm r2 (by rfl) pass0 (pa_cons (pv 13) (pa_cons (pv 14) pa_nil))) pa_nil))) pa_nil)))))
      (pss_cons (ps_if (pt_cmpR op_ne (pe_ix ix_tup (pv 14) pe_int (fun _ _ => rfl)) pe_int (nomark _)) (pss_one (ps_expr (pe_bm PySem.F.plainAttrs_list PySem.F.slot_list_append PySem.F.type_list_append mt_append (pv 16) (pa_cons (pe_tup (pa_cons (pe_cl T.dv r7 (by rfl) passL (pa_cons (pv 9) (pa_cons (pv 11) pa_nil)))
        (pa_cons (pe_cl T.lm r2 (by rfl) pass0 (pa_cons (pv 13) (pa_cons (pe_cl T.fr r1 (by rfl) pass0 (pa_cons (pe_ix ix_tup (pv 14) pe_int (fun _ _ => rfl)) (pa_cons (pe_ix ix_tup (pv 14) pe_int (fun _ _ => rfl)) pa_nil))) pa_nil))) pa_nil))) pa_nil)))) pss_nil)
      (pss_one (ps_for PassesOwn.never rfl (pi_list (pv 16)) (pg_tup rfl (pgs_cons (pg_name (i := 7) scLaw.nd rfl (.inl rfl)) (pgs_cons (pg_name (i := 17) scLaw.nd rfl (.inl rfl)) pgs_nil)))
        (pss_one (ps_if (PW.pt (pw_or (pt_not (pt_val (pe_cl T.gd r6 (by rfl) pass0 (pa_cons (pv 7) pa_nil)))) (pw_or1 (pt_cmpR (op_neD hu) (pe_cl T.rd r4 (by rfl) pass0 (pa_cons (pv 7) (pa_cons (pv 12) pa_nil))) (pv 17) (nomark _))))) (pss_one (ps_ret pe_bl)) pss_nil))))))))))))
    (pss_cons (ps_if (PW.pt (pw_and (pt_cmpR (op_eqD hu) (pe_ix ix_tup (pv 11) pe_int (fun _ _ => rfl)) (pe_tup pa_nil) (nomark _)) (pw_and1 (pt_cmpR (op_neD hu) (pe_cl T.to r8 (by rfl) pass0 (pa_cons pe_int (pa_cons (pv 9) (pa_cons (pv 11) pa_nil)))) pe_str (nomark _))))) (pss_one (ps_ret pe_bl)) pss_nil)
    (pss_cons (ps_if (pt_cmpR (op_neD hu) (pe_cl T.de r4 (by rfl) pass0 (pa_cons (pv 2) pa_nil)) (pe_callTy call_tuple_of (by rfl) T.mTup (by decide +kernel) (pa_cons (pe_lc (own := [("k", 19)]) (g := gName 19) (tt := tYes) rfl scLaw.nd (pi_range2 (by rfl) T.mRange (pa_cons pe_int (pa_cons (pe_callB call_len_seq (by rfl) T.mLen boot_len (pa_cons (pv 2) pa_nil)) pa_nil))) (blkOk_by (N := lawN) (sc := defScope sLaw) (by decide +kernel)) (fun _ _ _ _ _ => pg_name (i := 19) scLaw.nd rfl (.inl rfl)) (fun _ _ _ _ _ => pts_nil)
      (fun _ _ _ _ _ => pe_cl T.lm r2 (by rfl) pass0 (pa_cons (pe_ix (r := rIxT K) ix_tup (pv 2) (pv 19) (fun _ _ => rfl)) (pa_cons (pe_tup (pa_cons (pv 19) (pa_cons pe_int pa_nil))) pa_nil)))) pa_nil)) (nomark _)) (pss_one (ps_ret pe_bl)) pss_nil)
    (pss_cons (ps_set (i := 17) scLaw.nd rfl (.inl rfl) (pe_cl T.dv r7 (by rfl) passL (pa_cons (pe_cl T.le r8 (by rfl) pass0 (pa_cons (pe_tup (pa_cons (pe_cl T.de r4 (by rfl) pass0 (pa_cons (pe_ix ix_tup (pv 9) pe_int (fun _ _ => rfl)) pa_nil)) (pa_cons (pe_tup (pa_cons (pe_tup (pa_cons pe_int (pa_cons pe_int pa_nil))) pa_nil)) pa_nil)))
        (pa_cons (pe_cl T.mu r7 (by rfl) pass0 (pa_cons (pv 9) (pa_cons (pe_tup (pa_cons (pe_cl T.de r4 (by rfl) pass0 (pa_cons (pe_ix ix_tup (pv 9) pe_int (fun _ _ => rfl)) pa_nil)) (pa_cons (pe_tup (pa_cons (pe_tup (pa_cons pe_int (pa_cons pe_int pa_nil))) pa_nil)) pa_nil))) pa_nil))) pa_nil)))
        (pa_cons (pe_tup (pa_cons (pe_ix ix_tup (pv 9) pe_int (fun _ _ => rfl)) (pa_cons (pe_tup (pa_cons (pe_tup (pa_cons pe_int (pa_cons pe_int pa_nil))) pa_nil)) pa_nil))) pa_nil))))
    (pss_one (ps_ret (pe_and (pe_cmpR (op_eqD hu) (pe_cl T.sl r7 (by rfl) pass0 (pa_cons (pv 9) pa_nil)) (pv 17) (nomark _)) (pe_one (pe_cl T.ed hr (by rfl) pass0 (pa_cons (pv 1) pa_nil))))))))))))))))))))))), ?_⟩
  have he := env_start (N := lawN) (K := K) (H := H) (vs := [v]) (ds := [.list (ns.map PyData.int)]) (.cons hd .nil)
  -- the state
  refine ⟨v, rfl, v, ns, rfl, hd, fun a c H1 st1 s1 => ?_⟩
  show tSeq _ _ _ _ _
  have e1 := ((he.same s1).put (i := 1) (some (V.ref a))).drop 0
  have hσ1 : ((L2.start lawN [v]).set 1 (some (V.ref a)))[1]? = some (some (.ref a)) := rfl
  generalize (L2.start lawN [v]).set 1 (some (V.ref a)) = σ1 at *
  -- the polynomials
  refine ⟨_, hσ1, a, c, 0, 4, rfl, st1, by decide, by decide, by decide, fun p v2 H2 dp st2 b2 hv2 => ⟨_, hσ1, a, c, 11, 3, rfl, st2, by decide, by decide, by decide, fun q v3 H3 dq st3 b3 hv3 => ⟨_, hσ1, a, c, 22, 3, rfl, st3, by decide, by decide, by decide, fun t v4 H4 dt st4 b4 hv4 => ⟨by show 3 ≤ sizeLine; decide, fun pp hpp => ?_⟩⟩⟩⟩
  have s5 := same_upd (o := HO.tup [v2, v3, v4]) hpp
  refine ⟨pp, [v2, v3, v4], rfl, .inl (.inl upd_same), rfl, v2, [v3, v4], rfl, v3, [v4], rfl, v4, [], rfl, rfl, ?_⟩
  show tSeq _ _ _ _ _
  have k12 := b2.tk (K := K) st1
  have k23 := b3.tk (K := K) st2
  have k34 := b4.tk (K := K) st3
  have k45 := TK.same (K := K) s5
  have e5 := (((e1.tk (k12.trans (k23.trans (k34.trans k45))) (fzE_rep 20)).set (i := 2) (dp_tk (k23.trans (k34.trans k45)) (fz_po p) hv2)).set (i := 3) (dp_tk (k34.trans k45) (fz_po q) hv3)).set (i := 4) (dp_same s5 hv4)
  have st5 := st4.same s5
  have hσ5 : (((σ1.set 2 (some v2)).set 3 (some v3)).set 4 (some v4))[1]? = some (some (.ref a)) := by
    rw [List.getElem?_set_ne (by decide), List.getElem?_set_ne (by decide), List.getElem?_set_ne (by decide)]
    exact hσ1
  generalize ((σ1.set 2 (some v2)).set 3 (some v3)).set 4 (some v4) = σ5 at *
  generalize upd H4 pp (HO.tup [v2, v3, v4]) = H5 at *
  have rp := dp.row
  have rq := dq.row
  have rt := dt.row
  have lp := dp.len
  have lq := dq.len
  have lt := dt.len
  -- the place
  refine q_spot (i := 1) hσ5 st5 (by decide) (by decide) (by decide) (by decide) (by decide) (fun r1 r2 v6 H6 x1 x2 x3 x4 st6 b6 hv6 => ?_) (by decide) (by decide)
  have bx := spot_of (k := 4) x1 (by omega) (by omega) x3 (by omega)
  have e6 := (e5.tk (b6.tk st5) (fzE_none (fzE_none (fzE_some (fz_po p) (fzE_some (fz_po q) (fzE_some (fz_po t) (fzE_rep 15))))))).set (i := 5) hv6
  have hσ6 : (σ5.set 5 (some v6))[1]? = some (some (.ref a)) := by
    rw [List.getElem?_set_ne (by decide)]
    exact hσ5
  generalize σ5.set 5 (some v6) = σ6 at *
  generalize (((r1 - 4 : Int) : Rat) / ((1 + r2 : Int) : Rat)) = x at *
  refine q_if (eb_or (eb_ev (ed_neD (ed_call (ea_cons (ed_var (i := 2) e6 rfl) (ea_cons (ed_var (i := 3) e6 rfl) ea_nil)) ((rp.szA (by omega) (by decide)).add (rq.szA (by omega) (by decide)))) (ed_call (ea_cons (ed_var (i := 2) e6 rfl) (ea_cons (ed_var (i := 3) e6 rfl) ea_nil)) ⟨p, q, rfl, rp.slA (by omega) (by decide), rq.slA (by omega) (by decide), rfl⟩) (sh_po _) (sh_po _)))
    (fun _ => eb_ev (ed_neD (ed_call (ea_cons (ed_var (i := 2) e6 rfl) (ea_cons (ed_var (i := 3) e6 rfl) ea_nil)) (rp.mulOk rq (by decide) (by omega) (by omega)).f) (ed_call (ea_cons (ed_var (i := 2) e6 rfl) (ea_cons (ed_var (i := 3) e6 rfl) ea_nil)) ⟨p, q, rfl, dp.tr, dq.tr, rp.mulSl rq (by decide) (by omega) (by omega), rfl⟩) (sh_po _) (sh_po _)))) (fun hb H7 s7 => ?_) (fun hb H7 s7 => ?_)
  · rw [eqp, eqp] at hb
    simp at hb
  have e7 := e6.same s7
  have st7 := st6.same s7
  -- the factor
  refine q_spot (i := 1) hσ6 st7 (by decide) (by decide) (by decide) (by decide) (by decide) (fun y1 y2 v8 H8 z1 z2 z3 z4 st8 b8 hv8 => ?_) (by decide) (by decide)
  have bc := spot_of (k := 2) z1 (by omega) (by omega) z3 (by omega)
  have e8 := (e7.tk (b8.tk st7) (fzE_none (fzE_none (fzE_some (fz_po p) (fzE_some (fz_po q) (fzE_some (fz_po t) (fzE_some (fz_fr x) (fzE_rep 14)))))))).set (i := 6) hv8
  have hσ8 : (σ6.set 6 (some v8))[1]? = some (some (.ref a)) := by
    rw [List.getElem?_set_ne (by decide)]
    exact hσ6
  generalize σ6.set 6 (some v8) = σ8 at *
  generalize (((y1 - 2 : Int) : Rat) / ((1 + y2 : Int) : Rat)) = u at *
  have m8 : Mid K a c [none, none, some (PoD p), some (PoD q), some (PoD t), some (FrD x), some (FrD u), none, none, none, none, none, none, none, none, none, none, none, none, none] σ8 H8 := ⟨e8, hσ8, st8.mono (by decide)⟩
  refine m_no m8 (eb_or (eb_ev (ed_neD (ed_call (ea_cons (ed_var (i := 6) m8.1 rfl) (ea_cons (ed_var (i := 2) m8.1 rfl) ea_nil)) ((rp.szA (by omega) (by decide)).scale (bc.sz (by decide)))) (ed_call (ea_cons (ed_var (i := 2) m8.1 rfl) (ea_cons (ed_var (i := 6) m8.1 rfl) ea_nil)) ⟨p, u, rfl, dp.tr, rp.slA (by omega) (by decide), bc.sl (by decide), rfl⟩) (sh_po _) (sh_po _)))
    (fun _ => eb_or (eb_ev (ed_neD (ed_call (ea_cons (ed_var (i := 2) m8.1 rfl) (ea_cons (ed_var (i := 5) m8.1 rfl) ea_nil)) (rp.atOk bx (by decide) (by omega)).f) (ed_call (ea_cons (ed_var (i := 2) m8.1 rfl) (ea_cons (ed_var (i := 5) m8.1 rfl) ea_nil)) ⟨p, x, rfl, rp.atSl bx (by decide) (by omega), rfl⟩) (sh_fr _) (sh_fr _)))
    (fun _ => eb_ev (ed_neD (ed_call (d := PoD p) (ea_cons ((el_cat (el_listT (ed_var (i := 2) m8.1 rfl)) (el_rep1 (d := FrD 0) (el_lst (ea_cons (ed_tup (ea_cons (ed_int 0) (ea_cons (ed_int 1) ea_nil)) (by simp)) ea_nil) (by simp)) (ed_int 2) (by decide)) (by rw [List.length_map, List.length_replicate]; omega)).dd.is (d' := .list ((p ++ [0] ++ [0]).map FrD)) (by rw [List.map_append, List.map_append, List.append_assoc]; rfl)) ea_nil) ⟨p ++ [0] ++ [0], rfl, by simp; omega, by rw [tr_snoc0, tr_snoc0, tr_eq dp.tr]⟩) (ed_var (i := 2) m8.1 rfl) (sh_po _) (sh_po _))))) (by rw [eqp, eqf, eqp]; rfl) fun H9 m9 => ?_
  clear m8
  -- a division
  refine q_ifk (J := Mid K a c [none, none, some (PoD p), some (PoD q), some (PoD t), some (FrD x), some (FrD u), none, none, none, none, none, none, none, none, none, none, none, none, none]) (fun σ' H' m10 => ?i3) (eb_cmpI (ed_lenT (ed_var (i := 3) m9.1 rfl)) (ed_int 0)) (fun hb H10 s10 key => ?i1) (fun hb H10 s10 key => ?i2)
  case i2 => exact key _ _ (m9.same s10)
  case i1 =>
    have q0 : q ≠ [] := fun z => by
      rw [z] at hb
      simp at hb
    have l0 : 0 < q.length := List.length_pos_iff.mpr q0
    obtain ⟨B1, B2, hqr, ⟨w1, rB1⟩, ⟨w2, rB2⟩⟩ := qr_rows (n := 4) rp rq q0 (by omega)
    have m10 := m9.same s10
    have lB2 : B2.length ≤ 3 := by have := hqr.lt; omega
    have lB1 : B1.length ≤ 4 := by
      by_cases z : B1 = []
      · rw [z]; decide
      · have h1 : (Prd B1 q).length = B1.length + q.length - 1 := by
          rw [prd_len hqr.ta dq.tr]
          unfold ln
          rw [if_neg (by have := List.length_pos_iff.mpr z; omega)]
        have h2 : Prd B1 q = Sum p (sc (-1) B2) := eq_of_ev (Tr_tr _) (Tr_tr _) fun y => by
          rw [ev_prd, ev_sum, ev_sc]
          have := hqr.val y
          grind
        have h3 := sum_len p (sc (-1) B2)
        rw [len_sc] at h3
        rw [h2] at h1
        have := hqr.lt
        omega
    refine m_set m10 (ed_call (ea_cons (ed_var (i := 2) m10.1 rfl) (ea_cons (ed_var (i := 3) m10.1 rfl) ea_nil)) (d := .tuple [PoD B1, PoD B2]) ⟨p, q, B1, B2, _, _, 0, 1, 2, 0, 1, 2, rfl, dp.tr, dq.tr, q0, rp.s0, rq.s0, rp.bt, rq.bt, rp.bd, rq.bd, by omega, by omega, by omega, by omega, by decide, hqr, rfl⟩) fun σ11 H11 m11 => ?_
    have sB : Sum (Prd B1 q) B2 = p := eq_of_ev (Tr_tr _) dp.tr fun y => by
      rw [ev_sum, ev_prd]
      exact (hqr.val y).symm
    have r12 := prd_row rB1 rq
    have lgb := lg_2 (n := min B1.length q.length) (by omega)
    refine m_nol m11 (eb_or (eb_ev (ed_neD (ed_call (d := PoD p) (ea_cons (ed_call (ea_cons (ed_ixT (ed_var (i := 7) m11.1 rfl) (ed_int 0) rfl) (ea_cons (ed_var (i := 3) m11.1 rfl) ea_nil)) ⟨B1, q, rfl, hqr.ta, dq.tr, rB1.mulSl rq (by decide) (by omega) (by omega), rfl⟩) (ea_cons (ed_ixT (ed_var (i := 7) m11.1 rfl) (ed_int 1) rfl) ea_nil)) ⟨Prd B1 q, B2, rfl, r12.slA (by rw [prd_len hqr.ta dq.tr]; unfold ln; split <;> omega) (by omega), rB2.slA (by omega) (by decide), by rw [sB]⟩) (ed_var (i := 2) m11.1 rfl) (sh_po _) (sh_po _)))
      (fun _ => eb_cmpI (ed_lenT (ed_ixT (ed_var (i := 7) m11.1 rfl) (ed_int 1) (d := PoD B2) rfl)) (ed_lenT (ed_var (i := 3) m11.1 rfl)))) (by
        rw [eqp, List.length_map, List.length_map, decide_eq_false (by have := hqr.lt; omega)]
        rfl) fun H12 m12 => ?_
    exact key _ _ (m12.drop 7)
  case i3 =>
  clear m9
  have nl : ∀ {σ H}, EvD K (tTup tNil) σ H (PoD []) := ed_tup (ea_nil (K := K)) (by simp)
  have fr1 : ∀ {σ H}, EvD K (tTup (tCons (tC (.int 1)) (tCons (tC (.int 1)) tNil))) σ H (FrD 1) := ed_tup (ea_cons (ed_int 1) (ea_cons (ed_int 1) ea_nil)) (by simp)
  have po1 : ∀ {σ H}, EvD K (tTup (tCons (tTup (tCons (tC (.int 1)) (tCons (tC (.int 1)) tNil))) tNil)) σ H (PoD [1]) := ed_tup (ea_cons fr1 ea_nil) (by simp)
  have prod : ∀ {σ H} {r1 : List Rat} {i : Nat}, Row (1 / 2) 0 1 2 r1 → r1.length ≤ 4 → EvD K (tVar i) σ H (PoD r1) → EvD K (tVar 4) σ H (PoD t) → EvD K (tCall (PF K fLProduct) [] E0 (tCons (tVar i) (tCons (tVar 4) tNil))) σ H (PoD (Prd r1 t)) := fun {σ H r1 i} h1 h2 h3 h4 =>
    ed_call (ea_cons h3 (ea_cons h4 ea_nil)) ⟨r1, t, rfl, h1.tr, dt.tr, h1.mulSl rt (by decide) (by omega) (by omega), rfl⟩
  obtain ⟨g, hE, hC, hR, hg0, hg1⟩ := cm_ok dp dq dt
  refine m_set m10 (ed_call (ea_cons (prod rp lp (ed_var (i := 2) m10.1 rfl) (ed_var (i := 4) m10.1 rfl)) (ea_cons (prod rq (by omega) (ed_var (i := 3) m10.1 rfl) (ed_var (i := 4) m10.1 rfl)) ea_nil)) (d := PoD g) ⟨Prd p t, Prd q t, g, rfl, hE, hC, rfl⟩) fun σ11 H11 m11 => ?_
  clear m10
  -- what it divides
  have len0 : ∀ {r : List Rat}, decide (((r.map FrD).length : Int) = 0) = decide (r = []) := fun {r} => by
    rw [List.length_map]
    cases r <;> simp
    omega
  refine q_ifk (J := Mid K a c [none, none, some (PoD p), some (PoD q), some (PoD t), some (FrD x), some (FrD u), none, some (PoD g), none, none, none, none, none, none, none, none, none, none, none]) (fun σ' H' m12 => ?j3) (eb_or (eb_eqI (ed_add (ed_lenT (ed_var (i := 2) m11.1 rfl)) (ed_lenT (ed_var (i := 3) m11.1 rfl))) (ed_int 0)) (fun _ => eb_eqI (ed_lenT (ed_var (i := 4) m11.1 rfl)) (ed_int 0))) (fun hb H12 s12 key => ?j1) (fun hb H12 s12 key => ?j2)
  case j1 =>
    have hc : (p = [] ∧ q = []) ∨ t = [] := by
      rw [Bool.or_eq_true, decide_eq_true_eq, len0, decide_eq_true_eq, List.length_map, List.length_map] at hb
      rcases hb with h | h
      · exact .inl ⟨List.eq_nil_of_length_eq_zero (by omega), List.eq_nil_of_length_eq_zero (by omega)⟩
      · exact .inr h
    have m12 := m11.same s12
    refine m_nol m12 (eb_ev (ed_neD (ed_var (i := 8) m12.1 rfl) nl (sh_po _) (sh_po _))) (by rw [hg0 hc, eqp]; rfl) fun H13 m13 => key _ _ m13
  case j2 =>
    have hc : ¬ ((p = [] ∧ q = []) ∨ t = []) := by
      rw [Bool.or_eq_false_iff, decide_eq_false_iff_not, len0, decide_eq_false_iff_not, List.length_map, List.length_map] at hb
      rintro (⟨h1, h2⟩ | h)
      · rw [h1, h2] at hb
        exact hb.1 rfl
      · exact hb.2 h
    obtain ⟨gm, ⟨z1, f1⟩, ⟨z2, f2⟩, z3, f3⟩ := hg1 hc
    have m12 := m11.same s12
    refine m_no m12 (eb_or (eb_ev (ed_neD (ed_ixT (ed_var (i := 8) m12.1 rfl) (ed_neg (ed_int 1)) (po_last gm.1)) fr1 (sh_fr _) (sh_fr _))) (fun _ => eb_cmpI (ed_lenL ((elc_tup (ds := [PoD (Prd p t), PoD (Prd q t)]) (j := 18) (vs := [18]) (fun _ => false) (fun _ => .none) (ed_tup (ea_cons (prod rp lp (ed_var (i := 2) m12.1 rfl) (ed_var (i := 4) m12.1 rfl)) (ea_cons (prod rq (by omega) (ed_var (i := 3) m12.1 rfl) (ed_var (i := 4) m12.1 rfl)) ea_nil)) (by simp)) (by show 2 ≤ 1000; decide) (wipe1 18) (fun _ _ _ => rfl) (fun i y d H13 s13 hd hy => ?_) (fun _ _ _ _ _ _ _ hb => by cases hb)).dd)) (ed_int 0))) (by rw [gm.2, eqf]; rfl) fun H13 m13 => ?_
    · have e13 := ((env_wipe m12.1 [18]).same s13).set (i := 18) hy
      have hf : ∃ z, fDiv [d, PoD g] (.tuple [PoD z, PoD []]) := by
        match i, hd with
        | 0, hd =>
          cases hd
          exact ⟨z1, f1⟩
        | 1, hd =>
          cases hd
          exact ⟨z2, f2⟩
        | i + 2, hd => simp at hd
      obtain ⟨z, hf⟩ := hf
      exact (eb_ev (ed_neD (ed_ixT (ed_call (ea_cons (ed_var (i := 18) e13 rfl) (ea_cons (ed_var (i := 8) e13 rfl) ea_nil)) hf) (ed_int 1) (d := PoD []) rfl) nl (sh_po _) (sh_po _))).is (by rw [eqp]; rfl)
    · exact m_nol m13 (eb_ev (ed_neD (ed_ixT (ed_call (ea_cons (ed_var (i := 8) m13.1 rfl) (ea_cons (ed_var (i := 4) m13.1 rfl) ea_nil)) f3) (ed_int 1) (d := PoD []) rfl) nl (sh_po _) (sh_po _))) (by rw [eqp]; rfl) fun H14 m14 => key _ _ m14
  case j3 =>
  clear m11
  -- the edges at the end
  have edge : ∀ {σ H}, σ[1]? = some (some (.ref a)) → StOk H a c 40 → tCall spEdges [] E0 (tCons (tVar 1) tNil) σ H Q := fun h1 h2 => ⟨_, h1, a, c, 40, rfl, h2, by decide, fun H' => k H'⟩
  refine q_if (eb_eqI (ed_lenT (ed_var (i := 3) m12.1 rfl)) (ed_int 0)) (fun hb H13 s13 => ?_) (fun hb H13 s13 => ?_)
  · rw [len0, decide_eq_true_eq] at hb
    have m13 := m12.same s13
    refine (ed_eqD (ed_call (ea_cons (ed_int 0) (ea_cons (ed_var (i := 2) m13.1 rfl) (ea_cons (ed_var (i := 3) m13.1 rfl) ea_nil))) (d := .str "nought") ⟨0, _, _, .inr "nought", rfl, .inl ⟨rfl, p, q, rfl, .inl ⟨hb, rfl⟩⟩, rfl⟩) (ed_str "nought") sh_nought sh_nought : EvD K _ _ H13 _) H13 (Same.refl H13) _ fun v14 H14 s14 hv => ?_
    cases hv
    refine ⟨_, rfl, ?_⟩
    rw [show PyData.eqv (.str "nought") (.str "nought") = true by decide +kernel, if_pos rfl]
    exact edge m13.2.1 (m13.2.2.same s14)
  rw [len0, decide_eq_false_iff_not] at hb
  have q0 : q ≠ [] := hb
  have m13 := m12.same s13
  clear m12
  obtain ⟨okpq, fsf⟩ := fs_ok (rp.mono (Nat.le_refl _) (Nat.le_refl _) (by decide)) rq lp lq q0
  obtain ⟨P1, Q1, h1⟩ := okpq.ex q0
  obtain ⟨rd1, ok1, grp1⟩ := fsf P1 Q1 h1
  have tail : ∀ {α : Type} (x y : α), (if t = [] then x else y) = if t = [] then x else y := fun _ _ => rfl
  obtain ⟨FA, FB, hF0, hF1, FB0, okF, ratF⟩ : ∃ FA FB : List Rat, (t = [] → FA = p ∧ FB = q) ∧ (t ≠ [] → FA = Prd p t ∧ FB = Prd q t) ∧ FB ≠ [] ∧ Rok FA FB ∧ Rat2 FA FB P1 Q1 := by
    by_cases t0 : t = []
    · exact ⟨p, q, fun _ => ⟨rfl, rfl⟩, fun z => absurd t0 z, q0, okpq, h1⟩
    · exact ⟨Prd p t, Prd q t, fun z => absurd z t0, fun _ => ⟨rfl, rfl⟩, prd_ne dq.tr dt.tr q0 t0, hR t0 (prd_ne dq.tr dt.tr q0 t0), rat2_mul h1⟩
  obtain ⟨L, hL0, hL1, rL, lL, L0⟩ : ∃ L : List Rat, (t = [] → L = q) ∧ (t ≠ [] → L = t) ∧ Row (1 / 2) 0 1 2 L ∧ L.length ≤ 3 ∧ L ≠ [] := by
    by_cases t0 : t = []
    · exact ⟨q, fun _ => rfl, fun z => absurd t0 z, rq, lq, q0⟩
    · exact ⟨t, fun z => absurd z t0, fun _ => rfl, rt, lt, t0⟩
  have rA2 : Row (1 / 2) 0 1 3 (Sum p [1]) := (sum_row rp half_one).mono (Nat.le_refl _) (Nat.le_refl _) (by decide)
  have lA2 : (Sum p [1]).length ≤ 4 := by
    have := sum_len p [1]
    simp at this
    omega
  obtain ⟨ok2, fs2⟩ := fs_ok rA2 rL lA2 lL L0
  obtain ⟨P2, Q2, h2⟩ := ok2.ex L0
  obtain ⟨rd2, _, grp2⟩ := fs2 P2 Q2 h2
  have ops := ops_all grp1 grp2
  obtain ⟨⟨MP, MQ, KP, KQ, SP, SQ, hMu, hLe, hDv, hSl⟩, hdP, hdQ⟩ := sl_all grp1
  have lgt : ∀ {σ H}, EvD K (tVar 4) σ H (PoD t) → EvB (tTest (tOp (rI0 fun i j => .bl (decide (j < i))) (tCB (fun xs H Q => ∃ p ys, xs = [.ref p] ∧ (SqL K H p ys ∨ SqT K H p ys) ∧ Q (.int ys.length) H) (tCons (tVar 4) tNil)) (tC (.int 0)))) σ H (!decide (t = [])) := fun h => (eb_cmpI (g := fun i j => decide (j < i)) (ed_lenT h) (ed_int 0)).is (by
    rw [List.length_map]
    cases t <;> simp)
  refine m_set m13 (ed_callX (d := QuD P1 Q1) (ea_cons (ed_if (d := PoD FA) (lgt (ed_var (i := 4) m13.1 rfl)) (fun hb => (prod rp lp (ed_var (i := 2) m13.1 rfl) (ed_var (i := 4) m13.1 rfl)).is (by rw [(hF1 (by simpa using hb)).1])) (fun hb => (ed_var (i := 2) m13.1 rfl).is (by rw [(hF0 (by simpa using hb)).1])))
    (ea_cons (ed_if (d := PoD FB) (lgt (ed_var (i := 4) m13.1 rfl)) (fun hb => (prod rq (by omega) (ed_var (i := 3) m13.1 rfl) (ed_var (i := 4) m13.1 rfl)).is (by rw [(hF1 (by simpa using hb)).2])) (fun hb => (ed_var (i := 3) m13.1 rfl).is (by rw [(hF0 (by simpa using hb)).2]))) ea_nil)) ⟨FA, FB, rfl, .inr ⟨FB0, okF, P1, Q1, ratF, rfl⟩⟩) fun σ14 H14 m14 => ?_
  clear m13
  refine m_set m14 (ed_if (d := PoD L) (lgt (ed_var (i := 4) m14.1 rfl)) (fun hb => (ed_var (i := 4) m14.1 rfl).is (by rw [hL1 (by simpa using hb)])) (fun hb => (ed_var (i := 3) m14.1 rfl).is (by rw [hL0 (by simpa using hb)]))) fun σ15 H15 m15 => ?_
  clear m14
  refine m_set m15 (ed_callX (d := QuD P2 Q2) (ea_cons (ed_call (ea_cons (ed_var (i := 2) m15.1 rfl) (ea_cons po1 ea_nil)) ⟨p, [1], rfl, rp.slA (by omega) (by decide), one_sl, rfl⟩) (ea_cons (ed_var (i := 10) m15.1 rfl) ea_nil)) ⟨Sum p [1], L, rfl, .inr ⟨L0, ok2, P2, Q2, h2, rfl⟩⟩) fun σ16 H16 m16 => ?_
  clear m15
  have lP1 : P1.length ≤ 4 ∧ Q1.length ≤ 3 := by
    rcases grp1 with h | h
    · exact ⟨h.lp, h.lq⟩
    · exact ⟨by have := h.lp; omega, by have := h.lq; omega⟩
  refine m_no m16 (eb_or (eb_not (eb_B (ed_call (ea_cons (ed_var (i := 9) m16.1 rfl) ea_nil) ⟨P1, Q1, rfl, rd1.red, rd1.com, rfl⟩))) (fun _ => eb_or (eb_not (eb_B (ed_call (ea_cons (ed_var (i := 11) m16.1 rfl) ea_nil) ⟨P2, Q2, rfl, rd2.red, rd2.com, rfl⟩)))
    (fun _ => eb_or (eb_ev (ed_notB (ed_call (ea_cons (ed_var (i := 9) m16.1 rfl) ea_nil) (d := .bool true) ⟨_, rfl, sm3_qu (by omega) (by omega), .inr (.inr ⟨P1, Q1, P1, Q1, rfl, rd1.red.tp, rd1.red.mq.tr, rd1.red.mq.1, ok1, ⟨rd1.red, fun _ => rfl⟩, by simp⟩)⟩) (ed_bl true)))
    (fun _ => eb_ev (ed_neD (ed_var (i := 9) m16.1 rfl) (ed_callX (ea_cons (ed_var (i := 2) m16.1 rfl) (ea_cons (ed_var (i := 3) m16.1 rfl) ea_nil)) ⟨p, q, rfl, .inr ⟨q0, okpq, P1, Q1, h1, rfl⟩⟩) (sh_qu _ _) (sh_qu _ _)))))) (by rw [eqq]; rfl) fun H17 m17 => ?_
  clear m16
  have bx0 : Bits 2 0 := ⟨by decide, by decide⟩
  have bxh : Bits 2 (1 / 2) := ⟨by decide +kernel, by decide +kernel⟩
  -- the loop
  refine q_forT (ds := [FrD x, FrD 0, FrD (1 / 2)]) (ed_tup (ea_cons (ed_var (i := 5) m17.1 rfl) (ea_cons ((ed_tup (ea_cons (ed_int 0) (ea_cons (ed_int 1) ea_nil)) (by simp)).is (d' := FrD 0) rfl) (ea_cons ((ed_tup (ea_cons (ed_int 1) (ea_cons (ed_int 2) ea_nil)) (by simp)).is (d' := FrD (1 / 2)) half_fr) ea_nil))) (by simp))
    (fun H2 i σ' H' => Same H2 H' ∧ Mid K a c [none, none, some (PoD p), some (PoD q), some (PoD t), some (FrD x), some (FrD u), none, some (PoD g), some (QuD P1 Q1), some (PoD L), some (QuD P2 Q2), none, none, none, none, none, none, none, none] σ' H') (fun H2 s2 => ⟨Same.refl H2, m17.same s2⟩) (fun _ _ _ _ inv => inv.1) (fun H2 i yv d σ' H' hd hy inv => ?_) (fun H2 σ' H' inv => ?_)
  · obtain ⟨s18, m18⟩ := inv
    obtain ⟨y, rfl, byy⟩ : ∃ y, d = FrD y ∧ Bits 2 y := by
      match i, hd with
      | 0, hd =>
        cases hd
        exact ⟨x, rfl, bx⟩
      | 1, hd =>
        cases hd
        exact ⟨0, rfl, bx0⟩
      | 2, hd =>
        cases hd
        exact ⟨1 / 2, rfl, bxh⟩
      | i + 3, hd => simp at hd
    have m19 := m18.set (i := 12) hy
    clear m18
    show tSeq _ _ _ _ _
    obtain ⟨a1, a2, a3, a4⟩ := rd1.at' y byy
    obtain ⟨c1, c2, c3, c4⟩ := rd2.at' y byy
    refine m_par m19 (ed_call (ea_cons (ed_var (i := 9) m19.1 rfl) (ea_cons (ed_var (i := 12) m19.1 rfl) ea_nil)) ⟨P1, Q1, y, rfl, a1, a2, a3, a4, rfl⟩) (ed_call (ea_cons (ed_var (i := 11) m19.1 rfl) (ea_cons (ed_var (i := 12) m19.1 rfl) ea_nil)) ⟨P2, Q2, y, rfl, c1, c2, c3, c4, rfl⟩) fun σ20 H20 s20 m20 => ?_
    clear m19
    have told : fTold [.int 2, QuD P1 Q1, FrD y] (rdD P1 Q1 y) := by
      by_cases h0 : ev Q1 y = 0
      · exact ⟨2, _, _, .inr "nought", rfl, .inr (.inr ⟨rfl, P1, Q1, y, rfl, a1.ok, a2.ok, a3.sz, a4.sz, .inl ⟨h0, rfl⟩⟩), by unfold rdD; rw [if_pos h0]; rfl⟩
      · exact ⟨2, _, _, .inl (FrD (ev P1 y / ev Q1 y)), rfl, .inr (.inr ⟨rfl, P1, Q1, y, rfl, a1.ok, a2.ok, a3.sz, a4.sz, .inr ⟨h0, rfl⟩⟩), by unfold rdD; rw [if_neg h0]; rfl⟩
    refine m_noS m20 (eb_ev (ed_neD (ed_call (ea_cons (ed_int 2) (ea_cons (ed_var (i := 9) m20.1 rfl) (ea_cons (ed_var (i := 12) m20.1 rfl) ea_nil))) told) (ed_var (i := 13) m20.1 rfl) (sh_rd _ _ _) (sh_rd _ _ _))) (by rw [eqrd]; rfl) fun H21 s21 m21 => ?_
    clear m20
    refine m_setS m21 (ed_call (ea_cons (ed_var (i := 3) m21.1 rfl) (ea_cons (ed_var (i := 12) m21.1 rfl) ea_nil)) (d := FrD (ev q y)) ⟨q, y, rfl, rq.atSl byy (by decide) (by omega), rfl⟩) fun σ22 H22 s22 m22 => ?_
    clear m21
    have slq := rq.evSl byy (by decide) (by omega)
    have slp := rp.evSl byy (by decide) (by omega)
    refine m_noS m22 (b := false) ?_ rfl fun H23 s23 m23 => ?_
    · by_cases hq0 : ev q y = 0
      · refine (eb_and (c := false) (eb_neI (ed_ixT (ed_var (i := 15) m22.1 rfl) (ed_int 0) (d := .int (ev q y).num) rfl) (ed_int 0)) (fun hb => ?_)).is (by simp)
        rw [num0.mpr hq0] at hb
        simp at hb
      · obtain ⟨w1, w2⟩ := rat_val h1 hq0
        have e1 : rdD P1 Q1 y = FrD (ev p y / ev q y) := by unfold rdD; rw [if_neg w1, w2]
        refine (eb_and (eb_neI (ed_ixT (ed_var (i := 15) m22.1 rfl) (ed_int 0) (d := .int (ev q y).num) rfl) (ed_int 0)) (fun _ => eb_ev (ed_neD (ed_var (i := 13) m22.1 rfl) (ed_call (ea_cons (ed_call (ea_cons (ed_var (i := 2) m22.1 rfl) (ea_cons (ed_var (i := 12) m22.1 rfl) ea_nil)) (d := FrD (ev p y)) ⟨p, y, rfl, rp.atSl byy (by decide) (by omega), rfl⟩) (ea_cons (ed_call (ea_cons (ed_ixT (ed_var (i := 15) m22.1 rfl) (ed_int 1) rfl) (ea_cons (ed_ixT (ed_var (i := 15) m22.1 rfl) (ed_int 0) rfl) ea_nil)) (inv_fr slq hq0)) ea_nil)) (d := FrD (ev p y / ev q y)) ⟨_, _, rfl, slp, slq.inv hq0, by congr 1; grind⟩) (sh_rd _ _ _) (sh_fr _)))).is ?_
        rw [e1, eqf]
        simp
    clear m22
    have S23 := s18.trans (s20.trans (s21.trans (s22.trans s23)))
    have nrd : ∀ {A B : List Rat}, PyData.eqv (rdD A B y) (.str "nought") = decide (ev B y = 0) := fun {A B} => by
      unfold rdD
      by_cases h : ev B y = 0
      · rw [if_pos h, decide_eq_true h]
        decide +kernel
      · rw [if_neg h, decide_eq_false h]
        rfl
    refine q_if (eb_or (eb_ev (ed_eqD (ed_var (i := 13) m23.1 rfl) (ed_str "nought") (sh_rd _ _ _) sh_nought)) (fun _ => eb_ev (ed_eqD (ed_var (i := 14) m23.1 rfl) (ed_str "nought") (sh_rd _ _ _) sh_nought))) (fun hb H24 s24 => ?_) (fun hb H24 s24 => ?_)
    · exact ⟨S23.trans s24, ((((m23.same s24).drop 12).drop 13).drop 14).drop 15⟩
    rw [nrd, nrd] at hb
    have w1 : ev Q1 y ≠ 0 := fun z => by simp [z] at hb
    have w2 : ev Q2 y ≠ 0 := fun z => by simp [z] at hb
    have m24 := m23.same s24
    clear m23
    have S24 := S23.trans s24
    rw [show rdD P1 Q1 y = FrD (ev P1 y / ev Q1 y) by unfold rdD; rw [if_neg w1], show rdD P2 Q2 y = FrD (ev P2 y / ev Q2 y) by unfold rdD; rw [if_neg w2]] at m24
    have slα : Sl (ev P1 y / ev Q1 y) := (((rd1.bt y byy).1.div (rd1.bt y byy).2 w1)).sl (by decide)
    have slβ : Sl (ev P2 y / ev Q2 y) := (((rd2.bt y byy).1.div (rd2.bt y byy).2 w2)).sl (by decide)
    have QQ0 : Prd Q1 Q2 ≠ [] := prd_ne rd1.red.mq.tr rd2.red.mq.tr rd1.red.mq.1 rd2.red.mq.1
    have wQ : ev (Prd Q1 Q2) y ≠ 0 := by rw [ev_prd]; exact fun z => by rcases Rat.mul_eq_zero.mp z with z | z; exact w1 z; exact w2 z
    -- the three
    obtain ⟨A1, A2, hA⟩ := ops.add.2.1.ex QQ0
    obtain ⟨B1, B2, hB⟩ := ops.sub.2.2.1.ex QQ0
    obtain ⟨D1, D2, hD⟩ := ops.mul.2.2.1.ex QQ0
    have vA := rat_val hA wQ
    have vB := rat_val hB wQ
    have vD := rat_val hD wQ
    have dA : (FrD (ev P1 y / ev Q1 y + ev P2 y / ev Q2 y)) = FrD (ev A1 y / ev A2 y) := by
      rw [vA.2, ev_sum, ev_prd, ev_prd, ev_prd]
      congr 1
      grind
    have dB : (FrD (ev P1 y / ev Q1 y - ev P2 y / ev Q2 y)) = FrD (ev B1 y / ev B2 y) := by
      rw [vB.2, ev_sum, ev_prd, ev_prd, ev_prd, ev_tr, ev_sc]
      congr 1
      grind
    have dD : (FrD (ev P1 y / ev Q1 y * (ev P2 y / ev Q2 y))) = FrD (ev D1 y / ev D2 y) := by
      rw [vD.2, ev_prd, ev_prd]
      congr 1
      grind
    have arg2 : EvA K (tCons (tVar 9) (tCons (tVar 11) tNil)) _ H24 [QuD P1 Q1, QuD P2 Q2] := ea_cons (ed_var (i := 9) m24.1 rfl) (ea_cons (ed_var (i := 11) m24.1 rfl) ea_nil)
    have arg3 : EvA K (tCons (tVar 13) (tCons (tVar 14) tNil)) _ H24 [FrD (ev P1 y / ev Q1 y), FrD (ev P2 y / ev Q2 y)] := ea_cons (ed_var (i := 13) m24.1 rfl) (ea_cons (ed_var (i := 14) m24.1 rfl) ea_nil)
    refine q_setL m24.1 (el_lst (ds := [.tuple [QuD A1 A2, FrD (ev A1 y / ev A2 y)], .tuple [QuD B1 B2, FrD (ev B1 y / ev B2 y)], .tuple [QuD D1 D2, FrD (ev D1 y / ev D2 y)]]) (ea_cons (ed_tup (ea_cons (ed_call arg2 ⟨P1, Q1, P2, Q2, rfl, ops.add.1, _, _, rfl, .inr ⟨QQ0, ops.add.2.1, A1, A2, hA, rfl⟩⟩) (ea_cons (ed_call arg3 ⟨_, _, rfl, slα, slβ, dA.symm⟩) ea_nil)) (by simp))
      (ea_cons (ed_tup (ea_cons (ed_call arg2 ⟨P1, Q1, P2, Q2, rfl, ops.sub.1, P1, Q1, tr (sc (-1) P2), Q2, rfl, ops.sub.2.1, _, _, rfl, .inr ⟨QQ0, ops.sub.2.2.1, B1, B2, hB, rfl⟩⟩) (ea_cons (ed_call arg3 ⟨_, _, rfl, slα, slβ, dB.symm⟩) ea_nil)) (by simp))
      (ea_cons (ed_tup (ea_cons (ed_call arg2 ⟨P1, Q1, P2, Q2, rfl, ops.mul.1, ops.mul.2.1, _, _, rfl, .inr ⟨QQ0, ops.mul.2.2.1, D1, D2, hD, rfl⟩⟩) (ea_cons (ed_call arg3 ⟨_, _, rfl, slα, slβ, dD.symm⟩) ea_nil)) (by simp)) ea_nil))) (by simp)) fun pr vs25 H25 hpr s25 hl25 hd25 e25 => ?_
    have σl : 16 < σ22.length := by rw [m24.1.1]; show 16 < 20; decide
    have hσ25 : (σ22.set 16 (some (V.ref pr)))[16]? = some (some (.ref pr)) := List.getElem?_set_self σl
    have m25 : Mid K a c [none, none, some (PoD p), some (PoD q), some (PoD t), some (FrD x), some (FrD u), none, some (PoD g), some (QuD P1 Q1), some (PoD L), some (QuD P2 Q2), some (FrD y), some (FrD (ev P1 y / ev Q1 y)), some (FrD (ev P2 y / ev Q2 y)), some (FrD (ev q y)), none, none, none, none] (σ22.set 16 (some (V.ref pr))) H25 := ⟨e25, by rw [List.getElem?_set_ne (by decide)]; exact m24.2.1, m24.2.2.same s25⟩
    have pr2 : H2 pr = none := S24.free hpr
    have S25 := S24.trans s25
    clear m24 e25
    generalize σ22.set 16 (some (V.ref pr)) = σ25 at *
    refine q_ifk (J := fun σ' H' => Same H2 H' ∧ Mid K a c [none, none, some (PoD p), some (PoD q), some (PoD t), some (FrD x), some (FrD u), none, some (PoD g), some (QuD P1 Q1), some (PoD L), some (QuD P2 Q2), some (FrD y), some (FrD (ev P1 y / ev Q1 y)), some (FrD (ev P2 y / ev Q2 y)), some (FrD (ev q y)), none, none, none, none] σ' H' ∧ σ'[16]? = some (some (.ref pr)) ∧ ∃ vs ds, H' pr = some (.lst vs) ∧ DpAll K H' vs ds ∧ ∀ d ∈ ds, Ent y d) (fun σ' H' jj => ?l3) (eb_neI (ed_ixT (ed_var (i := 14) m25.1 rfl) (ed_int 0) (d := .int (ev P2 y / ev Q2 y).num) rfl) (ed_int 0)) (fun hb H26 s26 key => ?l1) (fun hb H26 s26 key => ?l2)
    case l2 =>
      refine key _ _ ⟨S25.trans s26, m25.same s26, hσ25, vs25, _, s26 _ _ hl25, dpa_same s26 hd25, fun d hd => ?_⟩
      simp only [List.mem_cons, List.not_mem_nil, or_false] at hd
      rcases hd with rfl | rfl | rfl
      · exact ⟨A1, A2, rfl, ops.add.2.2 _ _ hA, vA.1⟩
      · exact ⟨B1, B2, rfl, ops.sub.2.2.2 _ _ hB, vB.1⟩
      · exact ⟨D1, D2, rfl, ops.mul.2.2.2 _ _ hD, vD.1⟩
    case l1 =>
      have β0 : ev P2 y / ev Q2 y ≠ 0 := fun z => by
        rw [z] at hb
        simp at hb
      have wP : ev P2 y ≠ 0 := fun z => β0 (by rw [z]; grind)
      have P20 : P2 ≠ [] := fun z => wP (by rw [z, ev_nil])
      have QP0 : Prd Q1 P2 ≠ [] := prd_ne rd1.red.mq.tr rd2.red.tp rd1.red.mq.1 P20
      obtain ⟨okD, rdD'⟩ := ops.div.2.2 P20
      obtain ⟨G1, G2, hG⟩ := okD.ex QP0
      have vG := rat_val hG (y := y) (by rw [ev_prd]; exact fun z => by rcases Rat.mul_eq_zero.mp z with z | z; exact w1 z; exact wP z)
      have dG : (FrD (ev P1 y / ev Q1 y * (1 / (ev P2 y / ev Q2 y)))) = FrD (ev G1 y / ev G2 y) := by
        rw [vG.2, ev_prd, ev_prd]
        congr 1
        grind
      have m26 := m25.same s26
      refine ⟨_, hσ25, .inl ⟨rfl, _, .inl (.inl (s26 _ _ hl25))⟩, (ea_cons (ed_tup (ea_cons (ed_callX (d := QuD G1 G2) (ea_cons (ed_var (i := 9) m26.1 rfl) (ea_cons (ed_var (i := 11) m26.1 rfl) ea_nil)) ⟨P1, Q1, P2, Q2, rfl, ops.div.1, ops.div.2.1, _, _, rfl, .inr ⟨QP0, okD, G1, G2, hG, rfl⟩⟩) (ea_cons (ed_call (ea_cons (ed_var (i := 13) m26.1 rfl) (ea_cons (ed_call (ea_cons (ed_ixT (ed_var (i := 14) m26.1 rfl) (ed_int 1) rfl) (ea_cons (ed_ixT (ed_var (i := 14) m26.1 rfl) (ed_int 0) rfl) ea_nil)) (inv_fr slβ β0)) ea_nil)) (d := FrD (ev G1 y / ev G2 y)) ⟨_, _, rfl, slα, slβ.inv β0, dG.symm⟩) ea_nil)) (by simp)) ea_nil : EvA K _ _ H26 _) H26 (Same.refl H26) _ fun ws H27 s27 hw => ?_⟩
      cases hw with
      | @cons w _ _ _ hw1 hw2 =>
      cases hw2
      have hl27 := s27 _ _ (s26 _ _ hl25)
      have m27 := m26.same s27
      have ent : ∀ d ∈ [PyData.tuple [QuD A1 A2, FrD (ev A1 y / ev A2 y)], .tuple [QuD B1 B2, FrD (ev B1 y / ev B2 y)], .tuple [QuD D1 D2, FrD (ev D1 y / ev D2 y)]] ++ [.tuple [QuD G1 G2, FrD (ev G1 y / ev G2 y)]], Ent y d := fun d hd => by
        simp only [List.cons_append, List.nil_append, List.mem_cons, List.not_mem_nil, or_false] at hd
        rcases hd with rfl | rfl | rfl | rfl
        · exact ⟨A1, A2, rfl, ops.add.2.2 _ _ hA, vA.1⟩
        · exact ⟨B1, B2, rfl, ops.sub.2.2.2 _ _ hB, vB.1⟩
        · exact ⟨D1, D2, rfl, ops.mul.2.2.2 _ _ hD, vD.1⟩
        · exact ⟨G1, G2, rfl, rdD' _ _ hG, vG.1⟩
      have fzt : ∀ R S v, fz (.tuple [QuD R S, FrD v]) = true := fun R S v => by
        show (fz (QuD R S) && (fz (FrD v) && true)) = true
        rw [fz_qu, fz_fr]
        rfl
      refine ⟨pr, vs25, w, rfl, rfl, hl27, small1000 (by rw [dpa_len hd25]; show 3 ≤ 1000; decide), ?_⟩
      refine key _ _ ⟨same_mut (S25.trans (s26.trans s27)) pr2, ⟨m27.1.tk (TK.upd hl27) (fzE_none (fzE_none (fzE_some (fz_po _) (fzE_some (fz_po _) (fzE_some (fz_po _) (fzE_some (fz_fr _) (fzE_some (fz_fr _) (fzE_none (fzE_some (fz_po _) (fzE_some (fz_qu _ _) (fzE_some (fz_po _) (fzE_some (fz_qu _ _) (fzE_some (fz_fr _) (fzE_some (fz_fr _) (fzE_some (fz_fr _) (fzE_some (fz_fr _) (fzE_rep 4))))))))))))))))), m27.2.1, ?_⟩, hσ25, _, _, upd_same, dpa_tk (TK.upd hl27) ?_ (dpa_append (dpa_same (s26.trans s27) hd25) (.cons hw1 .nil)), ent⟩
      · obtain ⟨nn, cc, g1, g2, g3⟩ := m27.2.2
        obtain ⟨nn', cc', o1, o2, _⟩ := m17.2.2
        have ha : a ≠ pr := fun z => by
          have := m25.2.2
          obtain ⟨_, _, o3, _⟩ := this
          rw [z, hl25] at o3
          have o4 := congrArg List.length (HO.lst.inj (Option.some.inj o3))
          rw [dpa_len hd25] at o4
          simp at o4
        have hc : c ≠ pr := fun z => by
          have := m25.2.2
          obtain ⟨_, cs, _, o3, _⟩ := this
          rw [z, hl25] at o3
          have o4 := HO.lst.inj (Option.some.inj o3)
          rw [o4] at hd25
          cases cs with
          | nil => cases hd25
          | cons c0 cs =>
            cases hd25 with
            | cons x1 _ => cases x1
        exact ⟨nn, cc, by rw [upd_ne ha]; exact g1, by rw [upd_ne hc]; exact g2, g3⟩
      · show (fz _ && (fz _ && (fz _ && (fz _ && true)))) = true
        rw [fzt, fzt, fzt, fzt]
        rfl
    case l3 =>
    obtain ⟨S26, m26, hσ26, vs26, ds26, hl26, hd26, hent⟩ := jj
    clear m25
    refine q_forLl (ed_lst hσ26 hl26 hd26) (fun H3 i σ' H' => Same H3 H' ∧ Same H2 H' ∧ Mid K a c [none, none, some (PoD p), some (PoD q), some (PoD t), some (FrD x), some (FrD u), none, some (PoD g), some (QuD P1 Q1), some (PoD L), some (QuD P2 Q2), some (FrD y), some (FrD (ev P1 y / ev Q1 y)), some (FrD (ev P2 y / ev Q2 y)), some (FrD (ev q y)), none, none, none, none] σ' H') (fun H3 s3 => ⟨Same.refl H3, S26.trans s3, m26.same s3⟩) (fun _ _ _ _ z => z.1) (fun H3 i ev' d σ' H' hd hdv inv => ?_) (fun H3 σ' H' inv => ?_)
    · obtain ⟨s3, S27, m27⟩ := inv
      obtain ⟨R, S, rfl, hrd, hS⟩ := hent d (List.mem_of_getElem? hd)
      cases hdv with
      | tup hs hdd =>
      cases hdd with
      | cons x1 hdd =>
      cases hdd with
      | cons x2 hdd =>
      cases hdd
      refine ⟨_, _, rfl, hs, rfl, _, _, rfl, _, _, rfl, rfl, ?_⟩
      have m28 := (m27.set (i := 7) x1).set (i := 17) x2
      obtain ⟨o1, o2, o3, o4⟩ := hrd.at' y byy
      refine m_nolS m28 (eb_or (eb_not (eb_B (ed_call (ea_cons (ed_var (i := 7) m28.1 rfl) ea_nil) ⟨R, S, rfl, hrd.red, hrd.com, rfl⟩))) (fun _ => eb_ev (ed_neD (ed_call (ea_cons (ed_var (i := 7) m28.1 rfl) (ea_cons (ed_var (i := 12) m28.1 rfl) ea_nil)) (d := rdD R S y) ⟨R, S, y, rfl, o1, o2, o3, o4, rfl⟩) (ed_var (i := 17) m28.1 rfl) (sh_rd _ _ _) (sh_fr _)))) (by
          rw [show rdD R S y = FrD (ev R y / ev S y) by unfold rdD; rw [if_neg hS], eqf]
          rfl) fun H29 s29 m29 => ?_
      exact ⟨s3.trans s29, S27.trans s29, (m29.drop 7).drop 17⟩
    · obtain ⟨s3, S27, m27⟩ := inv
      exact ⟨S27, (((m27.drop 12).drop 13).drop 14).drop 15⟩
  · obtain ⟨_, m18⟩ := inv
    refine m_no m18 (b := false) ?_ rfl fun H19 m19 => ?_
    · by_cases hP : P2 = []
      · refine (eb_and (eb_ev (ed_eqD (ed_ixT (ed_var (i := 11) m18.1 rfl) (ed_int 0) (d := PoD P2) rfl) nl (sh_po _) (sh_po _))) (fun _ => eb_ev (ed_neD (ed_call (ea_cons (ed_int 1) (ea_cons (ed_var (i := 9) m18.1 rfl) (ea_cons (ed_var (i := 11) m18.1 rfl) ea_nil))) (d := .str "nought") ⟨1, _, _, .inr "nought", rfl, .inr (.inl ⟨rfl, P1, Q1, P2, Q2, rfl, ops.div.1, ops.div.2.1, _, _, rfl, .inl ⟨by rw [hP, prd_comm]; rfl, rfl⟩⟩), rfl⟩) (ed_str "nought") sh_nought sh_nought))).is ?_
        rw [show PyData.eqv (.str "nought") (.str "nought") = true by decide +kernel]
        simp
      · refine (eb_and (c := false) (eb_ev (ed_eqD (ed_ixT (ed_var (i := 11) m18.1 rfl) (ed_int 0) (d := PoD P2) rfl) nl (sh_po _) (sh_po _))) (fun hb => ?_)).is ?_
        · rw [eqv_po, decide_eq_true_eq] at hb
          exact absurd hb hP
        · simp
    -- the slopes' row
    have dsp := (rp.szA (p := p) (by omega) (by decide)).der
    refine m_no m19 (eb_ev (ed_neD (d := PoD (der p)) (e := PoD (der p)) ((ed_call (ea_cons (ed_var (i := 2) m19.1 rfl) ea_nil) dsp).is (by rw [tr_eq (der_tr dp.tr)])) ((ed_tupleL (elc_range2 (j := 19) (vs := [19]) (lo := 1) (n := (p.length : Int)) (fun _ => true) (fun i => FrD (((1 + i : Nat) : Rat) * cf p (1 + i))) (ea_cons (ed_int 1) (ea_cons ((ed_lenT (ed_var (i := 2) m19.1 rfl)).is (by rw [List.length_map])) ea_nil)) (by omega) (wipe1 19) (fun _ _ _ => rfl) (fun _ _ _ _ => eb_yes) (fun i H20 s20 hi _ => ?_)).dd).is ?_) (sh_po _) (sh_po _))) (by rw [eqp]; rfl) fun H20 m20 => ?_
    · have e20 := ((env_wipe m19.1 [19]).same s20).set (i := 19) (Dp.int (1 + (i : Int)))
      have hi2 : 1 + i < p.length := by omega
      have ei : (1 + (i : Int)) = ((1 + i : Nat) : Int) := by omega
      refine ed_call (ea_cons (ed_ixT (ed_var (i := 2) e20 rfl) (ed_var (i := 19) e20 rfl) (d := FrD (cf p (1 + i))) (by rw [ei]; exact po_get hi2)) (ea_cons ((ed_tup (ea_cons (ed_var (i := 19) e20 rfl) (ea_cons (ed_int 1) ea_nil)) (by simp)).is (d' := FrD ((1 + i : Nat) : Rat)) (by rw [ei]; rfl)) ea_nil)) ⟨_, _, rfl, (rp.cfb _).sl (by decide), ?_, by rw [Rat.mul_comm]⟩
      refine Bits.sl (α := 10) ⟨?_, by show (1 : Nat) ≤ _; decide⟩ (by decide)
      show ((1 + i : Nat) : Int).natAbs ≤ 2 ^ 10
      rw [Int.natAbs_natCast]
      omega
    · rw [gv_all]
      unfold PoD der
      rw [List.map_map, show ((p.length : Int) - 1).toNat = p.length - 1 by omega]
      rfl
    -- the end
    refine m_set m20 (ed_callX (d := QuD SP SQ) (ea_cons (ed_call (ea_cons ((ed_tup (ea_cons (ed_call (ea_cons (ed_ixT (ed_var (i := 9) m20.1 rfl) (ed_int 0) rfl) ea_nil) hdP) (ea_cons po1 ea_nil)) (by simp))) (ea_cons (ed_call (ea_cons (ed_var (i := 9) m20.1 rfl) (ea_cons (ed_tup (ea_cons (ed_call (ea_cons (ed_ixT (ed_var (i := 9) m20.1 rfl) (ed_int 1) rfl) ea_nil) hdQ) (ea_cons po1 ea_nil)) (by simp)) ea_nil)) hMu) ea_nil)) hLe) (ea_cons (ed_tup (ea_cons (ed_ixT (ed_var (i := 9) m20.1 rfl) (ed_int 1) (d := PoD Q1) rfl) (ea_cons po1 ea_nil)) (by simp)) ea_nil)) hDv) fun σ21 H21 m21 => ?_
    refine (ed_eqD (ed_call (ea_cons (ed_var (i := 9) m21.1 rfl) ea_nil) hSl) (ed_var (i := 17) m21.1 rfl) (sh_qu _ _) (sh_qu _ _) : EvD K _ _ H21 _) H21 (Same.refl H21) _ fun v22 H22 s22 hv => ?_
    cases hv
    refine ⟨_, rfl, ?_⟩
    rw [eqq, if_pos rfl]
    exact edge m21.2.1 (m21.2.2.same s22)
end
end K11
/-! the end: what the top has written, and the law's head. -/
namespace K11
open PySem PySem.Spec PyProof.Rows L2
theorem dpk {K : PySem.W.Frag} {H : Hp} {a : Addr} {od : Option Addr} {its : Array Value} {n : Nat} {sl : Array (Option Value)} {xs : List V} {ds : List PyData} (h : K.lookup a = some ⟨.type "tuple", od, .seq its n, sl⟩) (hs : its.size ≤ sizeLine) (hv : Vals xs its.toList) (hd : DpAll K H xs ds) : Dp K H (.ref a) (.tuple ds) :=
  .tup (.inr ⟨_, its, n, h, rfl, rfl, hs, hv⟩) hd
theorem exm_own {K : PySem.W.Frag} {S : Addr} (h1 : PySem.W.subIn K (.ref S) (.type "BaseException") = some true) (h2 : PySem.W.isClsIn K S = true) (h3 : PySem.W.typeIn K (.ref S) = some (.type "type")) (h4 : PySem.W.subIn K (.ref S) (.ref S) = some true) :
    PySem.W.exmOne K (.ref S) (.ref S) = some true := by
  have e1 : (PySem.W.subIn K (.ref S) (.type "BaseException") == some true) = true := by rw [h1] <;> rfl
  have e2 : ((PySem.W.clsIn K S).isSome && PySem.W.typeIn K (.ref S) == some (.type "type")) = true := by
    have h2' : (PySem.W.clsIn K S).isSome = true := h2
    rw [h2', h3] <;> rfl
  show (if (PySem.W.subIn K (.ref S) (.type "BaseException") == some true) = true then (if ((PySem.W.clsIn K S).isSome && PySem.W.typeIn K (.ref S) == some (.type "type")) = true then PySem.W.subIn K (.ref S) (.ref S) else none) else none) = some true
  rw [if_pos e1, if_pos e2]
  exact h4
theorem all_mk {P : Program} {w : World} {K : PySem.W.Frag} {h : Heap} {mg : Str → Option Value} {fa C W fI cda cc a0 a1 a2 : Addr} (X : K.In h) (G : h.Ns mainGlobals mg) (hfa : mg "law" = some (.ref fa))
    {f4 f5 f6 f7 f8 f9 f10 f15 f16 f17 f18 f19 f20 f21 f22 f23 f24 f25 f26 f27 f28 f29 f30 f31 f32 f34 f35 f37 f40 f41 f42 f44 f45 f46 f47 f48 f49 f50 f51 f52 f53 : Addr} {od4 an4 od5 an5 od6 an6 od7 an7 od8 an8 od9 an9 od10 an10 od15 an15 od16 an16 od17 an17 od18 an18 od19 an19 od20 an20 od21 an21 od22 an22 od23 an23 od24 an24 od25 an25 od26 an26 od27 an27 od28 an28 od29 an29 od30 an30 od31 an31 od32 an32 od34 an34 od35 an35 od37 an37 od40 an40 od41 an41 od42 an42 od44 an44 od45 an45 od46 an46 od47 an47 od48 an48 od49 an49 od50 an50 od51 an51 od52 an52 od53 an53 : Option Addr} {sl4 sl5 sl6 sl7 sl8 sl9 sl10 sl15 sl16 sl17 sl18 sl19 sl20 sl21 sl22 sl23 sl24 sl25 sl26 sl27 sl28 sl29 sl30 sl31 sl32 sl34 sl35 sl37 sl40 sl41 sl42 sl44 sl45 sl46 sl47 sl48 sl49 sl50 sl51 sl52 sl53 : Array (Option Value)} {oc4 kV4 dc4 pm4 cd4 ct4 oc5 kV5 dc5 pm5 cd5 ct5 oc6 kV6 dc6 pm6 cd6 ct6 oc7 kV7 dc7 pm7 cd7 ct7 oc8 kV8 dc8 pm8 cd8 ct8 oc9 kV9 dc9 pm9 cd9 ct9 oc10 kV10 dc10 pm10 cd10 ct10 oc15 kV15 dc15 pm15 cd15 ct15 oc16 kV16 dc16 pm16 cd16 ct16 oc17 kV17 dc17 pm17 cd17 ct17 oc18 kV18 dc18 pm18 cd18 ct18 oc19 kV19 dc19 pm19 cd19 ct19 oc20 kV20 dc20 pm20 cd20 ct20 oc21 kV21 dc21 pm21 cd21 ct21 oc22 kV22 dc22 pm22 cd22 ct22 oc23 kV23 dc23 pm23 cd23 ct23 oc24 kV24 dc24 pm24 cd24 ct24 oc25 kV25 dc25 pm25 cd25 ct25 oc26 kV26 dc26 pm26 cd26 ct26 oc27 kV27 dc27 pm27 cd27 ct27 oc28 kV28 dc28 pm28 cd28 ct28 oc29 kV29 dc29 pm29 cd29 ct29 oc30 kV30 dc30 pm30 cd30 ct30 oc31 kV31 dc31 pm31 cd31 ct31 oc32 kV32 dc32 pm32 cd32 ct32 oc34 kV34 dc34 pm34 cd34 ct34 oc35 kV35 dc35 pm35 cd35 ct35 oc37 kV37 dc37 pm37 cd37 ct37 oc40 kV40 dc40 pm40 cd40 ct40 oc41 kV41 dc41 pm41 cd41 ct41 oc42 kV42 dc42 pm42 cd42 ct42 oc44 kV44 dc44 pm44 cd44 ct44 oc45 kV45 dc45 pm45 cd45 ct45 oc46 kV46 dc46 pm46 cd46 ct46 oc47 kV47 dc47 pm47 cd47 ct47 oc48 kV48 dc48 pm48 cd48 ct48 oc49 kV49 dc49 pm49 cd49 ct49 oc50 kV50 dc50 pm50 cd50 ct50 oc51 kV51 dc51 pm51 cd51 ct51 oc52 kV52 dc52 pm52 cd52 ct52 oc53 kV53 dc53 pm53 cd53 ct53 : Value}
    (x4a : PySem.W.nsIn K mainGlobals "divisor" = some (some (.ref f4))) (x4l : K.lookup f4 = some ⟨oc4, od4, .func (PySem.W.fnOf "divisor" "divisor" (defArgs (topS 4)) (defBody (topS 4)) (defScope (topS 4)) .none kV4 dc4 pm4 an4 cd4 ct4), sl4⟩) (x4c : PySem.W.codeIn K cd4 "divisor" = true) (x4k : PySem.W.keepIn K (.ref f4) = true)
    (x5a : PySem.W.nsIn K mainGlobals "part" = some (some (.ref f5))) (x5l : K.lookup f5 = some ⟨oc5, od5, .func (PySem.W.fnOf "part" "part" (defArgs (topS 5)) (defBody (topS 5)) (defScope (topS 5)) .none kV5 dc5 pm5 an5 cd5 ct5), sl5⟩) (x5c : PySem.W.codeIn K cd5 "part" = true) (x5k : PySem.W.keepIn K (.ref f5) = true)
    (x6a : PySem.W.nsIn K mainGlobals "is_part" = some (some (.ref f6))) (x6l : K.lookup f6 = some ⟨oc6, od6, .func (PySem.W.fnOf "is_part" "is_part" (defArgs (topS 6)) (defBody (topS 6)) (defScope (topS 6)) .none kV6 dc6 pm6 an6 cd6 ct6), sl6⟩) (x6c : PySem.W.codeIn K cd6 "is_part" = true) (x6k : PySem.W.keepIn K (.ref f6) = true)
    (x7a : PySem.W.nsIn K mainGlobals "plus" = some (some (.ref f7))) (x7l : K.lookup f7 = some ⟨oc7, od7, .func (PySem.W.fnOf "plus" "plus" (defArgs (topS 7)) (defBody (topS 7)) (defScope (topS 7)) .none kV7 dc7 pm7 an7 cd7 ct7), sl7⟩) (x7c : PySem.W.codeIn K cd7 "plus" = true) (x7k : PySem.W.keepIn K (.ref f7) = true)
    (x8a : PySem.W.nsIn K mainGlobals "minus" = some (some (.ref f8))) (x8l : K.lookup f8 = some ⟨oc8, od8, .func (PySem.W.fnOf "minus" "minus" (defArgs (topS 8)) (defBody (topS 8)) (defScope (topS 8)) .none kV8 dc8 pm8 an8 cd8 ct8), sl8⟩) (x8c : PySem.W.codeIn K cd8 "minus" = true) (x8k : PySem.W.keepIn K (.ref f8) = true)
    (x9a : PySem.W.nsIn K mainGlobals "times" = some (some (.ref f9))) (x9l : K.lookup f9 = some ⟨oc9, od9, .func (PySem.W.fnOf "times" "times" (defArgs (topS 9)) (defBody (topS 9)) (defScope (topS 9)) .none kV9 dc9 pm9 an9 cd9 ct9), sl9⟩) (x9c : PySem.W.codeIn K cd9 "times" = true) (x9k : PySem.W.keepIn K (.ref f9) = true)
    (x10a : PySem.W.nsIn K mainGlobals "over" = some (some (.ref f10))) (x10l : K.lookup f10 = some ⟨oc10, od10, .func (PySem.W.fnOf "over" "over" (defArgs (topS 10)) (defBody (topS 10)) (defScope (topS 10)) .none kV10 dc10 pm10 an10 cd10 ct10), sl10⟩) (x10c : PySem.W.codeIn K cd10 "over" = true) (x10k : PySem.W.keepIn K (.ref f10) = true)
    (x15a : PySem.W.nsIn K mainGlobals "is_poly" = some (some (.ref f15))) (x15l : K.lookup f15 = some ⟨oc15, od15, .func (PySem.W.fnOf "is_poly" "is_poly" (defArgs (topS 15)) (defBody (topS 15)) (defScope (topS 15)) .none kV15 dc15 pm15 an15 cd15 ct15), sl15⟩) (x15c : PySem.W.codeIn K cd15 "is_poly" = true) (x15k : PySem.W.keepIn K (.ref f15) = true)
    (x16a : PySem.W.nsIn K mainGlobals "trimmed" = some (some (.ref f16))) (x16l : K.lookup f16 = some ⟨oc16, od16, .func (PySem.W.fnOf "trimmed" "trimmed" (defArgs (topS 16)) (defBody (topS 16)) (defScope (topS 16)) .none kV16 dc16 pm16 an16 cd16 ct16), sl16⟩) (x16c : PySem.W.codeIn K cd16 "trimmed" = true) (x16k : PySem.W.keepIn K (.ref f16) = true)
    (x17a : PySem.W.nsIn K mainGlobals "added_poly" = some (some (.ref f17))) (x17l : K.lookup f17 = some ⟨oc17, od17, .func (PySem.W.fnOf "added_poly" "added_poly" (defArgs (topS 17)) (defBody (topS 17)) (defScope (topS 17)) .none kV17 dc17 pm17 an17 cd17 ct17), sl17⟩) (x17c : PySem.W.codeIn K cd17 "added_poly" = true) (x17k : PySem.W.keepIn K (.ref f17) = true)
    (x18a : PySem.W.nsIn K mainGlobals "product_poly" = some (some (.ref f18))) (x18l : K.lookup f18 = some ⟨oc18, od18, .func (PySem.W.fnOf "product_poly" "product_poly" (defArgs (topS 18)) (defBody (topS 18)) (defScope (topS 18)) .none kV18 dc18 pm18 an18 cd18 ct18), sl18⟩) (x18c : PySem.W.codeIn K cd18 "product_poly" = true) (x18k : PySem.W.keepIn K (.ref f18) = true)
    (x19a : PySem.W.nsIn K mainGlobals "scaled_poly" = some (some (.ref f19))) (x19l : K.lookup f19 = some ⟨oc19, od19, .func (PySem.W.fnOf "scaled_poly" "scaled_poly" (defArgs (topS 19)) (defBody (topS 19)) (defScope (topS 19)) .none kV19 dc19 pm19 an19 cd19 ct19), sl19⟩) (x19c : PySem.W.codeIn K cd19 "scaled_poly" = true) (x19k : PySem.W.keepIn K (.ref f19) = true)
    (x20a : PySem.W.nsIn K mainGlobals "divided_poly" = some (some (.ref f20))) (x20l : K.lookup f20 = some ⟨oc20, od20, .func (PySem.W.fnOf "divided_poly" "divided_poly" (defArgs (topS 20)) (defBody (topS 20)) (defScope (topS 20)) .none kV20 dc20 pm20 an20 cd20 ct20), sl20⟩) (x20c : PySem.W.codeIn K cd20 "divided_poly" = true) (x20k : PySem.W.keepIn K (.ref f20) = true)
    (x21a : PySem.W.nsIn K mainGlobals "common_poly" = some (some (.ref f21))) (x21l : K.lookup f21 = some ⟨oc21, od21, .func (PySem.W.fnOf "common_poly" "common_poly" (defArgs (topS 21)) (defBody (topS 21)) (defScope (topS 21)) .none kV21 dc21 pm21 an21 cd21 ct21), sl21⟩) (x21c : PySem.W.codeIn K cd21 "common_poly" = true) (x21k : PySem.W.keepIn K (.ref f21) = true)
    (x22a : PySem.W.nsIn K mainGlobals "ratio" = some (some (.ref f22))) (x22l : K.lookup f22 = some ⟨oc22, od22, .func (PySem.W.fnOf "ratio" "ratio" (defArgs (topS 22)) (defBody (topS 22)) (defScope (topS 22)) .none kV22 dc22 pm22 an22 cd22 ct22), sl22⟩) (x22c : PySem.W.codeIn K cd22 "ratio" = true) (x22k : PySem.W.keepIn K (.ref f22) = true)
    (x23a : PySem.W.nsIn K mainGlobals "is_ratio" = some (some (.ref f23))) (x23l : K.lookup f23 = some ⟨oc23, od23, .func (PySem.W.fnOf "is_ratio" "is_ratio" (defArgs (topS 23)) (defBody (topS 23)) (defScope (topS 23)) .none kV23 dc23 pm23 an23 cd23 ct23), sl23⟩) (x23c : PySem.W.codeIn K cd23 "is_ratio" = true) (x23k : PySem.W.keepIn K (.ref f23) = true)
    (x24a : PySem.W.nsIn K mainGlobals "of_part" = some (some (.ref f24))) (x24l : K.lookup f24 = some ⟨oc24, od24, .func (PySem.W.fnOf "of_part" "of_part" (defArgs (topS 24)) (defBody (topS 24)) (defScope (topS 24)) .none kV24 dc24 pm24 an24 cd24 ct24), sl24⟩) (x24c : PySem.W.codeIn K cd24 "of_part" = true) (x24k : PySem.W.keepIn K (.ref f24) = true)
    (x25a : PySem.W.nsIn K mainGlobals "added" = some (some (.ref f25))) (x25l : K.lookup f25 = some ⟨oc25, od25, .func (PySem.W.fnOf "added" "added" (defArgs (topS 25)) (defBody (topS 25)) (defScope (topS 25)) .none kV25 dc25 pm25 an25 cd25 ct25), sl25⟩) (x25c : PySem.W.codeIn K cd25 "added" = true) (x25k : PySem.W.keepIn K (.ref f25) = true)
    (x26a : PySem.W.nsIn K mainGlobals "less" = some (some (.ref f26))) (x26l : K.lookup f26 = some ⟨oc26, od26, .func (PySem.W.fnOf "less" "less" (defArgs (topS 26)) (defBody (topS 26)) (defScope (topS 26)) .none kV26 dc26 pm26 an26 cd26 ct26), sl26⟩) (x26c : PySem.W.codeIn K cd26 "less" = true) (x26k : PySem.W.keepIn K (.ref f26) = true)
    (x27a : PySem.W.nsIn K mainGlobals "multiplied" = some (some (.ref f27))) (x27l : K.lookup f27 = some ⟨oc27, od27, .func (PySem.W.fnOf "multiplied" "multiplied" (defArgs (topS 27)) (defBody (topS 27)) (defScope (topS 27)) .none kV27 dc27 pm27 an27 cd27 ct27), sl27⟩) (x27c : PySem.W.codeIn K cd27 "multiplied" = true) (x27k : PySem.W.keepIn K (.ref f27) = true)
    (x28a : PySem.W.nsIn K mainGlobals "divided" = some (some (.ref f28))) (x28l : K.lookup f28 = some ⟨oc28, od28, .func (PySem.W.fnOf "divided" "divided" (defArgs (topS 28)) (defBody (topS 28)) (defScope (topS 28)) .none kV28 dc28 pm28 an28 cd28 ct28), sl28⟩) (x28c : PySem.W.codeIn K cd28 "divided" = true) (x28k : PySem.W.keepIn K (.ref f28) = true)
    (x29a : PySem.W.nsIn K mainGlobals "poly_at" = some (some (.ref f29))) (x29l : K.lookup f29 = some ⟨oc29, od29, .func (PySem.W.fnOf "poly_at" "poly_at" (defArgs (topS 29)) (defBody (topS 29)) (defScope (topS 29)) .none kV29 dc29 pm29 an29 cd29 ct29), sl29⟩) (x29c : PySem.W.codeIn K cd29 "poly_at" = true) (x29k : PySem.W.keepIn K (.ref f29) = true)
    (x30a : PySem.W.nsIn K mainGlobals "ratio_at" = some (some (.ref f30))) (x30l : K.lookup f30 = some ⟨oc30, od30, .func (PySem.W.fnOf "ratio_at" "ratio_at" (defArgs (topS 30)) (defBody (topS 30)) (defScope (topS 30)) .none kV30 dc30 pm30 an30 cd30 ct30), sl30⟩) (x30c : PySem.W.codeIn K cd30 "ratio_at" = true) (x30k : PySem.W.keepIn K (.ref f30) = true)
    (x31a : PySem.W.nsIn K mainGlobals "slope" = some (some (.ref f31))) (x31l : K.lookup f31 = some ⟨oc31, od31, .func (PySem.W.fnOf "slope" "slope" (defArgs (topS 31)) (defBody (topS 31)) (defScope (topS 31)) .none kV31 dc31 pm31 an31 cd31 ct31), sl31⟩) (x31c : PySem.W.codeIn K cd31 "slope" = true) (x31k : PySem.W.keepIn K (.ref f31) = true)
    (x32a : PySem.W.nsIn K mainGlobals "derived" = some (some (.ref f32))) (x32l : K.lookup f32 = some ⟨oc32, od32, .func (PySem.W.fnOf "derived" "derived" (defArgs (topS 32)) (defBody (topS 32)) (defScope (topS 32)) .none kV32 dc32 pm32 an32 cd32 ct32), sl32⟩) (x32c : PySem.W.codeIn K cd32 "derived" = true) (x32k : PySem.W.keepIn K (.ref f32) = true)
    (x34a : PySem.W.nsIn K mainGlobals "_law_state" = some (some (.ref f34))) (x34l : K.lookup f34 = some ⟨oc34, od34, .func (PySem.W.fnOf "_law_state" "_law_state" (defArgs (topS 34)) (defBody (topS 34)) (defScope (topS 34)) .none kV34 dc34 pm34 an34 cd34 ct34), sl34⟩) (x34c : PySem.W.codeIn K cd34 "_law_state" = true) (x34k : PySem.W.keepIn K (.ref f34) = true)
    (x35a : PySem.W.nsIn K mainGlobals "_law_take" = some (some (.ref f35))) (x35l : K.lookup f35 = some ⟨oc35, od35, .func (PySem.W.fnOf "_law_take" "_law_take" (defArgs (topS 35)) (defBody (topS 35)) (defScope (topS 35)) .none kV35 dc35 pm35 an35 cd35 ct35), sl35⟩) (x35c : PySem.W.codeIn K cd35 "_law_take" = true) (x35k : PySem.W.keepIn K (.ref f35) = true)
    (x37a : PySem.W.nsIn K mainGlobals "_law_fr" = some (some (.ref f37))) (x37l : K.lookup f37 = some ⟨oc37, od37, .func (PySem.W.fnOf "_law_fr" "_law_fr" (defArgs (topS 37)) (defBody (topS 37)) (defScope (topS 37)) .none kV37 dc37 pm37 an37 cd37 ct37), sl37⟩) (x37c : PySem.W.codeIn K cd37 "_law_fr" = true) (x37k : PySem.W.keepIn K (.ref f37) = true)
    (x40a : PySem.W.nsIn K mainGlobals "_law_add" = some (some (.ref f40))) (x40l : K.lookup f40 = some ⟨oc40, od40, .func (PySem.W.fnOf "_law_add" "_law_add" (defArgs (topS 40)) (defBody (topS 40)) (defScope (topS 40)) .none kV40 dc40 pm40 an40 cd40 ct40), sl40⟩) (x40c : PySem.W.codeIn K cd40 "_law_add" = true) (x40k : PySem.W.keepIn K (.ref f40) = true)
    (x41a : PySem.W.nsIn K mainGlobals "_law_mul" = some (some (.ref f41))) (x41l : K.lookup f41 = some ⟨oc41, od41, .func (PySem.W.fnOf "_law_mul" "_law_mul" (defArgs (topS 41)) (defBody (topS 41)) (defScope (topS 41)) .none kV41 dc41 pm41 an41 cd41 ct41), sl41⟩) (x41c : PySem.W.codeIn K cd41 "_law_mul" = true) (x41k : PySem.W.keepIn K (.ref f41) = true)
    (x42a : PySem.W.nsIn K mainGlobals "_law_sub" = some (some (.ref f42))) (x42l : K.lookup f42 = some ⟨oc42, od42, .func (PySem.W.fnOf "_law_sub" "_law_sub" (defArgs (topS 42)) (defBody (topS 42)) (defScope (topS 42)) .none kV42 dc42 pm42 an42 cd42 ct42), sl42⟩) (x42c : PySem.W.codeIn K cd42 "_law_sub" = true) (x42k : PySem.W.keepIn K (.ref f42) = true)
    (x44a : PySem.W.nsIn K mainGlobals "_law_poly" = some (some (.ref f44))) (x44l : K.lookup f44 = some ⟨oc44, od44, .func (PySem.W.fnOf "_law_poly" "_law_poly" (defArgs (topS 44)) (defBody (topS 44)) (defScope (topS 44)) .none kV44 dc44 pm44 an44 cd44 ct44), sl44⟩) (x44c : PySem.W.codeIn K cd44 "_law_poly" = true) (x44k : PySem.W.keepIn K (.ref f44) = true)
    (x45a : PySem.W.nsIn K mainGlobals "_law_sum" = some (some (.ref f45))) (x45l : K.lookup f45 = some ⟨oc45, od45, .func (PySem.W.fnOf "_law_sum" "_law_sum" (defArgs (topS 45)) (defBody (topS 45)) (defScope (topS 45)) .none kV45 dc45 pm45 an45 cd45 ct45), sl45⟩) (x45c : PySem.W.codeIn K cd45 "_law_sum" = true) (x45k : PySem.W.keepIn K (.ref f45) = true)
    (x46a : PySem.W.nsIn K mainGlobals "_law_product" = some (some (.ref f46))) (x46l : K.lookup f46 = some ⟨oc46, od46, .func (PySem.W.fnOf "_law_product" "_law_product" (defArgs (topS 46)) (defBody (topS 46)) (defScope (topS 46)) .none kV46 dc46 pm46 an46 cd46 ct46), sl46⟩) (x46c : PySem.W.codeIn K cd46 "_law_product" = true) (x46k : PySem.W.keepIn K (.ref f46) = true)
    (x47a : PySem.W.nsIn K mainGlobals "_law_times" = some (some (.ref f47))) (x47l : K.lookup f47 = some ⟨oc47, od47, .func (PySem.W.fnOf "_law_times" "_law_times" (defArgs (topS 47)) (defBody (topS 47)) (defScope (topS 47)) .none kV47 dc47 pm47 an47 cd47 ct47), sl47⟩) (x47c : PySem.W.codeIn K cd47 "_law_times" = true) (x47k : PySem.W.keepIn K (.ref f47) = true)
    (x48a : PySem.W.nsIn K mainGlobals "_law_at" = some (some (.ref f48))) (x48l : K.lookup f48 = some ⟨oc48, od48, .func (PySem.W.fnOf "_law_at" "_law_at" (defArgs (topS 48)) (defBody (topS 48)) (defScope (topS 48)) .none kV48 dc48 pm48 an48 cd48 ct48), sl48⟩) (x48c : PySem.W.codeIn K cd48 "_law_at" = true) (x48k : PySem.W.keepIn K (.ref f48) = true)
    (x49a : PySem.W.nsIn K mainGlobals "_law_told" = some (some (.ref f49))) (x49l : K.lookup f49 = some ⟨oc49, od49, .func (PySem.W.fnOf "_law_told" "_law_told" (defArgs (topS 49)) (defBody (topS 49)) (defScope (topS 49)) .none kV49 dc49 pm49 an49 cd49 ct49), sl49⟩) (x49c : PySem.W.codeIn K cd49 "_law_told" = true) (x49k : PySem.W.keepIn K (.ref f49) = true)
    (x50a : PySem.W.nsIn K mainGlobals "_law_read" = some (some (.ref f50))) (x50l : K.lookup f50 = some ⟨oc50, od50, .func (PySem.W.fnOf "_law_read" "_law_read" (defArgs (topS 50)) (defBody (topS 50)) (defScope (topS 50)) .none kV50 dc50 pm50 an50 cd50 ct50), sl50⟩) (x50c : PySem.W.codeIn K cd50 "_law_read" = true) (x50k : PySem.W.keepIn K (.ref f50) = true)
    (x51a : PySem.W.nsIn K mainGlobals "_law_good" = some (some (.ref f51))) (x51l : K.lookup f51 = some ⟨oc51, od51, .func (PySem.W.fnOf "_law_good" "_law_good" (defArgs (topS 51)) (defBody (topS 51)) (defScope (topS 51)) .none kV51 dc51 pm51 an51 cd51 ct51), sl51⟩) (x51c : PySem.W.codeIn K cd51 "_law_good" = true) (x51k : PySem.W.keepIn K (.ref f51) = true)
    (x52a : PySem.W.nsIn K mainGlobals "_law_edges" = some (some (.ref f52))) (x52l : K.lookup f52 = some ⟨oc52, od52, .func (PySem.W.fnOf "_law_edges" "_law_edges" (defArgs (topS 52)) (defBody (topS 52)) (defScope (topS 52)) .none kV52 dc52 pm52 an52 cd52 ct52), sl52⟩) (x52c : PySem.W.codeIn K cd52 "_law_edges" = true) (x52k : PySem.W.keepIn K (.ref f52) = true)
    (x53a : PySem.W.nsIn K mainGlobals "law" = some (some (.ref f53))) (x53l : K.lookup f53 = some ⟨oc53, od53, .func (PySem.W.fnOf "law" "law" (defArgs (topS 53)) (defBody (topS 53)) (defScope (topS 53)) .none kV53 dc53 pm53 an53 cd53 ct53), sl53⟩) (x53c : PySem.W.codeIn K cd53 "law" = true) (x53k : PySem.W.keepIn K (.ref f53) = true)
    (z_abs : PySem.W.nsIn K mainGlobals "abs" = some none)
    (z_len : PySem.W.nsIn K mainGlobals "len" = some none)
    (z_max : PySem.W.nsIn K mainGlobals "max" = some none)
    (z_list : PySem.W.nsIn K mainGlobals "list" = some none)
    (z_tuple : PySem.W.nsIn K mainGlobals "tuple" = some none)
    (z_range : PySem.W.nsIn K mainGlobals "range" = some none)
    (z_isinstance : PySem.W.nsIn K mainGlobals "isinstance" = some none)
    (z_int : PySem.W.nsIn K mainGlobals "int" = some none)
    (z_bool : PySem.W.nsIn K mainGlobals "bool" = some none)
    (z_all : PySem.W.nsIn K mainGlobals "all" = some none)
    (z_super : PySem.W.nsIn K mainGlobals "super" = some none)
    {nm q : Str} {N : Addr} {bs : List Value} {sn : List Str} {sub : List Value} {ab : Bool} {col : Option Bool} {dd : Option Addr} {m0 m1 m2 m3 m5 : Option Value}
    (aC : PySem.W.nsIn K mainGlobals "Misstep" = some (some (.ref C)))
    (xC : K.lookup C = some (excClassObj nm q C N bs [.ref W, .type "ValueError", .type "Exception", .type "BaseException", .type "object"] true sn sub ab col dd m0 m1 m2 m3 m5 "ValueError.__new__"))
    (cS : PySem.W.findIn K (.ref C) "__setattr__" = some (some (.builtin "object.__setattr__"))) (cG : PySem.W.findIn K (.ref C) "__getattribute__" = some (some (.builtin "BaseException.__getattribute__"))) (cA : PySem.W.findIn K (.ref C) "__getattr__" = some none) (cN : PySem.W.findIn K (.ref C) "word" = some none)
    (cI : PySem.W.findIn K (.ref C) "__init__" = some (some (.ref fI))) (cT : PySem.W.typeIn K (.ref fI) = some (.type "function")) (cP : PySem.W.ks_superIn K C C "__init__" = some (some (.builtin "ValueError.__init__"))) (cV : PySem.W.subIn K (.ref C) (.type "ValueError") = some true) (cM : PySem.W.mroIn K C (.ref C) = some true)
    (cO : PySem.W.nsIn K cStatics "thirdparty.any" = some none) (cB : PySem.W.subIn K (.ref C) (.type "BaseException") = some true) (cY : PySem.W.typeIn K (.ref C) = some (.type "type")) (cK : PySem.W.keepIn K (.ref C) = true) (cH : PySem.W.hasDictIn K C = true) (cL : PySem.W.isClsIn K C = true) (cE : PySem.W.subIn K (.ref C) (.ref C) = some true)
    {ocI kVI dcI pmI ctI clI clc : Value} {odI anI odc odd : Option Addr} {slI slc sld : Array (Option Value)} {vs : Array Value} {file : Str} {tf : Tok}
    (iL : K.lookup fI = some ⟨ocI, odI, .func (PySem.W.ksFn "__init__" "Misstep.__init__" (defArgs sMisInit) (defBody sMisInit) (defScope sMisInit) .none kVI dcI pmI anI (.ref cda) ctI cc), slI⟩) (iC : PySem.W.codeIn K (.ref cda) "Misstep.__init__" = true)
    (iD : K.lookup cda = some ⟨clI, odc, .fields vs, slc⟩) (iV : vs[2]? = some (.str file tf)) (iF : ((P.main.file : Str) == file) = true) (iX : K.lookup cc = some ⟨clc, odd, .cell (some (.ref C)), sld⟩) (iT : (P.main.scope.names.lookup ("super" : Str)).isSome = false)
    {u0 v0 w0 u1 v1 w1 r1 u2 v2 w2 r2 s2 : Addr} {o0a o0b o0c o0d o1a o1b o1e o1c o1d o2a o2b o2e o2f o2c o2d : Option Addr} {n0a n0b n0c n0d n1a n1b n1e n1c n1d n2a n2b n2e n2f n2c n2d : Nat} {y0a y0b y0c y0d y1a y1b y1e y1c y1d y2a y2b y2e y2f y2c y2d : Array (Option Value)} {k0a k0b k1a k1b k1c k1d k2a k2b k2c k2d k2e k2f : Tok}
    (b0 : PySem.W.nsIn K mainGlobals "NOUGHT" = some (some (.ref a0)))
    (b0a : K.lookup a0 = some ⟨.type "tuple", o0a, .seq #[.ref u0, .ref v0] n0a, y0a⟩)
    (b0b : K.lookup u0 = some ⟨.type "tuple", o0b, .seq #[] n0b, y0b⟩)
    (b0c : K.lookup v0 = some ⟨.type "tuple", o0c, .seq #[.ref w0] n0c, y0c⟩)
    (b0d : K.lookup w0 = some ⟨.type "tuple", o0d, .seq #[.int 1 k0a, .int 1 k0b] n0d, y0d⟩)
    (b1 : PySem.W.nsIn K mainGlobals "WHOLE" = some (some (.ref a1)))
    (b1a : K.lookup a1 = some ⟨.type "tuple", o1a, .seq #[.ref u1, .ref v1] n1a, y1a⟩)
    (b1b : K.lookup u1 = some ⟨.type "tuple", o1b, .seq #[.ref r1] n1b, y1b⟩)
    (b1e : K.lookup r1 = some ⟨.type "tuple", o1e, .seq #[.int 1 k1c, .int 1 k1d] n1e, y1e⟩)
    (b1c : K.lookup v1 = some ⟨.type "tuple", o1c, .seq #[.ref w1] n1c, y1c⟩)
    (b1d : K.lookup w1 = some ⟨.type "tuple", o1d, .seq #[.int 1 k1a, .int 1 k1b] n1d, y1d⟩)
    (b2 : PySem.W.nsIn K mainGlobals "UNKNOWN" = some (some (.ref a2)))
    (b2a : K.lookup a2 = some ⟨.type "tuple", o2a, .seq #[.ref u2, .ref v2] n2a, y2a⟩)
    (b2b : K.lookup u2 = some ⟨.type "tuple", o2b, .seq #[.ref r2, .ref s2] n2b, y2b⟩)
    (b2e : K.lookup r2 = some ⟨.type "tuple", o2e, .seq #[.int 0 k2c, .int 1 k2d] n2e, y2e⟩)
    (b2f : K.lookup s2 = some ⟨.type "tuple", o2f, .seq #[.int 1 k2e, .int 1 k2f] n2f, y2f⟩)
    (b2c : K.lookup v2 = some ⟨.type "tuple", o2c, .seq #[.ref w2] n2c, y2c⟩)
    (b2d : K.lookup w2 = some ⟨.type "tuple", o2d, .seq #[.int 1 k2a, .int 1 k2b] n2d, y2d⟩)
    :
    ∃ fd : FuncData, (∀ (s : Shared) (v : Value), BindsTo s fd ⟨[v], []⟩ [("script", v)]) ∧ ∀ base : Heap, K.In base → base.Ns mainGlobals mg → FnOk P w K mg base CX0 10 fa fd ["script"] (spLaw K) := by
  have e := hfa.symm.trans (PySem.W.mg_of X G x53a)
  cases e
  have g4 := PySem.W.mg_of X G x4a
  have F4 := fun_mk (x := "divisor") (st := topS 4) x4l x4c x4k
  have q4 := F4.binds (ps := ["one", "other"]) fun _ _ _ _ _ _ us hl => match us, hl with | [_, _], _ => rfl
  have g5 := PySem.W.mg_of X G x5a
  have F5 := fun_mk (x := "part") (st := topS 5) x5l x5c x5k
  have q5 := F5.binds (ps := ["above", "below"]) fun _ _ _ _ _ _ us hl => match us, hl with | [_, _], _ => rfl
  have g6 := PySem.W.mg_of X G x6a
  have F6 := fun_mk (x := "is_part") (st := topS 6) x6l x6c x6k
  have q6 := F6.binds (ps := ["value"]) fun _ _ _ _ _ _ us hl => match us, hl with | [_], _ => rfl
  have g7 := PySem.W.mg_of X G x7a
  have F7 := fun_mk (x := "plus") (st := topS 7) x7l x7c x7k
  have q7 := F7.binds (ps := ["one", "other"]) fun _ _ _ _ _ _ us hl => match us, hl with | [_, _], _ => rfl
  have g8 := PySem.W.mg_of X G x8a
  have F8 := fun_mk (x := "minus") (st := topS 8) x8l x8c x8k
  have q8 := F8.binds (ps := ["one", "other"]) fun _ _ _ _ _ _ us hl => match us, hl with | [_, _], _ => rfl
  have g9 := PySem.W.mg_of X G x9a
  have F9 := fun_mk (x := "times") (st := topS 9) x9l x9c x9k
  have q9 := F9.binds (ps := ["one", "other"]) fun _ _ _ _ _ _ us hl => match us, hl with | [_, _], _ => rfl
  have g10 := PySem.W.mg_of X G x10a
  have F10 := fun_mk (x := "over") (st := topS 10) x10l x10c x10k
  have q10 := F10.binds (ps := ["one", "other"]) fun _ _ _ _ _ _ us hl => match us, hl with | [_, _], _ => rfl
  have g15 := PySem.W.mg_of X G x15a
  have F15 := fun_mk (x := "is_poly") (st := topS 15) x15l x15c x15k
  have q15 := F15.binds (ps := ["value"]) fun _ _ _ _ _ _ us hl => match us, hl with | [_], _ => rfl
  have g16 := PySem.W.mg_of X G x16a
  have F16 := fun_mk (x := "trimmed") (st := topS 16) x16l x16c x16k
  have q16 := F16.binds (ps := ["row"]) fun _ _ _ _ _ _ us hl => match us, hl with | [_], _ => rfl
  have g17 := PySem.W.mg_of X G x17a
  have F17 := fun_mk (x := "added_poly") (st := topS 17) x17l x17c x17k
  have q17 := F17.binds (ps := ["one", "other"]) fun _ _ _ _ _ _ us hl => match us, hl with | [_, _], _ => rfl
  have g18 := PySem.W.mg_of X G x18a
  have F18 := fun_mk (x := "product_poly") (st := topS 18) x18l x18c x18k
  have q18 := F18.binds (ps := ["one", "other"]) fun _ _ _ _ _ _ us hl => match us, hl with | [_, _], _ => rfl
  have g19 := PySem.W.mg_of X G x19a
  have F19 := fun_mk (x := "scaled_poly") (st := topS 19) x19l x19c x19k
  have q19 := F19.binds (ps := ["factor", "one"]) fun _ _ _ _ _ _ us hl => match us, hl with | [_, _], _ => rfl
  have g20 := PySem.W.mg_of X G x20a
  have F20 := fun_mk (x := "divided_poly") (st := topS 20) x20l x20c x20k
  have q20 := F20.binds (ps := ["one", "other"]) fun _ _ _ _ _ _ us hl => match us, hl with | [_, _], _ => rfl
  have g21 := PySem.W.mg_of X G x21a
  have F21 := fun_mk (x := "common_poly") (st := topS 21) x21l x21c x21k
  have q21 := F21.binds (ps := ["one", "other"]) fun _ _ _ _ _ _ us hl => match us, hl with | [_, _], _ => rfl
  have g22 := PySem.W.mg_of X G x22a
  have F22 := fun_mk (x := "ratio") (st := topS 22) x22l x22c x22k
  have q22 := F22.binds (ps := ["above", "below"]) fun _ _ _ _ _ _ us hl => match us, hl with | [_, _], _ => rfl
  have g23 := PySem.W.mg_of X G x23a
  have F23 := fun_mk (x := "is_ratio") (st := topS 23) x23l x23c x23k
  have q23 := F23.binds (ps := ["value"]) fun _ _ _ _ _ _ us hl => match us, hl with | [_], _ => rfl
  have g24 := PySem.W.mg_of X G x24a
  have F24 := fun_mk (x := "of_part") (st := topS 24) x24l x24c x24k
  have q24 := F24.binds (ps := ["part"]) fun _ _ _ _ _ _ us hl => match us, hl with | [_], _ => rfl
  have g25 := PySem.W.mg_of X G x25a
  have F25 := fun_mk (x := "added") (st := topS 25) x25l x25c x25k
  have q25 := F25.binds (ps := ["one", "other"]) fun _ _ _ _ _ _ us hl => match us, hl with | [_, _], _ => rfl
  have g26 := PySem.W.mg_of X G x26a
  have F26 := fun_mk (x := "less") (st := topS 26) x26l x26c x26k
  have q26 := F26.binds (ps := ["one", "other"]) fun _ _ _ _ _ _ us hl => match us, hl with | [_, _], _ => rfl
  have g27 := PySem.W.mg_of X G x27a
  have F27 := fun_mk (x := "multiplied") (st := topS 27) x27l x27c x27k
  have q27 := F27.binds (ps := ["one", "other"]) fun _ _ _ _ _ _ us hl => match us, hl with | [_, _], _ => rfl
  have g28 := PySem.W.mg_of X G x28a
  have F28 := fun_mk (x := "divided") (st := topS 28) x28l x28c x28k
  have q28 := F28.binds (ps := ["one", "other"]) fun _ _ _ _ _ _ us hl => match us, hl with | [_, _], _ => rfl
  have g29 := PySem.W.mg_of X G x29a
  have F29 := fun_mk (x := "poly_at") (st := topS 29) x29l x29c x29k
  have q29 := F29.binds (ps := ["one", "place"]) fun _ _ _ _ _ _ us hl => match us, hl with | [_, _], _ => rfl
  have g30 := PySem.W.mg_of X G x30a
  have F30 := fun_mk (x := "ratio_at") (st := topS 30) x30l x30c x30k
  have q30 := F30.binds (ps := ["one", "place"]) fun _ _ _ _ _ _ us hl => match us, hl with | [_, _], _ => rfl
  have g31 := PySem.W.mg_of X G x31a
  have F31 := fun_mk (x := "slope") (st := topS 31) x31l x31c x31k
  have q31 := F31.binds (ps := ["one"]) fun _ _ _ _ _ _ us hl => match us, hl with | [_], _ => rfl
  have g32 := PySem.W.mg_of X G x32a
  have F32 := fun_mk (x := "derived") (st := topS 32) x32l x32c x32k
  have q32 := F32.binds (ps := ["one"]) fun _ _ _ _ _ _ us hl => match us, hl with | [_], _ => rfl
  have g34 := PySem.W.mg_of X G x34a
  have F34 := fun_mk (x := "_law_state") (st := topS 34) x34l x34c x34k
  have q34 := F34.binds (ps := ["script"]) fun _ _ _ _ _ _ us hl => match us, hl with | [_], _ => rfl
  have g35 := PySem.W.mg_of X G x35a
  have F35 := fun_mk (x := "_law_take") (st := topS 35) x35l x35c x35k
  have q35 := F35.binds (ps := ["state", "most"]) fun _ _ _ _ _ _ us hl => match us, hl with | [_, _], _ => rfl
  have g37 := PySem.W.mg_of X G x37a
  have F37 := fun_mk (x := "_law_fr") (st := topS 37) x37l x37c x37k
  have q37 := F37.binds (ps := ["above", "below"]) fun _ _ _ _ _ _ us hl => match us, hl with | [_, _], _ => rfl
  have g40 := PySem.W.mg_of X G x40a
  have F40 := fun_mk (x := "_law_add") (st := topS 40) x40l x40c x40k
  have q40 := F40.binds (ps := ["one", "other"]) fun _ _ _ _ _ _ us hl => match us, hl with | [_, _], _ => rfl
  have g41 := PySem.W.mg_of X G x41a
  have F41 := fun_mk (x := "_law_mul") (st := topS 41) x41l x41c x41k
  have q41 := F41.binds (ps := ["one", "other"]) fun _ _ _ _ _ _ us hl => match us, hl with | [_, _], _ => rfl
  have g42 := PySem.W.mg_of X G x42a
  have F42 := fun_mk (x := "_law_sub") (st := topS 42) x42l x42c x42k
  have q42 := F42.binds (ps := ["one", "other"]) fun _ _ _ _ _ _ us hl => match us, hl with | [_, _], _ => rfl
  have g44 := PySem.W.mg_of X G x44a
  have F44 := fun_mk (x := "_law_poly") (st := topS 44) x44l x44c x44k
  have q44 := F44.binds (ps := ["state", "many"]) fun _ _ _ _ _ _ us hl => match us, hl with | [_, _], _ => rfl
  have g45 := PySem.W.mg_of X G x45a
  have F45 := fun_mk (x := "_law_sum") (st := topS 45) x45l x45c x45k
  have q45 := F45.binds (ps := ["one", "other"]) fun _ _ _ _ _ _ us hl => match us, hl with | [_, _], _ => rfl
  have g46 := PySem.W.mg_of X G x46a
  have F46 := fun_mk (x := "_law_product") (st := topS 46) x46l x46c x46k
  have q46 := F46.binds (ps := ["one", "other"]) fun _ _ _ _ _ _ us hl => match us, hl with | [_, _], _ => rfl
  have g47 := PySem.W.mg_of X G x47a
  have F47 := fun_mk (x := "_law_times") (st := topS 47) x47l x47c x47k
  have q47 := F47.binds (ps := ["one", "factor"]) fun _ _ _ _ _ _ us hl => match us, hl with | [_, _], _ => rfl
  have g48 := PySem.W.mg_of X G x48a
  have F48 := fun_mk (x := "_law_at") (st := topS 48) x48l x48c x48k
  have q48 := F48.binds (ps := ["one", "spot"]) fun _ _ _ _ _ _ us hl => match us, hl with | [_, _], _ => rfl
  have g49 := PySem.W.mg_of X G x49a
  have F49 := fun_mk (x := "_law_told") (st := topS 49) x49l x49c x49k
  have q49 := F49.binds (ps := ["call", "one", "other"]) fun _ _ _ _ _ _ us hl => match us, hl with | [_, _, _], _ => rfl
  have g50 := PySem.W.mg_of X G x50a
  have F50 := fun_mk (x := "_law_read") (st := topS 50) x50l x50c x50k
  have q50 := F50.binds (ps := ["one", "spot"]) fun _ _ _ _ _ _ us hl => match us, hl with | [_, _], _ => rfl
  have g51 := PySem.W.mg_of X G x51a
  have F51 := fun_mk (x := "_law_good") (st := topS 51) x51l x51c x51k
  have q51 := F51.binds (ps := ["one"]) fun _ _ _ _ _ _ us hl => match us, hl with | [_], _ => rfl
  have g52 := PySem.W.mg_of X G x52a
  have F52 := fun_mk (x := "_law_edges") (st := topS 52) x52l x52c x52k
  have q52 := F52.binds (ps := ["state"]) fun _ _ _ _ _ _ us hl => match us, hl with | [_], _ => rfl
  have F53 := fun_mk (x := "law") (st := topS 53) x53l x53c x53k
  have q53 := F53.binds (ps := ["script"]) fun _ _ _ _ _ _ us hl => match us, hl with | [_], _ => rfl
  have m_abs := PySem.W.mg_none_of X G z_abs
  have m_len := PySem.W.mg_none_of X G z_len
  have m_max := PySem.W.mg_none_of X G z_max
  have m_list := PySem.W.mg_none_of X G z_list
  have m_tuple := PySem.W.mg_none_of X G z_tuple
  have m_range := PySem.W.mg_none_of X G z_range
  have m_isinstance := PySem.W.mg_none_of X G z_isinstance
  have m_int := PySem.W.mg_none_of X G z_int
  have m_bool := PySem.W.mg_none_of X G z_bool
  have m_all := PySem.W.mg_none_of X G z_all
  have m_super := PySem.W.mg_none_of X G z_super
  have T : MisTxt P K mg C fI _ := { gC := PySem.W.mg_of X G aC, oex := ⟨⟨nm, q, N, bs, _, sn, sub, ab, col, dd, m0, m1, m2, m3, m5, xC, by rfl⟩, cS, cB, cY, cK⟩, xf := ⟨cG, cA, cB, cH⟩, noN := cN, iC := cI, tI := cT, sup := cP, ve := cV, self := cM, opq := cO, gS := m_super, top := iT, te := exm_own cB cL cY cE, fn := ⟨ocI, odI, kVI, dcI, pmI, anI, cda, ctI, cc, slI, clI, odc, vs, slc, file, tf, clc, odd, sld, rfl, iL, iC, iD, iV, iF, iX⟩ }
  have sz : ∀ {n : Nat}, n ≤ 10 → n ≤ sizeLine := fun h => Nat.le_trans h (by decide)
  have i1 : ∀ {t : Tok} {n : Int}, RelV (V.int n) (Value.int n t) := fun {t n} => ⟨t, rfl⟩
  have rr : ∀ a : Addr, RelV (V.ref a) (Value.ref a) := fun _ => rfl
  have sz2 : ∀ {x y : Value}, (#[x, y] : Array Value).size ≤ sizeLine := fun {x y} => sz (show 2 ≤ 10 by decide)
  have sz1 : ∀ {x : Value}, (#[x] : Array Value).size ≤ sizeLine := fun {x} => sz (show 1 ≤ 10 by decide)
  have one : ∀ {H : Hp} {w : Addr} {o : Option Addr} {n : Nat} {y : Array (Option Value)} {x z : Int} {t t' : Tok}, K.lookup w = some ⟨.type "tuple", o, .seq #[.int x t, .int z t'] n, y⟩ → Dp K H (.ref w) (.tuple [.int x, .int z]) := fun h => dpk h sz2 (.cons i1 (.cons i1 .nil)) (.cons (.int _) (.cons (.int _) .nil))
  have KC : Consts K mg a0 a1 a2 := { g0 := PySem.W.mg_of X G b0, g1 := PySem.W.mg_of X G b1, g2 := PySem.W.mg_of X G b2, d0 := fun H => dpk b0a sz2 (.cons (rr u0) (.cons (rr v0) .nil)) (.cons (dpk b0b (sz (show 0 ≤ 10 by decide)) .nil .nil) (.cons (dpk b0c sz1 (.cons (rr w0) .nil) (.cons (one b0d) .nil)) .nil)), d1 := fun H => dpk b1a sz2 (.cons (rr u1) (.cons (rr v1) .nil)) (.cons (dpk b1b sz1 (.cons (rr r1) .nil) (.cons (one b1e) .nil)) (.cons (dpk b1c sz1 (.cons (rr w1) .nil) (.cons (one b1d) .nil)) .nil)), d2 := fun H => dpk b2a sz2 (.cons (rr u2) (.cons (rr v2) .nil)) (.cons (dpk b2b sz2 (.cons (rr r2) (.cons (rr s2) .nil)) (.cons (one b2e) (.cons (one b2f) .nil))) (.cons (dpk b2c sz1 (.cons (rr w2) .nil) (.cons (one b2d) .nil)) .nil)) }
  refine ⟨PySem.W.fnOf "law" "law" (defArgs (topS 53)) (defBody (topS 53)) (defScope (topS 53)) .none kV53 dc53 pm53 an53 cd53 ct53, fun s v => .of_eq rfl, fun base _ _ => ?_⟩
  have G4 := ok_divisor (P := P) (w := w) (base := base) F4 m_abs
  have G5 := ok_part (P := P) (w := w) (base := base) F5 F4 g4 m_abs
  have G7 := ok_plus (P := P) (w := w) (base := base) F7 F5 g5 G5
  have G8 := ok_minus (P := P) (w := w) (base := base) F8 F5 g5 G5
  have G9 := ok_times (P := P) (w := w) (base := base) F9 F5 g5 G5
  have G10 := ok_over (P := P) (w := w) (base := base) F10 F5 g5 G5
  have G16 := ok_trimmed (P := P) (w := w) (base := base) F16 m_list m_len m_tuple
  have G19 := ok_scaled (P := P) (w := w) (base := base) F19 F9 g9 G9 F16 g16 G16
  have G32 := ok_derived (P := P) (w := w) (base := base) F32 F9 g9 G9 F16 g16 G16 m_len m_range
  have G18 := ok_product (P := P) (w := w) (base := base) F18 F7 g7 G7 F9 g9 G9 F16 g16 G16 m_len m_range
  have G17 := ok_addedP (P := P) (w := w) (base := base) F17 F7 g7 G7 F16 g16 G16 m_len m_range m_max m_list
  have G29 := ok_polyAt (P := P) (w := w) (base := base) F29 F7 g7 G7 F9 g9 G9
  have G20 := ok_divP (P := P) (w := w) (base := base) F20 F8 g8 G8 F9 g9 G9 F10 g10 G10 F16 g16 G16 m_len m_range m_max m_list
  have G21 := ok_common (P := P) (w := w) (base := base) F21 F20 g20 G20 F10 g10 G10 F19 g19 G19 m_len
  have G22 := ok_ratio (P := P) (w := w) (base := base) F22 T F21 g21 G21 F20 g20 G20 F10 g10 G10 F19 g19 G19 m_len
  have G6 := ok_isPart (P := P) (w := w) (base := base) F6 F4 g4 G4 m_isinstance m_tuple m_len m_all m_int m_bool
  have G15 := ok_isPoly (P := P) (w := w) (base := base) F15 F6 g6 G6 m_isinstance m_tuple m_len m_all
  have G23 := ok_isRatio (P := P) (w := w) (base := base) F23 F15 g15 G15 F22 g22 G22 m_isinstance m_tuple m_len m_all
  have G24 := ok_ofPart (P := P) (w := w) (base := base) F24 F16 g16 G16
  have G27 := ok_mult (P := P) (w := w) (base := base) F27 F22 g22 G22 F18 g18 G18
  have G28 := ok_divd (P := P) (w := w) (base := base) F28 F22 g22 G22 F18 g18 G18
  have G25 := ok_added (P := P) (w := w) (base := base) F25 F22 g22 G22 F18 g18 G18 F17 g17 G17
  have G26 := ok_less (P := P) (w := w) (base := base) F26 F25 g25 G25 F19 g19 G19
  have G30 := ok_ratioAt (P := P) (w := w) (base := base) F30 T F29 g29 G29 F10 g10 G10
  have G31 := ok_slope (P := P) (w := w) (base := base) F31 F22 g22 G22 F18 g18 G18 F17 g17 G17 F19 g19 G19 F32 g32 G32
  have G37 := ok_lfr (P := P) (w := w) (base := base) F37 m_abs m_range m_int
  have G40 := ok_ladd (P := P) (w := w) (base := base) F40 F37 g37 G37
  have G41 := ok_lmul (P := P) (w := w) (base := base) F41 F37 g37 G37
  have G42 := ok_lsub (P := P) (w := w) (base := base) F42 F40 g40 G40
  have G47 := ok_ltimes (P := P) (w := w) (base := base) F47 F41 g41 G41 m_tuple
  have G48 := ok_lat (P := P) (w := w) (base := base) F48 F40 g40 G40 F41 g41 G41
  have G46 := ok_lproduct (P := P) (w := w) (base := base) F46 F40 g40 G40 F41 g41 G41 m_tuple m_len m_range
  have G45 := ok_lsum (P := P) (w := w) (base := base) F45 F40 g40 G40 m_len m_range m_max m_tuple
  have G35 := ok_ltake (P := P) (w := w) (base := base) F35 m_int m_len
  have G34 := ok_lstate (P := P) (w := w) (base := base) F34 m_abs m_len
  have G44 := ok_lpoly (P := P) (w := w) (base := base) F44 F35 g35 G35 F37 g37 G37 m_range m_len m_tuple
  have G49 := ok_told (P := P) (w := w) (base := base) F49 T F22 g22 G22 F28 g28 G28 F30 g30 G30
  have G50 := ok_lread (P := P) (w := w) (base := base) F50 F48 g48 G48 F41 g41 G41 F37 g37 G37
  have G51 := ok_lgood (P := P) (w := w) (base := base) F51 F21 g21 G21 m_len
  have G52 := ok_ledges (P := P) (w := w) (base := base) (fM := f4) F52 KC F35 g35 G35 F37 g37 G37 F24 g24 G24 F30 g30 G30 F49 g49 G49 F15 g15 G15 F23 g23 G23 m_len
  exact ok_law F53 { st := Cl2.mk' F34 G34 g34 q34, po := Cl2.mk' F44 G44 g44 q44, fr := Cl2.mk' F37 G37 g37 q37, tk := Cl2.mk' F35 G35 g35 q35, ap := Cl2.mk' F17 G17 g17 q17, ls := Cl2.mk' F45 G45 g45 q45, pp := Cl2.mk' F18 G18 g18 q18, lp := Cl2.mk' F46 G46 g46 q46, sp := Cl2.mk' F19 G19 g19 q19, lt := Cl2.mk' F47 G47 g47 q47, pa := Cl2.mk' F29 G29 g29 q29, la := Cl2.mk' F48 G48 g48 q48, tr := Cl2.mk' F16 G16 g16 q16, dp := Cl2.mk' F20 G20 g20 q20, cp := Cl2.mk' F21 G21 g21 q21, to := Cl2.mk' F49 G49 g49 q49, ed := Cl2.mk' F52 G52 g52 q52, ra := Cl2.mk' F22 G22 g22 q22, gd := Cl2.mk' F51 G51 g51 q51, ir := Cl2.mk' F23 G23 g23 q23, rd := Cl2.mk' F50 G50 g50 q50, lm := Cl2.mk' F41 G41 g41 q41, lad := Cl2.mk' F40 G40 g40 q40, lsb := Cl2.mk' F42 G42 g42 q42, ad := Cl2.mk' F25 G25 g25 q25, le := Cl2.mk' F26 G26 g26 q26, mu := Cl2.mk' F27 G27 g27 q27, dv := Cl2.mk' F28 G28 g28 q28, de := Cl2.mk' F32 G32 g32 q32, sl := Cl2.mk' F31 G31 g31 q31, mLen := m_len, mList := m_list, mTup := m_tuple, mRange := m_range }
theorem walk {l : PySem.W.OpenLaw} {q : Program} {loose : List Str} {XP : (Str → Option Value) → Heap → Prop} {YP : World → Heap → Prop} {d : DefRec} {K : Params → PySem.W.Frag} (hn : l.most = some 63) (hdf : d.params.defaults = [])
    (hY : ∀ (w : World) (h : Heap), YP w h → (K w.params).In h)
    (F : ∀ (w : World) (mg : Str → Option Value) (fa : Addr) (h : Heap), (K w.params).In h → h.Ns mainGlobals mg → mg d.name = some (.ref fa) →
      ∃ fd : FuncData, (∀ (s : Shared) (u : Value), BindsTo s fd ⟨[u], []⟩ [("script", u)]) ∧ ∀ base : Heap, (K w.params).In base → base.Ns mainGlobals mg → FnOk l.prog w (K w.params) mg base CX0 10 fa fd ["script"] (spLaw (K w.params))) :
    PySem.W.WalkO q loose XP YP l.row.toRowW d [] (fun f vs => PySem.call f vs) :=
  L2.walk_of (n := 63) (k := 10) (x := "script") (CX := fun _ => CX0) (sp := fun w => spLaw (K w.params)) hn (by decide) hdf ⟨rfl, by decide, by decide⟩ hY F (fun _ _ a ns hl _ hS => ⟨.ref a, ns, rfl, .lst hS (dpa_int ns), fun _ => rfl⟩) fun _ _ _ _ _ z => z
end K11
open PySem PySem.W PyProof.Rows
set_option maxRecDepth 100000 in
set_option maxHeartbeats 0 in
theorem PySem.Challenge.cw_drawwright_k11_whole_quotients_of_polyno_holds : PySem.Challenge.rw_drawwright_k11_whole_quotients_of_polyno.Holds := by
  w_on; o_law; k_head; (case hw => w_witness2)
  k_fill
  refine K11.walk (l := PySem.Challenge.rw_drawwright_k11_whole_quotients_of_polyno) rfl rfl (fun w h Y => PySem.W.kIn_of Y) ?F
  case F =>
    intro w mg fa h KX G hmg
    refine' K11.all_mk KX G hmg ?x4a ?x4l ?x4c ?x4k ?x5a ?x5l ?x5c ?x5k ?x6a ?x6l ?x6c ?x6k ?x7a ?x7l ?x7c ?x7k ?x8a ?x8l ?x8c ?x8k ?x9a ?x9l ?x9c ?x9k ?x10a ?x10l ?x10c ?x10k ?x15a ?x15l ?x15c ?x15k ?x16a ?x16l ?x16c ?x16k ?x17a ?x17l ?x17c ?x17k ?x18a ?x18l ?x18c ?x18k ?x19a ?x19l ?x19c ?x19k ?x20a ?x20l ?x20c ?x20k ?x21a ?x21l ?x21c ?x21k ?x22a ?x22l ?x22c ?x22k ?x23a ?x23l ?x23c ?x23k ?x24a ?x24l ?x24c ?x24k ?x25a ?x25l ?x25c ?x25k ?x26a ?x26l ?x26c ?x26k ?x27a ?x27l ?x27c ?x27k ?x28a ?x28l ?x28c ?x28k ?x29a ?x29l ?x29c ?x29k ?x30a ?x30l ?x30c ?x30k ?x31a ?x31l ?x31c ?x31k ?x32a ?x32l ?x32c ?x32k ?x34a ?x34l ?x34c ?x34k ?x35a ?x35l ?x35c ?x35k ?x37a ?x37l ?x37c ?x37k ?x40a ?x40l ?x40c ?x40k ?x41a ?x41l ?x41c ?x41k ?x42a ?x42l ?x42c ?x42k ?x44a ?x44l ?x44c ?x44k ?x45a ?x45l ?x45c ?x45k ?x46a ?x46l ?x46c ?x46k ?x47a ?x47l ?x47c ?x47k ?x48a ?x48l ?x48c ?x48k ?x49a ?x49l ?x49c ?x49k ?x50a ?x50l ?x50c ?x50k ?x51a ?x51l ?x51c ?x51k ?x52a ?x52l ?x52c ?x52k ?x53a ?x53l ?x53c ?x53k ?z_abs ?z_len ?z_max ?z_list ?z_tuple ?z_range ?z_isinstance ?z_int ?z_bool ?z_all ?z_super ?aC ?xC ?cS ?cG ?cA ?cN ?cI ?cT ?cP ?cV ?cM ?cO ?cB ?cY ?cK ?cH ?cL ?cE ?iL ?iC ?iD ?iV ?iF ?iX ?iT ?b0 ?b0a ?b0b ?b0c ?b0d ?b1 ?b1a ?b1b ?b1e ?b1c ?b1d ?b2 ?b2a ?b2b ?b2e ?b2f ?b2c ?b2d
    (case x4a => k_is)
    (case x4l => k_is)
    (case x4c => k_is)
    (case x4k => k_is)
    (case x5a => k_is)
    (case x5l => k_is)
    (case x5c => k_is)
    (case x5k => k_is)
    (case x6a => k_is)
    (case x6l => k_is)
    (case x6c => k_is)
    (case x6k => k_is)
    (case x7a => k_is)
    (case x7l => k_is)
    (case x7c => k_is)
    (case x7k => k_is)
    (case x8a => k_is)
    (case x8l => k_is)
    (case x8c => k_is)
    (case x8k => k_is)
    (case x9a => k_is)
    (case x9l => k_is)
    (case x9c => k_is)
    (case x9k => k_is)
    (case x10a => k_is)
    (case x10l => k_is)
    (case x10c => k_is)
    (case x10k => k_is)
    (case x15a => k_is)
    (case x15l => k_is)
    (case x15c => k_is)
    (case x15k => k_is)
    (case x16a => k_is)
    (case x16l => k_is)
    (case x16c => k_is)
    (case x16k => k_is)
    (case x17a => k_is)
    (case x17l => k_is)
    (case x17c => k_is)
    (case x17k => k_is)
    (case x18a => k_is)
    (case x18l => k_is)
    (case x18c => k_is)
    (case x18k => k_is)
    (case x19a => k_is)
    (case x19l => k_is)
    (case x19c => k_is)
    (case x19k => k_is)
    (case x20a => k_is)
    (case x20l => k_is)
    (case x20c => k_is)
    (case x20k => k_is)
    (case x21a => k_is)
    (case x21l => k_is)
    (case x21c => k_is)
    (case x21k => k_is)
    (case x22a => k_is)
    (case x22l => k_is)
    (case x22c => k_is)
    (case x22k => k_is)
    (case x23a => k_is)
    (case x23l => k_is)
    (case x23c => k_is)
    (case x23k => k_is)
    (case x24a => k_is)
    (case x24l => k_is)
    (case x24c => k_is)
    (case x24k => k_is)
    (case x25a => k_is)
    (case x25l => k_is)
    (case x25c => k_is)
    (case x25k => k_is)
    (case x26a => k_is)
    (case x26l => k_is)
    (case x26c => k_is)
    (case x26k => k_is)
    (case x27a => k_is)
    (case x27l => k_is)
    (case x27c => k_is)
    (case x27k => k_is)
    (case x28a => k_is)
    (case x28l => k_is)
    (case x28c => k_is)
    (case x28k => k_is)
    (case x29a => k_is)
    (case x29l => k_is)
    (case x29c => k_is)
    (case x29k => k_is)
    (case x30a => k_is)
    (case x30l => k_is)
    (case x30c => k_is)
    (case x30k => k_is)
    (case x31a => k_is)
    (case x31l => k_is)
    (case x31c => k_is)
    (case x31k => k_is)
    (case x32a => k_is)
    (case x32l => k_is)
    (case x32c => k_is)
    (case x32k => k_is)
    (case x34a => k_is)
    (case x34l => k_is)
    (case x34c => k_is)
    (case x34k => k_is)
    (case x35a => k_is)
    (case x35l => k_is)
    (case x35c => k_is)
    (case x35k => k_is)
    (case x37a => k_is)
    (case x37l => k_is)
    (case x37c => k_is)
    (case x37k => k_is)
    (case x40a => k_is)
    (case x40l => k_is)
    (case x40c => k_is)
    (case x40k => k_is)
    (case x41a => k_is)
    (case x41l => k_is)
    (case x41c => k_is)
    (case x41k => k_is)
    (case x42a => k_is)
    (case x42l => k_is)
    (case x42c => k_is)
    (case x42k => k_is)
    (case x44a => k_is)
    (case x44l => k_is)
    (case x44c => k_is)
    (case x44k => k_is)
    (case x45a => k_is)
    (case x45l => k_is)
    (case x45c => k_is)
    (case x45k => k_is)
    (case x46a => k_is)
    (case x46l => k_is)
    (case x46c => k_is)
    (case x46k => k_is)
    (case x47a => k_is)
    (case x47l => k_is)
    (case x47c => k_is)
    (case x47k => k_is)
    (case x48a => k_is)
    (case x48l => k_is)
    (case x48c => k_is)
    (case x48k => k_is)
    (case x49a => k_is)
    (case x49l => k_is)
    (case x49c => k_is)
    (case x49k => k_is)
    (case x50a => k_is)
    (case x50l => k_is)
    (case x50c => k_is)
    (case x50k => k_is)
    (case x51a => k_is)
    (case x51l => k_is)
    (case x51c => k_is)
    (case x51k => k_is)
    (case x52a => k_is)
    (case x52l => k_is)
    (case x52c => k_is)
    (case x52k => k_is)
    (case x53a => k_is)
    (case x53l => k_is)
    (case x53c => k_is)
    (case x53k => k_is)
    (case z_abs => k_is)
    (case z_len => k_is)
    (case z_max => k_is)
    (case z_list => k_is)
    (case z_tuple => k_is)
    (case z_range => k_is)
    (case z_isinstance => k_is)
    (case z_int => k_is)
    (case z_bool => k_is)
    (case z_all => k_is)
    (case z_super => k_is)
    (case aC => k_is)
    (case xC => k_is)
    (case cS => k_is)
    (case cG => k_is)
    (case cA => k_is)
    (case cN => k_is)
    (case cI => k_is)
    (case cT => k_is)
    (case cP => first | ks_is | k_is | kernel_rfl)
    (case cV => k_is)
    (case cM => first | k_is | kernel_rfl | rfl)
    (case cO => k_is)
    (case cB => k_is)
    (case cY => k_is)
    (case cK => k_is)
    (case cH => k_is)
    (case cL => k_is)
    (case cE => first | rfl | k_is)
    (case iL => k_is)
    (case iC => k_is)
    (case iD => k_is)
    (case iV => rfl)
    (case iF => first | rfl | decide +kernel)
    (case iX => k_is)
    (case iT => first | rfl | decide +kernel)
    (case b0 => k_is)
    (case b0a => k_is)
    (case b0b => k_is)
    (case b0c => k_is)
    (case b0d => k_is)
    (case b1 => k_is)
    (case b1a => k_is)
    (case b1b => k_is)
    (case b1e => k_is)
    (case b1c => k_is)
    (case b1d => k_is)
    (case b2 => k_is)
    (case b2a => k_is)
    (case b2b => k_is)
    (case b2e => k_is)
    (case b2f => k_is)
    (case b2c => k_is)
    (case b2d => k_is)
