import PyProof.Rows.All
import Wide.All
import OpenK.AllK
import Wide.FinOn
import HandS.ForMost
import HandS.ForExc
import HandS.Wide
import HandS.WideBits
import HandS.Flow
import HandS.Style
import HandS.IsInst
import HandS.TupAny
import HandS.Evl
import PySem.Challenge.RW_chainsum_k13_all_that_is_sure
set_option Elab.async false
set_option linter.all false
set_option maxRecDepth 100000
set_option maxHeartbeats 2000000

namespace Cm
/-! ### chains: what quotients tell, and Euclid's quotients -/
def W : List Int → Int × Int
  | [] => (1, 0)
  | q :: r => (q * (W r).1 + (W r).2, (W r).1)
theorem W_nil : W [] = (1, 0) := rfl
theorem W_cons (q : Int) (r : List Int) : W (q :: r) = (q * (W r).1 + (W r).2, (W r).1) := rfl
theorem W_one (q : Int) : W [q] = (q, 1) := by rw [W_cons, W_nil]; simp
def euc (t b : Int) : List Int := if h : 0 < b then t / b :: euc b (t % b) else []
  termination_by b.toNat
  decreasing_by
    have h1 := Int.emod_lt_of_pos t h
    have h2 := Int.emod_nonneg t (show b ≠ 0 by omega)
    omega
theorem euc_pos {t b : Int} (h : 0 < b) : euc t b = t / b :: euc b (t % b) := by rw [euc]; rw [dif_pos h]
theorem euc_zero {t b : Int} (h : ¬ 0 < b) : euc t b = [] := by rw [euc]; rw [dif_neg h]
/-- behind the first quotient of a chain of several -/
def Tl : List Int → Prop
  | [] => False
  | [x] => 2 ≤ x
  | x :: y :: r => 1 ≤ x ∧ Tl (y :: r)
def Ch : List Int → Prop
  | [] => False
  | [_] => True
  | _ :: y :: r => Tl (y :: r)
theorem Tl.ch : ∀ {l : List Int}, Tl l → Ch l
  | [], h => h
  | [_], _ => trivial
  | _ :: _ :: _, h => h.2
theorem Tl.pos1 : ∀ {l : List Int}, Tl l → ∀ x ∈ l, 1 ≤ x
  | [], h, _, _ => h.elim
  | [a], h, x, hx => by
    rw [List.mem_singleton] at hx
    subst hx
    have : 2 ≤ x := h
    omega
  | a :: b :: r, h, x, hx => by
    rcases List.mem_cons.mp hx with rfl | hx
    · exact h.1
    · exact Tl.pos1 h.2 x hx
theorem Tl.w : ∀ {l : List Int}, Tl l → 1 ≤ (W l).2 ∧ (W l).2 < (W l).1
  | [], h => h.elim
  | [x], h => by
    have h2 : 2 ≤ x := h
    rw [W_one]
    show (1 : Int) ≤ 1 ∧ 1 < x
    omega
  | x :: y :: r, h => by
    have ih := Tl.w (l := y :: r) h.2
    have h1 : 1 ≤ x := h.1
    rw [W_cons]
    show 1 ≤ (W (y :: r)).1 ∧ (W (y :: r)).1 < x * (W (y :: r)).1 + (W (y :: r)).2
    have := Int.mul_le_mul_of_nonneg_right h1 (show 0 ≤ (W (y :: r)).1 by omega)
    omega
theorem Ch.bot {l : List Int} (h : Ch l) : 1 ≤ (W l).2 := by
  cases l with
  | nil => exact h.elim
  | cons x r =>
    cases r with
    | nil => rw [W_one]; exact Int.le_refl 1
    | cons y r =>
      have := Tl.w (l := y :: r) h
      rw [W_cons]
      show 1 ≤ (W (y :: r)).1
      omega
theorem div_of {t b q r : Int} (e : t = q * b + r) (h0 : 0 ≤ r) (h1 : r < b) : t / b = q ∧ t % b = r := by
  have hb : b ≠ 0 := by omega
  subst e
  rw [Int.add_comm, Int.add_mul_ediv_right _ _ hb, Int.add_mul_emod_self_right, Int.ediv_eq_zero_of_lt h0 h1, Int.emod_eq_of_lt h0 h1]
  simp
/-- the chain of a fraction that a chain tells is this chain -/
theorem euc_W : ∀ {l : List Int} {k : Int}, Ch l → 0 < k → euc (k * (W l).1) (k * (W l).2) = l
  | [], k, h, _ => h.elim
  | [x], k, _, hk => by
    rw [W_one]
    show euc (k * x) (k * 1) = [x]
    obtain ⟨e1, e2⟩ := div_of (t := k * x) (b := k * 1) (q := x) (r := 0) (by grind) (by omega) (by omega)
    rw [euc_pos (by omega), e1, e2, euc_zero (by omega)]
  | x :: y :: r, k, h, hk => by
    have ih := euc_W (l := y :: r) (k := k) (Tl.ch h) hk
    obtain ⟨w1, w2⟩ := Tl.w (l := y :: r) h
    rw [W_cons]
    show euc (k * (x * (W (y :: r)).1 + (W (y :: r)).2)) (k * (W (y :: r)).1) = x :: y :: r
    generalize W (y :: r) = z at *
    obtain ⟨a, b⟩ := z
    have p1 : 0 < k * b := Int.mul_pos hk (by show 0 < b; exact w1)
    have p2 : k * b < k * a := Int.mul_lt_mul_of_pos_left w2 hk
    obtain ⟨e1, e2⟩ := div_of (t := k * (x * a + b)) (b := k * a) (q := x) (r := k * b) (by grind) (by omega) p2
    show euc (k * (x * a + b)) (k * a) = x :: y :: r
    rw [euc_pos (Int.lt_trans p1 p2), e1, e2]
    show x :: euc (k * a) (k * b) = x :: y :: r
    rw [ih]
theorem euc_W1 {l : List Int} (h : Ch l) : euc (W l).1 (W l).2 = l := by
  have := euc_W (k := 1) h (by omega)
  rwa [Int.one_mul, Int.one_mul] at this
/-- Euclid's quotients of a fraction above 1 -/
theorem euc_big : ∀ (n : Nat) {t b : Int}, b.toNat ≤ n → 0 < b → b < t → Tl (euc t b) ∧ ∃ g, 0 < g ∧ t = g * (W (euc t b)).1 ∧ b = g * (W (euc t b)).2
  | n, t, b, hn, hb, hlt => by
    have r0 := Int.emod_nonneg t (show b ≠ 0 by omega)
    have r1 := Int.emod_lt_of_pos t hb
    have et := Int.mul_ediv_add_emod t b
    rw [euc_pos hb]
    generalize hq : t / b = q at *
    generalize hr : t % b = r at *
    by_cases h : 0 < r
    · obtain ⟨m, rfl⟩ : ∃ m, n = m + 1 := ⟨n - 1, by omega⟩
      obtain ⟨i1, g, i2, i3, i4⟩ := euc_big m (t := b) (b := r) (by omega) h r1
      have q1 : 1 ≤ q := by
        rcases Int.lt_or_le 0 q with z | z
        · exact z
        · have := Int.mul_le_mul_of_nonneg_left z (show 0 ≤ b by omega)
          omega
      generalize hl : euc b r = l at *
      cases l with
      | nil => exact i1.elim
      | cons y s =>
        refine ⟨⟨q1, i1⟩, g, i2, ?_, ?_⟩
        · rw [W_cons]; show t = g * (q * (W (y :: s)).1 + (W (y :: s)).2); grind
        · rw [W_cons]; exact i3
    · have e0 : r = 0 := by omega
      subst e0
      rw [euc_zero (by omega)]
      have q2 : 2 ≤ q := by
        rcases Int.lt_or_le 1 q with z | z
        · exact z
        · have := Int.mul_le_mul_of_nonneg_left z (show 0 ≤ b by omega)
          omega
      refine ⟨q2, b, hb, ?_, ?_⟩
      · rw [W_one]; show t = b * q; omega
      · rw [W_one]; show b = b * 1; omega
theorem euc_ok {t b : Int} (hb : 0 < b) : Ch (euc t b) ∧ ∃ g, 0 < g ∧ t = g * (W (euc t b)).1 ∧ b = g * (W (euc t b)).2 := by
  have r0 := Int.emod_nonneg t (show b ≠ 0 by omega)
  have r1 := Int.emod_lt_of_pos t hb
  have et := Int.mul_ediv_add_emod t b
  rw [euc_pos hb]
  generalize hq : t / b = q at *
  generalize hr : t % b = r at *
  by_cases h : 0 < r
  · obtain ⟨i1, g, i2, i3, i4⟩ := euc_big _ (t := b) (b := r) (Nat.le_refl _) h r1
    generalize hl : euc b r = l at *
    cases l with
    | nil => exact i1.elim
    | cons y s =>
      refine ⟨i1, g, i2, ?_, ?_⟩
      · rw [W_cons]; show t = g * (q * (W (y :: s)).1 + (W (y :: s)).2); grind
      · rw [W_cons]; exact i3
  · have e0 : r = 0 := by omega
    subst e0
    rw [euc_zero (by omega)]
    refine ⟨trivial, b, hb, ?_, ?_⟩
    · rw [W_one]; show t = b * q; omega
    · rw [W_one]; show b = b * 1; omega
/-- the same fraction, the same chain -/
theorem euc_same {t b t' b' : Int} (hb : 0 < b) (hb' : 0 < b') (e : t * b' = t' * b) : euc t b = euc t' b' := by
  obtain ⟨c1, g1, p1, a1, d1⟩ := euc_ok (t := t) hb
  obtain ⟨c2, g2, p2, a2, d2⟩ := euc_ok (t := t') hb'
  have x1 := euc_W (k := g1 * b') c1 (Int.mul_pos p1 hb')
  have x2 := euc_W (k := g2 * b) c2 (Int.mul_pos p2 hb)
  have k1 : g1 * b' * (W (euc t b)).1 = g2 * b * (W (euc t' b')).1 := by grind
  have k2 : g1 * b' * (W (euc t b)).2 = g2 * b * (W (euc t' b')).2 := by grind
  rw [k1, k2, x2] at x1
  exact x1.symm
/-- a chain is that of its fraction, in any terms -/
theorem euc_of {t b : Int} {l : List Int} (hb : 0 < b) (c : Ch l) (e : t * (W l).2 = (W l).1 * b) : euc t b = l := by
  rw [euc_same hb (show 0 < (W l).2 from Ch.bot c) e, euc_W1 c]
theorem euc_len : ∀ (n : Nat) {t b : Int}, 0 < b → b < 2 ^ n → (euc t b).length ≤ 2 * n
  | 0, t, b, h0, h => by
    simp at h
    omega
  | n + 1, t, b, h0, h => by
    have r0 := Int.emod_nonneg t (show b ≠ 0 by omega)
    have r1 := Int.emod_lt_of_pos t h0
    rw [euc_pos h0]
    generalize t % b = r at *
    by_cases hr : 0 < r
    · rw [euc_pos hr]
      have s0 := Int.emod_nonneg b (show r ≠ 0 by omega)
      have s1 := Int.emod_lt_of_pos b hr
      have es := Int.mul_ediv_add_emod b r
      have q1 : 1 ≤ b / r := by
        have := Int.le_ediv_of_mul_le hr (show 1 * r ≤ b by omega)
        exact this
      have q2 := Int.mul_le_mul_of_nonneg_left q1 (show 0 ≤ r by omega)
      generalize b / r = q at *
      generalize b % r = s at *
      rw [Int.pow_succ] at h
      by_cases hs : 0 < s
      · have ih := euc_len n (t := r) (b := s) hs (by omega)
        simp only [List.length_cons]
        omega
      · rw [euc_zero hs]
        simp only [List.length_cons, List.length_nil]
        omega
    · rw [euc_zero hr]
      simp only [List.length_cons, List.length_nil]
      omega
def sg (p : Nat) : Int := if p % 2 = 0 then 1 else -1
theorem sg_succ (p : Nat) : sg (p + 1) = - sg p := by
  unfold sg
  split <;> split <;> omega
def sgn (i : Int) : Int := if 0 < i then 1 else if i < 0 then -1 else 0
theorem sgn_neg (i : Int) : sgn (-i) = - sgn i := by
  unfold sgn
  split <;> split <;> (try split) <;> omega
theorem sgn_pos {i : Int} (h : 0 < i) : sgn i = 1 := if_pos h
theorem sgn_lt {i : Int} (h : i < 0) : sgn i = -1 := by
  unfold sgn
  rw [if_neg (by omega), if_pos h]
end Cm

namespace Cm
/-! ### continuants: what a list tells, as its last part varies -/
def Mx : List Int → (Int × Int) × (Int × Int)
  | [] => ((1, 0), (0, 1))
  | q :: r => ((q * (Mx r).1.1 + (Mx r).2.1, q * (Mx r).1.2 + (Mx r).2.2), ((Mx r).1.1, (Mx r).1.2))
theorem Mx_cons (q : Int) (r : List Int) : Mx (q :: r) = ((q * (Mx r).1.1 + (Mx r).2.1, q * (Mx r).1.2 + (Mx r).2.2), ((Mx r).1.1, (Mx r).1.2)) := rfl
theorem W_app : ∀ l r : List Int, W (l ++ r) = ((Mx l).1.1 * (W r).1 + (Mx l).1.2 * (W r).2, (Mx l).2.1 * (W r).1 + (Mx l).2.2 * (W r).2)
  | [], r => by
    show W r = (1 * (W r).1 + 0 * (W r).2, 0 * (W r).1 + 1 * (W r).2)
    simp
  | q :: l, r => by
    rw [List.cons_append, W_cons, W_app l r, Mx_cons]
    dsimp only
    congr 1
    grind
theorem Mx_det : ∀ l : List Int, (Mx l).1.1 * (Mx l).2.2 - (Mx l).1.2 * (Mx l).2.1 = sg l.length
  | [] => rfl
  | q :: l => by
    have ih := Mx_det l
    rw [List.length_cons, sg_succ, ← ih, Mx_cons]
    dsimp only
    grind
theorem W_snoc (l : List Int) (x : Int) : W (l ++ [x]) = ((Mx l).1.1 * x + (Mx l).1.2, (Mx l).2.1 * x + (Mx l).2.2) := by
  rw [W_app, W_one]
  dsimp only
  rw [Int.mul_one, Int.mul_one]
/-- the list with its last quotient one greater -/
def up (l : List Int) : List Int := l.dropLast ++ [l.getLastD 0 + 1]
theorem up_snoc (l : List Int) (x : Int) : up (l ++ [x]) = l ++ [x + 1] := by
  unfold up
  rw [List.dropLast_concat, List.getLastD_concat]
theorem snoc_of {l : List Int} (h : l ≠ []) : ∃ i x, l = i ++ [x] := by
  rcases List.eq_nil_or_concat l with rfl | ⟨s, y, rfl⟩
  · exact absurd rfl h
  · exact ⟨s, y, List.concat_eq_append⟩
/-- one greater against as it stands -/
theorem up_cross (i : List Int) (x : Int) : (W (up (i ++ [x]))).1 * (W (i ++ [x])).2 - (W (i ++ [x])).1 * (W (up (i ++ [x]))).2 = sg i.length := by
  rw [up_snoc, W_snoc, W_snoc, ← Mx_det i]
  dsimp only
  grind
theorem go_cross (i : List Int) (x : Int) (r : List Int) : (W (i ++ [x] ++ r)).1 * (W (i ++ [x])).2 - (W (i ++ [x])).1 * (W (i ++ [x] ++ r)).2 = (W r).2 * sg i.length := by
  rw [List.append_assoc, W_app i ([x] ++ r), W_snoc, ← Mx_det i]
  show _ = _
  rw [List.singleton_append, W_cons]
  dsimp only
  grind
theorem go_up (i : List Int) (x : Int) (r : List Int) : (W (up (i ++ [x]))).1 * (W (i ++ [x] ++ r)).2 - (W (i ++ [x] ++ r)).1 * (W (up (i ++ [x]))).2 = ((W r).1 - (W r).2) * sg i.length := by
  rw [up_snoc, List.append_assoc, W_app i ([x] ++ r), W_snoc, ← Mx_det i]
  show _ = _
  rw [List.singleton_append, W_cons]
  dsimp only
  grind
/-! ### ends -/
structure En where
  lo : Int × Int
  ml : Bool
  hi : Option (Int × Int)
  mh : Bool
def endsOf (l : List Int) (met : Bool) : En :=
  if l = [] then ⟨(0, 1), false, none, false⟩ else if l.length % 2 = 1 then ⟨W l, met, some (W (up l)), false⟩ else ⟨W (up l), false, some (W l), met⟩
/-- whether a fraction lies between ends, or at one that is met -/
def betw (e : En) (f : Int × Int) : Bool :=
  if f.1 * e.lo.2 - e.lo.1 * f.2 < 0 ∨ (f.1 * e.lo.2 - e.lo.1 * f.2 = 0 ∧ e.ml = false) then false
  else match e.hi with
    | none => true
    | some h => decide (0 < h.1 * f.2 - f.1 * h.2) || (decide (h.1 * f.2 - f.1 * h.2 = 0) && e.mh)
theorem endsOf_nil (m : Bool) : endsOf [] m = ⟨(0, 1), false, none, false⟩ := if_pos rfl
theorem endsOf_odd (i : List Int) (x : Int) (m : Bool) (h : i.length % 2 = 0) : endsOf (i ++ [x]) m = ⟨W (i ++ [x]), m, some (W (up (i ++ [x]))), false⟩ := by
  unfold endsOf
  rw [if_neg (by simp), if_pos (by rw [List.length_append, List.length_singleton]; omega)]
theorem endsOf_even (i : List Int) (x : Int) (m : Bool) (h : i.length % 2 = 1) : endsOf (i ++ [x]) m = ⟨W (up (i ++ [x])), false, some (W (i ++ [x])), m⟩ := by
  unfold endsOf
  rw [if_neg (by simp), if_neg (by rw [List.length_append, List.length_singleton]; omega)]
/-- the ends of a beginning stand one unit apart, across -/
theorem ends_gap (l : List Int) (m : Bool) (h : Int × Int) (e : (endsOf l m).hi = some h) : h.1 * (endsOf l m).lo.2 - (endsOf l m).lo.1 * h.2 = 1 := by
  by_cases hn : l = []
  · subst hn
    rw [endsOf_nil] at e
    cases e
  · obtain ⟨i, x, rfl⟩ := snoc_of hn
    have c := up_cross i x
    rcases Nat.mod_two_eq_zero_or_one i.length with z | z
    · rw [endsOf_odd i x m z] at e ⊢
      cases e
      unfold sg at c
      rw [if_pos z] at c
      exact c
    · rw [endsOf_even i x m z] at e ⊢
      cases e
      unfold sg at c
      rw [if_neg (by omega)] at c
      dsimp only
      omega
/-- a fraction whose chain goes on as the beginning lies between its ends -/
theorem ends_go {l r : List Int} (m : Bool) (hr : Tl r) : betw (endsOf l m) (W (l ++ r)) = true := by
  obtain ⟨b1, ab⟩ := hr.w
  by_cases hn : l = []
  · subst hn
    rw [endsOf_nil, List.nil_append]
    unfold betw
    dsimp only
    rw [if_neg (by omega)]
  · obtain ⟨i, x, rfl⟩ := snoc_of hn
    have c1 := go_cross i x r
    have c2 := go_up i x r
    unfold sg at c1 c2
    rcases Nat.mod_two_eq_zero_or_one i.length with z | z
    · rw [endsOf_odd i x m z]
      rw [if_pos z] at c1 c2
      unfold betw
      dsimp only
      rw [if_neg (by omega), decide_eq_true (by omega), Bool.true_or]
    · rw [endsOf_even i x m z]
      rw [if_neg (by omega)] at c1 c2
      unfold betw
      dsimp only
      rw [if_neg (by omega), decide_eq_true (by omega), Bool.true_or]
theorem betw_lo (l : List Int) (m : Bool) : betw (endsOf l m) (endsOf l m).lo = (endsOf l m).ml := by
  have g := ends_gap l m
  generalize endsOf l m = e at *
  unfold betw
  have z : e.lo.1 * e.lo.2 - e.lo.1 * e.lo.2 = 0 := by omega
  rw [z]
  cases hm : e.ml with
  | false => rw [if_pos (by simp)]
  | true =>
    rw [if_neg (by simp)]
    cases hh : e.hi with
    | none => rfl
    | some h =>
      have := g h hh
      dsimp only
      rw [decide_eq_true (by omega), Bool.true_or]
theorem betw_hi (l : List Int) (m : Bool) (h : Int × Int) (e : (endsOf l m).hi = some h) : betw (endsOf l m) h = (endsOf l m).mh := by
  have g := ends_gap l m h e
  generalize endsOf l m = e at *
  unfold betw
  rw [g, if_neg (by omega), e]
  dsimp only
  have z : h.1 * h.2 - h.1 * h.2 = 0 := by omega
  rw [z]
  simp
end Cm

namespace Cm
/-! ### numbers by their chains -/
theorem euc_scale {k t b : Int} (k0 : 0 < k) (b0 : 0 < b) : euc (k * t) (k * b) = euc t b := euc_same (Int.mul_pos k0 b0) b0 (by grind)
theorem sgn_mul {k i : Int} (k0 : 0 < k) : sgn (k * i) = sgn i := by
  unfold sgn
  rcases Int.lt_trichotomy i 0 with h | h | h
  · have : k * i < 0 := Int.mul_neg_of_pos_of_neg k0 h
    rw [if_neg (by omega), if_pos this, if_neg (by omega), if_pos h]
  · subst h
    rw [Int.mul_zero]
  · rw [if_pos (Int.mul_pos k0 h), if_pos h]
theorem euc_self {t : Int} (h : 0 < t) : euc t t = [1] := euc_of h (show Ch [1] from trivial) (by rw [W_one]; show t * 1 = 1 * t; omega)
theorem euc_0 {b : Int} (h : 0 < b) : euc 0 b = [0] := euc_of h (show Ch [0] from trivial) (by rw [W_one]; show (0 : Int) * 1 = 0 * b; omega)
end Cm

namespace Cm
/-! ### what is alike over an interval -/
def sureB (ln ld hn hd : Int) (isL isH : Bool) : List Int :=
  if h : 0 < ld ∧ 0 < hd ∧ ¬ (0 < hn - (ln / ld + 1) * hd ∨ (hn - (ln / ld + 1) * hd = 0 ∧ isH = true)) then
    ln / ld :: sureB hd (hn - ln / ld * hd) ld (ln - ln / ld * ld) isH isL
  else []
  termination_by (ld + hd).toNat
  decreasing_by
    obtain ⟨h1, h2, h3⟩ := h
    have e := Int.mul_ediv_add_emod ln ld
    have r0 := Int.emod_nonneg ln (show ld ≠ 0 by omega)
    have r1 := Int.emod_lt_of_pos ln h1
    have x : (ln / ld + 1) * hd = ln / ld * hd + hd := by grind
    have y : ln / ld * ld = ld * (ln / ld) := Int.mul_comm _ _
    have z : ¬ 0 < hn - (ln / ld + 1) * hd := fun w => h3 (.inl w)
    omega
theorem sureB_step {ln ld hn hd : Int} {isL isH : Bool} (h1 : 0 < ld) (h2 : 0 < hd) (h3 : ¬ (0 < hn - (ln / ld + 1) * hd ∨ (hn - (ln / ld + 1) * hd = 0 ∧ isH = true))) :
    sureB ln ld hn hd isL isH = ln / ld :: sureB hd (hn - ln / ld * hd) ld (ln - ln / ld * ld) isH isL := by
  rw [sureB, dif_pos ⟨h1, h2, h3⟩]
theorem sureB_stop {ln ld hn hd : Int} {isL isH : Bool} (h : ¬ (0 < ld ∧ 0 < hd ∧ ¬ (0 < hn - (ln / ld + 1) * hd ∨ (hn - (ln / ld + 1) * hd = 0 ∧ isH = true)))) : sureB ln ld hn hd isL isH = [] := by
  rw [sureB, dif_neg h]
/-- the state at the end, and what is known of it -/
structure Fin (ln ld hn hd : Int) (isL isH : Bool) (ln' ld' hn' hd' : Int) (isH' o : Bool) : Prop where
  l0 : 0 < ld'
  h0 : 0 ≤ hd'
  det : hn' * ld' - ln' * hd' = hn * ld - ln * hd
  stop : hd' = 0 ∨ 0 < hn' - (ln' / ld' + 1) * hd' ∨ (hn' - (ln' / ld' + 1) * hd' = 0 ∧ isH' = true)
  met : isH' = if o = true then isL else isH
  bd : (ln' = ln ∧ ld' = ld ∧ hn' = hn ∧ hd' = hd) ∨ (0 ≤ ln' ∧ ld' ≤ ld + hd ∧ hn' ≤ ld + hd)
theorem sure_pre : ∀ (n : Nat) {ln ld hn hd : Int} {isL isH : Bool}, (ld + hd).toNat ≤ n → 0 < ld → 0 ≤ hd → 0 < hn * ld - ln * hd →
    ∃ (ln' ld' hn' hd' : Int) (isH' o : Bool), Fin ln ld hn hd isL isH ln' ld' hn' hd' isH' o ∧
      ∀ t b : Int, 0 ≤ b → (0 < b ∨ 0 < t) → 0 ≤ t * ld - ln * b → (t * ld - ln * b = 0 → isL = true) → 0 ≤ hn * b - t * hd → (hn * b - t * hd = 0 → isH = true) →
        ∃ u v, 0 ≤ v ∧ euc t b = sureB ln ld hn hd isL isH ++ euc u v ∧ u * ld' - ln' * v = (if o = true then hn * b - t * hd else t * ld - ln * b) ∧ hn' * v - u * hd' = (if o = true then t * ld - ln * b else hn * b - t * hd)
  | n, ln, ld, hn, hd, isL, isH, hm, hl, hh, hD => by
    by_cases hs : 0 < ld ∧ 0 < hd ∧ ¬ (0 < hn - (ln / ld + 1) * hd ∨ (hn - (ln / ld + 1) * hd = 0 ∧ isH = true))
    · obtain ⟨_, h2, h3⟩ := hs
      have e := Int.mul_ediv_add_emod ln ld
      have r0 := Int.emod_nonneg ln (show ld ≠ 0 by omega)
      have r1 := Int.emod_lt_of_pos ln hl
      rw [sureB_step hl h2 h3]
      generalize ln / ld = q at *
      generalize ln % ld = r at *
      have x : (q + 1) * hd = q * hd + hd := by grind
      have y : q * ld = ld * q := Int.mul_comm _ _
      have z : ¬ 0 < hn - (q + 1) * hd := fun w => h3 (.inl w)
      have z2 : hn - (q + 1) * hd = 0 → isH = false := fun w => by
        cases isH with
        | false => rfl
        | true => exact absurd (.inr ⟨w, rfl⟩) h3
      have er : ln - q * ld = r := by omega
      have k1 : 0 < hn - q * hd := by
        rcases Int.lt_or_le 0 (hn - q * hd) with w | w
        · exact w
        · have w1 := Int.mul_le_mul_of_nonneg_right w (show 0 ≤ ld by omega)
          have w2 := Int.mul_nonneg r0 hh
          have w3 : hn * ld - ln * hd = (hn - q * hd) * ld - r * hd := by rw [← er]; grind
          omega
      have hD' : ld * (hn - q * hd) - hd * (ln - q * ld) = hn * ld - ln * hd := by grind
      obtain ⟨m, rfl⟩ : ∃ m, n = m + 1 := ⟨n - 1, by omega⟩
      obtain ⟨ln', ld', hn', hd', isH', o, F, ih⟩ := sure_pre m (ln := hd) (ld := hn - q * hd) (hn := ld) (hd := ln - q * ld) (isL := isH) (isH := isL) (by omega) k1 (by omega) (by rw [hD']; exact hD)
      refine ⟨ln', ld', hn', hd', isH', !o, ⟨F.l0, F.h0, by rw [F.det, hD'], F.stop, ?_, ?_⟩, ?_⟩
      · rw [F.met]
        cases o <;> rfl
      · rcases F.bd with ⟨b1, b2, b3, b4⟩ | ⟨b1, b2, b3⟩
        · exact .inr ⟨by omega, by omega, by omega⟩
        · exact .inr ⟨b1, by omega, by omega⟩
      · intro t b b0 bt xl xl0 xh xh0
        have bp : 0 < b := by
          rcases bt with w | w
          · exact w
          · rcases Int.lt_or_le 0 b with w2 | w2
            · exact w2
            · have b00 : b = 0 := by omega
              subst b00
              have := Int.mul_pos w h2
              omega
        have c1 : q * b ≤ t := by
          rcases Int.lt_or_le (t - q * b) 0 with w | w
          · have w1 := Int.mul_lt_mul_of_pos_right w hl
            have w2 := Int.mul_nonneg r0 b0
            have w3 : t * ld - ln * b = (t - q * b) * ld - r * b := by rw [← er]; grind
            omega
          · omega
        have c2 : t < (q + 1) * b := by
          have w2 : 0 ≤ ((q + 1) * hd - hn) * b := Int.mul_nonneg (by omega) b0
          have w3 : hn * b - t * hd = ((q + 1) * b - t) * hd - ((q + 1) * hd - hn) * b := by grind
          rcases Int.lt_or_le 0 ((q + 1) * b - t) with w | w
          · omega
          · have w1 := Int.mul_le_mul_of_nonneg_right w hh
            have w4 : hn * b - t * hd = 0 := by omega
            have w5 : ((q + 1) * hd - hn) * b = 0 := by omega
            have w6 : (q + 1) * hd - hn = 0 := (Int.mul_eq_zero.mp w5).resolve_right (by omega)
            have := xh0 w4
            rw [z2 (by omega)] at this
            cases this
        have c3 : (q + 1) * b = q * b + b := by grind
        obtain ⟨d1, d2⟩ := div_of (t := t) (b := b) (q := q) (r := t - q * b) (by omega) (by omega) (by omega)
        have i1 : b * (hn - q * hd) - hd * (t - q * b) = hn * b - t * hd := by grind
        have i2 : ld * (t - q * b) - b * (ln - q * ld) = t * ld - ln * b := by grind
        obtain ⟨u, v, v0, eu, g1, g2⟩ := ih b (t - q * b) (by omega) (.inr bp) (by rw [i1]; exact xh) (by rw [i1]; exact xh0) (by rw [i2]; exact xl) (by rw [i2]; exact xl0)
        refine ⟨u, v, v0, ?_, ?_, ?_⟩
        · rw [euc_pos bp, d1, d2, eu]
          rfl
        · rw [g1, i1, i2]
          cases o <;> rfl
        · rw [g2, i1, i2]
          cases o <;> rfl
    · refine ⟨ln, ld, hn, hd, isH, false, ⟨hl, hh, rfl, ?_, rfl, .inl ⟨rfl, rfl, rfl, rfl⟩⟩, fun t b b0 _ _ _ _ _ => ⟨t, b, b0, by rw [sureB_stop hs]; rfl, rfl, rfl⟩⟩
      by_cases w : hd = 0
      · exact .inl w
      · refine .inr ?_
        rcases Classical.em (0 < hn - (ln / ld + 1) * hd ∨ (hn - (ln / ld + 1) * hd = 0 ∧ isH = true)) with p | p
        · exact p
        · exact absurd ⟨hl, by omega, p⟩ hs
/-- the quotients behind differ -/
theorem fin_differ {ln ld hn hd u1 v1 u2 v2 C : Int} {isH : Bool} (l0 : 0 < ld) (h0 : 0 ≤ hd) (hD : 0 < hn * ld - ln * hd) (stop : hd = 0 ∨ 0 < hn - (ln / ld + 1) * hd ∨ (hn - (ln / ld + 1) * hd = 0 ∧ isH = true))
    (c1 : hn - (ln / ld + 1) * hd ≤ C) (c2 : ld ≤ C) (a1 : 0 ≤ u1 * ld - ln * v1) (a2 : C * (u1 * ld - ln * v1) < hn * v1 - u1 * hd) (b1 : 0 ≤ hn * v2 - u2 * hd) (b2 : C * (hn * v2 - u2 * hd) < u2 * ld - ln * v2)
    (b3 : isH = true → hn * v2 - u2 * hd = 0) : (euc u1 v1)[0]? ≠ (euc u2 v2)[0]? := by
  have e := Int.mul_ediv_add_emod ln ld
  have r0 := Int.emod_nonneg ln (show ld ≠ 0 by omega)
  have r1 := Int.emod_lt_of_pos ln l0
  have st : 1 ≤ hn - (ln / ld + 1) * hd ∨ (hn - (ln / ld + 1) * hd = 0 ∧ isH = true) := by
    rcases stop with w | w | w
    · subst w
      refine .inl ?_
      rw [Int.mul_zero, Int.sub_zero] at hD ⊢
      have := Int.pos_of_mul_pos_left hD l0
      omega
    · exact .inl w
    · exact .inr w
  generalize hq : ln / ld = q at *
  generalize ln % ld = r at *
  have ex : (q + 1) * ld - ln = ld - r := by grind
  generalize hB : hn - (q + 1) * hd = B at *
  have i1 : ((q + 1) * v1 - u1) * (hn * ld - ln * hd) = (hn * v1 - u1 * hd) * (ld - r) - (u1 * ld - ln * v1) * B := by rw [← ex, ← hB]; grind
  have i2 : (u2 - (q + 1) * v2) * (hn * ld - ln * hd) = (u2 * ld - ln * v2) * B - (hn * v2 - u2 * hd) * (ld - r) := by rw [← ex, ← hB]; grind
  have i3 : v1 * (hn * ld - ln * hd) = (hn * v1 - u1 * hd) * ld + (u1 * ld - ln * v1) * hd := by grind
  generalize hn * ld - ln * hd = D at *
  generalize u1 * ld - ln * v1 = x1 at *
  generalize hn * v1 - u1 * hd = y1 at *
  generalize u2 * ld - ln * v2 = x2 at *
  generalize hn * v2 - u2 * hd = y2 at *
  have C0 : 0 < C := by omega
  have p1 := Int.mul_nonneg (show 0 ≤ C by omega) a1
  have p2 := Int.mul_nonneg (show 0 ≤ C by omega) b1
  have hv1 : 0 < v1 := by
    have k1 := Int.mul_pos (show 0 < y1 by omega) l0
    have k2 := Int.mul_nonneg a1 h0
    exact Int.pos_of_mul_pos_left (show 0 < v1 * D by omega) hD
  have f1 : u1 < (q + 1) * v1 := by
    have k1 := Int.mul_le_mul_of_nonneg_left (show 1 ≤ ld - r by omega) (show 0 ≤ y1 by omega)
    have k2 := Int.mul_le_mul_of_nonneg_left c1 a1
    have k3 : C * x1 = x1 * C := Int.mul_comm _ _
    have := Int.pos_of_mul_pos_left (show 0 < ((q + 1) * v1 - u1) * D by omega) hD
    omega
  have q1 : u1 / v1 < q + 1 := Int.ediv_lt_of_lt_mul hv1 f1
  rw [euc_pos hv1]
  by_cases hv2 : 0 < v2
  · rw [euc_pos hv2]
    have f2 : (q + 1) * v2 ≤ u2 := by
      have k0 : y2 * (ld - r) ≤ y2 * ld := Int.mul_le_mul_of_nonneg_left (by omega) b1
      have k4 : y2 * ld ≤ y2 * C := Int.mul_le_mul_of_nonneg_left c2 b1
      have k3 : C * y2 = y2 * C := Int.mul_comm _ _
      have k5 : 0 ≤ x2 * B - y2 * (ld - r) := by
        rcases st with w | ⟨w, w2⟩
        · have := Int.mul_le_mul_of_nonneg_left w (show 0 ≤ x2 by omega)
          omega
        · rw [b3 w2, w]
          omega
      rw [← i2] at k5
      have := Int.nonneg_of_mul_nonneg_left k5 hD
      omega
    have q2 : q + 1 ≤ u2 / v2 := Int.le_ediv_of_mul_le hv2 f2
    intro z
    have z' : some (u1 / v1) = some (u2 / v2) := z
    have := Option.some.inj z'
    omega
  · rw [euc_zero hv2]
    intro z
    cases z
theorem get_app (a b : List Int) : (a ++ b)[a.length]? = b[0]? := by
  rw [List.getElem?_append_right (Nat.le_refl _), Nat.sub_self]
/-- fractions near the ends of an interval differ behind what is alike over it -/
theorem sure_differ {ln ld hn hd t1 b1 t2 b2 C : Int} {isL isH : Bool} (l0 : 0 < ld) (h0 : 0 ≤ hd) (hD : 0 < hn * ld - ln * hd) (p1 : 0 < b1) (p2 : 0 < b2) (hC : (hn.natAbs : Int) + (ln.natAbs + 1) * hd + ld + hd ≤ C)
    (x1 : 0 ≤ t1 * ld - ln * b1) (x2 : t1 * ld - ln * b1 = 0 → isL = true) (x3 : isL = true → t1 * ld - ln * b1 = 0) (x4 : C * (t1 * ld - ln * b1) < hn * b1 - t1 * hd)
    (y1 : 0 ≤ hn * b2 - t2 * hd) (y2 : hn * b2 - t2 * hd = 0 → isH = true) (y3 : isH = true → hn * b2 - t2 * hd = 0) (y4 : C * (hn * b2 - t2 * hd) < t2 * ld - ln * b2) :
    (euc t1 b1)[(sureB ln ld hn hd isL isH).length]? ≠ (euc t2 b2)[(sureB ln ld hn hd isL isH).length]? := by
  obtain ⟨ln', ld', hn', hd', isH', o, F, ih⟩ := sure_pre _ (isL := isL) (isH := isH) (Nat.le_refl _) l0 h0 hD
  have C0 : 0 < C := by
    have := Int.mul_nonneg (show (0 : Int) ≤ ln.natAbs + 1 by omega) h0
    omega
  have P1 := Int.mul_nonneg (show 0 ≤ C by omega) x1
  have P2 := Int.mul_nonneg (show 0 ≤ C by omega) y1
  obtain ⟨u1, v1, w1, e1, g1, g2⟩ := ih t1 b1 (by omega) (.inl p1) x1 x2 (by omega) (by omega)
  obtain ⟨u2, v2, w2, e2, g3, g4⟩ := ih t2 b2 (by omega) (.inl p2) (by omega) (by omega) y1 y2
  rw [e1, e2, get_app, get_app]
  have D' := F.det
  have c2 : ld' ≤ C := by
    have := Int.mul_nonneg (show (0 : Int) ≤ ln.natAbs + 1 by omega) h0
    rcases F.bd with ⟨_, b, _, _⟩ | ⟨_, b, _⟩ <;> omega
  have c1 : hn' - (ln' / ld' + 1) * hd' ≤ C := by
    have l1 := F.l0
    have h1 := F.h0
    rcases F.bd with ⟨k1, k2, k3, k4⟩ | ⟨k1, k2, k3⟩
    · subst k1 k2 k3 k4
      have e := Int.mul_ediv_add_emod ln' ld'
      have r1 := Int.emod_lt_of_pos ln' l0
      have r0 := Int.emod_nonneg ln' (show ld' ≠ 0 by omega)
      have q0 : -(ln'.natAbs : Int) - 1 ≤ ln' / ld' := by
        rw [Int.le_ediv_iff_mul_le l0]
        have := Int.mul_le_mul_of_nonneg_left (show (1 : Int) ≤ ld' by omega) (show (0 : Int) ≤ ln'.natAbs + 1 by omega)
        have : (-(ln'.natAbs : Int) - 1) * ld' = -((ln'.natAbs + 1) * ld') := by grind
        omega
      have := Int.mul_le_mul_of_nonneg_right q0 h0
      have e2 : (ln' / ld' + 1) * hd' = ln' / ld' * hd' + hd' := by grind
      have e3 : (-(ln'.natAbs : Int) - 1) * hd' = -((ln'.natAbs + 1) * hd') := by grind
      omega
    · have q0 : 0 ≤ ln' / ld' := Int.ediv_nonneg k1 (by omega)
      have := Int.mul_nonneg (show 0 ≤ ln' / ld' + 1 by omega) h1
      have := Int.mul_nonneg (show (0 : Int) ≤ ln.natAbs + 1 by omega) h0
      omega
  have m := F.met
  cases o with
  | false =>
    simp only [Bool.false_eq_true, if_false] at g1 g2 g3 g4 m
    exact fin_differ F.l0 F.h0 (by omega) F.stop c1 c2 (by omega) (by rw [g1, g2]; exact x4) (by omega) (by rw [g3, g4]; exact y4) (fun z => by rw [g4]; exact y3 (by rw [← m]; exact z))
  | true =>
    simp only [if_true] at g1 g2 g3 g4 m
    exact (fin_differ F.l0 F.h0 (by omega) F.stop c1 c2 (by omega) (by rw [g3, g4]; exact y4) (by omega) (by rw [g1, g2]; exact x4) (fun z => by rw [g2]; exact x3 (by rw [← m]; exact z))).symm
end Cm

namespace Cm
/-! ### fractions near the ends -/
def crs (f g : Int × Int) : Int := f.1 * g.2 - g.1 * f.2
def bil (a b : Int) (f g : Int × Int) : Int × Int := (a * (f.1 * g.2 + g.1 * f.2) + b * (f.1 * g.1), f.2 * g.2)
def nr (G : Int) (e e' : Int × Int) : Int × Int := (G * e.1 + e'.1, G * e.2 + e'.2)
def psum (f g : Int × Int) : Int × Int := (f.1 + g.1, f.2 + g.2)
theorem bil_nr (a b G : Int) (e e' k k' : Int × Int) :
    bil a b (nr G e e') (nr G k k') = (G * G * (bil a b e k).1 + G * (psum (bil a b e k') (bil a b e' k)).1 + (bil a b e' k').1, G * G * (bil a b e k).2 + G * (psum (bil a b e k') (bil a b e' k)).2 + (bil a b e' k').2) := by
  obtain ⟨e1, e2⟩ := e
  obtain ⟨f1, f2⟩ := e'
  obtain ⟨k1, k2⟩ := k
  obtain ⟨l1, l2⟩ := k'
  unfold bil nr psum
  dsimp only
  exact Prod.ext (by dsimp only; grind) (by dsimp only; grind)
theorem crs_low (G : Int) (L T S : Int × Int) : crs (G * G * L.1 + G * T.1 + S.1, G * G * L.2 + G * T.2 + S.2) L = G * crs T L + crs S L := by
  unfold crs
  dsimp only
  grind
theorem crs_hi (G : Int) (H L T S : Int × Int) : crs H (G * G * L.1 + G * T.1 + S.1, G * G * L.2 + G * T.2 + S.2) = G * G * crs H L + G * crs H T + crs H S := by
  unfold crs
  dsimp only
  grind
theorem crs_low' (G : Int) (L T S : Int × Int) : crs L (G * G * L.1 + G * T.1 + S.1, G * G * L.2 + G * T.2 + S.2) = G * crs L T + crs L S := by
  unfold crs
  dsimp only
  grind
theorem crs_hi' (G : Int) (H L T S : Int × Int) : crs (G * G * L.1 + G * T.1 + S.1, G * G * L.2 + G * T.2 + S.2) H = G * G * crs L H + G * crs T H + crs S H := by
  unfold crs
  dsimp only
  grind
theorem near_est {G M C c1 c0 d1 d0 D : Int} (hG : 2 * ((C + 1) * M) < G) (C0 : 0 ≤ C) (M0 : 0 ≤ M) (h1 : c1 ≤ M) (h0 : c0 ≤ M) (k1 : -M ≤ d1) (k0 : -M ≤ d0) (D1 : 1 ≤ D) : C * (G * c1 + c0) < G * G * D + G * d1 + d0 := by
  have m0 := Int.mul_nonneg (show 0 ≤ C + 1 by omega) M0
  have g0 : 0 < G := by omega
  have a1 := Int.mul_le_mul_of_nonneg_left h1 (show 0 ≤ G by omega)
  have a2 : C * (G * c1 + c0) ≤ C * (G * M + M) := Int.mul_le_mul_of_nonneg_left (by omega) C0
  have a3 := Int.mul_le_mul_of_nonneg_left k1 (show 0 ≤ G by omega)
  have a4 := Int.mul_le_mul_of_nonneg_left D1 (show 0 ≤ G * G by exact Int.mul_nonneg (by omega) (by omega))
  have a5 := Int.mul_lt_mul_of_pos_right hG g0
  have a6 := Int.mul_le_mul_of_nonneg_right (show 1 ≤ G by omega) m0
  have a7 : C * (G * M + M) + (G * M + M) = G * ((C + 1) * M) + (C + 1) * M := by grind
  have a8 : 2 * ((C + 1) * M) * G = G * ((C + 1) * M) + G * ((C + 1) * M) := by grind
  have a9 : G * -M = -(G * M) := by grind
  omega
theorem crs_plus (f g e k : Int × Int) : crs (bil 1 0 f g) (bil 1 0 e k) = g.2 * k.2 * crs f e + f.2 * e.2 * crs g k := by
  unfold crs bil
  dsimp only
  grind
theorem crs_times (f g e k : Int × Int) : crs (bil 0 1 f g) (bil 0 1 e k) = g.1 * k.2 * crs f e + e.1 * f.2 * crs g k := by
  unfold crs bil
  dsimp only
  grind
theorem crs_nr (G : Int) (e e' : Int × Int) : crs (nr G e e') e = crs e' e := by
  unfold crs nr
  dsimp only
  grind
theorem crs_nr' (G : Int) (e e' : Int × Int) : crs e (nr G e e') = crs e e' := by
  unfold crs nr
  dsimp only
  grind
end Cm

namespace Cs
open PySem PySem.Spec PyProof.Rows L2
/-! ### defs of the text, by name -/
structure DefAt (K : PySem.W.Frag) (mg : Str → Option Value) (x : Str) (st : Stmt) (ps : List Str) : Prop where
  ex : ∃ (f : Addr) (fd : FuncData), L2.Fun K x x st f fd ∧ mg x = some (.ref f) ∧ Binds K fd ps []
structure Cal (P : Program) (w : World) (K : PySem.W.Frag) (mg : Str → Option Value) (base : Heap) (CX : CXT) (k : Nat) (x : Str) (sp : Sp) : Prop where
  ex : ∃ (f : Addr) (fd : FuncData) (ps : List Str), FnOk P w K mg base CX k f fd ps sp ∧ mg x = some (.ref f) ∧ PySem.W.keepIn K (.ref f) = true ∧ Binds K fd ps []
theorem defAt_mk {K : PySem.W.Frag} {mg : Str → Option Value} {x : Str} {st : Stmt} {ps : List Str} {f : Addr} {oc : Value} {od an : Option Addr} {osl : Array (Option Value)} {kV doc pm cdv ct : Value}
    (l : K.lookup f = some ⟨oc, od, .func (PySem.W.fnOf x x (defArgs st) (defBody st) (defScope st) .none kV doc pm an cdv ct), osl⟩)
    (c : PySem.W.codeIn K cdv x = true) (k : PySem.W.keepIn K (.ref f) = true) (g : mg x = some (.ref f))
    (h : ∀ (kV doc pm : Value) (an : Option Addr) (cdv ct : Value) (us : List Value), us.length = ps.length → bindArgs (PySem.W.fnOf x x (defArgs st) (defBody st) (defScope st) .none kV doc pm an cdv ct) ⟨us, []⟩ = pure (ps.zip us)) : DefAt K mg x st ps :=
  ⟨f, _, fun_mk l c k, g, (fun_mk l c k).binds h⟩
section
variable {P : Program} {w : World} {K : PySem.W.Frag} {mg : Str → Option Value} {base : Heap}
theorem cal_ok {x : Str} {st : Stmt} {N ps : List Str} {k : Nat} {sp : Sp} (D : DefAt K mg x st ps) (S : FnScope N ps (defScope st)) (len : ∀ vs H Q E, sp vs H Q E → vs.length = ps.length)
    (hbody : ∀ (f : Addr) (cdv : Value) (A : Around) (outer : List Env) (s : Shared) (H : Hp) (vs : List V) (Q : VK) (E : XK), Room k (A.deeper (envOfC x (defScope st) s.heap.objs.size f cdv)) → sp vs H Q E →
      ∃ t, PSs (cxOf CX0 P w K mg base N x (defScope st) f cdv A outer s H E).nox (defBody st) t ∧ t { nx := fun _ H' => Q .non H', rt := Q } (start N vs) H) : Cal P w K mg base CX0 (k + 1) x sp := by
  obtain ⟨f, fd, F, m, b⟩ := D.ex
  exact ⟨f, fd, ps, F.ok S len (hbody f), m, F.kp, b⟩
end
section
variable {X : Cx} {x : Str} {sp : Sp} {e : Expr} {es : List Expr} {t : TA} {p pos : Pos} {k j : Nat}
theorem pe_c (c : Cal X.prog X.w X.K X.mg X.base CX0 k x sp) (hr : Room j X.A) (hk : k ≤ j) (hg : Gl X x) (ha : PA X (e :: es) t)
    (hdb : (x == ("__debug__" : Str)) = false := by decide) (he : starEach (e :: es) X.env = (false, eval e X.env) :: starEach es X.env := by rfl) (hpl : (backTo pos (starEach es X.env)).any (·.1) = false := by rfl) :
    PE X (.Call (.Name x p) (e :: es) [] pos) (tCall sp [] E0 t) := by
  obtain ⟨f, fd, ps, F, hm, kp, b⟩ := c.ex
  exact pe_call F (hr.mono hk) hg hm kp b .nil pass0 ha hdb he hpl
end
/-! ### heaps -/
theorem same_upd {H : Hp} {p : Addr} {o : HO} (h : H p = none) : Same H (upd H p o) := fun b x e => by
  rw [upd_ne (ne_of_none e h)]
  exact e
/-- a new object: what is tracked stays -/
theorem newO {H : Hp} {o : HO} {Q : V → Hp → Prop} (h : ∀ p H', Same H H' → H p = none → H' p = some o → Q (.ref p) H') : ∀ p, H p = none → Q (.ref p) (upd H p o) :=
  fun p hp => h p _ (same_upd hp) hp upd_same
theorem same_of {H H' : Hp} {p : Addr} {o : HO} (h : upd H p o = H') (n : H p = none) : Same H H' := h ▸ same_upd n
theorem at_new {H H' : Hp} {p : Addr} {o : HO} (h : upd H p o = H') : H' p = some o := h ▸ upd_same
theorem same_mut {H H' : Hp} {p : Addr} {o : HO} (s : Same H H') (h : H p = none) : Same H (upd H' p o) := fun b x e => by
  rw [upd_ne (ne_of_none e h)]
  exact s b x e
theorem same_mut_of {H H' H'' : Hp} {p : Addr} {o : HO} (h : upd H' p o = H'') (s : Same H H') (n : H p = none) : Same H H'' := h ▸ same_mut s n
theorem same_t {K : PySem.W.Frag} {H H' : Hp} {a : Addr} {xs : List V} (e : Same H H') (h : SqT K H a xs) : SqT K H' a xs := by
  rcases h with (h | ⟨o, h⟩) | h
  · exact .inl (.inl (e _ _ h))
  · exact .inl (.inr ⟨o, e _ _ h⟩)
  · exact .inr h
theorem sqL {K : PySem.W.Frag} {H : Hp} {a : Addr} {xs : List V} (h : H a = some (.lst xs)) : SqL K H a xs := .inl (.inl h)
theorem sqT {K : PySem.W.Frag} {H : Hp} {a : Addr} {xs : List V} (h : H a = some (.tup xs)) : SqT K H a xs := .inl (.inl h)
/-! ### numbers: of fewer than n bits -/
def Bd (n : Nat) (i : Int) : Prop := i.natAbs < 2 ^ n
theorem Bd.mono {n m : Nat} {i : Int} (h : Bd n i) (k : n ≤ m) : Bd m i := Nat.lt_of_lt_of_le h (Nat.pow_le_pow_right (by decide) k)
theorem Bd.mul {n m : Nat} {i j : Int} (h : Bd n i) (k : Bd m j) : Bd (n + m) (i * j) := by
  unfold Bd at *
  rw [Int.natAbs_mul, Nat.pow_add]
  exact Nat.mul_lt_mul'' h k
theorem Bd.add {n : Nat} {i j : Int} (h : Bd n i) (k : Bd n j) : Bd (n + 1) (i + j) := by
  unfold Bd at *
  rw [Nat.pow_succ]
  omega
theorem Bd.sub {n : Nat} {i j : Int} (h : Bd n i) (k : Bd n j) : Bd (n + 1) (i - j) := by
  unfold Bd at *
  rw [Nat.pow_succ]
  omega
theorem Bd.neg {n : Nat} {i : Int} (h : Bd n i) : Bd n (-i) := by
  unfold Bd at *
  omega
theorem Bd.of_le {n : Nat} {i j : Int} (h0 : 0 ≤ i) (h : i ≤ j) (k : Bd n j) : Bd n i := by
  unfold Bd at *
  omega
theorem Bd.zero {n : Nat} : Bd n 0 := Nat.pow_pos (by decide)
theorem Bd.one {n : Nat} (h : 0 < n) : Bd n 1 := Nat.lt_of_lt_of_le (by decide : 1 < 2 ^ 1) (Nat.pow_le_pow_right (by decide) h)
theorem mulOk {n m : Nat} {i j : Int} (h : Bd n i) (k : Bd m j) (l : n + m ≤ 134217728) : IntMulOk i j := (mulx_ok h k l).ok
theorem mulOk_l {i j : Int} (h : Bd 64 i) : IntMulOk i j := CMul.ok (.inl (by unfold Bd at h; omega))
theorem mulOk_r {i j : Int} (h : Bd 64 j) : IntMulOk i j := CMul.ok (.inr (by unfold Bd at h; omega))
theorem divOk {n : Nat} {i j : Int} (h0 : 0 < j) (h : Bd n j) (l : n ≤ 9000) (n0 : 0 < n) : CDivP i j := ⟨h0, PyProof.noPylong_of_log2 (Nat.lt_of_lt_of_le (PySem.Flt.log2_lt_of n0 h) l)⟩
section
variable {X : Cx}
/-- * of any factors that the model multiplies -/
theorem op_mulX : OpR X (binaryOp .Mult) (rI IntMulOk fun i j => .int (i * j)) := opI fun _ _ _ _ _ _ _ hc q => mul_int q hc
theorem op_fdivP : OpR X (binaryOp .FloorDiv) (rI CDivP fun i j => .int (i / j)) := opI fun i j _ _ _ _ _ hc q => by
  have h1 : (0 : Int) < j := hc.1
  exact floordiv_int (by omega) (by rw [Int.fdiv_eq_ediv_of_nonneg i (by omega)]; exact q) (.inl hc.2)
abbrev call_divmodP := @call_divmodW
end
/-! ### data -/
theorem dpAll_ints {K : PySem.W.Frag} {H : Hp} : ∀ ns : List Int, DpAll K H (ns.map V.int) (ns.map PyData.int)
  | [] => .nil
  | n :: r => .cons (.int n) (dpAll_ints r)
theorem dp_ints {K : PySem.W.Frag} {H : Hp} {a : Addr} {ns : List Int} (h : SqL K H a (ns.map V.int)) : Dp K H (.ref a) (.list (ns.map PyData.int)) := .lst h (dpAll_ints ns)
theorem canLay_ints : ∀ ns : List Int, PyData.canLayAll0 (ns.map PyData.int) = true
  | [] => by simp [PyData.canLayAll0]
  | n :: r => by simp [PyData.canLayAll0, PyData.canLay0, canLay_ints r]
theorem depth_ints : ∀ ns : List Int, PyData.depthAll (ns.map PyData.int) = 0
  | [] => by simp [PyData.depthAll]
  | n :: r => by simp [PyData.depthAll, PyData.depth, depth_ints r]
theorem shaped_ints (ns : List Int) : SeqAt.shaped (.list (ns.map PyData.int)) = true := by
  unfold SeqAt.shaped
  simp [PyData.canLay0, PyData.depth, canLay_ints, depth_ints]
theorem eqvAll_ints : ∀ ns ms : List Int, PyData.eqvAll (ns.map PyData.int) (ms.map PyData.int) = decide (ns = ms)
  | [], [] => by simp [PyData.eqvAll]
  | [], _ :: _ => by simp [PyData.eqvAll]
  | _ :: _, [] => by simp [PyData.eqvAll]
  | n :: r, m :: t => by
    show (PyData.eqv (.int n) (.int m) && PyData.eqvAll (r.map PyData.int) (t.map PyData.int)) = _
    rw [eqvAll_ints r t]
    simp only [PyData.eqv]
    by_cases h : n = m
    · subst h
      simp
    · simp [h]
theorem eqv_ints (ns ms : List Int) : PyData.eqv (.list (ns.map PyData.int)) (.list (ms.map PyData.int)) = decide (ns = ms) := by
  simp only [PyData.eqv]
  exact eqvAll_ints ns ms
/-- == of two lists of ints, != -/
theorem eq_ints {K : PySem.W.Frag} {H : Hp} {a b : Addr} {ns ms : List Int} {Q : VK} (h : SqL K H a (ns.map V.int)) (h' : SqL K H b (ms.map V.int)) (q : Q (.bl (decide (ns = ms))) H) : rEqD K (.ref a) (.ref b) H Q :=
  ⟨_, _, dp_ints h, dp_ints h', shaped_ints _, shaped_ints _, by rw [eqv_ints]; exact q⟩
theorem ne_ints {K : PySem.W.Frag} {H : Hp} {a b : Addr} {ns ms : List Int} {Q : VK} (h : SqL K H a (ns.map V.int)) (h' : SqL K H b (ms.map V.int)) (q : Q (.bl (!decide (ns = ms))) H) : rNeD K (.ref a) (.ref b) H Q :=
  ⟨_, _, dp_ints h, dp_ints h', shaped_ints _, shaped_ints _, by rw [eqv_ints]; exact q⟩
/-! ### isinstance -/
/-- the types that come here -/
def tys : List String := ["int", "bool", "str", "NoneType", "list", "tuple", "dict"]
theorem isi_at {K : PySem.W.Frag} {H : Hp} {x : V} {t T : String} {b : Bool} {Q : VK} (hx : TyX K H x (.type t)) (h : kitB t T = some b) (q : Q (.bl b) H) : rIsi K [x, .ty T] H Q :=
  ⟨x, .ty T, _, _, b, rfl, .ty T, hx, kit_ty h, q⟩
theorem kit_tys {T : String} (hT : T ∈ tys) : ∀ t ∈ tys, kitB t T = some (decide (t = T) || (decide (t = "bool") && decide (T = "int"))) := by
  have h : (tys.all fun T => tys.all fun t => decide (kitB t T = some (decide (t = T) || (decide (t = "bool") && decide (T = "int"))))) = true := by decide +kernel
  intro t ht
  exact of_decide_eq_true (List.all_eq_true.mp (List.all_eq_true.mp h T hT) t ht)
theorem isi_tys {K : PySem.W.Frag} {H : Hp} {x : V} {t T : String} {Q : VK} (hx : TyX K H x (.type t)) (ht : t ∈ tys) (hT : T ∈ tys) (q : Q (.bl (decide (t = T) || (decide (t = "bool") && decide (T = "int")))) H) : rIsi K [x, .ty T] H Q :=
  isi_at hx (kit_tys hT t ht) q
theorem ty_int {K : PySem.W.Frag} {H : Hp} (i : Int) : TyX K H (.int i) (.type "int") := .base (.int i)
theorem ty_bl {K : PySem.W.Frag} {H : Hp} (i : Bool) : TyX K H (.bl i) (.type "bool") := .base (.bl i)
theorem ty_list {K : PySem.W.Frag} {H : Hp} {a : Addr} {xs : List V} (h : SqL K H a xs) : TyX K H (.ref a) (.type "list") := by
  rcases h with (h | ⟨o, h⟩) | ⟨o, its, n, h, c, _⟩
  · exact .base (.lst h)
  · exact .base (.frz h)
  · exact .kList h c
theorem ty_tup {K : PySem.W.Frag} {H : Hp} {a : Addr} {xs : List V} (h : SqT K H a xs) : TyX K H (.ref a) (.type "tuple") := by
  rcases h with (h | ⟨o, h⟩) | ⟨o, its, n, h, c, _⟩
  · exact .base (.tup h)
  · exact .fTuple h
  · exact .kTuple h c
/-- the ints of a list of ints, by place -/
theorem map_int_at {ns : List Int} {i : Nat} {y : V} (h : (ns.map V.int)[i]? = some y) : ∃ z, ns[i]? = some z ∧ y = V.int z := by
  rw [List.getElem?_map] at h
  cases e : ns[i]? with
  | none =>
    rw [e] at h
    cases h
  | some z =>
    rw [e] at h
    exact ⟨z, rfl, (Option.some.inj h).symm⟩
/-- for x in reversed(xs), the list left as it is -/
theorem for_rev {K : PySem.W.Frag} {a : Addr} {xs : List V} {g : TG} {tb : TS} {D : Ends} {σ : L2.St} {H : Hp} (Pv : Nat → L2.St → Hp → Prop) (h0 : Pv 0 σ H) (hl : ∀ i σ H, i ≤ xs.length → Pv i σ H → SqL K H a xs)
    (hs : ∀ i x σ H, i < xs.length → xs[xs.length - 1 - i]? = some x → Pv i σ H → g x σ H fun σ2 H2 => tb { D with nx := Pv (i + 1), ct := Pv (i + 1), bk := D.nx } σ2 H2) (hd : ∀ σ H, Pv xs.length σ H → D.nx σ H) :
    ∃ W : Nat → Nat → L2.St → Hp → Prop, (∃ m, W 0 m σ H) ∧ ∀ i m σ H, W i m σ H →
      ((Itv K a xs.length).stop i H ∧ D.nx σ H) ∨ ((Itv K a xs.length).go i H ∧ ∃ N : L2.St → Hp → Prop, (∀ σ' H', N σ' H' → ∃ m', m' < m ∧ W (i + 1) m' σ' H') ∧ ∀ x H', (Itv K a xs.length).yld i H x H' → g x σ H' fun σ2 H2 => tb { D with nx := N, ct := N, bk := D.nx } σ2 H2) := by
  refine ⟨fun i m σ H => m = xs.length - i ∧ i ≤ xs.length ∧ Pv i σ H, ⟨xs.length, by simp, Nat.zero_le _, h0⟩, ?_⟩
  rintro i m σ H ⟨rfl, hi, p⟩
  have q := hl i σ H hi p
  by_cases hlt : i < xs.length
  · have hx : xs[xs.length - 1 - i]? = some (xs[xs.length - 1 - i]'(by omega)) := List.getElem?_eq_getElem (by omega)
    refine .inr ⟨⟨hlt, xs, _, q, hx⟩, Pv (i + 1), fun σ' H' p' => ⟨xs.length - (i + 1), by omega, rfl, hlt, p'⟩, fun x H' y => ?_⟩
    obtain ⟨e, y⟩ := y
    subst e
    exact hs i x σ _ hlt (y xs q) p
  · have e : i = xs.length := by omega
    subst e
    exact .inl ⟨Nat.le_refl _, hd σ H p⟩
/-! ### slices, items -/
theorem cut_neg1 (xs : List V) : cutV xs none (some (-1)) = xs.dropLast := by
  unfold cutV
  rw [HT.sIx_none]
  show (xs.drop 0).take ((if (-1 : Int) < 0 then ((-1 : Int) + (xs.length : Int)).toNat else min (-1 : Int).toNat xs.length) - 0) = xs.dropLast
  rw [if_pos (by decide), List.drop_zero, List.dropLast_eq_take]
  congr 1
  omega
theorem cut_to (xs : List V) (n : Nat) : cutV xs none (some (n : Int)) = xs.take n := by
  unfold cutV
  rw [HT.sIx_none, HT.sIx_nat, List.drop_zero, Nat.sub_zero, List.take_eq_take_iff]
  omega
theorem cut_from (xs : List V) (n : Nat) : cutV xs (some (n : Int)) none = xs.drop n := by
  unfold cutV
  rw [HT.sIx_none, HT.sIx_nat]
  rcases Nat.le_total n xs.length with h | h
  · rw [Nat.min_eq_left h]
    exact List.take_of_length_le (by rw [List.length_drop]; omega)
  · rw [Nat.min_eq_right h, List.drop_length, List.drop_eq_nil_of_le h]
    exact List.take_nil
theorem atI_neg1 {ns : List Int} (h : ns ≠ []) : atI (ns.map V.int) (-1) = some (.int (ns.getLast h)) := by
  have e : ns.map V.int = ns.dropLast.map V.int ++ [V.int (ns.getLast h)] := by
    rw [← List.map_singleton, ← List.map_append, List.dropLast_concat_getLast]
  rw [e]
  exact atI_last _ _
theorem atI_int {ns : List Int} {i : Nat} {z : Int} (h : ns[i]? = some z) : atI (ns.map V.int) (i : Int) = some (.int z) := atI_nat (by rw [List.getElem?_map, h]; rfl)
/-! ### what quotients tell: how great -/
theorem W_bd {n : Nat} : ∀ {ns : List Int}, (∀ x ∈ ns, Bd n x) → Bd ((n + 1) * ns.length + 1) (Cm.W ns).1 ∧ Bd ((n + 1) * ns.length + 1) (Cm.W ns).2
  | [], _ => ⟨Bd.one (by omega), Bd.zero⟩
  | q :: r, h => by
    obtain ⟨h1, h2⟩ := W_bd (ns := r) fun x hx => h x (List.mem_cons_of_mem _ hx)
    have hq := h q List.mem_cons_self
    have e : (n + 1) * (q :: r).length + 1 = (n + ((n + 1) * r.length + 1)) + 1 := by
      rw [List.length_cons, Nat.mul_add]
      omega
    rw [Cm.W_cons, e]
    exact ⟨(hq.mul h1).add (h2.mono (by omega)), h1.mono (by omega)⟩
theorem W_bd' {n m : Nat} {ns : List Int} (h : ∀ x ∈ ns, Bd n x) (l : ns.length ≤ m) : Bd ((n + 1) * m + 1) (Cm.W ns).1 ∧ Bd ((n + 1) * m + 1) (Cm.W ns).2 := by
  obtain ⟨h1, h2⟩ := W_bd h
  have := Nat.mul_le_mul_left (n + 1) l
  exact ⟨h1.mono (by omega), h2.mono (by omega)⟩
end Cs
namespace Cs
open PySem PySem.Spec PyProof.Rows L2
/-! ### things that may be chains -/
def isI : V → Bool
  | .int _ => true
  | _ => false
def ge1 : V → Bool
  | .int i => decide (1 ≤ i)
  | _ => false
/-- a list (its items), or another thing -/
def Thing (K : PySem.W.Frag) (H : Hp) (x : V) : Option (List V) → Prop
  | some xs => ∃ a, x = .ref a ∧ SqL K H a xs ∧ xs.length ≤ 100000 ∧ ∀ y ∈ xs, ∃ t, t ∈ tys ∧ TyX K H y (.type t) ∧ decide (t = "int") = isI y
  | none => ∃ t, t ∈ tys ∧ t ≠ "list" ∧ TyX K H x (.type t)
def quotsT : Option (List V) → Bool
  | none => false
  | some xs => xs.all isI && (xs.drop 1).all ge1
theorem quotsT_some (xs : List V) : quotsT (some xs) = (xs.all isI && (xs.drop 1).all ge1) := rfl
theorem thing_ints {K : PySem.W.Frag} {H : Hp} {a : Addr} {ns : List Int} (h : SqL K H a (ns.map V.int)) (l : ns.length ≤ 100000) : Thing K H (.ref a) (some (ns.map V.int)) := by
  refine ⟨a, rfl, h, by rw [List.length_map]; exact l, fun y hy => ?_⟩
  obtain ⟨z, _, rfl⟩ := List.mem_map.mp hy
  exact ⟨"int", by decide, ty_int z, rfl⟩
theorem isI_ints : ∀ xs : List V, xs.all isI = true → ∃ ns : List Int, xs = ns.map V.int
  | [], _ => ⟨[], rfl⟩
  | x :: r, h => by
    rw [List.all_cons, Bool.and_eq_true] at h
    obtain ⟨ns, rfl⟩ := isI_ints r h.2
    cases x with
    | int i => exact ⟨i :: ns, rfl⟩
    | _ => exact absurd h.1 (by simp [isI])
theorem all_isI (ns : List Int) : (ns.map V.int).all isI = true := by
  induction ns with
  | nil => rfl
  | cons n r ih => rw [List.map_cons, List.all_cons, ih]; rfl
/-- the list of ints is one of quotients -/
def quots (ns : List Int) : Bool := (ns.drop 1).all fun x => decide (1 ≤ x)
theorem quotsT_ints (ns : List Int) : quotsT (some (ns.map V.int)) = quots ns := by
  unfold quots
  rw [quotsT_some, all_isI, Bool.true_and, ← List.map_drop]
  generalize ns.drop 1 = l
  induction l with
  | nil => rfl
  | cons n r ih => rw [List.map_cons, List.all_cons, List.all_cons, ih]; rfl
def chB (ns : List Int) : Bool := quots ns && (ns != [] && (ns.length == 1 || decide (1 < ns.getLastD 0)))
def begB (ns : List Int) : Bool := quots ns && (ns == [] || decide (0 ≤ ns.headD 0))
def abvB (ns : List Int) : Bool := chB ns && (decide (0 ≤ ns.headD 0) && ns != [0])
def intOf : V → Int
  | .int i => i
  | _ => 0
/-- .. of any thing -/
def onInts (f : List Int → Bool) : Option (List V) → Bool
  | none => false
  | some xs => xs.all isI && f (xs.map intOf)
theorem onInts_some (f : List Int → Bool) (xs : List V) : onInts f (some xs) = (xs.all isI && f (xs.map intOf)) := rfl
theorem onInts_ints (f : List Int → Bool) (ns : List Int) : onInts f (some (ns.map V.int)) = f ns := by
  rw [onInts_some, all_isI, Bool.true_and, List.map_map]
  have e : (intOf ∘ V.int) = (id : Int → Int) := rfl
  rw [e, List.map_id]
theorem onInts_no {f : List Int → Bool} (hf : ∀ ns, f ns = true → quots ns = true) {th : Option (List V)} (h : quotsT th = false) : onInts f th = false := by
  cases th with
  | none => rfl
  | some xs =>
    cases e : xs.all isI with
    | false => rw [onInts_some, e]; rfl
    | true =>
      obtain ⟨ns, rfl⟩ := isI_ints xs e
      rw [quotsT_ints] at h
      rw [onInts_ints]
      cases z : f ns with
      | false => rfl
      | true => rw [hf ns z] at h; cases h
theorem quotsT_yes {th : Option (List V)} (h : quotsT th = true) : ∃ ns : List Int, th = some (ns.map V.int) := by
  cases th with
  | none => cases h
  | some xs =>
    rw [quotsT_some, Bool.and_eq_true] at h
    obtain ⟨ns, rfl⟩ := isI_ints xs h.1
    exact ⟨ns, rfl⟩
theorem chB_quots (ns : List Int) (h : chB ns = true) : quots ns = true := by
  unfold chB at h
  rw [Bool.and_eq_true] at h
  exact h.1
theorem begB_quots (ns : List Int) (h : begB ns = true) : quots ns = true := by
  unfold begB at h
  rw [Bool.and_eq_true] at h
  exact h.1
theorem abvB_chB {ns : List Int} (h : abvB ns = true) : chB ns = true := by
  unfold abvB at h
  rw [Bool.and_eq_true] at h
  exact h.1
/-! ### chains, by the program's rule and by the mathematics' -/
theorem tl_iff : ∀ {l : List Int}, Cm.Tl l ↔ l ≠ [] ∧ (l.all fun x => decide (1 ≤ x)) = true ∧ 1 < l.getLastD 0
  | [] => ⟨fun h => h.elim, fun h => (h.1 rfl).elim⟩
  | [x] => by
    simp only [Cm.Tl, List.all_cons, List.all_nil, Bool.and_true, decide_eq_true_eq, List.getLastD_cons, List.getLastD_nil]
    constructor
    · intro h
      exact ⟨by simp, by omega, by omega⟩
    · rintro ⟨_, _, h⟩
      omega
  | x :: y :: r => by
    have ih := tl_iff (l := y :: r)
    show (1 ≤ x ∧ Cm.Tl (y :: r)) ↔ _
    rw [ih]
    simp only [List.all_cons, Bool.and_eq_true, decide_eq_true_eq, List.getLastD_cons]
    constructor
    · rintro ⟨h1, _, h2, h3⟩
      exact ⟨by simp, ⟨h1, h2⟩, h3⟩
    · rintro ⟨_, ⟨h1, h2⟩, h3⟩
      exact ⟨h1, by simp, h2, h3⟩
theorem chB_iff (ns : List Int) : chB ns = true ↔ Cm.Ch ns := by
  match ns with
  | [] => simp [chB, Cm.Ch]
  | [x] => simp [chB, Cm.Ch, quots]
  | x :: y :: r =>
    show _ ↔ Cm.Tl (y :: r)
    rw [tl_iff]
    unfold chB quots
    simp only [List.drop_succ_cons, List.drop_zero, Bool.and_eq_true, Bool.or_eq_true, decide_eq_true_eq, List.getLastD_cons, List.length_cons, beq_iff_eq]
    constructor
    · rintro ⟨h1, _, h2⟩
      exact ⟨by simp, h1, h2.resolve_left (by omega)⟩
    · rintro ⟨_, h1, h2⟩
      exact ⟨h1, by simp, .inr h2⟩
theorem getLast_D {ns : List Int} (h : ns ≠ []) : ns.getLast h = ns.getLastD 0 := by
  cases ns with
  | nil => exact absurd rfl h
  | cons x r => rw [List.getLastD_cons, List.getLast_eq_getLastD]
end Cs
namespace Cs
open PySem PySem.Spec PyProof.Rows L2
/-! ### menus -/
theorem atI_of {α : Type} {xs : List α} {i : Int} {v : α} (h0 : 0 ≤ i) (h : xs[i.toNat]? = some v) : atI xs i = some v := by
  have e : i = ((i.toNat : Nat) : Int) := by omega
  rw [e]
  exact atI_nat h
theorem atI_menu {ms : List Int} {i : Int} (h0 : 0 ≤ i) (h : i < (ms.length : Int)) : atI (ms.map V.int) i = some (.int (ms.getD i.toNat 0)) := by
  refine atI_of h0 ?_
  have h1 : i.toNat < ms.length := by omega
  rw [List.getElem?_map, List.getElem?_eq_getElem h1, List.getD_eq_getElem?_getD, List.getElem?_eq_getElem h1]
  rfl
theorem getD_mem {ms : List Int} {i : Nat} (h : i < ms.length) : ms.getD i 0 ∈ ms := by
  rw [List.getD_eq_getElem?_getD, List.getElem?_eq_getElem h]
  exact List.getElem_mem h
def mixed (c k : Int) : Int :=
  ((c % 1000000007 + 7919 * k + 11) % 1000003 * ((c % 1000000007 + 7919 * k + 11) % 1000003) % 1000003 * ((c % 1000000007 + 7919 * k + 11) % 1000003)) % 1000003
theorem mixed_range (c k : Int) : 0 ≤ mixed c k ∧ mixed c k < 1000003 := ⟨Int.emod_nonneg _ (by decide), Int.emod_lt_of_pos _ (by decide)⟩
def lqMenu : List Int := [10 ^ (30 : Int).toNat, 2, 9, 10 ^ (6 : Int).toNat]
def lq (c : Int) : Int := 1 + c % lqMenu.getD (c / 5 % 4).toNat 0
theorem lqMenu_ok : ∀ x ∈ lqMenu, 0 < x ∧ x ≤ 10 ^ 30 := by decide
theorem lq_menu (c : Int) : lqMenu.getD (c / 5 % 4).toNat 0 ∈ lqMenu := getD_mem (by
  have h0 := Int.emod_nonneg (c / 5) (show (4 : Int) ≠ 0 by decide)
  have h1 := Int.emod_lt_of_pos (c / 5) (show (0 : Int) < 4 by decide)
  show (c / 5 % 4).toNat < 4
  omega)
theorem lq_ok (c : Int) : 1 ≤ lq c ∧ Bd 100 (lq c) := by
  obtain ⟨h0, h1⟩ := lqMenu_ok _ (lq_menu c)
  unfold lq
  have r0 := Int.emod_nonneg c (show lqMenu.getD (c / 5 % 4).toNat 0 ≠ 0 by omega)
  have r1 := Int.emod_lt_of_pos c h0
  generalize c % lqMenu.getD (c / 5 % 4).toNat 0 = r at *
  refine ⟨by omega, ?_⟩
  unfold Bd
  omega
theorem bdL {n : Nat} {i : Int} (h : i.natAbs < 2 ^ n) : Bd n i := h
/-- // by a written divisor -/
theorem divS {i j : Int} (h0 : 0 < j) (h : j.natAbs < 1073741824) : CDivP i j := ⟨h0, PyProof.noPylong_small h⟩
end Cs
namespace Cs
open PySem PySem.Spec PyProof.Rows L2
/-! ### the law's own def -/
structure LawAt (K : PySem.W.Frag) (mg : Str → Option Value) (x : Str) (st : Stmt) (ps : List Str) : Prop where
  ex : ∃ (f : Addr) (fd : FuncData), L2.Fun K x x st f fd ∧ mg x = some (.ref f) ∧ ∀ (s : Shared) (v : Value), BindsTo s fd ⟨[v], []⟩ (ps.zip [v])
theorem lawAt_mk {K : PySem.W.Frag} {mg : Str → Option Value} {x : Str} {st : Stmt} {ps : List Str} {f : Addr} {oc : Value} {od an : Option Addr} {osl : Array (Option Value)} {kV doc pm cdv ct : Value}
    (l : K.lookup f = some ⟨oc, od, .func (PySem.W.fnOf x x (defArgs st) (defBody st) (defScope st) .none kV doc pm an cdv ct), osl⟩)
    (c : PySem.W.codeIn K cdv x = true) (k : PySem.W.keepIn K (.ref f) = true) (g : mg x = some (.ref f))
    (h : ∀ (s : Shared) (v : Value), BindsTo s (PySem.W.fnOf x x (defArgs st) (defBody st) (defScope st) .none kV doc pm an cdv ct) ⟨[v], []⟩ (ps.zip [v])) : LawAt K mg x st ps :=
  ⟨f, _, fun_mk l c k, g, h⟩
/-- the law's promise: it answers True -/
def spLaw (K : PySem.W.Frag) : Sp := fun vs H Q _ => ∃ (a : Addr) (ns : List Int), vs = [.ref a] ∧ SqL K H a (ns.map V.int) ∧ ns.length ≤ 63 ∧ ∀ H', Q (.bl true) H'
theorem walk {l : PySem.W.OpenLaw} {k : Nat} {q : Program} {loose : List Str} {XP : (Str → Option Value) → Heap → Prop} {YP : World → Heap → Prop} {d : DefRec} {K : Params → PySem.W.Frag} (hn : l.most = some 63) (hdf : d.params.defaults = []) (hr : Room k callerA)
    (hY : ∀ (w : World) (h : Heap), YP w h → (K w.params).In h)
    (F : ∀ (w : World) (mg : Str → Option Value) (fa : Addr) (h : Heap), (K w.params).In h → h.Ns mainGlobals mg → mg d.name = some (.ref fa) →
      ∃ fd : FuncData, (∀ (s : Shared) (u : Value), BindsTo s fd ⟨[u], []⟩ [("_law_script", u)]) ∧ ∀ base : Heap, (K w.params).In base → base.Ns mainGlobals mg → FnOk l.prog w (K w.params) mg base CX0 k fa fd ["_law_script"] (spLaw (K w.params))) :
    PySem.W.WalkO q loose XP YP l.row.toRowW d [] (fun f vs => PySem.call f vs) :=
  L2.walk_of (n := 63) (k := k) (x := "_law_script") (CX := fun _ => CX0) (sp := fun w => spLaw (K w.params)) hn (by decide) hdf hr hY F (fun _ _ a ns hl _ hS => ⟨a, ns, rfl, hS, hl, fun _ => rfl⟩) fun _ _ _ _ _ z => z
end Cs
namespace Cs
open PySem PySem.Spec PyProof.Rows L2
theorem dp_intsT {K : PySem.W.Frag} {H : Hp} {a : Addr} {ns : List Int} (h : SqT K H a (ns.map V.int)) : Dp K H (.ref a) (.tuple (ns.map PyData.int)) := .tup h (dpAll_ints ns)
theorem shaped_intsT (ns : List Int) : SeqAt.shaped (.tuple (ns.map PyData.int)) = true := by
  unfold SeqAt.shaped
  simp [PyData.canLay0, PyData.depth, canLay_ints, depth_ints]
theorem eqv_intsT (ns ms : List Int) : PyData.eqv (.tuple (ns.map PyData.int)) (.tuple (ms.map PyData.int)) = decide (ns = ms) := by
  simp only [PyData.eqv]
  exact eqvAll_ints ns ms
/-! ### a chain whose last quotient may be 1, mended -/
def fixl (l : List Int) : List Int := if 1 < l.length ∧ l.getLastD 0 = 1 then l.dropLast ++ [2] else l
theorem fixl_len (l : List Int) : (fixl l).length = l.length := by
  unfold fixl
  split
  · rename_i h
    rw [List.length_append, List.length_dropLast, List.length_singleton]
    omega
  · rfl
theorem fixl_mem {l : List Int} {x : Int} (h : x ∈ fixl l) : x ∈ l ∨ x = 2 := by
  unfold fixl at h
  split at h
  · rcases List.mem_append.mp h with h | h
    · exact .inl (List.dropLast_subset _ h)
    · exact .inr (List.mem_singleton.mp h)
  · exact .inl h
theorem tl_app : ∀ {r : List Int} {y : Int}, (∀ x ∈ r, 1 ≤ x) → 2 ≤ y → Cm.Tl (r ++ [y])
  | [], y, _, h => h
  | [a], y, h, h2 => ⟨h a (by simp), h2⟩
  | a :: b :: r, y, h, h2 => ⟨h a (by simp), tl_app (r := b :: r) (fun x hx => h x (List.mem_cons_of_mem _ hx)) h2⟩
theorem fixl_ch (z : Int) (r : List Int) (h : ∀ x ∈ r, 1 ≤ x) : Cm.Ch (fixl (z :: r)) := by
  rcases List.eq_nil_or_concat r with rfl | ⟨s, y, rfl⟩
  · have e : fixl [z] = [z] := by simp [fixl]
    rw [e]
    exact trivial
  · rw [List.concat_eq_append] at *
    have hs : ∀ x ∈ s, 1 ≤ x := fun x hx => h x (List.mem_append_left _ hx)
    have hy : 1 ≤ y := h y (by simp)
    have go : ∀ w : Int, 2 ≤ w → Cm.Ch (z :: (s ++ [w])) := fun w hw => by
      have t := tl_app hs hw
      cases e : s ++ [w] with
      | nil => simp at e
      | cons b u =>
        rw [e] at t
        exact t
    unfold fixl
    split
    · have e : (z :: (s ++ [y])).dropLast ++ [2] = z :: (s ++ [2]) := by
        rw [← List.cons_append, List.dropLast_concat]
        rfl
      rw [e]
      exact go 2 (by decide)
    · rename_i hn
      refine go y ?_
      have e : (z :: (s ++ [y])).getLastD 0 = y := by
        rw [List.getLastD_cons, List.getLastD_concat]
      rw [e] at hn
      have : 1 < (z :: (s ++ [y])).length := by simp
      omega
theorem set_last2 {l : List Int} (h : l ≠ []) : (l.map V.int).set (l.length - 1) (.int 2) = (l.dropLast ++ [2]).map V.int := by
  rw [← List.map_set]
  congr 1
  rcases List.eq_nil_or_concat l with rfl | ⟨s, y, rfl⟩
  · exact absurd rfl h
  · rw [List.concat_eq_append, List.dropLast_concat, List.length_append, List.length_singleton, Nat.add_sub_cancel, List.set_append_right _ _ (Nat.le_refl _), Nat.sub_self]
    rfl
theorem ixN_neg1 {n : Nat} (h : 0 < n) : ixN n (-1) = some (n - 1) := by
  unfold ixN
  rw [if_neg (by decide), if_pos (by omega)]
  congr 1
  omega
theorem ixN_0 {n : Nat} (h : 0 < n) : ixN n 0 = some 0 := by
  unfold ixN
  rw [if_pos (by decide), if_pos (by omega)]
  rfl
theorem getLastD_ne {l : List Int} (h : l ≠ []) : atI (l.map V.int) (-1) = some (.int (l.getLastD 0)) := by
  rw [atI_neg1 h, getLast_D h]
end Cs
namespace Cs
open PySem PySem.Spec PyProof.Rows L2
/-! ### quotients whose fraction the model can reckon -/
structure Sz (ns : List Int) : Prop where
  ex : ∃ n, n ≤ 60000000 ∧ (∀ x ∈ ns, Bd n x) ∧ ∀ k, Bd n (Cm.W (ns.drop k)).1 ∧ Bd n (Cm.W (ns.drop k)).2
theorem sz_short {ns : List Int} (hl : ns.length ≤ 100) (h : ∀ x ∈ ns, Bd 100000 x) : Sz ns :=
  ⟨10000101, by decide, fun x hx => (h x hx).mono (by decide), fun k =>
    W_bd' (n := 100000) (m := 100) (fun x hx => h x (List.mem_of_mem_drop hx)) (by rw [List.length_drop]; omega)⟩
theorem tl_drop : ∀ {l : List Int}, Cm.Tl l → ∀ k, 0 ≤ (Cm.W (l.drop k)).1 ∧ (Cm.W (l.drop k)).1 ≤ (Cm.W l).1 ∧ 0 ≤ (Cm.W (l.drop k)).2 ∧ (Cm.W (l.drop k)).2 ≤ (Cm.W l).1
  | [], h, _ => h.elim
  | l@(x :: r), h, 0 => by
    have := Cm.Tl.w h
    rw [List.drop_zero]
    omega
  | [x], h, k + 1 => by
    have h2 : 2 ≤ x := h
    rw [List.drop_succ_cons, List.drop_nil, Cm.W_nil, Cm.W_one]
    show (0 : Int) ≤ 1 ∧ 1 ≤ x ∧ (0 : Int) ≤ 0 ∧ 0 ≤ x
    omega
  | x :: y :: r, h, k + 1 => by
    have ih := tl_drop (l := y :: r) h.2 k
    have w := Cm.Tl.w (l := y :: r) h.2
    have h1 : 1 ≤ x := h.1
    rw [List.drop_succ_cons, Cm.W_cons x]
    have := Int.mul_le_mul_of_nonneg_right h1 (show 0 ≤ (Cm.W (y :: r)).1 by omega)
    show 0 ≤ (Cm.W (List.drop k (y :: r))).1 ∧ (Cm.W (List.drop k (y :: r))).1 ≤ x * (Cm.W (y :: r)).1 + (Cm.W (y :: r)).2 ∧ _ ∧ _ ≤ x * (Cm.W (y :: r)).1 + (Cm.W (y :: r)).2
    omega
theorem tl_mem : ∀ {l : List Int}, Cm.Tl l → ∀ x ∈ l, 1 ≤ x ∧ x ≤ (Cm.W l).1
  | [], h, _, _ => h.elim
  | [a], h, x, hx => by
    rw [List.mem_singleton] at hx
    subst hx
    have h2 : 2 ≤ x := h
    rw [Cm.W_one]
    show 1 ≤ x ∧ x ≤ x
    omega
  | a :: b :: r, h, x, hx => by
    have w := Cm.Tl.w (l := b :: r) h.2
    have h1 : 1 ≤ a := h.1
    rw [Cm.W_cons]
    show 1 ≤ x ∧ x ≤ a * (Cm.W (b :: r)).1 + (Cm.W (b :: r)).2
    rcases List.mem_cons.mp hx with rfl | hx
    · have := Int.mul_le_mul_of_nonneg_left (show 1 ≤ (Cm.W (b :: r)).1 by omega) (show 0 ≤ x by omega)
      omega
    · have ih := tl_mem (l := b :: r) h.2 x hx
      have := Int.mul_le_mul_of_nonneg_right h1 (show 0 ≤ (Cm.W (b :: r)).1 by omega)
      omega
theorem sz_euc {n : Nat} {t b : Int} (h0 : 0 < b) (ht : Bd n t) (hb : Bd n b) (hn : n ≤ 10000000) : Sz (Cm.euc t b) := by
  obtain ⟨c, g, g0, e1, e2⟩ := Cm.euc_ok (t := t) h0
  have w0 := Cm.Ch.bot c
  have one : Bd n 1 := by unfold Bd at *; omega
  have b1 : Bd n (Cm.W (Cm.euc t b)).1 := by
    unfold Bd at *
    refine Nat.lt_of_le_of_lt ?_ ht
    have : t.natAbs = g.natAbs * (Cm.W (Cm.euc t b)).1.natAbs := by rw [← Int.natAbs_mul, ← e1]
    rw [this]
    exact Nat.le_mul_of_pos_left _ (by omega)
  have b2 : Bd n (Cm.W (Cm.euc t b)).2 := by
    unfold Bd at *
    refine Nat.lt_of_le_of_lt ?_ hb
    have : b.natAbs = g.natAbs * (Cm.W (Cm.euc t b)).2.natAbs := by rw [← Int.natAbs_mul, ← e2]
    rw [this]
    exact Nat.le_mul_of_pos_left _ (by omega)
  have q1 : Bd n (t / b) := Nat.lt_of_le_of_lt (Int.natAbs_ediv_le_natAbs t b) ht
  have hl := Cm.euc_pos (t := t) h0
  generalize Cm.euc t b = l at *
  subst hl
  generalize Cm.euc b (t % b) = r at *
  rw [Cm.W_cons] at b1 b2
  refine ⟨n, by omega, fun x hx => ?_, fun k => ?_⟩
  · rcases List.mem_cons.mp hx with rfl | hx
    · exact q1
    · cases r with
      | nil => cases hx
      | cons y r =>
        have := tl_mem (l := y :: r) c x hx
        exact Bd.of_le (by omega) this.2 b2
  · cases k with
    | zero => rw [List.drop_zero, Cm.W_cons]; exact ⟨b1, b2⟩
    | succ k =>
      rw [List.drop_succ_cons]
      cases r with
      | nil => rw [List.drop_nil, Cm.W_nil]; exact ⟨one, Bd.zero⟩
      | cons y r =>
        have := tl_drop (l := y :: r) c k
        exact ⟨Bd.of_le this.1 this.2.1 b2, Bd.of_le this.2.2.1 this.2.2.2 b2⟩
/-! ### enumerate -/
theorem for_enum {K : PySem.W.Frag} {a : Addr} {xs : List V} {g : TG} {tb : TS} {D : Ends} {σ : L2.St} {H : Hp} (Pv : Nat → L2.St → Hp → Prop) (h0 : Pv 0 σ H) (hl : ∀ i σ H, i ≤ xs.length → Pv i σ H → SqL K H a xs)
    (hs : ∀ i x T σ H H', xs[i]? = some x → Pv i σ H → Same H H' → H T = none → H' T = some (.tup [.int (i : Nat), x]) → g (.ref T) σ H' fun σ2 H2 => tb { D with nx := Pv (i + 1), ct := Pv (i + 1), bk := D.nx } σ2 H2) (hd : ∀ σ H, Pv xs.length σ H → D.nx σ H) :
    ∃ W : Nat → Nat → L2.St → Hp → Prop, (∃ m, W 0 m σ H) ∧ ∀ i m σ H, W i m σ H →
      ((Ite K a).stop i H ∧ D.nx σ H) ∨ ((Ite K a).go i H ∧ ∃ N : L2.St → Hp → Prop, (∀ σ' H', N σ' H' → ∃ m', m' < m ∧ W (i + 1) m' σ' H') ∧ ∀ x H', (Ite K a).yld i H x H' → g x σ H' fun σ2 H2 => tb { D with nx := N, ct := N, bk := D.nx } σ2 H2) := by
  refine ⟨fun i m σ H => m = xs.length - i ∧ i ≤ xs.length ∧ Pv i σ H, ⟨xs.length, by simp, Nat.zero_le _, h0⟩, ?_⟩
  rintro i m σ H ⟨rfl, hi, p⟩
  have q := hl i σ H hi p
  by_cases hlt : i < xs.length
  · refine .inr ⟨⟨xs, xs[i], q, by simp [hlt]⟩, Pv (i + 1), fun σ' H' p' => ⟨xs.length - (i + 1), by omega, rfl, hlt, p'⟩, fun v H' y => ?_⟩
    obtain ⟨T, x, rfl, nT, rfl, fx⟩ := y
    exact hs i x T σ H _ (fx xs q) p (same_upd nT) nT upd_same
  · have e : i = xs.length := by omega
    subst e
    exact .inl ⟨⟨xs, q, Nat.le_refl _⟩, hd σ H p⟩
theorem lc_enum {K : PySem.W.Frag} {a : Addr} {xs : List V} {g : TG} {tt : TT} {te : TE} {vs : List Nat} {σ : L2.St} {H1 : Hp} {D : Addr} {Qd : Hp → Prop} (Pv : Nat → Hp → Prop) (h0 : Pv 0 (upd H1 D (.lst []))) (hl : ∀ i H, i ≤ xs.length → Pv i H → SqL K H a xs)
    (hs : ∀ i x T H H', xs[i]? = some x → Pv i H → Same H H' → H T = none → H' T = some (.tup [.int (i : Nat), x]) → g (.ref T) (wipe σ vs) H' fun σ2 H2 => wipe σ2 vs = wipe σ vs ∧ tt σ2 H2 fun b H3 =>
      if b = true then te σ2 H3 fun y H4 => ∃ acc, H4 D = some (.lst acc) ∧ acc.length < sizeLine ∧ Pv (i + 1) (upd H4 D (.lst (acc ++ [y]))) else Pv (i + 1) H3) (hd : ∀ H, Pv xs.length H → Qd H) :
    ∃ W : Nat → Nat → Hp → Prop, (∃ m, W 0 m (upd H1 D (.lst []))) ∧ ∀ i m H, W i m H →
      ((Ite K a).stop i H ∧ Qd H) ∨ ((Ite K a).go i H ∧ ∃ Nx : Hp → Prop, (∀ H', Nx H' → ∃ m', m' < m ∧ W (i + 1) m' H') ∧ ∀ x H', (Ite K a).yld i H x H' → g x (wipe σ vs) H' fun σ2 H2 => wipe σ2 vs = wipe σ vs ∧ tt σ2 H2 fun b H3 =>
        if b = true then te σ2 H3 fun y H4 => ∃ acc, H4 D = some (.lst acc) ∧ acc.length < sizeLine ∧ Nx (upd H4 D (.lst (acc ++ [y]))) else Nx H3) := by
  refine ⟨fun i m H => m = xs.length - i ∧ i ≤ xs.length ∧ Pv i H, ⟨xs.length, by simp, Nat.zero_le _, h0⟩, ?_⟩
  rintro i m H ⟨rfl, hi, p⟩
  have q := hl i H hi p
  by_cases hlt : i < xs.length
  · refine .inr ⟨⟨xs, xs[i], q, by simp [hlt]⟩, Pv (i + 1), fun H' p' => ⟨xs.length - (i + 1), by omega, rfl, hlt, p'⟩, fun v H' y => ?_⟩
    obtain ⟨T, x, rfl, nT, rfl, fx⟩ := y
    exact hs i x T H _ (fx xs q) p (same_upd nT) nT upd_same
  · have e : i = xs.length := by omega
    subst e
    exact .inl ⟨⟨xs, q, Nat.le_refl _⟩, hd H p⟩
end Cs
namespace Cs
open PySem PySem.Spec PyProof.Rows L2
/-! ### a while's test, so that what follows may be weakened -/
def tMonoT (t : TT) : TT := fun σ H Q => ∃ Q0 : Bool → Hp → Prop, t σ H Q0 ∧ ∀ b H', Q0 b H' → Q b H'
theorem pt_mono {X : Cx} {e : Expr} {t : TT} (h : PT X e t) : PT X e (tMonoT t) := by
  refine ⟨fun pins s σ H Q I hq => ?_⟩
  obtain ⟨Q0, h1, h2⟩ := hq
  exact thn (h.run pins s σ H Q0 I h1) fun b s1 ⟨H', I', q⟩ => ⟨H', I', h2 _ _ q⟩
theorem while_m {c : TT} {tb : TS} {D : Ends} {σ : L2.St} {H : Hp} (Pv : L2.St → Hp → Prop) (μ : L2.St → Hp → Nat) (h0 : Pv σ H)
    (hs : ∀ σ H, Pv σ H → c σ H fun b H1 => if b = true then tb { D with nx := fun σ' H' => Pv σ' H' ∧ μ σ' H' < μ σ H, ct := fun σ' H' => Pv σ' H' ∧ μ σ' H' < μ σ H, bk := D.nx } σ H1 else D.nx σ H1) : tWhile (tMonoT c) tb D σ H :=
  while_by Pv μ h0 (fun σ H p => ⟨_, hs σ H p, fun _ _ q => q⟩) fun _ _ _ _ m ⟨Q0, h1, h2⟩ => ⟨Q0, h1, fun b H' q => m _ _ (h2 _ _ q)⟩
end Cs
namespace Cs
open PySem PySem.Spec PyProof.Rows L2
/-! ### the shape of data -/
structure Shp (n : Nat) (d : PyData) : Prop where
  lay : d.canLay0 = true
  dep : d.depth ≤ n
theorem Shp.shaped {n : Nat} {d : PyData} (h : Shp n d) (l : n ≤ 64) : SeqAt.shaped d = true := by
  unfold SeqAt.shaped
  rw [h.lay, Bool.true_and]
  exact decide_eq_true (Nat.le_trans h.dep l)
theorem shp_int (i : Int) : Shp 0 (.int i) := ⟨by simp [PyData.canLay0], by simp [PyData.depth]⟩
theorem shp_bool (i : Bool) : Shp 0 (.bool i) := ⟨by simp [PyData.canLay0], by simp [PyData.depth]⟩
theorem shp_none : Shp 0 .none := ⟨by simp [PyData.canLay0], by simp [PyData.depth]⟩
theorem Shp.mono {n m : Nat} {d : PyData} (h : Shp n d) (l : n ≤ m) : Shp m d := ⟨h.lay, Nat.le_trans h.dep l⟩
theorem shp_all {n : Nat} : ∀ {ds : List PyData}, (∀ d ∈ ds, Shp n d) → PyData.canLayAll0 ds = true ∧ PyData.depthAll ds ≤ n
  | [], _ => ⟨by simp [PyData.canLayAll0], by simp [PyData.depthAll]⟩
  | d :: ds, h => by
    obtain ⟨h1, h2⟩ := shp_all (ds := ds) fun x hx => h x (List.mem_cons_of_mem _ hx)
    have hd := h d List.mem_cons_self
    refine ⟨by simp [PyData.canLayAll0, h1, hd.lay], ?_⟩
    have := hd.dep
    simp only [PyData.depthAll]
    omega
theorem shp_list {n : Nat} {ds : List PyData} (h : ∀ d ∈ ds, Shp n d) : Shp (n + 1) (.list ds) := by
  obtain ⟨h1, h2⟩ := shp_all h
  exact ⟨by simpa [PyData.canLay0] using h1, by simp only [PyData.depth]; omega⟩
theorem shp_tup {n : Nat} {ds : List PyData} (h : ∀ d ∈ ds, Shp n d) : Shp (n + 1) (.tuple ds) := by
  obtain ⟨h1, h2⟩ := shp_all h
  exact ⟨by simpa [PyData.canLay0] using h1, by simp only [PyData.depth]; omega⟩
theorem shp_ints (ns : List Int) : Shp 1 (.list (ns.map PyData.int)) := shp_list fun d hd => by
  obtain ⟨i, _, rfl⟩ := List.mem_map.mp hd
  exact shp_int i
theorem shp_intsT (ns : List Int) : Shp 1 (.tuple (ns.map PyData.int)) := shp_tup fun d hd => by
  obtain ⟨i, _, rfl⟩ := List.mem_map.mp hd
  exact shp_int i
theorem eqv_same {n : Nat} {d : PyData} (h : Shp n d) : PyData.eqv d d = true := SeqAt.eqv_refl d h.lay
/-! ### the chain of quotients of a list, mended -/
theorem fixl_good {l : List Int} (hne : l ≠ []) (h : ∀ x ∈ l.drop 1, 1 ≤ x) : Cm.Ch (fixl l) := by
  cases l with
  | nil => exact absurd rfl hne
  | cons z r => exact fixl_ch z r h
end Cs
namespace Cs
open PySem PySem.Spec PyProof.Rows L2
/-! ### data stays -/
mutual
theorem Dp.same {K : PySem.W.Frag} {H H' : Hp} (s : Same H H') : ∀ {v : V} {d : PyData}, Dp K H v d → Dp K H' v d
  | _, _, .non => .non
  | _, _, .bl b => .bl b
  | _, _, .int i => .int i
  | _, _, .str x => .str x
  | _, _, .lst h a => .lst (s.seq h) (DpAll.same s a)
  | _, _, .tup h a => .tup (same_t s h) (DpAll.same s a)
theorem DpAll.same {K : PySem.W.Frag} {H H' : Hp} (s : Same H H') : ∀ {vs : List V} {ds : List PyData}, DpAll K H vs ds → DpAll K H' vs ds
  | _, _, .nil => .nil
  | _, _, .cons h t => .cons (Dp.same s h) (DpAll.same s t)
end
/-- a pair of whole numbers, as data -/
abbrev prD (f : Int × Int) : PyData := .tuple ([f.1, f.2].map PyData.int)
abbrev HPr (K : PySem.W.Frag) (H : Hp) (a : Addr) (f : Int × Int) : Prop := SqT K H a ([f.1, f.2].map V.int)
theorem pr_at0 {K : PySem.W.Frag} {H : Hp} {a : Addr} {f : Int × Int} (_ : HPr K H a f) : atI ([f.1, f.2].map V.int) 0 = some (.int f.1) := atI_int (ns := [f.1, f.2]) (i := 0) rfl
theorem pr_at1 {K : PySem.W.Frag} {H : Hp} {a : Addr} {f : Int × Int} (_ : HPr K H a f) : atI ([f.1, f.2].map V.int) 1 = some (.int f.2) := atI_int (ns := [f.1, f.2]) (i := 1) rfl
end Cs
namespace Cs
open PySem PySem.Spec PyProof.Rows L2
/-- a tuple stays where a list changes -/
theorem sqT_upd {K : PySem.W.Frag} {H : Hp} {a p : Addr} {xs ys : List V} {o : HO} (h : SqT K H a xs) (hp : H p = some (.lst ys)) : SqT K (upd H p o) a xs := by
  rcases h with (h | ⟨ob, h⟩) | h
  · refine .inl (.inl ?_)
    rw [upd_ne (ne_of h hp (by intro z; cases z))]
    exact h
  · refine .inl (.inr ⟨ob, ?_⟩)
    rw [upd_ne (ne_of h hp (by intro z; cases z))]
    exact h
  · exact .inr h
theorem euc_len' {t b : Int} (hb : Bd 8999 b) : (Cm.euc t b).length ≤ 18000 := by
  by_cases h : 0 < b
  · refine Nat.le_trans (Cm.euc_len 8999 h ?_) (by decide)
    unfold Bd at hb
    have : (b.natAbs : Int) < ((2 ^ 8999 : Nat) : Int) := Int.ofNat_lt.mpr hb
    rw [Int.natCast_pow] at this
    have e : (b.natAbs : Int) = b := by omega
    rw [e] at this
    exact this
  · rw [Cm.euc_zero h]
    exact Nat.zero_le _
end Cs

namespace Cs
open PySem PySem.Spec PyProof.Rows L2
/-! ### ends, in the heap -/
/-- an upper end, None or a pair -/
def HHi (K : PySem.W.Frag) (H : Hp) (v : V) : Option (Int × Int) → Prop
  | none => v = .non
  | some f => ∃ q, v = .ref q ∧ HPr K H q f
structure HEn (K : PySem.W.Frag) (H : Hp) (p : Addr) (e : Cm.En) : Prop where
  ex : ∃ (lo : Addr) (hv : V), SqT K H p [.ref lo, .bl e.ml, hv, .bl e.mh] ∧ HPr K H lo e.lo ∧ HHi K H hv e.hi
theorem HHi.same {K : PySem.W.Frag} {H H' : Hp} {v : V} {o : Option (Int × Int)} (s : Same H H') (h : HHi K H v o) : HHi K H' v o := by
  cases o with
  | none => exact h
  | some f =>
    obtain ⟨q, e, h⟩ := h
    exact ⟨q, e, same_t s h⟩
theorem HEn.same {K : PySem.W.Frag} {H H' : Hp} {p : Addr} {e : Cm.En} (s : Same H H') (h : HEn K H p e) : HEn K H' p e := by
  obtain ⟨lo, hv, h1, h2, h3⟩ := h.ex
  exact ⟨lo, hv, same_t s h1, same_t s h2, h3.same s⟩
def hiD : Option (Int × Int) → PyData
  | none => .none
  | some f => prD f
def enD (e : Cm.En) : PyData := .tuple [prD e.lo, .bool e.ml, hiD e.hi, .bool e.mh]
theorem HHi.dp {K : PySem.W.Frag} {H : Hp} {v : V} {o : Option (Int × Int)} (h : HHi K H v o) : Dp K H v (hiD o) := by
  cases o with
  | none =>
    have e : v = .non := h
    rw [e]
    exact .non
  | some f =>
    obtain ⟨q, e, h⟩ := h
    rw [e]
    exact dp_intsT h
theorem HEn.dp {K : PySem.W.Frag} {H : Hp} {p : Addr} {e : Cm.En} (h : HEn K H p e) : Dp K H (.ref p) (enD e) := by
  obtain ⟨lo, hv, h1, h2, h3⟩ := h.ex
  exact .tup h1 (.cons (dp_intsT h2) (.cons (.bl _) (.cons h3.dp (.cons (.bl _) .nil))))
theorem shp_hi (o : Option (Int × Int)) : Shp 1 (hiD o) := by
  cases o with
  | none => exact shp_none.mono (by decide)
  | some f => exact shp_intsT _
theorem shp_en (e : Cm.En) : Shp 2 (enD e) := shp_tup fun d hd => by
  rcases List.mem_cons.mp hd with rfl | hd
  · exact shp_intsT _
  rcases List.mem_cons.mp hd with rfl | hd
  · exact (shp_bool _).mono (by decide)
  rcases List.mem_cons.mp hd with rfl | hd
  · exact shp_hi _
  · rw [List.mem_singleton] at hd
    subst hd
    exact (shp_bool _).mono (by decide)
/-- the ends of a beginning, by the program's rule -/
def ends (ns : List Int) : Cm.En := Cm.endsOf ns (abvB ns)
theorem up_map {ns : List Int} : (ns.dropLast.map V.int) ++ [V.int (ns.getLastD 0 + 1)] = (Cm.up ns).map V.int := by
  unfold Cm.up
  rw [List.map_append]
  rfl
theorem up_len {ns : List Int} (h : ns ≠ []) : (Cm.up ns).length = ns.length := by
  have := List.length_pos_iff.mpr h
  unfold Cm.up
  rw [List.length_append, List.length_dropLast, List.length_singleton]
  omega
theorem up_bd {n : Nat} {ns : List Int} (h : ∀ x ∈ ns, Bd n x) (hn : 0 < n) : ∀ x ∈ Cm.up ns, Bd (n + 1) x := by
  intro x hx
  unfold Cm.up at hx
  rcases List.mem_append.mp hx with hx | hx
  · exact (h x (List.dropLast_subset _ hx)).mono (by omega)
  · rw [List.mem_singleton] at hx
    subst hx
    refine Bd.add ?_ (Bd.one hn)
    cases ns with
    | nil => exact Bd.zero
    | cons y r =>
      rw [← getLast_D (List.cons_ne_nil y r)]
      exact h _ (List.getLast_mem _)
theorem abvB_beg {ns : List Int} (h : begB ns = true) (hne : ns ≠ []) : abvB ns = ((ns != [0]) && (ns.length == 1 || decide (1 < ns.getLastD 0))) := by
  unfold begB at h
  rw [Bool.and_eq_true, Bool.or_eq_true] at h
  have h2 : decide (0 ≤ ns.headD 0) = true := by
    rcases h.2 with z | z
    · exact absurd (eq_of_beq z) hne
    · exact z
  unfold abvB chB
  rw [h.1, h2, Bool.true_and, Bool.true_and]
  have : (ns != []) = true := by simpa using hne
  rw [this, Bool.true_and, Bool.and_comm]
end Cs
namespace Cs
open PySem PySem.Spec PyProof.Rows L2
/-- how great ends are -/
structure EnB (e : Cm.En) : Prop where
  l1 : Bd 1000000 e.lo.1
  l2 : Bd 1000000 e.lo.2
  h : ∀ k, e.hi = some k → Bd 1000000 k.1 ∧ Bd 1000000 k.2
theorem en_bd {l : List Int} (h : ∀ x ∈ l, Bd 9000 x) (hl : l.length ≤ 100) : EnB (ends l) := by
  obtain ⟨w1, w2⟩ := W_bd' (m := 100) h hl
  by_cases hne : l = []
  · subst hne
    exact ⟨Bd.zero, Bd.one (by decide), fun k hk => by cases hk⟩
  · obtain ⟨u1, u2⟩ := W_bd' (m := 100) (up_bd h (by decide)) (by rw [up_len hne]; exact hl)
    have e : ends l = if l.length % 2 = 1 then ⟨Cm.W l, abvB l, some (Cm.W (Cm.up l)), false⟩ else ⟨Cm.W (Cm.up l), false, some (Cm.W l), abvB l⟩ := by
      unfold ends Cm.endsOf
      rw [if_neg hne]
    rw [e]
    split
    · exact ⟨w1.mono (by decide), w2.mono (by decide), fun k hk => by cases hk; exact ⟨u1.mono (by decide), u2.mono (by decide)⟩⟩
    · exact ⟨u1.mono (by decide), u2.mono (by decide), fun k hk => by cases hk; exact ⟨w1.mono (by decide), w2.mono (by decide)⟩⟩
/-- the items of a tuple of ends -/
theorem en_at0 {a b c d : V} : atI [a, b, c, d] 0 = some a := atI_nat (j := 0) rfl
theorem en_at1 {a b c d : V} : atI [a, b, c, d] 1 = some b := atI_nat (j := 1) rfl
theorem en_at2 {a b c d : V} : atI [a, b, c, d] 2 = some c := atI_nat (j := 2) rfl
theorem en_at3 {a b c d : V} : atI [a, b, c, d] 3 = some d := atI_nat (j := 3) rfl
theorem begB_take {l : List Int} (h : begB l = true) (n : Nat) : begB (l.take n) = true := by
  cases l with
  | nil => rw [List.take_nil]; exact h
  | cons x r =>
    cases n with
    | zero => rfl
    | succ n =>
      rw [List.take_succ_cons]
      unfold begB quots at h ⊢
      rw [Bool.and_eq_true] at h ⊢
      refine ⟨?_, h.2⟩
      have h1 := List.all_eq_true.mp h.1
      exact List.all_eq_true.mpr fun y hy => h1 y (List.mem_of_mem_take hy)
theorem begB_mem {l : List Int} (h : begB l = true) {k : Nat} {x : Int} (hx : l[k]? = some x) : if k = 0 then 0 ≤ x else 1 ≤ x := by
  unfold begB quots at h
  rw [Bool.and_eq_true, Bool.or_eq_true] at h
  cases l with
  | nil => simp at hx
  | cons y r =>
    cases k with
    | zero =>
      have : y = x := Option.some.inj hx
      subst this
      rw [if_pos rfl]
      rcases h.2 with z | z
      · cases z
      · exact of_decide_eq_true z
    | succ k =>
      rw [if_neg (by omega)]
      exact of_decide_eq_true (List.all_eq_true.mp h.1 x (List.mem_of_getElem? (i := k) hx))
theorem begB_snoc {p : List Int} {x : Int} (h : begB p = true) (hx : if p = [] then 0 ≤ x else 1 ≤ x) : begB (p ++ [x]) = true := by
  cases p with
  | nil =>
    rw [if_pos rfl] at hx
    unfold begB quots
    simp [hx]
  | cons y r =>
    rw [if_neg (by simp)] at hx
    unfold begB quots at h ⊢
    rw [Bool.and_eq_true] at h ⊢
    refine ⟨?_, h.2⟩
    have h1 := List.all_eq_true.mp h.1
    refine List.all_eq_true.mpr fun z hz => ?_
    rcases List.mem_append.mp (show z ∈ r ++ [x] from hz) with hz | hz
    · exact h1 z hz
    · rw [List.mem_singleton] at hz
      subst hz
      exact decide_eq_true hx
end Cs
namespace Cs
open PySem PySem.Spec PyProof.Rows L2
theorem HEn.upd {K : PySem.W.Frag} {H : Hp} {p l : Addr} {e : Cm.En} {ys : List V} {o : HO} (h : HEn K H p e) (hl : H l = some (.lst ys)) : HEn K (L2.upd H l o) p e := by
  obtain ⟨lo, hv, h1, h2, h3⟩ := h.ex
  refine ⟨lo, hv, sqT_upd h1 hl, sqT_upd h2 hl, ?_⟩
  cases ho : e.hi with
  | none =>
    rw [ho] at h3
    exact h3
  | some f =>
    rw [ho] at h3
    obtain ⟨q, eq, h⟩ := h3
    exact ⟨q, eq, sqT_upd h hl⟩
end Cs

namespace Cs
open PySem PySem.Spec PyProof.Rows L2
/-! ### slices with a step -/
def pickV {α : Type} (xs : List α) (lo hi : Option Int) (st : Int) : List α :=
  (sliceRange (sliceBounds lo hi (some st) xs.length).1 (sliceBounds lo hi (some st) xs.length).2.1 (sliceBounds lo hi (some st) xs.length).2.2).filterMap (xs[·]?)
theorem vals_pick {xs : List V} {us : List Value} (r : Vals xs us) : ∀ l : List Nat, Vals (l.filterMap (xs[·]?)) (l.filterMap (us[·]?))
  | [] => .nil
  | i :: l => by
    cases e : xs[i]? with
    | none =>
      have e2 : us[i]? = none := Vals.none_of r e
      rw [List.filterMap_cons_none e, List.filterMap_cons_none e2]
      exact vals_pick r l
    | some x =>
      obtain ⟨u, e2, rx⟩ := Vals.get r e
      rw [List.filterMap_cons_some e, List.filterMap_cons_some e2]
      exact .cons rx (vals_pick r l)
theorem pickV_map {α β : Type} (f : α → β) (xs : List α) (lo hi : Option Int) (st : Int) : pickV (xs.map f) lo hi st = (pickV xs lo hi st).map f := by
  unfold pickV
  rw [List.length_map, List.map_filterMap]
  congr 1
  funext i
  rw [List.getElem?_map]
theorem pickV_mem {α : Type} {xs : List α} {lo hi : Option Int} {st : Int} {x : α} (h : x ∈ pickV xs lo hi st) : x ∈ xs := by
  unfold pickV at h
  obtain ⟨i, _, e⟩ := List.mem_filterMap.mp h
  exact List.mem_of_getElem? e
theorem pickV_len {α : Type} (xs : List α) (lo : Option Int) (n k : Nat) (h0 : 0 < k) (hlo : ∀ i, lo = some i → 0 ≤ i) : (pickV xs lo (some (n : Int)) (k : Int)).length ≤ (n + k - 1) / k := by
  unfold pickV
  refine Nat.le_trans (List.length_filterMap_le _ _) ?_
  unfold sliceRange
  rw [List.length_map, List.length_range]
  have hk : (k : Int) > 0 := by omega
  have e3 : (sliceBounds lo (some (n : Int)) (some (k : Int)) xs.length).2.2 = (k : Int) := rfl
  have e1 : 0 ≤ (sliceBounds lo (some (n : Int)) (some (k : Int)) xs.length).1 := by
    simp only [sliceBounds, Option.getD_some, if_pos hk]
    cases lo with
    | none => simp
    | some i =>
      have := hlo i rfl
      dsimp only
      omega
  have e2 : (sliceBounds lo (some (n : Int)) (some (k : Int)) xs.length).2.1 ≤ (n : Int) := by
    simp only [sliceBounds, Option.getD_some, if_pos hk]
    rw [if_neg (show ¬ (n : Int) < 0 by omega)]
    omega
  rw [e3]
  generalize (sliceBounds lo (some (n : Int)) (some (k : Int)) xs.length).1 = a at *
  generalize (sliceBounds lo (some (n : Int)) (some (k : Int)) xs.length).2.1 = b at *
  rw [if_pos hk]
  split
  · have : (b - a + k - 1) / (k : Int) ≤ ((n : Int) + k - 1) / (k : Int) := Int.ediv_le_ediv hk (by omega)
    have e : (((n + k - 1) / k : Nat) : Int) = ((n : Int) + k - 1) / (k : Int) := by
      rw [Int.natCast_ediv]
      congr 1
      omega
    rw [← e] at this
    exact Int.toNat_le.mpr this
  · exact Nat.zero_le _
def tSlK (K : PySem.W.Frag) (te : TE) (tl th : TO) (st : Int) : TE := fun σ H Q => te σ H fun x H1 => tl σ H1 fun l H2 => th σ H2 fun u H3 => ∃ a xs, x = .ref a ∧ SqL K H3 a xs ∧ ∀ p, H3 p = none → Q (.ref p) (upd H3 p (.lst (pickV xs l u st)))
section
variable {X : Cx}
theorem pe_sliceK {e : Expr} {te : TE} {lo hi : Option Expr} {tl th : TO} {st : Int} {k : Nat} {p1 p3 pos : Pos} (he : PE X e te) (hl : PO X lo tl) (hu : PO X hi th) (h0 : st ≠ 0 := by decide) : PE X (.Subscript e (.Slice lo hi (some (.Constant (.int st) k p1)) p3) pos) (tSlK X.K te tl th st) := by
  refine ⟨fun pins s σ H Q I h => ?_⟩
  refine Subscript_ (thn (he.run pins s σ H _ I h) fun v s1 ⟨x, H1, I1, r1, q1⟩ => ?_)
  have hst : PO X (some (.Constant (.int st) k p1)) (tPart (tC (.int st))) := po_some pe_int
  refine wpAny_Slice (thn (hl.run pins s1 σ H1 _ I1 q1) fun vl s2 ⟨l, H2, I2, pl, q2⟩ => thn (hu.run pins s2 σ H2 _ I2 q2) fun vu s3 ⟨u, H3, I3, pu, q3⟩ => ?_)
  refine thn (hst.run pins s3 σ H3 (fun o H4 => o = some st ∧ H4 = H3) I3 ⟨st, rfl, rfl, rfl⟩) fun vs s4 ⟨o, H4, I4, ps, eo, e4⟩ => ?_
  subst eo e4
  obtain ⟨a, xs, ex, hx, q⟩ := q3
  subst ex
  cases r1
  have I5 : Inv X pins σ H4 { s4 with heap := s4.heap.push { cls := .type "slice", data := .fields #[vl, vu, vs] } } := I4.kept (t' := s4.toks) fun b ob q => Heap.get?_push_of_some _ q
  obtain ⟨its, r, ht, hz⟩ := I5.list hx
  have hlen := r.length
  show wpAny (model X.prog X.w) X.A (subscriptTail e (.Slice lo hi (some (.Constant (.int st) k p1)) p3) (.ref a) (.ref s4.heap.objs.size)) (EP X pins σ Q) X.xe { s4 with heap := s4.heap.push { cls := .type "slice", data := .fields #[vl, vu, vs] } }
  refine tail_any (ops := [.ref a, .ref s4.heap.objs.size]) ht.isList.typeIs (PySem.slot_list_getitem.lookup) ?_ (by with_unfolding_all rfl)
  refine wpAny_getItem_list_slice ht.isList (Heap.IsSliceOf.new _ vl vu vs) pl pu ps (fun z => h0 (Option.some.inj z)) ?_ (by rw [List.size_toArray]; omega)
  have hv : Vals (pickV xs l u st) (slicePick its.toArray l u (some st)).toList := by
    have e : (slicePick its.toArray l u (some st)).toList = (sliceRange (sliceBounds l u (some st) xs.length).1 (sliceBounds l u (some st) xs.length).2.1 (sliceBounds l u (some st) xs.length).2.2).filterMap (its[·]?) := by
      simp [slicePick, hlen]
    rw [e]
    exact vals_pick r _
  have hl2 : (pickV xs l u st).length ≤ sizeLine := by
    rw [hv.length, Array.length_toList]
    exact Nat.le_trans (slicePick_size_le _ _ _ _) (by rw [List.size_toArray, ← hlen]; exact hz)
  refine ⟨.ref _, _, I5.laid (t' := s4.toks) (o := .lst (pickV xs l u st)) (fun b ob q => Heap.get?_push_of_some _ q) (Nat.le_refl _) ?_, rfl, q _ (I5.hok.fresh (Nat.le_refl _))⟩
  exact ⟨hl2, _, 0, hv, Heap.get?_push_size _ rfl⟩
end
/-- a tuple that the top has bound -/
structure TupAt (K : PySem.W.Frag) (mg : Str → Option Value) (x : Str) (xs : List V) : Prop where
  ex : ∃ p, mg x = some (.ref p) ∧ ∀ H, SqT K H p xs
end Cs

namespace Cs
open PySem PySem.Spec PyProof.Rows L2
theorem ty_str {K : PySem.W.Frag} {H : Hp} (x : Str) : TyX K H (.str x) (.type "str") := .base (.str x)
def words : List Str := ["plus", "less", "times", "over"]
/-- what a word makes of two fractions -/
def doneV (x : Str) (f g : Int × Int) : Int × Int :=
  if x = "plus" then (f.1 * g.2 + g.1 * f.2, f.2 * g.2) else if x = "less" then (f.1 * g.2 - g.1 * f.2, f.2 * g.2) else if x = "times" then (f.1 * g.1, f.2 * g.2) else (f.1 * g.2, f.2 * g.1)
structure BdF (n : Nat) (f : Int × Int) : Prop where
  top : Bd n f.1
  bot : Bd n f.2
theorem BdF.mono {n m : Nat} {f : Int × Int} (h : BdF n f) (l : n ≤ m) : BdF m f := ⟨h.top.mono l, h.bot.mono l⟩
theorem done_bd {n m : Nat} {x : Str} {f g : Int × Int} (hf : BdF n f) (hg : BdF m g) : BdF (n + m + 1) (doneV x f g) := by
  have a := hf.top.mul hg.bot
  have b := (hg.top.mul hf.bot).mono (show m + n ≤ n + m by omega)
  have c := (hf.bot.mul hg.bot).mono (show n + m ≤ n + m + 1 by omega)
  have d := (hf.top.mul hg.top).mono (show n + m ≤ n + m + 1 by omega)
  have e := (hf.bot.mul hg.top).mono (show n + m ≤ n + m + 1 by omega)
  unfold doneV
  split
  · exact ⟨a.add b, c⟩
  · split
    · exact ⟨a.sub b, c⟩
    · split
      · exact ⟨d, c⟩
      · exact ⟨a.mono (by omega), e⟩
theorem done_pos {x : Str} {f g : Int × Int} (f2 : 0 < f.2) (g1 : 0 < g.1) (g2 : 0 < g.2) : 0 < (doneV x f g).2 := by
  unfold doneV
  split
  · exact Int.mul_pos f2 g2
  · split
    · exact Int.mul_pos f2 g2
    · split
      · exact Int.mul_pos f2 g2
      · exact Int.mul_pos f2 g1
/-- a chain of a number above 0 -/
theorem abv_pos {ns : List Int} (h : abvB ns = true) : 0 < (Cm.W ns).1 ∧ 0 < (Cm.W ns).2 := by
  have c := (chB_iff ns).mp (abvB_chB h)
  have w0 := Cm.Ch.bot c
  refine ⟨?_, by omega⟩
  unfold abvB at h
  rw [Bool.and_eq_true, Bool.and_eq_true] at h
  obtain ⟨_, h1, h2⟩ := h
  have h1' := of_decide_eq_true h1
  match ns, c, h1', h2 with
  | [x], _, h1, h2 =>
    rw [Cm.W_one]
    have : x ≠ 0 := by
      rintro rfl
      exact absurd h2 (by decide)
    have h1 : 0 ≤ x := h1
    show 0 < x
    omega
  | x :: y :: r, c, h1, _ =>
    obtain ⟨a, b⟩ := Cm.Tl.w (l := y :: r) c
    rw [Cm.W_cons]
    show 0 < x * (Cm.W (y :: r)).1 + (Cm.W (y :: r)).2
    have h1 : 0 ≤ x := h1
    have := Int.mul_nonneg h1 (show 0 ≤ (Cm.W (y :: r)).1 by omega)
    omega
theorem Sz.bdF {ns : List Int} (h : Sz ns) : BdF 60000000 (Cm.W ns) := by
  obtain ⟨n, hn, _, hb⟩ := h.ex
  exact ⟨(hb 0).1.mono hn, (hb 0).2.mono hn⟩
end Cs

namespace Cs
open PySem PySem.Spec PyProof.Rows L2
theorem done_plus (f g : Int × Int) : doneV "plus" f g = (f.1 * g.2 + g.1 * f.2, f.2 * g.2) := rfl
theorem done_less (f g : Int × Int) : doneV "less" f g = (f.1 * g.2 - g.1 * f.2, f.2 * g.2) := rfl
theorem done_times (f g : Int × Int) : doneV "times" f g = (f.1 * g.1, f.2 * g.2) := rfl
theorem done_over (f g : Int × Int) : doneV "over" f g = (f.1 * g.2, f.2 * g.1) := rfl
theorem done_scale {x : Str} {k j : Int} (u v : Int × Int) : doneV x (k * u.1, k * u.2) (j * v.1, j * v.2) = (k * j * (doneV x u v).1, k * j * (doneV x u v).2) := by
  unfold doneV
  split
  · exact Prod.ext (by grind) (by grind)
  · split
    · exact Prod.ext (by grind) (by grind)
    · split
      · exact Prod.ext (by grind) (by grind)
      · exact Prod.ext (by grind) (by grind)
theorem euc_bd {n : Nat} {t b : Int} (h0 : 0 < b) (ht : Bd n t) (hb : Bd n b) : BdF n (Cm.W (Cm.euc t b)) := by
  obtain ⟨c, g, g0, e1, e2⟩ := Cm.euc_ok (t := t) h0
  refine ⟨?_, ?_⟩
  · unfold Bd at *
    refine Nat.lt_of_le_of_lt ?_ ht
    have : t.natAbs = g.natAbs * (Cm.W (Cm.euc t b)).1.natAbs := by rw [← Int.natAbs_mul, ← e1]
    rw [this]
    exact Nat.le_mul_of_pos_left _ (by omega)
  · unfold Bd at *
    refine Nat.lt_of_le_of_lt ?_ hb
    have : b.natAbs = g.natAbs * (Cm.W (Cm.euc t b)).2.natAbs := by rw [← Int.natAbs_mul, ← e2]
    rw [this]
    exact Nat.le_mul_of_pos_left _ (by omega)
/-- the chain of a number above 0, of a fraction in any terms; how great it is in lowest terms -/
structure Num (n : Nat) (l : List Int) (f : Int × Int) : Prop where
  is : l = Cm.euc f.1 f.2
  top : 0 < f.1
  bot : 0 < f.2
  bd : BdF n (Cm.W l)
theorem Num.sc {n : Nat} {l : List Int} {f : Int × Int} (h : Num n l f) : Cm.Ch l ∧ ∃ k, 0 < k ∧ f = (k * (Cm.W l).1, k * (Cm.W l).2) := by
  obtain ⟨c, g, g0, e1, e2⟩ := Cm.euc_ok (t := f.1) h.bot
  rw [← h.is] at c e1 e2
  exact ⟨c, g, g0, Prod.ext e1 e2⟩
theorem Num.pos {n : Nat} {l : List Int} {f : Int × Int} (h : Num n l f) : 0 < (Cm.W l).1 ∧ 0 < (Cm.W l).2 := by
  obtain ⟨c, k, k0, e⟩ := h.sc
  have t := h.top
  have b := h.bot
  rw [e] at t b
  exact ⟨Int.pos_of_mul_pos_right t (by omega), Int.pos_of_mul_pos_right b (by omega)⟩
theorem Num.is1 {n : Nat} {l : List Int} {f : Int × Int} (h : Num n l f) : l = Cm.euc (Cm.W l).1 (Cm.W l).2 := (Cm.euc_W1 h.sc.1).symm
theorem Num.sz {n : Nat} {l : List Int} {f : Int × Int} (h : Num n l f) (hn : n ≤ 8999) : Sz l := by
  have := sz_euc (t := (Cm.W l).1) h.pos.2 h.bd.top h.bd.bot (by omega)
  rwa [← h.is1] at this
theorem Num.len {n : Nat} {l : List Int} {f : Int × Int} (h : Num n l f) (hn : n ≤ 8999) : l.length ≤ 18000 := by
  have := euc_len' (t := (Cm.W l).1) (h.bd.bot.mono hn)
  rwa [← h.is1] at this
theorem Num.chB {n : Nat} {l : List Int} {f : Int × Int} (h : Num n l f) : chB l = true := (chB_iff l).mpr h.sc.1
theorem Num.abv {n : Nat} {l : List Int} {f : Int × Int} (h : Num n l f) : abvB l = true := by
  unfold abvB
  rw [h.chB, Bool.true_and, Bool.and_eq_true]
  refine ⟨?_, ?_⟩
  · have e := h.is
    rw [Cm.euc_pos h.bot] at e
    rw [e]
    exact decide_eq_true (Int.ediv_nonneg (by have := h.top; omega) (by have := h.bot; omega))
  · have : l ≠ [0] := by
      rintro rfl
      have p := h.pos.1
      rw [Cm.W_one] at p
      exact absurd p (by decide)
    simpa using this
theorem Num.same {n m : Nat} {l r : List Int} {f g : Int × Int} (h : Num n l f) (h' : Num m r g) (e : f.1 * g.2 = g.1 * f.2) : l = r := by
  rw [h.is, h'.is]
  exact Cm.euc_same h.bot h'.bot e
theorem Num.eq {n : Nat} {l : List Int} {f : Int × Int} (h : Num n l f) {t b : Int} (h0 : 0 < b) (e : t * f.2 = f.1 * b) : Cm.euc t b = l := by
  rw [h.is]
  exact Cm.euc_same h0 h.bot e
theorem Num.at {n : Nat} {l : List Int} {f : Int × Int} (h : Num n l f) {H : Hp} {p : Addr} {t b : Int} (e : H p = some (.lst ((Cm.euc t b).map V.int))) (h0 : 0 < b) (c : t * f.2 = f.1 * b) : H p = some (.lst (l.map V.int)) := by
  rw [h.eq h0 c] at e
  exact e
theorem num_of {n : Nat} {l : List Int} (h : abvB l = true) (b : BdF n (Cm.W l)) : Num n l (Cm.W l) := by
  obtain ⟨p1, p2⟩ := abv_pos h
  exact ⟨(Cm.euc_W1 ((chB_iff l).mp (abvB_chB h))).symm, p1, p2, b⟩
theorem Num.done {n m : Nat} {l r : List Int} {f g : Int × Int} (h : Num n l f) (h' : Num m r g) (x : Str) :
    0 < (doneV x f g).2 ∧ Cm.euc (doneV x (Cm.W l) (Cm.W r)).1 (doneV x (Cm.W l) (Cm.W r)).2 = Cm.euc (doneV x f g).1 (doneV x f g).2 ∧ BdF (n + m + 1) (Cm.W (Cm.euc (doneV x f g).1 (doneV x f g).2)) := by
  obtain ⟨_, k, k0, e⟩ := h.sc
  obtain ⟨_, j, j0, e'⟩ := h'.sc
  have p := done_pos (x := x) h.pos.2 h'.pos.1 h'.pos.2
  have s : Cm.euc (doneV x (Cm.W l) (Cm.W r)).1 (doneV x (Cm.W l) (Cm.W r)).2 = Cm.euc (doneV x f g).1 (doneV x f g).2 := by
    have e2 := done_scale (x := x) (k := k) (j := j) (Cm.W l) (Cm.W r)
    rw [← e, ← e'] at e2
    rw [e2]
    exact (Cm.euc_scale (Int.mul_pos k0 j0) p).symm
  have d := done_bd (x := x) h.bd h'.bd
  refine ⟨done_pos h.bot h'.top h'.bot, s, ?_⟩
  rw [← s]
  exact euc_bd p d.top d.bot
theorem Num.res {n m : Nat} {l r : List Int} {f g : Int × Int} (h : Num n l f) (h' : Num m r g) (x : Str) (p : 0 < (doneV x f g).1) : Num (n + m + 1) (Cm.euc (doneV x f g).1 (doneV x f g).2) (doneV x f g) :=
  ⟨rfl, p, (h.done h' x).1, (h.done h' x).2.2⟩
theorem Num.l5 {n : Nat} {l : List Int} {f : Int × Int} (h : Num n l f) (hn : n ≤ 8999) : l.length ≤ 100000 := Nat.le_trans (h.len hn) (by decide)
theorem Num.rbd {n m : Nat} {l r : List Int} {f g : Int × Int} {x : Str} (h : Num n l f) (h' : Num m r g) (hk : n + m + 1 ≤ 8999) : Bd 8999 (doneV x (Cm.W l) (Cm.W r)).2 := (done_bd (x := x) h.bd h'.bd).bot.mono hk
end Cs

namespace Cs
open PySem PySem.Spec PyProof.Rows L2
theorem bd_bil {m : Nat} {a b : Int} (ha : (a = 1 ∧ b = 0) ∨ (a = 0 ∧ b = 1)) {f g : Int × Int} (hf : BdF m f) (hg : BdF m g) : BdF (2 * m + 1) (Cm.bil a b f g) := by
  have h1 := (hf.top.mul hg.bot).add ((hg.top.mul hf.bot))
  have h2 := (hf.top.mul hg.top)
  have h3 := (hf.bot.mul hg.bot)
  refine ⟨?_, h3.mono (by omega)⟩
  unfold Cm.bil
  rcases ha with ⟨rfl, rfl⟩ | ⟨rfl, rfl⟩
  · show Bd _ (1 * (f.1 * g.2 + g.1 * f.2) + 0 * (f.1 * g.1))
    rw [Int.one_mul, Int.zero_mul, Int.add_zero]
    exact h1.mono (by omega)
  · show Bd _ (0 * (f.1 * g.2 + g.1 * f.2) + 1 * (f.1 * g.1))
    rw [Int.one_mul, Int.zero_mul, Int.zero_add]
    exact h2.mono (by omega)
theorem bd_psum {m : Nat} {f g : Int × Int} (hf : BdF m f) (hg : BdF m g) : BdF (m + 1) (Cm.psum f g) := ⟨hf.top.add hg.top, hf.bot.add hg.bot⟩
theorem bd_crs {m n : Nat} {f g : Int × Int} (hf : BdF m f) (hg : BdF n g) : Bd (m + n + 1) (Cm.crs f g) := by
  have h1 := hf.top.mul hg.bot
  have h2 := (hg.top.mul hf.bot).mono (show n + m ≤ m + n by omega)
  exact h1.sub h2
theorem Bd.le {n : Nat} {i : Int} (h : Bd n i) : i ≤ 2 ^ n ∧ -(2 ^ n) ≤ i := by
  unfold Bd at h
  have : (i.natAbs : Int) < ((2 ^ n : Nat) : Int) := Int.ofNat_lt.mpr h
  rw [Int.natCast_pow] at this
  have e : ((2 : Nat) : Int) = 2 := rfl
  rw [e] at this
  omega
/-- near enough the ends, the quotients behind what is alike differ -/
theorem bil_core {a b : Int} (ha : (a = 1 ∧ b = 0) ∨ (a = 0 ∧ b = 1)) {e h e' h' k m k' m' : Int × Int} {n : Nat} (n1 : 1 ≤ n) (be : BdF n e) (bh : BdF n h) (be' : BdF n e') (bh' : BdF n h') (bk : BdF n k) (bm : BdF n m) (bk' : BdF n k') (bm' : BdF n m')
    {G : Int} (hG : 2 ^ (8 * n + 9) < G) {isL isH : Bool} (l2 : 0 < (Cm.bil a b e k).2) (h2 : 0 ≤ (Cm.bil a b h m).2) (hD : 0 < Cm.crs (Cm.bil a b h m) (Cm.bil a b e k))
    (x1 : 0 ≤ Cm.crs (Cm.bil a b (Cm.nr G e e') (Cm.nr G k k')) (Cm.bil a b e k)) (x2 : Cm.crs (Cm.bil a b (Cm.nr G e e') (Cm.nr G k k')) (Cm.bil a b e k) = 0 ↔ isL = true)
    (y1 : 0 ≤ Cm.crs (Cm.bil a b h m) (Cm.bil a b (Cm.nr G h h') (Cm.nr G m m'))) (y2 : Cm.crs (Cm.bil a b h m) (Cm.bil a b (Cm.nr G h h') (Cm.nr G m m')) = 0 ↔ isH = true)
    (p1 : 0 < (Cm.bil a b (Cm.nr G e e') (Cm.nr G k k')).2) (p2 : 0 < (Cm.bil a b (Cm.nr G h h') (Cm.nr G m m')).2) :
    (Cm.euc (Cm.bil a b (Cm.nr G e e') (Cm.nr G k k')).1 (Cm.bil a b (Cm.nr G e e') (Cm.nr G k k')).2)[(Cm.sureB (Cm.bil a b e k).1 (Cm.bil a b e k).2 (Cm.bil a b h m).1 (Cm.bil a b h m).2 isL isH).length]? ≠
      (Cm.euc (Cm.bil a b (Cm.nr G h h') (Cm.nr G m m')).1 (Cm.bil a b (Cm.nr G h h') (Cm.nr G m m')).2)[(Cm.sureB (Cm.bil a b e k).1 (Cm.bil a b e k).2 (Cm.bil a b h m).1 (Cm.bil a b h m).2 isL isH).length]? := by
  have bL := bd_bil ha be bk
  have bH := bd_bil ha bh bm
  have bT := bd_psum (bd_bil ha be bk') (bd_bil ha be' bk)
  have bS := bd_bil ha be' bk'
  have bT2 := bd_psum (bd_bil ha bh bm') (bd_bil ha bh' bm)
  have bS2 := bd_bil ha bh' bm'
  rw [Cm.bil_nr] at x1 x2 p1
  rw [Cm.bil_nr] at y1 y2 p2
  rw [Cm.bil_nr a b G e e' k k', Cm.bil_nr a b G h h' m m']
  generalize Cm.bil a b e k = L at *
  generalize Cm.bil a b h m = H at *
  generalize Cm.psum (Cm.bil a b e k') (Cm.bil a b e' k) = T at *
  generalize Cm.bil a b e' k' = S at *
  generalize Cm.psum (Cm.bil a b h m') (Cm.bil a b h' m) = T2 at *
  generalize Cm.bil a b h' m' = S2 at *
  have c1 := ((bd_crs bT bL).mono (show _ ≤ 4 * n + 4 by omega)).le
  have c2 := ((bd_crs bS bL).mono (show _ ≤ 4 * n + 4 by omega)).le
  have c3 := ((bd_crs bH bT).mono (show _ ≤ 4 * n + 4 by omega)).le
  have c4 := ((bd_crs bH bS).mono (show _ ≤ 4 * n + 4 by omega)).le
  have d1 := ((bd_crs bH bT2).mono (show _ ≤ 4 * n + 4 by omega)).le
  have d2 := ((bd_crs bH bS2).mono (show _ ≤ 4 * n + 4 by omega)).le
  have d3 := ((bd_crs bT2 bL).mono (show _ ≤ 4 * n + 4 by omega)).le
  have d4 := ((bd_crs bS2 bL).mono (show _ ≤ 4 * n + 4 by omega)).le
  have L1 := bL.top.le
  have L2' := bL.bot.le
  have H1 := bH.top.le
  have H2' := bH.bot.le
  generalize hM : (2 : Int) ^ (4 * n + 4) = M at *
  have M1 : (1 : Int) ≤ M := by
    rw [← hM]
    exact Int.pow_pos (by decide)
  have hC : (H.1.natAbs : Int) + (L.1.natAbs + 1) * H.2 + L.2 + H.2 ≤ M - 1 := by
    have hu : (2 : Int) ^ (2 * n + 1) * 2 ^ (2 * n + 1) * 4 = M := by
      rw [← hM, ← Int.pow_add, show (4 : Int) = 2 ^ 2 from rfl, ← Int.pow_add]
      congr 1
      omega
    have u8 : (8 : Int) ≤ 2 ^ (2 * n + 1) := by
      have e : 2 * n + 1 = (2 * n - 2) + 3 := by omega
      rw [e, Int.pow_add]
      have : (0 : Int) < 2 ^ (2 * n - 2) := Int.pow_pos (by decide)
      show (8 : Int) ≤ 2 ^ (2 * n - 2) * 8
      omega
    generalize (2 : Int) ^ (2 * n + 1) = u at *
    have q1 : (L.1.natAbs : Int) + 1 ≤ u + 1 := by omega
    have q2 : ((L.1.natAbs : Int) + 1) * H.2 ≤ (u + 1) * u := Int.mul_le_mul q1 H2'.1 h2 (by omega)
    have q3 : (u + 1) * u = u * u + u := by grind
    have q4 := Int.mul_le_mul_of_nonneg_right u8 (show 0 ≤ u by omega)
    omega
  have hG2 : 2 * ((M - 1 + 1) * M) < G := by
    have : 2 * ((M - 1 + 1) * M) = (2 : Int) ^ (8 * n + 9) := by
      rw [show M - 1 + 1 = M by omega, ← hM, ← Int.pow_add, show (2 : Int) * 2 ^ (4 * n + 4 + (4 * n + 4)) = 2 ^ 1 * 2 ^ (4 * n + 4 + (4 * n + 4)) from rfl, ← Int.pow_add]
      congr 1
      omega
    omega
  have hc1 : Cm.crs (G * G * L.1 + G * T.1 + S.1, G * G * L.2 + G * T.2 + S.2) L = G * Cm.crs T L + Cm.crs S L := Cm.crs_low G L T S
  have hc2 := Cm.crs_hi G H L T S
  have hc3 := Cm.crs_low' G H T2 S2
  have hc4 := Cm.crs_hi' G L H T2 S2
  refine Cm.sure_differ (C := M - 1) l2 h2 hD p1 p2 hC x1 x2.mp x2.mpr ?_ y1 y2.mp y2.mpr ?_
  · show (M - 1) * Cm.crs (G * G * L.1 + G * T.1 + S.1, G * G * L.2 + G * T.2 + S.2) L < Cm.crs H (G * G * L.1 + G * T.1 + S.1, G * G * L.2 + G * T.2 + S.2)
    rw [hc1, hc2]
    exact Cm.near_est hG2 (by omega) (by omega) c1.1 c2.1 c3.2 c4.2 hD
  · show (M - 1) * Cm.crs H (G * G * H.1 + G * T2.1 + S2.1, G * G * H.2 + G * T2.2 + S2.2) < Cm.crs (G * G * H.1 + G * T2.1 + S2.1, G * G * H.2 + G * T2.2 + S2.2) L
    rw [hc3, hc4]
    exact Cm.near_est hG2 (by omega) (by omega) d1.1 d2.1 d3.2 d4.2 hD
end Cs

namespace Cs
open PySem PySem.Spec PyProof.Rows L2
def nb (b : Bool) : Int := if b = true then 0 else 1
theorem nb_0 {b : Bool} : nb b = 0 ↔ b = true := by cases b <;> decide
theorem nb_pos (b : Bool) : 0 ≤ nb b := by cases b <;> decide
theorem nb_f {b : Bool} (h : b = false) : nb b = 1 := by rw [h]; rfl
/-- a number's ends e, h (h.2 is 0 where it has none), the offsets of what comes near them, whether they are met, whether it is whole -/
structure End (n : Nat) (e h e' h' : Int × Int) (mL mH w : Bool) : Prop where
  be : BdF n e
  bh : BdF n h
  be' : BdF n e'
  bh' : BdF n h'
  e1 : 0 ≤ e.1
  e2 : 0 < e.2
  h1 : 0 < h.1
  h2 : 0 ≤ h.2
  f1 : 0 ≤ e'.1
  f2 : 0 ≤ e'.2
  g1 : 0 ≤ h'.1
  g2 : 0 ≤ h'.2
  ef : 0 < e.1 + e'.1
  hg : 0 < h.2 + h'.2
  cl : Cm.crs e' e = nb mL
  ml : mL = true → 0 < e.1
  ch : Cm.crs h h' = nb mH
  mh : mH = true → 0 < h.2
  d : Cm.crs h e = nb w
  dw : w = true → mL = true ∧ mH = true
/-- the other number's, as the word turns them -/
structure OEnd (n : Nat) (k m k' m' : Int × Int) (fl fh v : Bool) : Prop where
  bk : BdF n k
  bm : BdF n m
  bk' : BdF n k'
  bm' : BdF n m'
  k2 : 0 < k.2
  kk2 : 0 ≤ k'.2
  m2 : 0 ≤ m.2
  mm2 : 0 ≤ m'.2
  mg : 0 < m.2 + m'.2
  ck : Cm.crs k' k = nb fl
  cm : Cm.crs m m' = nb fh
  fm : fh = true → 0 < m.2
  d : Cm.crs m k = nb v
  dv : v = true → fl = true ∧ fh = true
theorem nr2_pos {G : Int} {e e' : Int × Int} (hG : 0 < G) (h : 0 ≤ e.2) (h' : 0 ≤ e'.2) (s : 0 < e.2 + e'.2) : 0 < (Cm.nr G e e').2 := by
  show 0 < G * e.2 + e'.2
  have := Int.mul_le_mul_of_nonneg_right (show 1 ≤ G by omega) h
  omega
theorem nr1_pos {G : Int} {e e' : Int × Int} (hG : 0 < G) (h : 0 ≤ e.1) (h' : 0 ≤ e'.1) (s : 0 < e.1 + e'.1) : 0 < (Cm.nr G e e').1 := by
  show 0 < G * e.1 + e'.1
  have := Int.mul_le_mul_of_nonneg_right (show 1 ≤ G by omega) h
  omega
theorem sum0 {a b : Int} {p q : Bool} (ha : 0 ≤ a) (hb : 0 ≤ b) (ha0 : p = false → 0 < a ∨ (q = false ∧ 0 < b)) (hb0 : p = true → q = false → 0 < b) : 0 ≤ a * nb p + b * nb q ∧ (a * nb p + b * nb q = 0 ↔ (p && q) = true) := by
  cases p <;> cases q
  · have := ha0 rfl
    have e : a * nb false + b * nb false = a + b := by show a * 1 + b * 1 = a + b; omega
    rw [e]
    exact ⟨by omega, ⟨fun z => by omega, fun z => by cases z⟩⟩
  · have := ha0 rfl
    have e : a * nb false + b * nb true = a := by show a * 1 + b * 0 = a; omega
    rw [e]
    refine ⟨by omega, ⟨fun z => ?_, fun z => by cases z⟩⟩
    rcases this with w | ⟨w, _⟩
    · omega
    · cases w
  · have := hb0 rfl rfl
    have e : a * nb true + b * nb false = b := by show a * 0 + b * 1 = b; omega
    rw [e]
    exact ⟨by omega, ⟨fun z => by omega, fun z => by cases z⟩⟩
  · have e : a * nb true + b * nb true = 0 := by show a * 0 + b * 0 = 0; omega
    rw [e]
    exact ⟨by omega, ⟨fun z => rfl, fun z => rfl⟩⟩
/-- what a word's interval is, and how it meets what comes near -/
structure Iv (L H f s : Int × Int) (isL isH : Bool) : Prop where
  l2 : 0 < L.2
  h2 : 0 ≤ H.2
  D : 0 < Cm.crs H L
  x1 : 0 ≤ Cm.crs f L
  x2 : Cm.crs f L = 0 ↔ isL = true
  y1 : 0 ≤ Cm.crs H s
  y2 : Cm.crs H s = 0 ↔ isH = true
  p1 : 0 < f.2
  p2 : 0 < s.2
section
variable {n : Nat} {e h e' h' k m k' m' : Int × Int} {mL mH w fl fh v : Bool} {G : Int}
theorem iv_plus (A : End n e h e' h' mL mH w) (B : OEnd n k m k' m' fl fh v) (hw : (w && v) = false) (fin : 0 < h.2 ∨ 0 < m.2) (hG : 0 < G) :
    Iv (Cm.bil 1 0 e k) (Cm.bil 1 0 h m) (Cm.bil 1 0 (Cm.nr G e e') (Cm.nr G k k')) (Cm.bil 1 0 (Cm.nr G h h') (Cm.nr G m m')) (mL && fl) (mH && fh) := by
  have f2 := nr2_pos (e := e) (e' := e') hG (by have := A.e2; omega) A.f2 (by have := A.e2; have := A.f2; omega)
  have g2 := nr2_pos (e := k) (e' := k') hG (by have := B.k2; omega) B.kk2 (by have := B.k2; have := B.kk2; omega)
  have F2 := nr2_pos hG A.h2 A.g2 A.hg
  have G2 := nr2_pos hG B.m2 B.mm2 B.mg
  have fm : fh = false ∨ 0 < m.2 := by cases hf : fh with | false => exact .inl rfl | true => exact .inr (B.fm hf)
  have x : Cm.crs (Cm.bil 1 0 (Cm.nr G e e') (Cm.nr G k k')) (Cm.bil 1 0 e k) = (Cm.nr G k k').2 * k.2 * nb mL + (Cm.nr G e e').2 * e.2 * nb fl := by rw [Cm.crs_plus, Cm.crs_nr, Cm.crs_nr, A.cl, B.ck]
  have y : Cm.crs (Cm.bil 1 0 h m) (Cm.bil 1 0 (Cm.nr G h h') (Cm.nr G m m')) = m.2 * (Cm.nr G m m').2 * nb mH + h.2 * (Cm.nr G h h').2 * nb fh := by rw [Cm.crs_plus, Cm.crs_nr', Cm.crs_nr', A.ch, B.cm]
  have z : Cm.crs (Cm.bil 1 0 h m) (Cm.bil 1 0 e k) = m.2 * k.2 * nb w + h.2 * e.2 * nb v := by rw [Cm.crs_plus, A.d, B.d]
  have p1 := Int.mul_pos g2 B.k2
  have p2 := Int.mul_pos f2 A.e2
  have p3 := Int.mul_nonneg B.m2 (show 0 ≤ (Cm.nr G m m').2 by omega)
  have p4 := Int.mul_nonneg A.h2 (show 0 ≤ (Cm.nr G h h').2 by omega)
  have s1 := sum0 (p := mL) (q := fl) (a := (Cm.nr G k k').2 * k.2) (b := (Cm.nr G e e').2 * e.2) (by omega) (by omega) (fun _ => .inl p1) (fun _ _ => p2)
  have s2 := sum0 (p := mH) (q := fh) (a := m.2 * (Cm.nr G m m').2) (b := h.2 * (Cm.nr G h h').2) p3 p4
    (fun _ => by
      rcases Int.lt_or_le 0 m.2 with q | q
      · exact .inl (Int.mul_pos q G2)
      · exact .inr ⟨fm.resolve_right (by omega), Int.mul_pos (fin.resolve_right (by omega)) F2⟩)
    (fun z _ => Int.mul_pos (A.mh z) F2)
  rw [← x] at s1
  rw [← y] at s2
  refine ⟨Int.mul_pos A.e2 B.k2, Int.mul_nonneg A.h2 B.m2, ?_, s1.1, s1.2, s2.1, s2.2, Int.mul_pos f2 g2, Int.mul_pos F2 G2⟩
  rw [z]
  have q1 := Int.mul_nonneg B.m2 (show 0 ≤ k.2 by have := B.k2; omega)
  have q2 := Int.mul_nonneg A.h2 (show 0 ≤ e.2 by have := A.e2; omega)
  have s3 := sum0 (p := w) (q := v) q1 q2 (fun _ => by
      rcases Int.lt_or_le 0 m.2 with q | q
      · exact .inl (Int.mul_pos q B.k2)
      · refine .inr ⟨?_, Int.mul_pos (fin.resolve_right (by omega)) A.e2⟩
        cases hv : v with
        | false => rfl
        | true => exact absurd (B.fm (B.dv hv).2) (by omega))
    (fun z _ => Int.mul_pos (A.mh (A.dw z).2) A.e2)
  have : ¬ (m.2 * k.2 * nb w + h.2 * e.2 * nb v = 0) := fun c => by
    have := s3.2.mp c
    rw [hw] at this
    cases this
  omega
theorem iv_times (A : End n e h e' h' mL mH w) (B : OEnd n k m k' m' fl fh v) (hw : (w && v) = false) (m1 : 0 < m.1) (k1 : 0 ≤ k.1) (kk1 : 0 ≤ k'.1) (kg : 0 < k.1 + k'.1) (hG : 0 < G) :
    Iv (Cm.bil 0 1 e k) (Cm.bil 0 1 h m) (Cm.bil 0 1 (Cm.nr G e e') (Cm.nr G k k')) (Cm.bil 0 1 (Cm.nr G h h') (Cm.nr G m m')) (mL && fl) (mH && fh) := by
  have f2 := nr2_pos (e := e) (e' := e') hG (by have := A.e2; omega) A.f2 (by have := A.e2; have := A.f2; omega)
  have g2 := nr2_pos (e := k) (e' := k') hG (by have := B.k2; omega) B.kk2 (by have := B.k2; have := B.kk2; omega)
  have g1 := nr1_pos hG k1 kk1 kg
  have F2 := nr2_pos hG A.h2 A.g2 A.hg
  have G2 := nr2_pos hG B.m2 B.mm2 B.mg
  have F1 := nr1_pos (e := h) (e' := h') hG (by have := A.h1; omega) A.g1 (by have := A.h1; have := A.g1; omega)
  have x : Cm.crs (Cm.bil 0 1 (Cm.nr G e e') (Cm.nr G k k')) (Cm.bil 0 1 e k) = (Cm.nr G k k').1 * k.2 * nb mL + e.1 * (Cm.nr G e e').2 * nb fl := by rw [Cm.crs_times, Cm.crs_nr, Cm.crs_nr, A.cl, B.ck]
  have y : Cm.crs (Cm.bil 0 1 h m) (Cm.bil 0 1 (Cm.nr G h h') (Cm.nr G m m')) = m.1 * (Cm.nr G m m').2 * nb mH + (Cm.nr G h h').1 * h.2 * nb fh := by rw [Cm.crs_times, Cm.crs_nr', Cm.crs_nr', A.ch, B.cm]
  have z : Cm.crs (Cm.bil 0 1 h m) (Cm.bil 0 1 e k) = m.1 * k.2 * nb w + e.1 * h.2 * nb v := by rw [Cm.crs_times, A.d, B.d]
  have p1 := Int.mul_pos g1 B.k2
  have p2 := Int.mul_nonneg A.e1 (show 0 ≤ (Cm.nr G e e').2 by omega)
  have p3 := Int.mul_pos m1 G2
  have p4 := Int.mul_nonneg (show 0 ≤ (Cm.nr G h h').1 by omega) A.h2
  have s1 := sum0 (p := mL) (q := fl) (a := (Cm.nr G k k').1 * k.2) (b := e.1 * (Cm.nr G e e').2) (by omega) p2 (fun _ => .inl p1) (fun z _ => Int.mul_pos (A.ml z) f2)
  have s2 := sum0 (p := mH) (q := fh) (a := m.1 * (Cm.nr G m m').2) (b := (Cm.nr G h h').1 * h.2) (by omega) p4 (fun _ => .inl p3) (fun z _ => Int.mul_pos F1 (A.mh z))
  rw [← x] at s1
  rw [← y] at s2
  refine ⟨Int.mul_pos A.e2 B.k2, Int.mul_nonneg A.h2 B.m2, ?_, s1.1, s1.2, s2.1, s2.2, Int.mul_pos f2 g2, Int.mul_pos F2 G2⟩
  rw [z]
  have q1 := Int.mul_pos m1 B.k2
  have q2 := Int.mul_nonneg A.e1 A.h2
  have s3 := sum0 (p := w) (q := v) (a := m.1 * k.2) (b := e.1 * h.2) (by omega) q2 (fun _ => .inl q1) (fun z _ => Int.mul_pos (A.ml (A.dw z).1) (A.mh (A.dw z).2))
  have : ¬ (m.1 * k.2 * nb w + e.1 * h.2 * nb v = 0) := fun c => by
    have := s3.2.mp c
    rw [hw] at this
    cases this
  omega
end
end Cs

namespace Cs
open PySem PySem.Spec PyProof.Rows L2
def ngp (g : Int × Int) : Int × Int := (-g.1, g.2)
def swp (g : Int × Int) : Int × Int := (g.2, g.1)
/-- the quotients of what comes near the ends differ behind what is alike between -/
def Differ (L H f s : Int × Int) (isL isH : Bool) : Prop :=
  (Cm.euc f.1 f.2)[(Cm.sureB L.1 L.2 H.1 H.2 isL isH).length]? ≠ (Cm.euc s.1 s.2)[(Cm.sureB L.1 L.2 H.1 H.2 isL isH).length]?
theorem db_plus (f g : Int × Int) : doneV "plus" f g = Cm.bil 1 0 f g := by
  rw [done_plus]
  exact Prod.ext (by show f.1 * g.2 + g.1 * f.2 = 1 * (f.1 * g.2 + g.1 * f.2) + 0 * (f.1 * g.1); grind) rfl
theorem db_less (f g : Int × Int) : doneV "less" f g = Cm.bil 1 0 f (ngp g) := by
  rw [done_less]
  exact Prod.ext (by show f.1 * g.2 - g.1 * f.2 = 1 * (f.1 * g.2 + -g.1 * f.2) + 0 * (f.1 * -g.1); grind) rfl
theorem db_times (f g : Int × Int) : doneV "times" f g = Cm.bil 0 1 f g := by
  rw [done_times]
  exact Prod.ext (by show f.1 * g.1 = 0 * (f.1 * g.2 + g.1 * f.2) + 1 * (f.1 * g.1); grind) rfl
theorem db_over (f g : Int × Int) : doneV "over" f g = Cm.bil 0 1 f (swp g) := by
  rw [done_over]
  exact Prod.ext (by show f.1 * g.2 = 0 * (f.1 * g.1 + g.2 * f.2) + 1 * (f.1 * g.2); grind) rfl
theorem nr_ng (G : Int) (e e' : Int × Int) : ngp (Cm.nr G e e') = Cm.nr G (ngp e) (ngp e') := by
  exact Prod.ext (by show -(G * e.1 + e'.1) = G * -e.1 + -e'.1; grind) rfl
theorem nr_sw (G : Int) (e e' : Int × Int) : swp (Cm.nr G e e') = Cm.nr G (swp e) (swp e') := rfl
theorem bd_ng {n : Nat} {g : Int × Int} (h : BdF n g) : BdF n (ngp g) := ⟨h.top.neg, h.bot⟩
theorem bd_sw {n : Nat} {g : Int × Int} (h : BdF n g) : BdF n (swp g) := ⟨h.bot, h.top⟩
theorem crs_ng (f g : Int × Int) : Cm.crs (ngp f) (ngp g) = Cm.crs g f := by
  show -f.1 * g.2 - -g.1 * f.2 = g.1 * f.2 - f.1 * g.2
  grind
theorem crs_sw (f g : Int × Int) : Cm.crs (swp f) (swp g) = Cm.crs g f := by
  show f.2 * g.1 - g.2 * f.1 = g.1 * f.2 - f.1 * g.2
  grind
section
variable {n : Nat} {e h e' h' k m k' m' : Int × Int} {mL mH w fl fh v : Bool} {G : Int}
theorem End.o (B : End n k m k' m' fl fh v) : OEnd n k m k' m' fl fh v := ⟨B.be, B.bh, B.be', B.bh', B.e2, B.f2, B.h2, B.g2, B.hg, B.cl, B.ch, B.mh, B.d, B.dw⟩
theorem End.ng (B : End n k m k' m' fl fh v) (f : 0 < m.2) : OEnd n (ngp m) (ngp k) (ngp m') (ngp k') fh fl v :=
  ⟨bd_ng B.bh, bd_ng B.be, bd_ng B.bh', bd_ng B.be', f, B.g2, by have := B.e2; show 0 ≤ k.2; omega, B.f2, by have := B.e2; have := B.f2; show 0 < k.2 + k'.2; omega, by rw [crs_ng]; exact B.ch, by rw [crs_ng]; exact B.cl, fun _ => B.e2, by rw [crs_ng]; exact B.d,
    fun z => ⟨(B.dw z).2, (B.dw z).1⟩⟩
theorem End.sw (B : End n k m k' m' fl fh v) : OEnd n (swp m) (swp k) (swp m') (swp k') fh fl v :=
  ⟨bd_sw B.bh, bd_sw B.be, bd_sw B.bh', bd_sw B.be', B.h1, B.g1, B.e1, B.f1, B.ef, by rw [crs_sw]; exact B.ch, by rw [crs_sw]; exact B.cl, B.ml, by rw [crs_sw]; exact B.d, fun z => ⟨(B.dw z).2, (B.dw z).1⟩⟩
theorem iv_differ {a b : Int} (ha : (a = 1 ∧ b = 0) ∨ (a = 0 ∧ b = 1)) (A : End n e h e' h' mL mH w) (B : OEnd n k m k' m' fl fh v) (n1 : 1 ≤ n) (hG : 2 ^ (8 * n + 9) < G) {isL isH : Bool}
    (I : Iv (Cm.bil a b e k) (Cm.bil a b h m) (Cm.bil a b (Cm.nr G e e') (Cm.nr G k k')) (Cm.bil a b (Cm.nr G h h') (Cm.nr G m m')) isL isH) :
    Differ (Cm.bil a b e k) (Cm.bil a b h m) (Cm.bil a b (Cm.nr G e e') (Cm.nr G k k')) (Cm.bil a b (Cm.nr G h h') (Cm.nr G m m')) isL isH :=
  bil_core ha n1 A.be A.bh A.be' A.bh' B.bk B.bm B.bk' B.bm' hG I.l2 I.h2 I.D I.x1 I.x2 I.y1 I.y2 I.p1 I.p2
/-- the words that turn the other number's ends -/
def turns (x : Str) : Bool := decide (x = "less") || decide (x = "over")
theorem word_iv {x : Str} (hx : x ∈ words) (A : End n e h e' h' mL mH w) (B : End n k m k' m' fl fh v) (hw : (w && v) = false) (fin : x = "plus" → 0 < h.2 ∨ 0 < m.2) (fin2 : x = "less" → 0 < m.2) (n1 : 1 ≤ n) (hG : 0 < G) :
    Iv (doneV x e (bif turns x then m else k)) (doneV x h (bif turns x then k else m)) (doneV x (Cm.nr G e e') (bif turns x then Cm.nr G m m' else Cm.nr G k k')) (doneV x (Cm.nr G h h') (bif turns x then Cm.nr G k k' else Cm.nr G m m'))
      (mL && bif turns x then fh else fl) (mH && bif turns x then fl else fh) ∧
    (2 ^ (8 * n + 9) < G → Differ (doneV x e (bif turns x then m else k)) (doneV x h (bif turns x then k else m)) (doneV x (Cm.nr G e e') (bif turns x then Cm.nr G m m' else Cm.nr G k k')) (doneV x (Cm.nr G h h') (bif turns x then Cm.nr G k k' else Cm.nr G m m'))
      (mL && bif turns x then fh else fl) (mH && bif turns x then fl else fh)) := by
  unfold words at hx
  rcases List.mem_cons.mp hx with rfl | hx
  · rw [show turns "plus" = false from rfl]
    simp only [cond_false]
    rw [db_plus, db_plus, db_plus, db_plus]
    have I := iv_plus (G := G) A B.o hw (fin rfl) hG
    exact ⟨I, fun q => iv_differ (.inl ⟨rfl, rfl⟩) A B.o n1 q I⟩
  rcases List.mem_cons.mp hx with rfl | hx
  · rw [show turns "less" = true from rfl]
    simp only [cond_true]
    rw [db_less, db_less, db_less, db_less, nr_ng, nr_ng]
    have O := B.ng (fin2 rfl)
    have I := iv_plus (G := G) A O hw (.inr B.e2) hG
    exact ⟨I, fun q => iv_differ (.inl ⟨rfl, rfl⟩) A O n1 q I⟩
  rcases List.mem_cons.mp hx with rfl | hx
  · rw [show turns "times" = false from rfl]
    simp only [cond_false]
    rw [db_times, db_times, db_times, db_times]
    have I := iv_times (G := G) A B.o hw B.h1 B.e1 B.f1 B.ef hG
    exact ⟨I, fun q => iv_differ (.inr ⟨rfl, rfl⟩) A B.o n1 q I⟩
  rcases List.mem_cons.mp hx with rfl | hx
  · rw [show turns "over" = true from rfl]
    simp only [cond_true]
    rw [db_over, db_over, db_over, db_over, nr_sw, nr_sw]
    have I := iv_times (G := G) A B.sw hw B.e2 B.h2 B.g2 B.hg hG
    exact ⟨I, fun q => iv_differ (.inr ⟨rfl, rfl⟩) A B.sw n1 q I⟩
  cases hx
end
end Cs

namespace Cs
open PySem PySem.Spec PyProof.Rows L2
/-! ### a number's ends, and what comes near them -/
def nends (q : List Int) (w : Bool) : Cm.En := if w = true then ⟨Cm.W q, true, some (Cm.W q), true⟩ else ends q
def hiG (e : Cm.En) : Int × Int := e.hi.getD (1, 0)
def offL (q : List Int) (w : Bool) : Int × Int :=
  if w = true then (0, 0) else if q = [] then (1, 0) else if q.length % 2 = 1 then (if abvB q = true then (0, 0) else Cm.W (q ++ [0])) else Cm.W q
def offH (q : List Int) (w : Bool) : Int × Int :=
  if w = true then (0, 0) else if q = [] then (0, 1) else if q.length % 2 = 1 then Cm.W q else (if abvB q = true then (0, 0) else Cm.W (q ++ [0]))
def near (q : List Int) (w low : Bool) (G : Int) : List Int :=
  if w = true then q else if q = [] then (if low = true then [0, G] else [G]) else if (low != decide (q.length % 2 = 1)) = true then q ++ [1, G] else if abvB q = true then q else q ++ [G]
/-- a number that may be asked -/
structure Okn (q : List Int) (w : Bool) : Prop where
  beg : begB q = true
  abv : w = true → abvB q = true
theorem beg_of_abv {q : List Int} (h : abvB q = true) : begB q = true := by
  have c := chB_quots _ (abvB_chB h)
  unfold abvB at h
  rw [Bool.and_eq_true, Bool.and_eq_true] at h
  unfold begB
  rw [c, h.2.1, Bool.or_true]
  rfl
theorem beg_nn {q : List Int} (h : begB q = true) : ∀ x ∈ q, 0 ≤ x := by
  intro x hx
  obtain ⟨k, hk⟩ := List.mem_iff_getElem?.mp hx
  have := begB_mem h hk
  split at this <;> omega
theorem beg_tl {x : Int} {r : List Int} (h : begB (x :: r) = true) : 0 ≤ x ∧ ∀ y ∈ r, 1 ≤ y := by
  refine ⟨beg_nn h x List.mem_cons_self, fun y hy => ?_⟩
  unfold begB quots at h
  rw [Bool.and_eq_true] at h
  exact of_decide_eq_true (List.all_eq_true.mp h.1 y hy)
theorem mx_nn : ∀ {l : List Int}, (∀ x ∈ l, 0 ≤ x) → 0 ≤ (Cm.Mx l).1.1 ∧ 0 ≤ (Cm.Mx l).1.2 ∧ 0 ≤ (Cm.Mx l).2.1 ∧ 0 ≤ (Cm.Mx l).2.2
  | [], _ => ⟨by decide, by decide, by decide, by decide⟩
  | a :: r, h => by
    obtain ⟨h1, h2, h3, h4⟩ := mx_nn (l := r) fun x hx => h x (List.mem_cons_of_mem _ hx)
    have ha := h a List.mem_cons_self
    rw [Cm.Mx_cons]
    exact ⟨Int.add_nonneg (Int.mul_nonneg ha h1) h3, Int.add_nonneg (Int.mul_nonneg ha h2) h4, h1, h2⟩
theorem w_nn {l : List Int} (h : ∀ x ∈ l, 0 ≤ x) : 0 ≤ (Cm.W l).1 ∧ 0 ≤ (Cm.W l).2 := by
  induction l with
  | nil => exact ⟨by decide, by decide⟩
  | cons a r ih =>
    obtain ⟨h1, h2⟩ := ih fun x hx => h x (List.mem_cons_of_mem _ hx)
    rw [Cm.W_cons]
    exact ⟨Int.add_nonneg (Int.mul_nonneg (h a List.mem_cons_self) h1) h2, h1⟩
theorem w_pos1 {l : List Int} (h : ∀ x ∈ l, 1 ≤ x) : 1 ≤ (Cm.W l).1 := by
  induction l with
  | nil => exact Int.le_refl 1
  | cons a r ih =>
    have h1 := ih fun x hx => h x (List.mem_cons_of_mem _ hx)
    have h2 := (w_nn (l := r) fun x hx => by have := h x (List.mem_cons_of_mem _ hx); omega).2
    have ha := h a List.mem_cons_self
    rw [Cm.W_cons]
    show 1 ≤ a * (Cm.W r).1 + (Cm.W r).2
    have := Int.mul_le_mul ha h1 (by decide) (by omega)
    omega
theorem beg_bot {q : List Int} (h : begB q = true) (hne : q ≠ []) : 1 ≤ (Cm.W q).2 := by
  cases q with
  | nil => exact absurd rfl hne
  | cons x r =>
    rw [Cm.W_cons]
    exact w_pos1 (beg_tl h).2
/-- one greater: a chain of a number above 0 -/
theorem up_abv {q : List Int} (h : begB q = true) (hne : q ≠ []) : abvB (Cm.up q) = true := by
  obtain ⟨i, x, rfl⟩ := Cm.snoc_of hne
  rw [Cm.up_snoc]
  have x0 : 0 ≤ x := beg_nn h x (by simp)
  cases i with
  | nil =>
    unfold abvB
    rw [(chB_iff _).mpr (show Cm.Ch ([] ++ [x + 1]) from trivial), Bool.true_and, Bool.and_eq_true]
    refine ⟨decide_eq_true (show 0 ≤ x + 1 by omega), ?_⟩
    have : ([] ++ [x + 1] : List Int) ≠ [0] := by
      intro z
      have := (List.cons.inj z).1
      omega
    simpa using this
  | cons y r =>
    obtain ⟨y0, hr⟩ := beg_tl (x := y) (r := r ++ [x]) h
    have x1 := hr x (by simp)
    have t : Cm.Ch (y :: (r ++ [x + 1])) := by
      have tt := tl_app (r := r) (y := x + 1) (fun z hz => hr z (List.mem_append_left _ hz)) (by omega)
      cases e : r ++ [x + 1] with
      | nil => simp at e
      | cons b u =>
        rw [e] at tt
        exact tt
    unfold abvB
    rw [List.cons_append, (chB_iff _).mpr t, Bool.true_and, Bool.and_eq_true]
    refine ⟨decide_eq_true y0, ?_⟩
    have : y :: (r ++ [x + 1]) ≠ [0] := by
      intro z
      have := (List.cons.inj z).2
      simp at this
    simpa using this
theorem W_two (q : List Int) (G : Int) : Cm.W (q ++ [G]) = Cm.nr G (Cm.W q) (Cm.W (q ++ [0])) := by
  have e : Cm.W q = ((Cm.Mx q).1.1, (Cm.Mx q).2.1) := by
    have := Cm.W_app q []
    rw [List.append_nil, Cm.W_nil] at this
    rw [this]
    exact Prod.ext (by show _ * 1 + _ * 0 = _; omega) (by show _ * 1 + _ * 0 = _; omega)
  rw [Cm.W_snoc, Cm.W_snoc, e]
  exact Prod.ext (by show _ * G + _ = G * _ + (_ * 0 + _); grind) (by show _ * G + _ = G * _ + (_ * 0 + _); grind)
theorem W_up {q : List Int} (hne : q ≠ []) : Cm.W (q ++ [1]) = Cm.W (Cm.up q) := by
  obtain ⟨i, x, rfl⟩ := Cm.snoc_of hne
  rw [Cm.up_snoc, List.append_assoc, Cm.W_app, Cm.W_snoc i, show ([x] ++ [1] : List Int) = [x, 1] from rfl, Cm.W_cons, Cm.W_one]
  exact Prod.ext (by show _ * (x * 1 + 1) + _ * 1 = _ * (x + 1) + _; grind) (by show _ * (x * 1 + 1) + _ * 1 = _ * (x + 1) + _; grind)
theorem W_01 (q : List Int) : Cm.W (q ++ [1] ++ [0]) = Cm.W q := by
  rw [List.append_assoc, Cm.W_app]
  have e2 : Cm.W q = ((Cm.Mx q).1.1, (Cm.Mx q).2.1) := by
    have := Cm.W_app q []
    rw [List.append_nil, Cm.W_nil] at this
    rw [this]
    exact Prod.ext (by show _ * 1 + _ * 0 = _; omega) (by show _ * 1 + _ * 0 = _; omega)
  rw [e2]
  show (_ * (Cm.W [1, 0]).1 + _ * (Cm.W [1, 0]).2, _ * (Cm.W [1, 0]).1 + _ * (Cm.W [1, 0]).2) = _
  rw [Cm.W_cons, Cm.W_one]
  exact Prod.ext (by show _ * (1 * 0 + 1) + _ * 0 = _; omega) (by show _ * (1 * 0 + 1) + _ * 0 = _; omega)
theorem W_near (q : List Int) (hne : q ≠ []) (G : Int) : Cm.W (q ++ [1, G]) = Cm.nr G (Cm.W (Cm.up q)) (Cm.W q) := by
  have : q ++ [1, G] = (q ++ [1]) ++ [G] := by simp
  rw [this, W_two, W_up hne, W_01]
theorem crs_prev (q : List Int) : Cm.crs (Cm.W (q ++ [0])) (Cm.W q) = - Cm.sg q.length := by
  have e2 : Cm.W q = ((Cm.Mx q).1.1, (Cm.Mx q).2.1) := by
    have := Cm.W_app q []
    rw [List.append_nil, Cm.W_nil] at this
    rw [this]
    exact Prod.ext (by show _ * 1 + _ * 0 = _; omega) (by show _ * 1 + _ * 0 = _; omega)
  rw [Cm.W_snoc, e2, ← Cm.Mx_det q]
  unfold Cm.crs
  dsimp only
  grind
theorem W_upsum {q : List Int} (hne : q ≠ []) : Cm.W (Cm.up q) = ((Cm.W q).1 + (Cm.W (q ++ [0])).1, (Cm.W q).2 + (Cm.W (q ++ [0])).2) := by
  rw [← W_up hne, W_two]
  exact Prod.ext (by show 1 * _ + _ = _; omega) (by show 1 * _ + _ = _; omega)
/-- how great a number is -/
structure NB (n : Nat) (q : List Int) : Prop where
  n1 : 1 ≤ n
  w : BdF n (Cm.W q)
  up : q ≠ [] → BdF n (Cm.W (Cm.up q))
theorem NB.mono {n m : Nat} {q : List Int} (h : NB n q) (l : n ≤ m) : NB m q := ⟨Nat.le_trans h.n1 l, h.w.mono l, fun z => (h.up z).mono l⟩
theorem NB.prev {n : Nat} {q : List Int} (h : NB n q) (b : begB q = true) (hne : q ≠ []) : BdF n (Cm.W (q ++ [0])) := by
  have u := h.up hne
  have w := w_nn (beg_nn b)
  have p := w_nn (l := q ++ [0]) fun x hx => by
    rcases List.mem_append.mp hx with hx | hx
    · exact beg_nn b x hx
    · rw [List.mem_singleton] at hx
      omega
  rw [W_upsum hne] at u
  exact ⟨Bd.of_le p.1 (by omega) u.top, Bd.of_le p.2 (by omega) u.bot⟩
theorem bd00 {n : Nat} : BdF n (0, 0) := ⟨Bd.zero, Bd.zero⟩
theorem num_end {n : Nat} {q : List Int} {w : Bool} (ok : Okn q w) (h : NB n q) : End n (nends q w).lo (hiG (nends q w)) (offL q w) (offH q w) (nends q w).ml (nends q w).mh w := by
  have b1 : Bd n 1 := Bd.one h.n1
  cases w with
  | true =>
    obtain ⟨p1, p2⟩ := abv_pos (ok.abv rfl)
    have e1 : (nends q true).lo = Cm.W q := rfl
    have e2 : hiG (nends q true) = Cm.W q := rfl
    have e3 : offL q true = (0, 0) := rfl
    have e4 : offH q true = (0, 0) := rfl
    rw [e1, e2, e3, e4]
    exact ⟨h.w, h.w, bd00, bd00, by omega, p2, p1, by omega, by decide, by decide, by decide, by decide, by show 0 < _ + 0; omega, by show 0 < _ + 0; omega, by show 0 * _ - _ * 0 = 0; omega, fun _ => p1, by show _ * 0 - 0 * _ = 0; omega, fun _ => p2,
      by show _ - _ = 0; omega, fun _ => ⟨rfl, rfl⟩⟩
  | false =>
    by_cases hne : q = []
    · subst hne
      have e1 : (nends [] false).lo = (0, 1) := rfl
      have e2 : hiG (nends [] false) = (1, 0) := rfl
      have e3 : offL [] false = (1, 0) := rfl
      have e4 : offH [] false = (0, 1) := rfl
      rw [e1, e2, e3, e4]
      exact ⟨⟨Bd.zero, b1⟩, ⟨b1, Bd.zero⟩, ⟨b1, Bd.zero⟩, ⟨Bd.zero, b1⟩, by decide, by decide, by decide, by decide, by decide, by decide, by decide, by decide, by decide, by decide, by decide, fun z => (by cases z), by decide, fun z => (by cases z), by decide, fun z => (by cases z)⟩
    · obtain ⟨u1, u2⟩ := abv_pos (up_abv ok.beg hne)
      have wn := w_nn (beg_nn ok.beg)
      have wb := beg_bot ok.beg hne
      have pn := w_nn (l := q ++ [0]) fun x hx => by
        rcases List.mem_append.mp hx with hx | hx
        · exact beg_nn ok.beg x hx
        · rw [List.mem_singleton] at hx
          omega
      have bp := h.prev ok.beg hne
      have us := W_upsum hne
      have us1 := congrArg Prod.fst us
      have us2 := congrArg Prod.snd us
      dsimp only at us1 us2
      have cp := crs_prev q
      have ap := @abv_pos q
      have bu := h.up hne
      have bw := h.w
      have c1 : Cm.crs (Cm.W (Cm.up q)) (Cm.W q) = Cm.crs (Cm.W (q ++ [0])) (Cm.W q) := by
        unfold Cm.crs
        rw [us1, us2]
        grind
      have c2 : Cm.crs (Cm.W q) (Cm.W (Cm.up q)) = - Cm.crs (Cm.W (q ++ [0])) (Cm.W q) := by
        unfold Cm.crs
        rw [us1, us2]
        grind
      have c3 : Cm.crs (Cm.W q) (Cm.W (q ++ [0])) = - Cm.crs (Cm.W (q ++ [0])) (Cm.W q) := by
        unfold Cm.crs
        grind
      have z0 : ∀ f : Int × Int, Cm.crs (0, 0) f = 0 ∧ Cm.crs f (0, 0) = 0 := fun f => ⟨by show 0 * _ - _ * 0 = 0; omega, by show _ * 0 - 0 * _ = 0; omega⟩
      have en : nends q false = if q.length % 2 = 1 then ⟨Cm.W q, abvB q, some (Cm.W (Cm.up q)), false⟩ else ⟨Cm.W (Cm.up q), false, some (Cm.W q), abvB q⟩ := by
        show ends q = _
        unfold ends Cm.endsOf
        rw [if_neg hne]
      have eL : offL q false = if q.length % 2 = 1 then (if abvB q = true then (0, 0) else Cm.W (q ++ [0])) else Cm.W q := by
        unfold offL
        rw [if_neg Bool.false_ne_true, if_neg hne]
      have eH : offH q false = if q.length % 2 = 1 then Cm.W q else (if abvB q = true then (0, 0) else Cm.W (q ++ [0])) := by
        unfold offH
        rw [if_neg Bool.false_ne_true, if_neg hne]
      rw [en, eL, eH]
      clear en eL eH us
      by_cases ho : q.length % 2 = 1
      · rw [if_pos ho, if_pos ho, if_pos ho]
        have sg : Cm.sg q.length = -1 := by unfold Cm.sg; rw [if_neg (by omega)]
        rw [sg] at cp
        show End n (Cm.W q) (Cm.W (Cm.up q)) _ _ (abvB q) false false
        cases ha : abvB q with
        | true =>
          obtain ⟨p1, p2⟩ := ap ha
          rw [if_pos rfl]
          exact ⟨bw, bu, bd00, bw, wn.1, by omega, u1, by omega, by decide, by decide, wn.1, wn.2, by show 0 < _ + 0; omega, by omega, (z0 _).1, fun _ => p1, by rw [c1, cp]; rfl, fun z => (by cases z), by rw [c1, cp]; rfl, fun z => (by cases z)⟩
        | false =>
          rw [if_neg Bool.false_ne_true]
          exact ⟨bw, bu, bp, bw, wn.1, by omega, u1, by omega, pn.1, pn.2, wn.1, wn.2, by omega, by omega, by rw [cp]; rfl, fun z => (by cases z), by rw [c1, cp]; rfl, fun z => (by cases z), by rw [c1, cp]; rfl, fun z => (by cases z)⟩
      · rw [if_neg ho, if_neg ho, if_neg ho]
        have sg : Cm.sg q.length = 1 := by unfold Cm.sg; rw [if_pos (by omega)]
        rw [sg] at cp
        have w1 : 1 ≤ (Cm.W q).1 := by
          cases q with
          | nil => exact absurd rfl hne
          | cons x r =>
            cases r with
            | nil => exact absurd rfl ho
            | cons y r =>
              obtain ⟨x0, hr⟩ := beg_tl ok.beg
              rw [Cm.W_cons, Cm.W_cons]
              show 1 ≤ x * (y * (Cm.W r).1 + (Cm.W r).2) + (Cm.W r).1
              have k1 := w_pos1 (l := r) fun z hz => hr z (List.mem_cons_of_mem _ hz)
              have k2 := w_nn (l := r) fun z hz => by have := hr z (List.mem_cons_of_mem _ hz); omega
              have k3 := hr y List.mem_cons_self
              have := Int.mul_nonneg x0 (Int.add_nonneg (Int.mul_nonneg (show 0 ≤ y by omega) k2.1) k2.2)
              omega
        show End n (Cm.W (Cm.up q)) (Cm.W q) _ _ false (abvB q) false
        cases ha : abvB q with
        | true =>
          obtain ⟨p1, p2⟩ := ap ha
          rw [if_pos rfl]
          exact ⟨bu, bw, bw, bd00, by omega, u2, by omega, wn.2, wn.1, wn.2, by decide, by decide, by omega, by show 0 < _ + 0; omega, by rw [c2, cp]; rfl, fun z => (by cases z), (z0 _).2, fun _ => p2, by rw [c2, cp]; rfl, fun z => (by cases z)⟩
        | false =>
          rw [if_neg Bool.false_ne_true]
          exact ⟨bu, bw, bw, bp, by omega, u2, by omega, wn.2, wn.1, wn.2, pn.1, pn.2, by omega, by omega, by rw [c2, cp]; rfl, fun z => (by cases z), by rw [c3, cp]; rfl, fun z => (by cases z), by rw [c2, cp]; rfl, fun z => (by cases z)⟩
end Cs

namespace Cs
open PySem PySem.Spec PyProof.Rows L2
theorem scaled {G : Int} (f : Int × Int) : Cm.nr G f (0, 0) = (G * f.1, G * f.2) := Prod.ext (by show G * _ + 0 = _; omega) (by show G * _ + 0 = _; omega)
theorem near_w {q : List Int} {w : Bool} {G : Int} (G0 : 0 < G) (low : Bool) :
    ∃ s, 0 < s ∧ (bif low then Cm.nr G (nends q w).lo (offL q w) else Cm.nr G (hiG (nends q w)) (offH q w)) = (s * (Cm.W (near q w low G)).1, s * (Cm.W (near q w low G)).2) := by
  have one : ∀ f : Int × Int, f = (1 * f.1, 1 * f.2) := fun f => Prod.ext (by show _ = 1 * _; omega) (by show _ = 1 * _; omega)
  cases w with
  | true =>
    refine ⟨G, G0, ?_⟩
    cases low
    · exact scaled (Cm.W q)
    · exact scaled (Cm.W q)
  | false =>
    by_cases hne : q = []
    · subst hne
      refine ⟨1, by decide, ?_⟩
      cases low
      · show Cm.nr G (1, 0) (0, 1) = (1 * (Cm.W [G]).1, 1 * (Cm.W [G]).2)
        rw [Cm.W_one]
        exact Prod.ext (by show G * 1 + 0 = 1 * G; omega) (by show G * 0 + 1 = 1 * 1; omega)
      · show Cm.nr G (0, 1) (1, 0) = (1 * (Cm.W [0, G]).1, 1 * (Cm.W [0, G]).2)
        rw [Cm.W_cons, Cm.W_one]
        exact Prod.ext (by show G * 0 + 1 = 1 * (0 * G + 1); omega) (by show G * 1 + 0 = 1 * G; omega)
    · have en : nends q false = if q.length % 2 = 1 then ⟨Cm.W q, abvB q, some (Cm.W (Cm.up q)), false⟩ else ⟨Cm.W (Cm.up q), false, some (Cm.W q), abvB q⟩ := by
        show ends q = _
        unfold ends Cm.endsOf
        rw [if_neg hne]
      have eL : offL q false = if q.length % 2 = 1 then (if abvB q = true then (0, 0) else Cm.W (q ++ [0])) else Cm.W q := by
        unfold offL
        rw [if_neg Bool.false_ne_true, if_neg hne]
      have eH : offH q false = if q.length % 2 = 1 then Cm.W q else (if abvB q = true then (0, 0) else Cm.W (q ++ [0])) := by
        unfold offH
        rw [if_neg Bool.false_ne_true, if_neg hne]
      have eN : near q false low G = if (low != decide (q.length % 2 = 1)) = true then q ++ [1, G] else if abvB q = true then q else q ++ [G] := by
        unfold near
        rw [if_neg Bool.false_ne_true, if_neg hne]
      rw [en, eL, eH, eN]
      by_cases ho : q.length % 2 = 1
      · rw [if_pos ho, if_pos ho, if_pos ho, decide_eq_true ho]
        cases low
        · refine ⟨1, by decide, ?_⟩
          show Cm.nr G (Cm.W (Cm.up q)) (Cm.W q) = (1 * (Cm.W (q ++ [1, G])).1, 1 * (Cm.W (q ++ [1, G])).2)
          rw [W_near q hne]
          exact one _
        · show ∃ s, 0 < s ∧ Cm.nr G (Cm.W q) (if abvB q = true then (0, 0) else Cm.W (q ++ [0])) = (s * (Cm.W (if abvB q = true then q else q ++ [G])).1, s * (Cm.W (if abvB q = true then q else q ++ [G])).2)
          cases abvB q
          · refine ⟨1, by decide, ?_⟩
            rw [if_neg Bool.false_ne_true, if_neg Bool.false_ne_true, W_two q G]
            exact one _
          · refine ⟨G, G0, ?_⟩
            rw [if_pos rfl, if_pos rfl]
            exact scaled _
      · rw [if_neg ho, if_neg ho, if_neg ho, decide_eq_false ho]
        cases low
        · show ∃ s, 0 < s ∧ Cm.nr G (Cm.W q) (if abvB q = true then (0, 0) else Cm.W (q ++ [0])) = (s * (Cm.W (if abvB q = true then q else q ++ [G])).1, s * (Cm.W (if abvB q = true then q else q ++ [G])).2)
          cases abvB q
          · refine ⟨1, by decide, ?_⟩
            rw [if_neg Bool.false_ne_true, if_neg Bool.false_ne_true, W_two q G]
            exact one _
          · refine ⟨G, G0, ?_⟩
            rw [if_pos rfl, if_pos rfl]
            exact scaled _
        · refine ⟨1, by decide, ?_⟩
          show Cm.nr G (Cm.W (Cm.up q)) (Cm.W q) = (1 * (Cm.W (q ++ [1, G])).1, 1 * (Cm.W (q ++ [1, G])).2)
          rw [W_near q hne]
          exact one _
theorem ch_cons {x : Int} {r : List Int} {y : Int} (h : ∀ z ∈ r, 1 ≤ z) (hy : 2 ≤ y) : Cm.Ch (x :: (r ++ [y])) := by
  have t := tl_app (r := r) (y := y) h hy
  cases e : r ++ [y] with
  | nil => simp at e
  | cons b u =>
    rw [e] at t
    exact t
theorem near_ch {q : List Int} {w : Bool} {G : Int} (ok : Okn q w) (hG : 2 ≤ G) (low : Bool) : Cm.Ch (near q w low G) := by
  unfold near
  split
  · rename_i hw
    exact (chB_iff _).mp (abvB_chB (ok.abv hw))
  · split
    · split
      · exact hG
      · exact trivial
    · rename_i hne
      split
      · cases q with
        | nil => exact absurd rfl hne
        | cons x r =>
          have := ch_cons (x := x) (r := r ++ [1]) (y := G) (fun z hz => by
            rcases List.mem_append.mp hz with hz | hz
            · exact (beg_tl ok.beg).2 z hz
            · rw [List.mem_singleton] at hz
              omega) hG
          rw [List.append_assoc] at this
          exact this
      · split
        · rename_i ha
          exact (chB_iff _).mp (abvB_chB ha)
        · cases q with
          | nil => exact absurd rfl hne
          | cons x r => exact ch_cons (x := x) (r := r) (y := G) (beg_tl ok.beg).2 hG
theorem near_len {q : List Int} {w : Bool} {G : Int} (low : Bool) : (near q w low G).length ≤ q.length + 2 := by
  unfold near
  split
  · omega
  · split
    · rename_i h
      subst h
      split <;> simp
    · split
      · simp
      · split
        · omega
        · simp
theorem bd_nr {n g : Nat} {G : Int} {e e' : Int × Int} (hG : Bd g G) (h : BdF n e) (h' : BdF n e') : BdF (g + n + 1) (Cm.nr G e e') :=
  ⟨(hG.mul h.top).add (h'.top.mono (by omega)), (hG.mul h.bot).add (h'.bot.mono (by omega))⟩
theorem bd_unscale {n : Nat} {s : Int} {f : Int × Int} (s0 : 0 < s) (h : BdF n (s * f.1, s * f.2)) : BdF n f := by
  obtain ⟨h1, h2⟩ := h
  unfold Bd at h1 h2
  rw [Int.natAbs_mul] at h1 h2
  exact ⟨Nat.lt_of_le_of_lt (Nat.le_mul_of_pos_left _ (by omega)) h1, Nat.lt_of_le_of_lt (Nat.le_mul_of_pos_left _ (by omega)) h2⟩
theorem near_bd {n g : Nat} {q : List Int} {w : Bool} {G : Int} (ok : Okn q w) (h : NB n q) (G0 : 0 < G) (hG : Bd g G) (low : Bool) : BdF (g + n + 1) (Cm.W (near q w low G)) := by
  obtain ⟨s, s0, e⟩ := near_w (q := q) (w := w) G0 low
  have E := num_end ok h
  refine bd_unscale s0 ?_
  rw [← e]
  cases low
  · exact bd_nr hG E.bh E.bh'
  · exact bd_nr hG E.be E.be'
theorem near_sz {n g : Nat} {q : List Int} {w : Bool} {G : Int} (ok : Okn q w) (h : NB n q) (G2 : 2 ≤ G) (hG : Bd g G) (hn : g + n + 1 ≤ 10000000) (low : Bool) : Sz (near q w low G) := by
  have c := near_ch ok G2 low
  have b := near_bd ok h (by omega) hG low
  have := sz_euc (t := (Cm.W (near q w low G)).1) (b := (Cm.W (near q w low G)).2) (by have := Cm.Ch.bot c; omega) b.top b.bot hn
  rwa [Cm.euc_W1 c] at this
/-! ### what is told -/
def joinO (x : Str) : Option (Int × Int) → Option (Int × Int) → Option (Int × Int)
  | some f, some g => if x = "over" ∧ g.1 = 0 then none else some (doneV x f g)
  | some _, none => if x = "over" then some (0, 1) else none
  | none, _ => none
def sureO (lo hi : Option (Int × Int)) (isL isH : Bool) : List Int :=
  match lo, hi with
  | some l, some h => Cm.sureB l.1 l.2 h.1 h.2 isL isH
  | _, _ => []
/-- the ends of both, as the word joins them -/
def bothLo (x : Str) (a b : Cm.En) : Option (Int × Int) := joinO x (some a.lo) (bif turns x then b.hi else some b.lo)
def bothHi (x : Str) (a b : Cm.En) : Option (Int × Int) := joinO x a.hi (bif turns x then some b.lo else b.hi)
def bothL (x : Str) (a b : Cm.En) : Bool := a.ml && bif turns x then b.mh else b.ml
def bothH (x : Str) (a b : Cm.En) : Bool := a.mh && bif turns x then b.ml else b.mh
def toldV (x : Str) (a b : Cm.En) : List Int := sureO (bothLo x a b) (bothHi x a b) (bothL x a b) (bothH x a b)
theorem sureB_scale : ∀ (n : Nat) {ln ld hn hd s r : Int} {isL isH : Bool}, (ld + hd).toNat ≤ n → 0 < s → 0 < r → Cm.sureB (s * ln) (s * ld) (r * hn) (r * hd) isL isH = Cm.sureB ln ld hn hd isL isH
  | n, ln, ld, hn, hd, s, r, isL, isH, hm, s0, r0 => by
    have p1 : 0 < s * ld ↔ 0 < ld := ⟨fun h => Int.pos_of_mul_pos_right h (by omega), fun h => Int.mul_pos s0 h⟩
    have p2 : 0 < r * hd ↔ 0 < hd := ⟨fun h => Int.pos_of_mul_pos_right h (by omega), fun h => Int.mul_pos r0 h⟩
    have e1 : s * ln / (s * ld) = ln / ld := Int.mul_ediv_mul_of_pos _ _ s0
    have e2 : r * hn - (ln / ld + 1) * (r * hd) = r * (hn - (ln / ld + 1) * hd) := by grind
    have p3 : 0 < r * (hn - (ln / ld + 1) * hd) ↔ 0 < hn - (ln / ld + 1) * hd := ⟨fun h => Int.pos_of_mul_pos_right h (by omega), fun h => Int.mul_pos r0 h⟩
    have p4 : r * (hn - (ln / ld + 1) * hd) = 0 ↔ hn - (ln / ld + 1) * hd = 0 := ⟨fun h => (Int.mul_eq_zero.mp h).resolve_left (by omega), fun h => by rw [h, Int.mul_zero]⟩
    by_cases hs : 0 < ld ∧ 0 < hd ∧ ¬ (0 < hn - (ln / ld + 1) * hd ∨ (hn - (ln / ld + 1) * hd = 0 ∧ isH = true))
    · obtain ⟨h1, h2, h3⟩ := hs
      rw [Cm.sureB_step h1 h2 h3, Cm.sureB_step (p1.mpr h1) (p2.mpr h2) (by rw [e1, e2, p3, p4]; exact h3), e1]
      have e := Int.mul_ediv_add_emod ln ld
      have q0 := Int.emod_nonneg ln (show ld ≠ 0 by omega)
      have q1 := Int.emod_lt_of_pos ln h1
      have x : (ln / ld + 1) * hd = ln / ld * hd + hd := by grind
      have y : ln / ld * ld = ld * (ln / ld) := Int.mul_comm _ _
      have z : ¬ 0 < hn - (ln / ld + 1) * hd := fun w => h3 (.inl w)
      obtain ⟨m, rfl⟩ : ∃ m, n = m + 1 := ⟨n - 1, by omega⟩
      have ih := sureB_scale m (ln := hd) (ld := hn - ln / ld * hd) (hn := ld) (hd := ln - ln / ld * ld) (s := r) (r := s) (isL := isH) (isH := isL) (by omega) r0 s0
      rw [show r * hn - ln / ld * (r * hd) = r * (hn - ln / ld * hd) by grind, show s * ln - ln / ld * (s * ld) = s * (ln - ln / ld * ld) by grind, ih]
    · rw [Cm.sureB_stop hs, Cm.sureB_stop]
      rw [p1, p2, e1, e2, p3, p4]
      exact hs
/-- the two near fractions -/
def firstV (x : Str) (q1 : List Int) (w1 : Bool) (q2 : List Int) (w2 low : Bool) (G : Int) : Int × Int := doneV x (Cm.W (near q1 w1 low G)) (Cm.W (near q2 w2 (low != turns x) G))
def qat (f : Int × Int) (n : Nat) : Option Int := (Cm.euc f.1 f.2)[n]?
theorem sureB_hd0 {ln ld hn : Int} {isL isH : Bool} : Cm.sureB ln ld hn 0 isL isH = [] := Cm.sureB_stop (by omega)
theorem floors_differ {t1 b1 t2 b2 : Int} (p1 : 0 < b1) (p2 : 0 < b2) (h : b1 * b2 ≤ t2 * b1 - t1 * b2) : (Cm.euc t1 b1)[0]? ≠ (Cm.euc t2 b2)[0]? := by
  rw [Cm.euc_pos p1, Cm.euc_pos p2]
  intro z
  have z' : some (t1 / b1) = some (t2 / b2) := z
  have e := Option.some.inj z'
  have a1 := Int.mul_ediv_add_emod t1 b1
  have a2 := Int.mul_ediv_add_emod t2 b2
  have r1 := Int.emod_nonneg t1 (show b1 ≠ 0 by omega)
  have r2 := Int.emod_lt_of_pos t2 p2
  rw [← e] at a2
  generalize t1 / b1 = q at *
  generalize t1 % b1 = s at *
  generalize t2 % b2 = r at *
  have k1 := Int.mul_lt_mul_of_pos_right r2 p1
  have k2 := Int.mul_nonneg r1 (show 0 ≤ b2 by omega)
  have k3 : t2 * b1 - t1 * b2 = r * b1 - s * b2 := by rw [← a1, ← a2]; grind
  have k4 : b2 * b1 = b1 * b2 := Int.mul_comm _ _
  omega
theorem qat_scaled {x : Str} {s r : Int} {f g : Int × Int} (s0 : 0 < s) (r0 : 0 < r) (p : 0 < (doneV x f g).2) (n : Nat) : qat (doneV x (s * f.1, s * f.2) (r * g.1, r * g.2)) n = qat (doneV x f g) n := by
  unfold qat
  rw [done_scale]
  show (Cm.euc (s * r * (doneV x f g).1) (s * r * (doneV x f g).2))[n]? = _
  rw [Cm.euc_scale (Int.mul_pos s0 r0) p]
theorem near_pos {q : List Int} {w : Bool} {G : Int} {n : Nat} (ok : Okn q w) (h : NB n q) (G0 : 0 < G) (low : Bool) : 0 < (Cm.W (near q w low G)).1 ∧ 0 < (Cm.W (near q w low G)).2 := by
  obtain ⟨s, s0, e⟩ := near_w (q := q) (w := w) G0 low
  have E := num_end ok h
  have p : 0 < (s * (Cm.W (near q w low G)).1) ∧ 0 < (s * (Cm.W (near q w low G)).2) := by
    have e1 := congrArg Prod.fst e
    have e2 := congrArg Prod.snd e
    dsimp only at e1 e2
    rw [← e1, ← e2]
    cases low
    · exact ⟨nr1_pos G0 (by have := E.h1; omega) E.g1 (by have := E.h1; have := E.g1; omega), nr2_pos G0 E.h2 E.g2 E.hg⟩
    · exact ⟨nr1_pos G0 E.e1 E.f1 E.ef, nr2_pos G0 (by have := E.e2; omega) E.f2 (by have := E.e2; have := E.f2; omega)⟩
  exact ⟨Int.pos_of_mul_pos_right p.1 (by omega), Int.pos_of_mul_pos_right p.2 (by omega)⟩
end Cs

namespace Cs
open PySem PySem.Spec PyProof.Rows L2
theorem hi_none {q : List Int} {w : Bool} : (nends q w).hi = none ↔ w = false ∧ q = [] := by
  cases w with
  | true => exact ⟨fun h => (by cases h), fun h => (by cases h.1)⟩
  | false =>
    by_cases hne : q = []
    · subst hne
      exact ⟨fun _ => ⟨rfl, rfl⟩, fun _ => rfl⟩
    · have en : nends q false = if q.length % 2 = 1 then ⟨Cm.W q, abvB q, some (Cm.W (Cm.up q)), false⟩ else ⟨Cm.W (Cm.up q), false, some (Cm.W q), abvB q⟩ := by
        show ends q = _
        unfold ends Cm.endsOf
        rw [if_neg hne]
      rw [en]
      refine ⟨fun h => ?_, fun h => absurd h.2 hne⟩
      split at h <;> cases h
theorem hi_some {e : Cm.En} (h : e.hi ≠ none) : e.hi = some (hiG e) := by
  unfold hiG
  cases z : e.hi with
  | none => exact absurd z h
  | some f => rfl
theorem hiG_none {e : Cm.En} (h : e.hi = none) : hiG e = (1, 0) := by
  unfold hiG
  rw [h]
  rfl
theorem sureO_none {lo : Option (Int × Int)} {isL isH : Bool} : sureO lo none isL isH = [] := by
  unfold sureO
  cases lo <;> rfl
theorem stop0 {ln ld hn hd : Int} {isL isH : Bool} (h : hd = 0) : Cm.sureB ln ld hn hd isL isH = [] := by
  subst h
  exact sureB_hd0
/-- what is told, by the pairs that stand for no end too -/
theorem told_eq {x : Str} {n : Nat} {q1 q2 : List Int} {w1 w2 : Bool} (hx : x ∈ words) (ok1 : Okn q1 w1) (ok2 : Okn q2 w2) (b1 : NB n q1) (b2 : NB n q2) (fin : x = "plus" → 0 < (hiG (nends q1 w1)).2 ∨ 0 < (hiG (nends q2 w2)).2) (fin2 : x = "less" → 0 < (hiG (nends q2 w2)).2) :
    toldV x (nends q1 w1) (nends q2 w2) = Cm.sureB (doneV x (nends q1 w1).lo (bif turns x then hiG (nends q2 w2) else (nends q2 w2).lo)).1 (doneV x (nends q1 w1).lo (bif turns x then hiG (nends q2 w2) else (nends q2 w2).lo)).2
      (doneV x (hiG (nends q1 w1)) (bif turns x then (nends q2 w2).lo else hiG (nends q2 w2))).1 (doneV x (hiG (nends q1 w1)) (bif turns x then (nends q2 w2).lo else hiG (nends q2 w2))).2
      ((nends q1 w1).ml && bif turns x then (nends q2 w2).mh else (nends q2 w2).ml) ((nends q1 w1).mh && bif turns x then (nends q2 w2).ml else (nends q2 w2).mh) := by
  have A := num_end ok1 b1
  have B := num_end ok2 b2
  have z1 : (nends q1 w1).hi = none ∨ (nends q1 w1).hi = some (hiG (nends q1 w1)) := by
    rcases Classical.em ((nends q1 w1).hi = none) with h | h
    · exact .inl h
    · exact .inr (hi_some h)
  have z2 : (nends q2 w2).hi = none ∨ (nends q2 w2).hi = some (hiG (nends q2 w2)) := by
    rcases Classical.em ((nends q2 w2).hi = none) with h | h
    · exact .inl h
    · exact .inr (hi_some h)
  have g1 : (nends q1 w1).hi = none → (hiG (nends q1 w1)).2 = 0 := fun h => by rw [hiG_none h]
  have g2 : (nends q2 w2).hi = none → (hiG (nends q2 w2)).2 = 0 := fun h => by rw [hiG_none h]
  have g2' : (nends q2 w2).hi = none → hiG (nends q2 w2) = (1, 0) := fun h => hiG_none h
  unfold toldV bothLo bothHi bothL bothH
  generalize nends q1 w1 = e at *
  generalize nends q2 w2 = k at *
  generalize hiG e = h at *
  generalize hiG k = m at *
  unfold words at hx
  rcases List.mem_cons.mp hx with rfl | hx
  · rw [show turns "plus" = false from rfl]
    simp only [cond_false]
    rcases z1 with z1 | z1
    · have s0 : (doneV "plus" h m).2 = 0 := by rw [done_plus]; show h.2 * m.2 = 0; rw [g1 z1, Int.zero_mul]
      rw [stop0 s0, z1]
      show sureO _ none _ _ = []
      exact sureO_none
    · rcases z2 with z2 | z2
      · have s0 : (doneV "plus" h m).2 = 0 := by rw [done_plus]; show h.2 * m.2 = 0; rw [g2 z2, Int.mul_zero]
        rw [stop0 s0, z1, z2]
        show sureO _ none _ _ = []
        exact sureO_none
      · rw [z1, z2]
        rfl
  rcases List.mem_cons.mp hx with rfl | hx
  · rw [show turns "less" = true from rfl]
    simp only [cond_true]
    rcases z2 with z2 | z2
    · have := fin2 rfl
      rw [g2 z2] at this
      exact absurd this (by decide)
    · rcases z1 with z1 | z1
      · have s0 : (doneV "less" h k.lo).2 = 0 := by rw [done_less]; show h.2 * _ = 0; rw [g1 z1, Int.zero_mul]
        rw [stop0 s0, z1]
        exact sureO_none
      · rw [z1, z2]
        rfl
  rcases List.mem_cons.mp hx with rfl | hx
  · rw [show turns "times" = false from rfl]
    simp only [cond_false]
    rcases z1 with z1 | z1
    · have s0 : (doneV "times" h m).2 = 0 := by rw [done_times]; show h.2 * m.2 = 0; rw [g1 z1, Int.zero_mul]
      rw [stop0 s0, z1]
      show sureO _ none _ _ = []
      exact sureO_none
    · rcases z2 with z2 | z2
      · have s0 : (doneV "times" h m).2 = 0 := by rw [done_times]; show h.2 * m.2 = 0; rw [g2 z2, Int.mul_zero]
        rw [stop0 s0, z1, z2]
        show sureO _ none _ _ = []
        exact sureO_none
      · rw [z1, z2]
        rfl
  rcases List.mem_cons.mp hx with rfl | hx
  · rw [show turns "over" = true from rfl]
    simp only [cond_true]
    have hiC : ∀ lo isL isH, (e.hi = none ∨ k.lo.1 = 0) → (sureO lo (joinO "over" e.hi (some k.lo)) isL isH = []) ∧ (doneV "over" h k.lo).2 = 0 := by
      intro lo isL isH hc
      rw [done_over]
      rcases hc with hc | hc
      · refine ⟨?_, by show h.2 * k.lo.1 = 0; rw [g1 hc, Int.zero_mul]⟩
        rw [hc]
        exact sureO_none
      · refine ⟨?_, by show h.2 * k.lo.1 = 0; rw [hc, Int.mul_zero]⟩
        cases e.hi with
        | none => exact sureO_none
        | some f =>
          show sureO _ (if ("over" : Str) = "over" ∧ k.lo.1 = 0 then none else _) _ _ = []
          rw [if_pos ⟨rfl, hc⟩]
          exact sureO_none
    rcases Classical.em (e.hi = none ∨ k.lo.1 = 0) with hc | hc
    · obtain ⟨c1, c2⟩ := hiC (joinO "over" (some e.lo) k.hi) (e.ml && k.mh) (e.mh && k.ml) hc
      rw [c1, stop0 c2]
    · have z1' := z1.resolve_left (fun z => hc (.inl z))
      have eH : joinO "over" e.hi (some k.lo) = some (doneV "over" h k.lo) := by
        rw [z1']
        show (if ("over" : Str) = "over" ∧ k.lo.1 = 0 then none else _) = _
        rw [if_neg (fun z => hc (.inr z.2))]
      rw [eH]
      rcases z2 with z2 | z2
      · rw [z2, g2' z2]
        have eL : joinO "over" (some e.lo) none = some (0, 1) := rfl
        have eD : doneV "over" e.lo (1, 0) = (e.lo.2 * 0, e.lo.2 * 1) := by
          rw [done_over]
          exact Prod.ext (by show _ * 0 = _ * 0; omega) rfl
        rw [eL, eD]
        show Cm.sureB 0 1 _ _ _ _ = _
        have := sureB_scale _ (ln := 0) (ld := 1) (hn := (doneV "over" h k.lo).1) (hd := (doneV "over" h k.lo).2) (s := e.lo.2) (r := 1) (isL := e.ml && k.mh) (isH := e.mh && k.ml) (Nat.le_refl _) A.e2 (by decide)
        rw [Int.one_mul, Int.one_mul] at this
        exact this.symm
      · have eL : joinO "over" (some e.lo) k.hi = some (doneV "over" e.lo m) := by
          rw [z2]
          show (if ("over" : Str) = "over" ∧ m.1 = 0 then none else _) = _
          rw [if_neg (fun z => by have := B.h1; omega)]
        rw [eL]
        rfl
  cases hx
theorem hi_fin {n : Nat} {q : List Int} {w : Bool} (ok : Okn q w) (h : NB n q) : (w = false ∧ q = []) ∨ 0 < (hiG (nends q w)).2 := by
  cases w with
  | true => exact .inr (abv_pos (ok.abv rfl)).2
  | false =>
    by_cases hne : q = []
    · exact .inl ⟨rfl, hne⟩
    · have en : nends q false = if q.length % 2 = 1 then ⟨Cm.W q, abvB q, some (Cm.W (Cm.up q)), false⟩ else ⟨Cm.W (Cm.up q), false, some (Cm.W q), abvB q⟩ := by
        show ends q = _
        unfold ends Cm.endsOf
        rw [if_neg hne]
      refine .inr ?_
      rw [en]
      split
      · exact (abv_pos (up_abv ok.beg hne)).2
      · have := beg_bot ok.beg hne
        show 0 < (Cm.W q).2
        omega
theorem W0G (G : Int) : Cm.W [0, G] = (1, G) := by
  rw [Cm.W_cons, Cm.W_one]
  exact Prod.ext (by show 0 * G + 1 = 1; omega) rfl
theorem sure_stop {x : Str} {n : Nat} {q1 q2 : List Int} {w1 w2 : Bool} {G : Int} (hx : x ∈ words) (ok1 : Okn q1 w1) (ok2 : Okn q2 w2) (b1 : NB n q1) (b2 : NB n q2) (hw : (w1 && w2) = false) (hG : 2 ^ (8 * n + 9) < G) :
    qat (firstV x q1 w1 q2 w2 true G) (toldV x (nends q1 w1) (nends q2 w2)).length ≠ qat (firstV x q1 w1 q2 w2 false G) (toldV x (nends q1 w1) (nends q2 w2)).length := by
  have p2 : (512 : Int) ≤ 2 ^ (8 * n + 9) := by
    have : (0 : Int) < 2 ^ (8 * n) := Int.pow_pos (by decide)
    rw [Int.pow_add]
    show (512 : Int) ≤ 2 ^ (8 * n) * 512
    omega
  have G0 : 0 < G := by omega
  have A := num_end ok1 b1
  have B := num_end ok2 b2
  obtain ⟨s1, s10, es1⟩ := near_w (q := q1) (w := w1) G0 true
  obtain ⟨s2, s20, es2⟩ := near_w (q := q1) (w := w1) G0 false
  obtain ⟨r1, r10, er1⟩ := near_w (q := q2) (w := w2) G0 true
  obtain ⟨r2, r20, er2⟩ := near_w (q := q2) (w := w2) G0 false
  have np := fun low => near_pos (w := w1) ok1 b1 G0 low
  have nq := fun low => near_pos (w := w2) ok2 b2 G0 low
  simp only [cond_true] at es1 er1
  simp only [cond_false] at es2 er2
  rcases Classical.em ((x = "plus" → 0 < (hiG (nends q1 w1)).2 ∨ 0 < (hiG (nends q2 w2)).2) ∧ (x = "less" → 0 < (hiG (nends q2 w2)).2)) with ⟨fin, fin2⟩ | hc
  · have D := (word_iv hx A B hw fin fin2 b1.n1 G0).2 hG
    have te := told_eq hx ok1 ok2 b1 b2 fin fin2
    unfold Differ at D
    rw [← te, es1, es2, er1, er2] at D
    generalize (toldV x (nends q1 w1) (nends q2 w2)).length = N at *
    unfold firstV
    cases ht : turns x with
    | true =>
      rw [ht] at D
      simp only [cond_true] at D
      have q1' := qat_scaled (x := x) (f := Cm.W (near q1 w1 true G)) (g := Cm.W (near q2 w2 false G)) s10 r20 (done_pos (np _).2 (nq _).1 (nq _).2) N
      have q2' := qat_scaled (x := x) (f := Cm.W (near q1 w1 false G)) (g := Cm.W (near q2 w2 true G)) s20 r10 (done_pos (np _).2 (nq _).1 (nq _).2) N
      rw [show (true != true) = false from rfl, show (false != true) = true from rfl, ← q1', ← q2']
      exact D
    | false =>
      rw [ht] at D
      simp only [cond_false] at D
      have q1' := qat_scaled (x := x) (f := Cm.W (near q1 w1 true G)) (g := Cm.W (near q2 w2 true G)) s10 r10 (done_pos (np _).2 (nq _).1 (nq _).2) N
      have q2' := qat_scaled (x := x) (f := Cm.W (near q1 w1 false G)) (g := Cm.W (near q2 w2 false G)) s20 r20 (done_pos (np _).2 (nq _).1 (nq _).2) N
      rw [show (true != false) = true from rfl, show (false != false) = false from rfl, ← q1', ← q2']
      exact D
  · have f1 := hi_fin ok1 b1
    have f2 := hi_fin ok2 b2
    have hm : (x = "plus" ∧ (w1 = false ∧ q1 = []) ∧ (w2 = false ∧ q2 = [])) ∨ (x = "less" ∧ (w2 = false ∧ q2 = [])) := by
      rcases Classical.em (x = "plus") with h | h
      · rcases f1 with f1 | f1
        · rcases f2 with f2 | f2
          · exact .inl ⟨h, f1, f2⟩
          · exact absurd ⟨fun _ => .inr f2, fun _ => f2⟩ hc
        · refine absurd ⟨fun _ => .inl f1, fun z => ?_⟩ hc
          rw [h] at z
          exact absurd z (by decide)
      · rcases f2 with f2 | f2
        · rcases Classical.em (x = "less") with h2 | h2
          · exact .inr ⟨h2, f2⟩
          · exact absurd ⟨fun z => absurd z h, fun z => absurd z h2⟩ hc
        · exact absurd ⟨fun _ => .inr f2, fun _ => f2⟩ hc
    rcases hm with ⟨rfl, ⟨rfl, rfl⟩, ⟨rfl, rfl⟩⟩ | ⟨rfl, rfl, rfl⟩
    · have e0 : toldV "plus" (nends [] false) (nends [] false) = [] := sureO_none
      have e1 : firstV "plus" [] false [] false true G = doneV "plus" (Cm.W [0, G]) (Cm.W [0, G]) := rfl
      have e2 : firstV "plus" [] false [] false false G = doneV "plus" (Cm.W [G]) (Cm.W [G]) := rfl
      rw [e0, e1, e2, W0G, Cm.W_one, done_plus, done_plus]
      refine floors_differ (Int.mul_pos G0 G0) (by show (0 : Int) < 1 * 1; decide) ?_
      show G * G * (1 * 1) ≤ (G * 1 + G * 1) * (G * G) - (1 * G + 1 * G) * (1 * 1)
      have k1 := Int.mul_le_mul_of_nonneg_right (show 512 ≤ G by omega) (show 0 ≤ G * G from Int.mul_nonneg (by omega) (by omega))
      have k2 := Int.mul_le_mul_of_nonneg_right (show 512 ≤ G by omega) (show 0 ≤ G by omega)
      have k3 : (G * 1 + G * 1) * (G * G) = G * (G * G) + G * (G * G) := by grind
      omega
    · have e0 : toldV "less" (nends q1 w1) (nends [] false) = [] := rfl
      have e1 : firstV "less" q1 w1 [] false true G = doneV "less" (Cm.W (near q1 w1 true G)) (Cm.W [G]) := rfl
      have e2 : firstV "less" q1 w1 [] false false G = doneV "less" (Cm.W (near q1 w1 false G)) (Cm.W [0, G]) := rfl
      rw [e0, e1, e2, W0G, Cm.W_one, done_less, done_less]
      have c0 : 0 ≤ Cm.crs (Cm.W (near q1 w1 false G)) (Cm.W (near q1 w1 true G)) := by
        have d := A.d
        have k1 := ((bd_crs A.bh A.be').mono (show _ ≤ 2 * n + 1 by omega)).le
        have k2 := ((bd_crs A.bh' A.be).mono (show _ ≤ 2 * n + 1 by omega)).le
        have k3 := ((bd_crs A.bh' A.be').mono (show _ ≤ 2 * n + 1 by omega)).le
        have key : Cm.crs (Cm.nr G (hiG (nends q1 w1)) (offH q1 w1)) (Cm.nr G (nends q1 w1).lo (offL q1 w1)) = G * G * Cm.crs (hiG (nends q1 w1)) (nends q1 w1).lo + G * (Cm.crs (hiG (nends q1 w1)) (offL q1 w1) + Cm.crs (offH q1 w1) (nends q1 w1).lo) + Cm.crs (offH q1 w1) (offL q1 w1) := by
          unfold Cm.crs Cm.nr
          dsimp only
          grind
        have pos : 0 ≤ Cm.crs (Cm.nr G (hiG (nends q1 w1)) (offH q1 w1)) (Cm.nr G (nends q1 w1).lo (offL q1 w1)) := by
          cases w1 with
          | true =>
            show 0 ≤ Cm.crs (Cm.nr G (Cm.W q1) (0, 0)) (Cm.nr G (Cm.W q1) (0, 0))
            unfold Cm.crs
            omega
          | false =>
            rw [key, d]
            have hM : 2 * ((0 + 1) * (2 ^ (2 * n + 1) + 2 ^ (2 * n + 1))) < G := by
              have e3 : 2 * ((0 + 1) * ((2 : Int) ^ (2 * n + 1) + 2 ^ (2 * n + 1))) = 2 ^ (2 * n + 3) := by
                have e8 : (2 : Int) ^ (2 * n + 3) = 2 ^ (2 * n + 1) * 4 := by rw [show 2 * n + 3 = (2 * n + 1) + 2 by omega, Int.pow_add]; rfl
                rw [e8]
                generalize (2 : Int) ^ (2 * n + 1) = u
                omega
              have e4 : (2 : Int) ^ (8 * n + 9) = 2 ^ (2 * n + 3) * 2 ^ (6 * n + 6) := by
                rw [← Int.pow_add]
                congr 1
                omega
              have e5 : (0 : Int) < 2 ^ (6 * n + 6) := Int.pow_pos (by decide)
              have e6 : (0 : Int) < 2 ^ (2 * n + 3) := Int.pow_pos (by decide)
              have e7 := Int.mul_le_mul_of_nonneg_left (show (1 : Int) ≤ 2 ^ (6 * n + 6) by omega) (show (0 : Int) ≤ 2 ^ (2 * n + 3) by omega)
              omega
            have := Cm.near_est (G := G) (M := 2 ^ (2 * n + 1) + 2 ^ (2 * n + 1)) (C := 0) (c1 := 0) (c0 := 0) (D := nb false) (d1 := Cm.crs (hiG (nends q1 false)) (offL q1 false) + Cm.crs (offH q1 false) (nends q1 false).lo) (d0 := Cm.crs (offH q1 false) (offL q1 false)) hM (by decide) (by omega) (by omega) (by omega) (by omega) (by omega) (by decide)
            omega
        rw [es2, es1] at pos
        have key2 : Cm.crs (s2 * (Cm.W (near q1 w1 false G)).1, s2 * (Cm.W (near q1 w1 false G)).2) (s1 * (Cm.W (near q1 w1 true G)).1, s1 * (Cm.W (near q1 w1 true G)).2) = s2 * s1 * Cm.crs (Cm.W (near q1 w1 false G)) (Cm.W (near q1 w1 true G)) := by
          unfold Cm.crs
          dsimp only
          grind
        rw [key2] at pos
        exact Int.nonneg_of_mul_nonneg_right pos (Int.mul_pos s20 s10)
      have pf := (np true).2
      have pF := (np false).2
      generalize Cm.W (near q1 w1 true G) = f at *
      generalize Cm.W (near q1 w1 false G) = F at *
      refine floors_differ (by show 0 < f.2 * 1; omega) (Int.mul_pos pF G0) ?_
      show f.2 * 1 * (F.2 * G) ≤ (F.1 * G - 1 * F.2) * (f.2 * 1) - (f.1 * 1 - G * f.2) * (F.2 * G)
      have key3 : (F.1 * G - 1 * F.2) * (f.2 * 1) - (f.1 * 1 - G * f.2) * (F.2 * G) - f.2 * 1 * (F.2 * G) = G * Cm.crs F f + (f.2 * F.2) * (G * G - G - 1) := by
        unfold Cm.crs
        grind
      have k1 := Int.mul_nonneg (show 0 ≤ G by omega) c0
      have k2 := Int.mul_pos pf pF
      have k3 := Int.mul_le_mul_of_nonneg_right (show 512 ≤ G by omega) (show 0 ≤ G by omega)
      have k4 := Int.mul_nonneg (show 0 ≤ f.2 * F.2 by omega) (show 0 ≤ G * G - G - 1 by omega)
      omega
end Cs

namespace Cs
open PySem PySem.Spec PyProof.Rows L2
/-! ### // of any size: nobody looks on -/
structure Seer (X : Cx) : Prop where
  ns : X.base.NoSeer
  tree : X.prog.given.tree = none
  room : X.A.depth + Builtin.pylongFrames < recursionLimit
  st : X.stack = X.env :: X.outer
  gen : X.env.scope.isGenerator = false
  co : X.env.scope.isCoroutine = false
section
variable {X : Cx}
theorem op_fdivR (S : Seer X) : OpR X (binaryOp .FloorDiv) (rI (fun _ j => 0 < j) fun i j => .int (i / j)) := by
  intro pins s σ H x y v u Q I rx ry h
  obtain ⟨i, j, rfl, rfl, hc, q⟩ := h
  obtain ⟨t, rfl⟩ := rx
  obtain ⟨t', rfl⟩ := ry
  have h1 : (0 : Int) < j := hc
  have hN : s.heap.NoSeer := S.ns.keeps I.bk
  refine floordiv_int (by omega) ?_ (.inr (PySem.PylongRoom.of I.nolimit S.room (PySem.SeerAt.of hN S.tree (by rw [I.ok.frames, S.st]) S.gen S.co I.ok.blt I.ok.glob)))
  rw [Int.fdiv_eq_ediv_of_nonneg i (by omega)]
  exact ⟨.int (i / j), H, I.tok _, ⟨_, rfl⟩, q⟩
end
/-! ### more objects that are known to stand -/
theorem lookup_mem {K : PySem.W.Frag} {p : Addr × Obj} (h : p ∈ K) : ∃ o, K.lookup p.1 = some o := by
  induction K with
  | nil => cases h
  | cons x r ih =>
    obtain ⟨a, o⟩ := x
    rw [List.lookup_cons]
    by_cases e : (p.1 == a) = true
    · rw [e]
      exact ⟨o, rfl⟩
    · rw [Bool.eq_false_iff.mpr e]
      rcases List.mem_cons.mp h with rfl | h
      · exact absurd (beq_self_eq_true _) e
      · exact ih h
theorem mem_lookup {K : PySem.W.Frag} {a : Addr} {o : Obj} (h : K.lookup a = some o) : (a, o) ∈ K := by
  induction K with
  | nil => cases h
  | cons x r ih =>
    obtain ⟨b, u⟩ := x
    rw [List.lookup_cons] at h
    by_cases e : (a == b) = true
    · rw [e] at h
      have := Option.some.inj h
      subst this
      rw [eq_of_beq e]
      exact List.mem_cons_self
    · rw [Bool.eq_false_iff.mpr e] at h
      exact List.mem_cons_of_mem _ (ih h)
theorem look_app {K E : PySem.W.Frag} {a : Addr} {o : Obj} (h : (K ++ E).lookup a = some o) : K.lookup a = some o ∨ (a, o) ∈ E := by
  induction K with
  | nil => exact .inr (mem_lookup h)
  | cons x r ih =>
    obtain ⟨b, u⟩ := x
    rw [List.cons_append, List.lookup_cons] at h
    rw [List.lookup_cons]
    cases e : (a == b) with
    | true =>
      rw [e] at h
      exact .inl h
    | false =>
      rw [e] at h
      exact ih h
theorem look_left {K E : PySem.W.Frag} {a : Addr} {o : Obj} (h : K.lookup a = some o) : (K ++ E).lookup a = some o := by
  induction K with
  | nil => cases h
  | cons x r ih =>
    obtain ⟨b, u⟩ := x
    rw [List.cons_append, List.lookup_cons]
    rw [List.lookup_cons] at h
    cases e : (a == b) with
    | true =>
      rw [e] at h
      exact h
    | false =>
      rw [e] at h
      exact ih h
theorem more_in {K E : PySem.W.Frag} {h : Heap} (k : K.In h) (x : ∀ p ∈ E, h.get? p.1 = some p.2) : PySem.W.Frag.In (K ++ E) h := fun a o e => by
  rcases look_app e with e | e
  · exact k a o e
  · exact x _ e
theorem more_get {K E : PySem.W.Frag} {h base : Heap} (k : K.In h) (x : ∀ p ∈ E, h.get? p.1 = some p.2) (b : PySem.W.Frag.In (K ++ E) base) : ∀ p ∈ E, base.get? p.1 = some p.2 := fun p hp => by
  obtain ⟨o, e⟩ := lookup_mem (K := K ++ E) (List.mem_append_right _ hp)
  have e1 := more_in k x p.1 o e
  rw [x p hp] at e1
  rw [b p.1 o e, e1]
theorem fnOk_more {P : Program} {w : World} {K K' : PySem.W.Frag} {mg : Str → Option Value} {base : Heap} {k : Nat} {f : Addr} {fd : FuncData} {ps : List Str} {sp : Sp} (hk : ∀ h : Heap, K'.In h → K.In h) (F : FnOk P w K mg base CX0 k f fd ps sp) : FnOk P w K' mg base CX0 k f fd ps sp :=
  ⟨F.len, fun A outer s H args us vs Q E hr e hb hv hs => F.run A outer s H args us vs Q E hr ⟨e.frames, ⟨hk _ e.mod.kin, e.mod.glob, e.mod.blt, e.mod.nolimit⟩, e.bs, e.bsz, e.funs, e.frf, e.hok, e.bare⟩ hb hv hs⟩
theorem walkS {l : PySem.W.OpenLaw} {k : Nat} {q : Program} {loose : List Str} {XP : (Str → Option Value) → Heap → Prop} {YP : World → Heap → Prop} {d : DefRec} {K : Params → PySem.W.Frag} (hn : l.most = some 63) (hdf : d.params.defaults = []) (hr : Room k callerA) (hq : importsNone q = true)
    (hY : ∀ (w : World) (h : Heap), YP w h → (K w.params).In h)
    (F : ∀ (w : World) (mg : Str → Option Value) (fa : Addr) (h : Heap), (K w.params).In h → h.Ns mainGlobals mg → mg d.name = some (.ref fa) →
      ∃ fd : FuncData, (∀ (s : Shared) (u : Value), BindsTo s fd ⟨[u], []⟩ [("_law_script", u)]) ∧ ∀ base : Heap, base.NoSeer → FnOk l.prog w (K w.params) mg base CX0 k fa fd ["_law_script"] (spLaw (K w.params))) :
    PySem.W.WalkO q loose XP YP l.row.toRowW d [] (fun f vs => PySem.call f vs) := by
  refine Att.attach_call hn hdf fun w s₀ s₁ mg mb fa o pm cd doc a vs ns G Y ho hd hcd hmg hobj hints hlen hg => ?_
  have KX := hY w _ Y
  obtain ⟨fd, hb, hF⟩ := F w mg fa _ KX G.T.g hmg
  have N := G.T.seer hq
  obtain ⟨m1, ⟨o1, es1, ep1, g1, d1, k1, f1⟩, st1, st2⟩ := N.statics
  obtain ⟨m2, ⟨o2, es2, ep2, g2, d2, k2, f2⟩, sm⟩ := N.mods
  obtain ⟨m3, ⟨o3, es3, ep3, g3, d3, k3, f3⟩, bi⟩ := N.imp
  obtain ⟨m4, bm, ob, ⟨o4, es4, ep4, g4, d4, k4, f4⟩, b1, b2, b3, b4⟩ := N.main
  let E : PySem.W.Frag := [(cStatics, o1), (sysModules, o2), (builtinsNs, o3), (mainGlobals, o4), (bm, ob)]
  have hx : ∀ p ∈ E, s₁.heap.get? p.1 = some p.2 := fun p hp => by
    rcases List.mem_cons.mp hp with rfl | hp
    · exact g1
    rcases List.mem_cons.mp hp with rfl | hp
    · exact g2
    rcases List.mem_cons.mp hp with rfl | hp
    · exact g3
    rcases List.mem_cons.mp hp with rfl | hp
    · exact g4
    rcases List.mem_cons.mp hp with rfl | hp
    · exact b2
    cases hp
  have hsub : ∀ h : Heap, PySem.W.Frag.In (K w.params ++ E) h → (K w.params).In h := fun h z a o e => z a o (look_left e)
  have hF' : ∀ base : Heap, PySem.W.Frag.In (K w.params ++ E) base → base.Ns mainGlobals mg → FnOk l.prog w (K w.params ++ E) mg base CX0 k fa fd ["_law_script"] (spLaw (K w.params)) := fun base z _ => by
    have gt := more_get KX hx z
    refine fnOk_more hsub (hF base ⟨⟨m1, ⟨o1, es1, ep1, gt (cStatics, o1) (by simp [E]), d1, k1, f1⟩, st1, st2⟩, ⟨m2, ⟨o2, es2, ep2, gt (sysModules, o2) (by simp [E]), d2, k2, f2⟩, sm⟩, ⟨m3, ⟨o3, es3, ep3, gt (builtinsNs, o3) (by simp [E]), d3, k3, f3⟩, bi⟩,
      ⟨m4, bm, ob, ⟨o4, es4, ep4, gt (mainGlobals, o4) (by simp [E]), d4, k4, f4⟩, b1, gt (bm, ob) (by simp [E]), b3, b4⟩⟩)
  have noL : ∀ (a : Addr) (o : Obj) (its : Array Value) (n : Nat), (a, o) ∈ E → o.cls = .type "list" → o.data = .seq its n → False := fun a o its n hm hc hd => by
    rcases List.mem_cons.mp hm with e | hm
    · cases e
      rw [d1] at hd
      cases hd
    rcases List.mem_cons.mp hm with e | hm
    · cases e
      rw [d2] at hd
      cases hd
    rcases List.mem_cons.mp hm with e | hm
    · cases e
      rw [d3] at hd
      cases hd
    rcases List.mem_cons.mp hm with e | hm
    · cases e
      rw [d4] at hd
      cases hd
    rcases List.mem_cons.mp hm with e | hm
    · cases e
      rw [b3] at hc
      exact absurd (Value.type.inj hc) (by decide)
    cases hm
  refine law_call (K := K w.params ++ E) (more_in KX hx) G.T.g G.T.b G.T.builtins G.T.nolimit hg hobj hints (Nat.le_trans hlen (by decide)) hr hF' hb (fun H hO hS => ?_) (fun _ _ _ z => z)
  refine ⟨a, ns, rfl, ?_, hlen, fun _ => rfl⟩
  rcases hS with h | ⟨o, its, n, e1, e2, e3, e4, e5, e6⟩
  · exact .inl h
  · rcases look_app e1 with e1 | e1
    · exact .inr ⟨o, its, n, e1, e2, e3, e4, e5, e6⟩
    · exact (noL _ _ _ _ e1 e2 e4).elim
end Cs

namespace Cs
open PySem PySem.Spec PyProof.Rows L2
/-- a number: quotients, and whether they are all -/
def HNum (K : PySem.W.Frag) (H : Hp) (a : Addr) (q : List Int) (w : Bool) : Prop := ∃ p, SqT K H a [.ref p, .bl w] ∧ H p = some (.lst (q.map V.int))
theorem HNum.same {K : PySem.W.Frag} {H H' : Hp} {a : Addr} {q : List Int} {w : Bool} (h : HNum K H a q w) (s : Same H H') : HNum K H' a q w := by
  obtain ⟨p, h1, h2⟩ := h
  exact ⟨p, same_t s h1, s _ _ h2⟩
theorem two0 {a b : V} : atI [a, b] 0 = some a := atI_nat (j := 0) rfl
theorem two1 {a b : V} : atI [a, b] 1 = some b := atI_nat (j := 1) rfl
/-- a beginning, and with its last quotient one greater: of a fraction that can be reckoned -/
theorem sz_beg {n : Nat} {q : List Int} (h : begB q = true) (b : NB n q) (hn : n ≤ 10000000) (hne : q ≠ []) : Sz q ∧ Sz (Cm.up q) := by
  have ua := up_abv h hne
  have uc := (chB_iff _).mp (abvB_chB ua)
  have ub := b.up hne
  have su : Sz (Cm.up q) := by
    have := sz_euc (t := (Cm.W (Cm.up q)).1) (b := (Cm.W (Cm.up q)).2) (abv_pos ua).2 ub.top ub.bot hn
    rwa [Cm.euc_W1 uc] at this
  refine ⟨?_, su⟩
  obtain ⟨m, hm, he, hw⟩ := su.ex
  obtain ⟨i, x, rfl⟩ := Cm.snoc_of hne
  rw [Cm.up_snoc] at he hw
  have nn := beg_nn h
  have x0 := nn x (by simp)
  have b1 : Bd m 1 := by
    have := (hw (i ++ [x + 1]).length).1
    rw [List.drop_length] at this
    exact this
  refine ⟨m, hm, fun y hy => ?_, fun k => ?_⟩
  · rcases List.mem_append.mp hy with hy | hy
    · exact he y (List.mem_append_left _ hy)
    · rw [List.mem_singleton] at hy
      subst hy
      exact Bd.of_le x0 (show y ≤ y + 1 by omega) (he _ (by simp))
  · rcases Nat.lt_or_ge i.length k with z | z
    · rw [List.drop_eq_nil_of_le (by rw [List.length_append, List.length_singleton]; omega)]
      exact ⟨b1, Bd.zero⟩
    · have e1 : (i ++ [x]).drop k = i.drop k ++ [x] := List.drop_append_of_le_length z
      have e2 : (i ++ [x + 1]).drop k = i.drop k ++ [x + 1] := List.drop_append_of_le_length z
      have hk := hw k
      rw [e2, Cm.W_snoc] at hk
      rw [e1, Cm.W_snoc]
      obtain ⟨m1, m2, m3, m4⟩ := mx_nn (l := i.drop k) fun y hy => nn y (List.mem_append_left _ (List.mem_of_mem_drop hy))
      refine ⟨Bd.of_le (Int.add_nonneg (Int.mul_nonneg m1 x0) m2) ?_ hk.1, Bd.of_le (Int.add_nonneg (Int.mul_nonneg m3 x0) m4) ?_ hk.2⟩
      · have : (Cm.Mx (i.drop k)).1.1 * (x + 1) = (Cm.Mx (i.drop k)).1.1 * x + (Cm.Mx (i.drop k)).1.1 := by grind
        dsimp only
        omega
      · have : (Cm.Mx (i.drop k)).2.1 * (x + 1) = (Cm.Mx (i.drop k)).2.1 * x + (Cm.Mx (i.drop k)).2.1 := by grind
        dsimp only
        omega
/-- a whole number -/
theorem sz_abv {n : Nat} {q : List Int} (h : abvB q = true) (b : NB n q) (hn : n ≤ 10000000) : Sz q := by
  have := sz_euc (t := (Cm.W q).1) (b := (Cm.W q).2) (abv_pos h).2 b.w.top b.w.bot hn
  rwa [Cm.euc_W1 ((chB_iff _).mp (abvB_chB h))] at this
theorem in_turns (x : Str) : inV (.str x) [.str "less", .str "over"] = turns x := by
  unfold turns inV
  show (("less" : Str) == x || (("over" : Str) == x || false)) = _
  rw [Bool.or_false]
  have e : ∀ a b : Str, (a == b) = decide (b = a) := fun a b => by
    cases h : decide (b = a) with
    | true => rw [of_decide_eq_true h]; exact beq_self_eq_true _
    | false => exact beq_eq_false_iff_ne.mpr fun z => of_decide_eq_false h z.symm
  rw [e, e]
end Cs
namespace Cs
open PySem PySem.Spec PyProof.Rows L2
theorem sureB_len {ln ld hn hd : Int} {isL isH : Bool} (hl : 0 < ld) (hh : 0 ≤ hd) (hD : 0 < hn * ld - ln * hd) (b1 : Bd 8998 ld) (b2 : Bd 8998 hd) : (Cm.sureB ln ld hn hd isL isH).length ≤ 18000 := by
  obtain ⟨_, _, _, _, _, _, F, ih⟩ := Cm.sure_pre _ (isL := isL) (isH := isH) (Nat.le_refl _) hl hh hD
  have e1 : (ln + hn) * ld - ln * (ld + hd) = hn * ld - ln * hd := by grind
  have e2 : hn * (ld + hd) - (ln + hn) * hd = hn * ld - ln * hd := by grind
  obtain ⟨u, v, _, e, _⟩ := ih (ln + hn) (ld + hd) (by omega) (.inl (by omega)) (by omega) (fun z => by omega) (by omega) (fun z => by omega)
  have := euc_len' (t := ln + hn) (b := ld + hd) (b1.add b2)
  rw [e, List.length_append] at this
  omega
/-- what sure_between may be asked -/
structure SbOk (l h : Int × Int) : Prop where
  l2 : 0 < l.2
  h2 : 0 < h.2
  D : 0 < h.1 * l.2 - l.1 * h.2
  b1 : Bd 20000 l.1
  b2 : Bd 8998 l.2
  b3 : Bd 20000 h.1
  b4 : Bd 8998 h.2
end Cs

namespace Cs
open PySem PySem.Spec PyProof.Rows L2
theorem hi_is {q : List Int} {w : Bool} {f : Int × Int} (h : (nends q w).hi = some f) : hiG (nends q w) = f := by
  unfold hiG
  rw [h]
  rfl
theorem hi2 {n : Nat} {q : List Int} {w : Bool} {f : Int × Int} (ok : Okn q w) (b : NB n q) (h : (nends q w).hi = some f) : 0 < f.2 := by
  rcases hi_fin ok b with ⟨rfl, rfl⟩ | z
  · cases h
  · rw [hi_is h] at z
    exact z
theorem sb_ok {x : Str} {n1 n2 : Nat} {q1 q2 : List Int} {w1 w2 : Bool} (hx : x ∈ words) (ok1 : Okn q1 w1) (ok2 : Okn q2 w2) (b1 : NB n1 q1) (b2 : NB n2 q2) (hw : (w1 && w2) = false) (hn : n1 + n2 + 1 ≤ 8998)
    (l h : Int × Int) (el : bothLo x (nends q1 w1) (nends q2 w2) = some l) (eh : bothHi x (nends q1 w1) (nends q2 w2) = some h) : SbOk l h := by
  have A := num_end ok1 b1
  have B := num_end ok2 b2
  have A' := num_end ok1 (b1.mono (Nat.le_max_left n1 n2))
  have B' := num_end ok2 (b2.mono (Nat.le_max_right n1 n2))
  have key := fun f1 f2 => (word_iv hx A' B' hw f1 f2 (Nat.le_trans b1.n1 (Nat.le_max_left n1 n2)) (show (0 : Int) < 1 by decide)).1
  have bdd : ∀ f g : Int × Int, BdF n1 f → BdF n2 g → BdF 8998 (doneV x f g) := fun f g hf hg => (done_bd hf hg).mono hn
  have fin1 : ∀ f, (nends q1 w1).hi = some f → f = hiG (nends q1 w1) ∧ 0 < f.2 := fun f z => ⟨(hi_is z).symm, hi2 ok1 b1 z⟩
  have fin2 : ∀ f, (nends q2 w2).hi = some f → f = hiG (nends q2 w2) ∧ 0 < f.2 := fun f z => ⟨(hi_is z).symm, hi2 ok2 b2 z⟩
  have non2 : (nends q2 w2).hi = none → hiG (nends q2 w2) = (1, 0) := fun z => hiG_none z
  unfold bothLo at el
  unfold bothHi at eh
  generalize nends q1 w1 = e at *
  generalize nends q2 w2 = k at *
  cases e1 : e.hi with
  | none =>
    rw [e1] at eh
    cases eh
  | some f =>
    rw [e1] at eh
    obtain ⟨rfl, f2⟩ := fin1 f e1
    unfold words at hx
    rcases List.mem_cons.mp hx with rfl | hx
    · rw [show turns "plus" = false from rfl] at el eh key
      simp only [cond_false] at el eh key
      cases e2 : k.hi with
      | none =>
        rw [e2] at eh
        cases eh
      | some g =>
        rw [e2] at eh
        obtain ⟨rfl, g2⟩ := fin2 g e2
        have I := key (fun _ => .inl f2) (fun z => absurd z (by decide))
        cases el
        cases eh
        have c1 := bdd _ _ A.be B.be
        have c2 := bdd _ _ A.bh B.bh
        exact ⟨I.l2, Int.mul_pos f2 g2, I.D, c1.top.mono (by decide), c1.bot, c2.top.mono (by decide), c2.bot⟩
    rcases List.mem_cons.mp hx with rfl | hx
    · rw [show turns "less" = true from rfl] at el eh key
      simp only [cond_true] at el eh key
      cases e2 : k.hi with
      | none =>
        rw [e2] at el
        cases el
      | some g =>
        rw [e2] at el
        obtain ⟨rfl, g2⟩ := fin2 g e2
        have I := key (fun z => absurd z (by decide)) (fun _ => g2)
        cases el
        cases eh
        have c1 := bdd _ _ A.be B.bh
        have c2 := bdd _ _ A.bh B.be
        exact ⟨I.l2, Int.mul_pos f2 B.e2, I.D, c1.top.mono (by decide), c1.bot, c2.top.mono (by decide), c2.bot⟩
    rcases List.mem_cons.mp hx with rfl | hx
    · rw [show turns "times" = false from rfl] at el eh key
      simp only [cond_false] at el eh key
      cases e2 : k.hi with
      | none =>
        rw [e2] at eh
        cases eh
      | some g =>
        rw [e2] at eh
        obtain ⟨rfl, g2⟩ := fin2 g e2
        have I := key (fun z => absurd z (by decide)) (fun z => absurd z (by decide))
        cases el
        cases eh
        have c1 := bdd _ _ A.be B.be
        have c2 := bdd _ _ A.bh B.bh
        exact ⟨I.l2, Int.mul_pos f2 g2, I.D, c1.top.mono (by decide), c1.bot, c2.top.mono (by decide), c2.bot⟩
    rcases List.mem_cons.mp hx with rfl | hx
    · rw [show turns "over" = true from rfl] at el eh key
      simp only [cond_true] at el eh key
      have I := key (fun z => absurd z (by decide)) (fun z => absurd z (by decide))
      have eh' : (if ("over" : Str) = "over" ∧ k.lo.1 = 0 then none else some (doneV "over" (hiG e) k.lo)) = some h := eh
      have k1 : k.lo.1 ≠ 0 := fun z => by
        rw [if_pos ⟨rfl, z⟩] at eh'
        cases eh'
      rw [if_neg (fun z => k1 z.2)] at eh'
      cases eh'
      have kp : 0 < k.lo.1 := by have := B.e1; omega
      have c2 := bdd _ _ A.bh B.be
      cases e2 : k.hi with
      | none =>
        rw [e2] at el
        have el' : some ((0, 1) : Int × Int) = some l := el
        cases el'
        have D := I.D
        rw [non2 e2, done_over e.lo] at D
        have D' : 0 < (doneV "over" (hiG e) k.lo).1 * (e.lo.2 * 1) - (e.lo.1 * 0) * (doneV "over" (hiG e) k.lo).2 := D
        rw [Int.mul_zero, Int.zero_mul, Int.sub_zero, Int.mul_one] at D'
        have D2 := Int.pos_of_mul_pos_left D' A.e2
        refine ⟨by decide, Int.mul_pos f2 kp, ?_, Bd.zero, Bd.one (by decide), c2.top.mono (by decide), c2.bot⟩
        show 0 < (doneV "over" (hiG e) k.lo).1 * 1 - 0 * (doneV "over" (hiG e) k.lo).2
        omega
      | some g =>
        rw [e2] at el
        obtain ⟨rfl, g2⟩ := fin2 g e2
        have el' : (if ("over" : Str) = "over" ∧ (hiG k).1 = 0 then none else some (doneV "over" e.lo (hiG k))) = some l := el
        rw [if_neg (fun z => by have := B.h1; omega)] at el'
        cases el'
        have c1 := bdd _ _ A.be B.bh
        exact ⟨I.l2, Int.mul_pos f2 kp, I.D, c1.top.mono (by decide), c1.bot, c2.top.mono (by decide), c2.bot⟩
    cases hx
/-- whether the quotients behind the told ones differ, at a great number -/
def Dif (x : Str) (q1 : List Int) (w1 : Bool) (q2 : List Int) (w2 : Bool) (G : Int) : Prop :=
  qat (firstV x q1 w1 q2 w2 true G) (toldV x (nends q1 w1) (nends q2 w2)).length ≠ qat (firstV x q1 w1 q2 w2 false G) (toldV x (nends q1 w1) (nends q2 w2)).length
/-- the first great number that serves -/
structure GreatIs (x : Str) (q1 : List Int) (w1 : Bool) (q2 : List Int) (w2 : Bool) (G : Int) : Prop where
  ex : ∃ k : Nat, G = 2 ^ 2 ^ k ∧ Dif x q1 w1 q2 w2 G ∧ ∀ i < k, ¬ Dif x q1 w1 q2 w2 (2 ^ 2 ^ i)
theorem GreatIs.uniq {x : Str} {q1 q2 : List Int} {w1 w2 : Bool} {G G' : Int} (h : GreatIs x q1 w1 q2 w2 G) (h' : GreatIs x q1 w1 q2 w2 G') : G = G' := by
  obtain ⟨k, rfl, d, m⟩ := h.ex
  obtain ⟨j, rfl, d', m'⟩ := h'.ex
  have : k = j := by
    rcases Nat.lt_trichotomy k j with z | z | z
    · exact absurd d (m' k z)
    · exact z
    · exact absurd d' (m j z)
  rw [this]
theorem pow_lt {a b : Nat} (h : (2 : Int) ^ a ≤ 2 ^ b) : a ≤ b := by
  rcases Nat.lt_or_ge b a with z | z
  · have e : (2 : Int) ^ a = 2 ^ b * 2 ^ (a - b) := by rw [← Int.pow_add]; congr 1; omega
    have p : (0 : Int) < 2 ^ b := Int.pow_pos (by decide)
    have q : (2 : Int) ≤ 2 ^ (a - b) := by
      have e2 : (2 : Int) ^ (a - b) = 2 ^ (a - b - 1) * 2 := by rw [show a - b = (a - b - 1) + 1 by omega, Int.pow_succ]; rfl
      have p2 : (0 : Int) < 2 ^ (a - b - 1) := Int.pow_pos (by decide)
      omega
    have := Int.mul_le_mul_of_nonneg_left q (show (0 : Int) ≤ 2 ^ b by omega)
    omega
  · exact z
theorem bd_pow (a : Nat) : Bd (a + 1) ((2 : Int) ^ a) := by
  unfold Bd
  rw [Int.natAbs_pow]
  exact Nat.pow_lt_pow_right (by decide) (by omega)
theorem log_pow (a : Nat) : ((2 : Int) ^ a).natAbs.log2 = a := by
  rw [Int.natAbs_pow]
  exact Nat.log2_two_pow
end Cs

namespace Cs
open PySem PySem.Spec PyProof.Rows L2 HT
/-! ### a pair, turned by [::-1] -/
section
variable {prog : Program} {w : World} {A : Around} {E : Value → Shared → Prop} {s : Shared}
theorem rev2_slice {sl : Addr} {vl vu vs : Value} {Q : Int × Int × Nat → Shared → Prop} (hs : s.heap.IsSliceOf sl vl vu vs) (pl : IsPart vl none) (pu : IsPart vu none) (ps : IsPart vs (some (-1)))
    (h : Q (1, -1, 2) s) : wpAny (model prog w) A (Builtin.Slice.sliceApplied (.ref sl) (pure (2 : Int))) Q E s := by
  obtain ⟨os, hos, hcs, hds⟩ := id hs
  unfold Builtin.Slice.sliceApplied Builtin.Slice.sliceFields
  refine wpAny_bind (wpAny_bind (wpAny_field hos hds (x := vl) rfl (wpAny_bind (wpAny_field hos hds (x := vu) rfl (wpAny_bind (wpAny_field hos hds (x := vs) rfl (wpAny_pure ?_)))))))
  refine wpAny_bind (slicePart_ ps ?_)
  show wpAny _ _ (if ((-1 : Int) == 0) = true then _ else _) _ _ s
  rw [if_neg (by decide)]
  refine wpAny_bind (slicePart_ pl (wpAny_bind (slicePart_ pu (wpAny_bind (wpAny_pure ?_)))))
  exact wpAny_pure h
theorem getItem_rev2 {t sl : Addr} {a b : Value} {vl vu vs : Value} {Q : Value → Shared → Prop} (ht : IsTup s.heap t #[a, b]) (hs : s.heap.IsSliceOf sl vl vu vs) (pl : IsPart vl none) (pu : IsPart vu none) (ps : IsPart vs (some (-1)))
    (h : Q (.ref s.heap.objs.size) { s with heap := s.heap.push { cls := .type "tuple", data := .seq #[b, a] } }) : wpAny (model prog w) A (getItem (.ref t) (.ref sl)) Q E s := by
  have htake : sizeOk (.seq (#[b, a] : Array Value)) := by
    show 2 ≤ sizeLine
    decide
  obtain ⟨os, hos, hcs, hds⟩ := id hs
  have hTs : s.TypeIs (.ref sl) "slice" := ⟨os, hos, hcs⟩
  unfold getItem
  try with_reducible refine wpAny_holding ?_
  first | refine wpAny_bind (wpAny_pure ?_) | skip
  refine wpAny_bind (wpAny_sequenceKey ht.typeIs (by decide) ?_)
  refine wpAny_bind (wpAny_callSpecial?_slot (name := Str.ofString "__getitem__") ht.typeIs PyProof.Rows.slot_tuple_getitem
    (wpAny_call_entry PyProof.Rows.slot_tuple_getitem ht.typeIs entry_tuple_getitem ?_ (args_tuple_getitem _ _)))
  show wpAny _ _ (Builtin.Tuple.tupleItemsOf (.ref t) >>= _) _ _ s
  refine wpAny_bind (tupleItemsOf_ ht ?_)
  refine wpAny_bind (wpAny_typeOf hTs ?_)
  rw [if_pos (by decide)]
  refine wpAny_bind (rev2_slice hs pl pu ps ?_)
  show wpAny _ _ (if ((1 : Int) == 0 && (-1 : Int) == 1 && (2 : Nat) == 2) = true then _ else _) _ _ s
  rw [if_neg (by decide)]
  first
    | exact wpAny_bind (m := Builtin.Tuple.tupleExact _) (wpAny_newObj_type (wpAny_pure ⟨_, rfl, wpAny_pure h⟩) htake)
    | exact wpAny_bind (m := Builtin.Tuple.tupleExact _) (wpAny_newObj_type (wpAny_bind (wpAny_pure (wpAny_pure ⟨_, rfl, wpAny_pure h⟩))) htake)
    | exact wpAny_bind (wpAny_bind (m := Builtin.Tuple.tupleExact _) (wpAny_newObj_type (wpAny_pure (wpAny_pure ⟨_, rfl, wpAny_pure h⟩)) htake))
    | exact wpAny_bind (wpAny_bind (m := Builtin.Tuple.tupleExact _) (wpAny_newObj_type (wpAny_pure ⟨_, rfl, wpAny_pure h⟩) htake))
end
def tRevT (K : PySem.W.Frag) (te : TE) : TE := fun σ H Q => te σ H fun x H1 => ∃ a u v, x = .ref a ∧ SqT K H1 a [u, v] ∧ ∀ p, H1 p = none → Q (.ref p) (upd H1 p (.tup [v, u]))
theorem pe_revT {X : Cx} {e : Expr} {te : TE} {k : Nat} {p1 p2 p3 pos : Pos} (he : PE X e te) : PE X (.Subscript e (.Slice none none (some (.UnaryOp .USub (.Constant (.int 1) k p1) p2)) p3) pos) (tRevT X.K te) := by
  refine ⟨fun pins s σ H Q I h => ?_⟩
  refine Subscript_ (thn (he.run pins s σ H _ I h) fun v s1 ⟨x, H1, I1, r1, q1⟩ => ?_)
  obtain ⟨a, u, z, ex, hx, q⟩ := q1
  subst ex
  cases r1
  have hst : PO X (some (.UnaryOp .USub (.Constant (.int 1) k p1) p2)) (tPart (tUn (rU fun i => .int (-i)) (tC (.int 1)))) := po_some (pe_un un_neg pe_int)
  refine wpAny_Slice (thn (po_none.run pins s1 σ H1 (fun o H2 => o = none ∧ H2 = H1) I1 ⟨rfl, rfl⟩) fun vl s2 ⟨l, H2, I2, pl, el, e2⟩ => ?_)
  subst el e2
  refine thn (po_none.run pins s2 σ H2 (fun o H3 => o = none ∧ H3 = H2) I2 ⟨rfl, rfl⟩) fun vu s3 ⟨u', H3, I3, pu, eu, e3⟩ => ?_
  subst eu e3
  refine thn (hst.run pins s3 σ H3 (fun o H4 => o = some (-1) ∧ H4 = H3) I3 ⟨1, rfl, -1, rfl, rfl, rfl⟩) fun vs s4 ⟨o, H4, I4, ps, eo, e4⟩ => ?_
  subst eo e4
  have I5 : Inv X pins σ H4 { s4 with heap := s4.heap.push { cls := .type "slice", data := .fields #[vl, vu, vs] } } := I4.kept (t' := s4.toks) fun b ob q => Heap.get?_push_of_some _ q
  obtain ⟨its, r, ht, hz⟩ := I5.tuple hx
  cases r with
  | cons ra rt =>
    cases rt with
    | cons rb rn =>
      cases rn
      show wpAny (model X.prog X.w) X.A (subscriptTail e (.Slice none none (some (.UnaryOp .USub (.Constant (.int 1) k p1) p2)) p3) (.ref a) (.ref s4.heap.objs.size)) (EP X pins σ Q) X.xe { s4 with heap := s4.heap.push { cls := .type "slice", data := .fields #[vl, vu, vs] } }
      refine tail_any (ops := [.ref a, .ref s4.heap.objs.size]) ht.typeIs (PyProof.Rows.slot_tuple_getitem.lookup) ?_ (by with_unfolding_all rfl)
      refine getItem_rev2 ht (Heap.IsSliceOf.new _ vl vu vs) pl pu ps ?_
      refine ⟨.ref _, _, I5.laid (t' := s4.toks) (o := .tup [z, u]) (fun b ob q => Heap.get?_push_of_some _ q) (Nat.le_refl _) ?_, rfl, q _ (I5.hok.fresh (Nat.le_refl _))⟩
      exact ⟨by show 2 ≤ sizeLine; decide, _, .cons rb (.cons ra .nil), ⟨_, Heap.get?_push_size _ rfl, rfl, _, rfl⟩⟩
end Cs

namespace Cs
open PySem PySem.Spec PyProof.Rows L2
theorem tl_suffix : ∀ {s t : List Int}, t ≠ [] → Cm.Tl (s ++ t) → Cm.Tl t
  | [], _, _, h => h
  | [x], t, hne, h => by
    cases t with
    | nil => exact absurd rfl hne
    | cons y r => exact h.2
  | x :: z :: s, t, hne, h => tl_suffix (s := z :: s) hne h.2
theorem ch_suffix {x : Int} {s t : List Int} (hne : t ≠ []) (h : Cm.Ch (x :: (s ++ t))) : Cm.Tl t := by
  cases e : s ++ t with
  | nil =>
    rw [List.append_eq_nil_iff] at e
    exact absurd e.2 hne
  | cons y r =>
    rw [e] at h
    have h' : Cm.Tl (y :: r) := h
    rw [← e] at h'
    exact tl_suffix hne h'
/-- the beginnings of a chain of a number above 0: how great -/
theorem nb_take {n : Nat} {l : List Int} (h : abvB l = true) (b : BdF n (Cm.W l)) (n1 : 1 ≤ n) (k : Nat) : NB (n + 1) (l.take k) := by
  have hb := beg_of_abv h
  have hc := (chB_iff _).mp (abvB_chB h)
  have nn := beg_nn hb
  by_cases hk : l.length ≤ k
  · rw [List.take_of_length_le hk]
    refine ⟨by omega, b.mono (by omega), fun hne => ?_⟩
    obtain ⟨i, x, rfl⟩ := Cm.snoc_of hne
    have x1 : 1 ≤ x := by
      cases i with
      | nil =>
        have p := (abv_pos h).1
        rw [List.nil_append, Cm.W_one] at p
        exact p
      | cons y r => exact (beg_tl (x := y) (r := r ++ [x]) hb).2 x (by simp)
    obtain ⟨m1, m2, m3, m4⟩ := mx_nn (l := i) fun y hy => nn y (List.mem_append_left _ hy)
    rw [Cm.W_snoc] at b
    rw [Cm.up_snoc, Cm.W_snoc]
    have k1 := Int.mul_le_mul_of_nonneg_left x1 m1
    have k2 := Int.mul_le_mul_of_nonneg_left x1 m3
    have e1 : (Cm.Mx i).1.1 * (x + 1) = (Cm.Mx i).1.1 * x + (Cm.Mx i).1.1 := by grind
    have e2 : (Cm.Mx i).2.1 * (x + 1) = (Cm.Mx i).2.1 * x + (Cm.Mx i).2.1 := by grind
    have t1 := b.top.add b.top
    have t2 := b.bot.add b.bot
    dsimp only at t1 t2
    exact ⟨Bd.of_le (by show 0 ≤ (Cm.Mx i).1.1 * (x + 1) + (Cm.Mx i).1.2; omega) (by show (Cm.Mx i).1.1 * (x + 1) + (Cm.Mx i).1.2 ≤ _; omega) t1, Bd.of_le (by show 0 ≤ (Cm.Mx i).2.1 * (x + 1) + (Cm.Mx i).2.2; omega) (by show (Cm.Mx i).2.1 * (x + 1) + (Cm.Mx i).2.2 ≤ _; omega) t2⟩
  · by_cases h0 : l.take k = []
    · rw [h0]
      exact ⟨by omega, ⟨Bd.one (by omega), Bd.zero⟩, fun z => absurd rfl z⟩
    · have el : l = l.take k ++ l.drop k := (List.take_append_drop k l).symm
      have hd : l.drop k ≠ [] := fun z => by
        have := congrArg List.length z
        rw [List.length_drop] at this
        simp at this
        omega
      generalize l.take k = r at *
      generalize l.drop k = t at *
      subst el
      have ht : Cm.Tl t := by
        cases r with
        | nil => exact absurd rfl h0
        | cons x s => exact ch_suffix hd hc
      obtain ⟨B1, BA⟩ := ht.w
      obtain ⟨m1, m2, m3, m4⟩ := mx_nn (l := r) fun y hy => nn y (List.mem_append_left _ hy)
      rw [Cm.W_app] at b
      have e2 : Cm.W r = ((Cm.Mx r).1.1, (Cm.Mx r).2.1) := by
        have := Cm.W_app r []
        rw [List.append_nil, Cm.W_nil] at this
        rw [this]
        exact Prod.ext (by show _ * 1 + _ * 0 = _; omega) (by show _ * 1 + _ * 0 = _; omega)
      have eu : Cm.W (Cm.up r) = ((Cm.Mx r).1.1 * 1 + (Cm.Mx r).1.2, (Cm.Mx r).2.1 * 1 + (Cm.Mx r).2.2) := by rw [← W_up h0, Cm.W_snoc]
      generalize Cm.W t = z at *
      obtain ⟨A, B⟩ := z
      dsimp only at B1 BA b
      have a1 := Int.mul_le_mul_of_nonneg_left (show 1 ≤ A by omega) m1
      have a2 := Int.mul_le_mul_of_nonneg_left (show 1 ≤ B by omega) m2
      have a3 := Int.mul_le_mul_of_nonneg_left (show 1 ≤ A by omega) m3
      have a4 := Int.mul_le_mul_of_nonneg_left (show 1 ≤ B by omega) m4
      have bt := b.top
      have bb := b.bot
      dsimp only at bt bb
      refine ⟨by omega, ?_, fun _ => ?_⟩
      · rw [e2]
        exact ⟨(Bd.of_le m1 (by omega) bt).mono (by omega), (Bd.of_le m3 (by omega) bb).mono (by omega)⟩
      · rw [eu]
        exact ⟨(Bd.of_le (by show 0 ≤ (Cm.Mx r).1.1 * 1 + (Cm.Mx r).1.2; omega) (by show (Cm.Mx r).1.1 * 1 + (Cm.Mx r).1.2 ≤ _; omega) bt).mono (by omega), (Bd.of_le (by show 0 ≤ (Cm.Mx r).2.1 * 1 + (Cm.Mx r).2.2; omega) (by show (Cm.Mx r).2.1 * 1 + (Cm.Mx r).2.2 ≤ _; omega) bb).mono (by omega)⟩
/-- what comes of a number at all -/
structure NumOk (n : Nat) (q : List Int) (w : Bool) : Prop where
  ok : Okn q w
  nb : NB n q
  len : q.length ≤ 90000
end Cs

namespace Cs
open PySem PySem.Spec PyProof.Rows L2

def topS (i : Nat) : Stmt := PySem.Challenge.pw_chainsum_k13_all_that_is_sure.main.body.getD i (.Pass ⟨0, 0, 0, 0⟩)
abbrev s_is_whole : Stmt := topS 5
abbrev N_is_whole : List Str := ["thing"]
theorem sc_is_whole : FnScope N_is_whole ["thing"] (defScope s_is_whole) := ⟨rfl, rfl, rfl, by decide +kernel, rfl, by decide +kernel, by decide +kernel⟩
abbrev s_are_quotients : Stmt := topS 6
abbrev N_are_quotients : List Str := ["thing", "quotient"]
theorem sc_are_quotients : FnScope N_are_quotients ["thing"] (defScope s_are_quotients) := ⟨rfl, rfl, rfl, by decide +kernel, rfl, by decide +kernel, by decide +kernel⟩
abbrev s_is_chain : Stmt := topS 7
abbrev N_is_chain : List Str := ["thing"]
theorem sc_is_chain : FnScope N_is_chain ["thing"] (defScope s_is_chain) := ⟨rfl, rfl, rfl, by decide +kernel, rfl, by decide +kernel, by decide +kernel⟩
abbrev s_is_begun : Stmt := topS 8
abbrev N_is_begun : List Str := ["thing"]
theorem sc_is_begun : FnScope N_is_begun ["thing"] (defScope s_is_begun) := ⟨rfl, rfl, rfl, by decide +kernel, rfl, by decide +kernel, by decide +kernel⟩
abbrev s_is_above : Stmt := topS 9
abbrev N_is_above : List Str := ["thing"]
theorem sc_is_above : FnScope N_is_above ["thing"] (defScope s_is_above) := ⟨rfl, rfl, rfl, by decide +kernel, rfl, by decide +kernel, by decide +kernel⟩
abbrev s_need_chain : Stmt := topS 10
abbrev N_need_chain : List Str := ["thing"]
theorem sc_need_chain : FnScope N_need_chain ["thing"] (defScope s_need_chain) := ⟨rfl, rfl, rfl, by decide +kernel, rfl, by decide +kernel, by decide +kernel⟩
abbrev s_told_by : Stmt := topS 11
abbrev N_told_by : List Str := ["quotients", "top", "bottom", "quotient", "higher"]
theorem sc_told_by : FnScope N_told_by ["quotients"] (defScope s_told_by) := ⟨rfl, rfl, rfl, by decide +kernel, rfl, by decide +kernel, by decide +kernel⟩
abbrev s_fraction_of : Stmt := topS 12
abbrev N_fraction_of : List Str := ["chain"]
theorem sc_fraction_of : FnScope N_fraction_of ["chain"] (defScope s_fraction_of) := ⟨rfl, rfl, rfl, by decide +kernel, rfl, by decide +kernel, by decide +kernel⟩
abbrev s_quotients_of : Stmt := topS 13
abbrev N_quotients_of : List Str := ["top", "bottom", "found", "quotient", "rest"]
theorem sc_quotients_of : FnScope N_quotients_of ["top", "bottom"] (defScope s_quotients_of) := ⟨rfl, rfl, rfl, by decide +kernel, rfl, by decide +kernel, by decide +kernel⟩
abbrev s_ends_of : Stmt := topS 15
abbrev N_ends_of : List Str := ["begun", "here", "there"]
theorem sc_ends_of : FnScope N_ends_of ["begun"] (defScope s_ends_of) := ⟨rfl, rfl, rfl, by decide +kernel, rfl, by decide +kernel, by decide +kernel⟩
abbrev s_need_word : Stmt := topS 18
abbrev N_need_word : List Str := ["word"]
theorem sc_need_word : FnScope N_need_word ["word"] (defScope s_need_word) := ⟨rfl, rfl, rfl, by decide +kernel, rfl, by decide +kernel, by decide +kernel⟩
abbrev s_worth : Stmt := topS 19
abbrev N_worth : List Str := ["word", "one", "other"]
theorem sc_worth : FnScope N_worth ["word", "one", "other"] (defScope s_worth) := ⟨rfl, rfl, rfl, by decide +kernel, rfl, by decide +kernel, by decide +kernel⟩
abbrev s_reckoned : Stmt := topS 20
abbrev N_reckoned : List Str := ["word", "one", "other", "top", "bottom"]
theorem sc_reckoned : FnScope N_reckoned ["word", "one", "other"] (defScope s_reckoned) := ⟨rfl, rfl, rfl, by decide +kernel, rfl, by decide +kernel, by decide +kernel⟩
abbrev s_need_number : Stmt := topS 22
abbrev N_need_number : List Str := ["thing"]
theorem sc_need_number : FnScope N_need_number ["thing"] (defScope s_need_number) := ⟨rfl, rfl, rfl, by decide +kernel, rfl, by decide +kernel, by decide +kernel⟩
abbrev s_ends_of_number : Stmt := topS 23
abbrev N_ends_of_number : List Str := ["number", "here"]
theorem sc_ends_of_number : FnScope N_ends_of_number ["number"] (defScope s_ends_of_number) := ⟨rfl, rfl, rfl, by decide +kernel, rfl, by decide +kernel, by decide +kernel⟩
abbrev s_joined : Stmt := topS 24
abbrev N_joined : List Str := ["word", "one", "other"]
theorem sc_joined : FnScope N_joined ["word", "one", "other"] (defScope s_joined) := ⟨rfl, rfl, rfl, by decide +kernel, rfl, by decide +kernel, by decide +kernel⟩
abbrev s_ends_of_both : Stmt := topS 25
abbrev N_ends_of_both : List Str := ["word", "one", "other", "low", "is_low", "high", "is_high", "first"]
theorem sc_ends_of_both : FnScope N_ends_of_both ["word", "one", "other"] (defScope s_ends_of_both) := ⟨rfl, rfl, rfl, by decide +kernel, rfl, by decide +kernel, by decide +kernel⟩
abbrev s_sure_between : Stmt := topS 26
abbrev N_sure_between : List Str := ["ends", "low", "is_low", "high", "is_high", "found", "quotient", "beyond", "rest", "fresh"]
theorem sc_sure_between : FnScope N_sure_between ["ends"] (defScope s_sure_between) := ⟨rfl, rfl, rfl, by decide +kernel, rfl, by decide +kernel, by decide +kernel⟩
abbrev s_near_end : Stmt := topS 27
abbrev N_near_end : List Str := ["number", "is_low", "great", "quotients", "whole"]
theorem sc_near_end : FnScope N_near_end ["number", "is_low", "great"] (defScope s_near_end) := ⟨rfl, rfl, rfl, by decide +kernel, rfl, by decide +kernel, by decide +kernel⟩
abbrev s_pair_near : Stmt := topS 28
abbrev N_pair_near : List Str := ["word", "one", "other", "is_low", "great", "is_other_low"]
theorem sc_pair_near : FnScope N_pair_near ["word", "one", "other", "is_low", "great"] (defScope s_pair_near) := ⟨rfl, rfl, rfl, by decide +kernel, rfl, by decide +kernel, by decide +kernel⟩
abbrev s_quotient_at : Stmt := topS 29
abbrev N_quotient_at : List Str := ["word", "pair", "place", "top", "bottom", "turn", "rest"]
theorem sc_quotient_at : FnScope N_quotient_at ["word", "pair", "place"] (defScope s_quotient_at) := ⟨rfl, rfl, rfl, by decide +kernel, rfl, by decide +kernel, by decide +kernel⟩
abbrev s_sure : Stmt := topS 30
abbrev N_sure : List Str := ["word", "one", "other", "told", "great", "first", "second"]
theorem sc_sure : FnScope N_sure ["word", "one", "other"] (defScope s_sure) := ⟨rfl, rfl, rfl, by decide +kernel, rfl, by decide +kernel, by decide +kernel⟩
abbrev s_l_mixed : Stmt := topS 32
abbrev N_l_mixed : List Str := ["_law_cell", "_law_k", "_law_number_here"]
theorem sc_l_mixed : FnScope N_l_mixed ["_law_cell", "_law_k"] (defScope s_l_mixed) := ⟨rfl, rfl, rfl, by decide +kernel, rfl, by decide +kernel, by decide +kernel⟩
abbrev s_l_quotient : Stmt := topS 33
abbrev N_l_quotient : List Str := ["_law_cell"]
theorem sc_l_quotient : FnScope N_l_quotient ["_law_cell"] (defScope s_l_quotient) := ⟨rfl, rfl, rfl, by decide +kernel, rfl, by decide +kernel, by decide +kernel⟩
abbrev s_l_worth : Stmt := topS 34
abbrev N_l_worth : List Str := ["_law_quotients", "_law_top", "_law_bottom", "_law_quotient_here"]
theorem sc_l_worth : FnScope N_l_worth ["_law_quotients"] (defScope s_l_worth) := ⟨rfl, rfl, rfl, by decide +kernel, rfl, by decide +kernel, by decide +kernel⟩
abbrev s_l_chain : Stmt := topS 36
abbrev N_l_chain : List Str := ["_law_cells", "_law_found", "_law_cell"]
theorem sc_l_chain : FnScope N_l_chain ["_law_cells"] (defScope s_l_chain) := ⟨rfl, rfl, rfl, by decide +kernel, rfl, by decide +kernel, by decide +kernel⟩
abbrev s_l_done : Stmt := topS 37
abbrev N_l_done : List Str := ["_law_word", "_law_one", "_law_other"]
theorem sc_l_done : FnScope N_l_done ["_law_word", "_law_one", "_law_other"] (defScope s_l_done) := ⟨rfl, rfl, rfl, by decide +kernel, rfl, by decide +kernel, by decide +kernel⟩
abbrev s_l_rests : Stmt := topS 39
abbrev N_l_rests : List Str := ["_law_top", "_law_bottom", "_law_many", "_law_found"]
theorem sc_l_rests : FnScope N_l_rests ["_law_top", "_law_bottom", "_law_many"] (defScope s_l_rests) := ⟨rfl, rfl, rfl, by decide +kernel, rfl, by decide +kernel, by decide +kernel⟩
abbrev s_l_number : Stmt := topS 40
abbrev N_l_number : List Str := ["_law_quotients", "_law_whole_here", "_law_k"]
theorem sc_l_number : FnScope N_l_number ["_law_quotients", "_law_whole_here", "_law_k"] (defScope s_l_number) := ⟨rfl, rfl, rfl, by decide +kernel, rfl, by decide +kernel, by decide +kernel⟩
abbrev s_l_rounding : Stmt := topS 41
abbrev N_l_rounding : List Str := ["_law_word", "_law_quotients", "_law_more", "_law_top", "_law_bottom", "_law_pair"]
theorem sc_l_rounding : FnScope N_l_rounding ["_law_word", "_law_quotients", "_law_more"] (defScope s_l_rounding) := ⟨rfl, rfl, rfl, by decide +kernel, rfl, by decide +kernel, by decide +kernel⟩
abbrev s_l_numbers : Stmt := topS 42
abbrev N_l_numbers : List Str := ["_law_script", "_law_one", "_law_other", "_law_number_here", "_law_cell", "_law_word", "_law_first", "_law_second", "_law_steps", "_law_some", "_law_found", "_law_turn", "_law_left", "_law_right", "_law_way"]
theorem sc_l_numbers : FnScope N_l_numbers ["_law_script"] (defScope s_l_numbers) := ⟨rfl, rfl, rfl, by decide +kernel, rfl, by decide +kernel, by decide +kernel⟩
abbrev s_l_ends : Stmt := topS 43
abbrev N_l_ends : List Str := ["_law_number_here", "_law_quotients", "_law_is_all", "_law_here", "_law_there", "_law_is_met"]
theorem sc_l_ends : FnScope N_l_ends ["_law_number_here"] (defScope s_l_ends) := ⟨rfl, rfl, rfl, by decide +kernel, rfl, by decide +kernel, by decide +kernel⟩
abbrev s_l_both : Stmt := topS 44
abbrev N_l_both : List Str := ["_law_word", "_law_one", "_law_other", "_law_low", "_law_high"]
theorem sc_l_both : FnScope N_l_both ["_law_word", "_law_one", "_law_other"] (defScope s_l_both) := ⟨rfl, rfl, rfl, by decide +kernel, rfl, by decide +kernel, by decide +kernel⟩
abbrev s_l_sure : Stmt := topS 45
abbrev N_l_sure : List Str := ["_law_word", "_law_one", "_law_other", "_law_low", "_law_is_low", "_law_high", "_law_is_high", "_law_found", "_law_quotient_here", "_law_rest", "_law_inner", "_law_outer"]
theorem sc_l_sure : FnScope N_l_sure ["_law_word", "_law_one", "_law_other"] (defScope s_l_sure) := ⟨rfl, rfl, rfl, by decide +kernel, rfl, by decide +kernel, by decide +kernel⟩
abbrev s_law : Stmt := topS 46
abbrev N_law : List Str := ["_law_script", "_law_word", "_law_numbers_here", "_law_left", "_law_right"]
theorem sc_law : FnScope N_law ["_law_script"] (defScope s_law) := ⟨rfl, rfl, rfl, by decide +kernel, rfl, by decide +kernel, by decide +kernel⟩
structure Txt (K : PySem.W.Frag) (mg : Str → Option Value) : Prop where
  d_is_whole : DefAt K mg "is_whole" s_is_whole ["thing"]
  d_are_quotients : DefAt K mg "are_quotients" s_are_quotients ["thing"]
  d_is_chain : DefAt K mg "is_chain" s_is_chain ["thing"]
  d_is_begun : DefAt K mg "is_begun" s_is_begun ["thing"]
  d_is_above : DefAt K mg "is_above" s_is_above ["thing"]
  d_need_chain : DefAt K mg "need_chain" s_need_chain ["thing"]
  d_told_by : DefAt K mg "told_by" s_told_by ["quotients"]
  d_fraction_of : DefAt K mg "fraction_of" s_fraction_of ["chain"]
  d_quotients_of : DefAt K mg "quotients_of" s_quotients_of ["top", "bottom"]
  d_ends_of : DefAt K mg "ends_of" s_ends_of ["begun"]
  d_need_word : DefAt K mg "need_word" s_need_word ["word"]
  d_worth : DefAt K mg "worth" s_worth ["word", "one", "other"]
  d_reckoned : DefAt K mg "reckoned" s_reckoned ["word", "one", "other"]
  d_need_number : DefAt K mg "need_number" s_need_number ["thing"]
  d_ends_of_number : DefAt K mg "ends_of_number" s_ends_of_number ["number"]
  d_joined : DefAt K mg "joined" s_joined ["word", "one", "other"]
  d_ends_of_both : DefAt K mg "ends_of_both" s_ends_of_both ["word", "one", "other"]
  d_sure_between : DefAt K mg "sure_between" s_sure_between ["ends"]
  d_near_end : DefAt K mg "near_end" s_near_end ["number", "is_low", "great"]
  d_pair_near : DefAt K mg "pair_near" s_pair_near ["word", "one", "other", "is_low", "great"]
  d_quotient_at : DefAt K mg "quotient_at" s_quotient_at ["word", "pair", "place"]
  d_sure : DefAt K mg "sure" s_sure ["word", "one", "other"]
  d_l_mixed : DefAt K mg "_law_mixed" s_l_mixed ["_law_cell", "_law_k"]
  d_l_quotient : DefAt K mg "_law_quotient" s_l_quotient ["_law_cell"]
  d_l_worth : DefAt K mg "_law_worth" s_l_worth ["_law_quotients"]
  d_l_chain : DefAt K mg "_law_chain" s_l_chain ["_law_cells"]
  d_l_done : DefAt K mg "_law_done" s_l_done ["_law_word", "_law_one", "_law_other"]
  d_l_rests : DefAt K mg "_law_rests" s_l_rests ["_law_top", "_law_bottom", "_law_many"]
  d_l_number : DefAt K mg "_law_number" s_l_number ["_law_quotients", "_law_whole_here", "_law_k"]
  d_l_rounding : DefAt K mg "_law_rounding" s_l_rounding ["_law_word", "_law_quotients", "_law_more"]
  d_l_numbers : DefAt K mg "_law_numbers" s_l_numbers ["_law_script"]
  d_l_ends : DefAt K mg "_law_ends" s_l_ends ["_law_number_here"]
  d_l_both : DefAt K mg "_law_both" s_l_both ["_law_word", "_law_one", "_law_other"]
  d_l_sure : DefAt K mg "_law_sure" s_l_sure ["_law_word", "_law_one", "_law_other"]
  d_law : LawAt K mg "law" s_law ["_law_script"]
  z_all : mg "all" = none
  z_bool : mg "bool" = none
  z_divmod : mg "divmod" = none
  z_int : mg "int" = none
  z_isinstance : mg "isinstance" = none
  z_len : mg "len" = none
  z_list : mg "list" = none
  z_range : mg "range" = none
  z_reversed : mg "reversed" = none
  z_str : mg "str" = none
  z_tuple : mg "tuple" = none
  c_WORDS : TupAt K mg "WORDS" [.str "plus", .str "less", .str "times", .str "over"]
def sp_is_whole (K : PySem.W.Frag) : Sp := fun vs H Q _ => ∃ (x : V) (t : String), vs = [x] ∧ TyX K H x (.type t) ∧ t ∈ tys ∧ Q (.bl (decide (t = "int"))) H
section
variable {P : Program} {w : World} {K : PySem.W.Frag} {mg : Str → Option Value} {base : Heap}
theorem cal_is_whole (T : Txt K mg) (NS : base.NoSeer) (ht : P.given.tree = none) : Cal P w K mg base CX0 1 "is_whole" (sp_is_whole K) := by
  refine cal_ok T.d_is_whole sc_is_whole (fun vs H Q E h => ?_) (fun f cdv A outer s H vs Q E hr h => ?_)
  · obtain ⟨x, t, rfl, _⟩ := h
    rfl
  · refine ⟨_, (pss_one (ps_ret (pe_and (pe_callB (r := rIsi K) (id := "isinstance") call_isi (by rfl) T.z_isinstance (by decide +kernel) (pa_cons (pv 0) (pa_cons (pe_bltn (v := .ty "int") (u := .type "int") (by rfl) T.z_int (by decide +kernel) rfl) pa_nil))) (pe_one (pe_not (pe_callB (r := rIsi K) (id := "isinstance") call_isi (by rfl) T.z_isinstance (by decide +kernel) (pa_cons (pv 0) (pa_cons (pe_bltn (v := .ty "bool") (u := .type "bool") (by rfl) T.z_bool (by decide +kernel) rfl) pa_nil)))))))), ?_⟩
    obtain ⟨x, t, rfl, hx, ht, q⟩ := h
    refine ⟨_, rfl, _, _, _, _, _, rfl, .ty _, hx, kit_ty (kit_tys (by decide) _ ht), _, rfl, ?_⟩
    by_cases h1 : t = "int"
    · subst h1
      exact iteT ⟨_, rfl, _, _, _, _, _, rfl, .ty _, hx, kit_ty (kit_tys (by decide) _ ht), _, rfl, q⟩
    · by_cases h2 : t = "bool"
      · subst h2
        exact iteT ⟨_, rfl, _, _, _, _, _, rfl, .ty _, hx, kit_ty (kit_tys (by decide) _ ht), _, rfl, q⟩
      · rw [decide_eq_false h1] at q ⊢
        rw [decide_eq_false h2]
        exact iteF q
end
theorem told_step {ns : List Int} {i : Nat} {z : Int} (hi : i + 1 < ns.length) (h : ns[ns.length - 2 - i]? = some z) :
    Cm.W (ns.drop (ns.length - 1 - (i + 1))) = (z * (Cm.W (ns.drop (ns.length - 1 - i))).1 + (Cm.W (ns.drop (ns.length - 1 - i))).2, (Cm.W (ns.drop (ns.length - 1 - i))).1) := by
  have e : ns.length - 1 - (i + 1) = ns.length - 2 - i := by omega
  have h1 : ns.length - 2 - i < ns.length := by omega
  have e2 : ns.length - 2 - i + 1 = ns.length - 1 - i := by omega
  rw [e, List.drop_eq_getElem_cons h1, e2, Cm.W_cons]
  have : ns[ns.length - 2 - i] = z := by
    rw [List.getElem?_eq_getElem h1] at h
    exact Option.some.inj h
  rw [this]
theorem told_last {ns : List Int} (h : ns ≠ []) : Cm.W (ns.drop (ns.length - 1 - 0)) = (ns.getLast h, 1) := by
  have hl : 0 < ns.length := List.length_pos_iff.mpr h
  rw [Nat.sub_zero, List.drop_eq_getElem_cons (by omega), List.drop_eq_nil_of_le (by omega), Cm.W_one, List.getLast_eq_getElem]
/-- the fraction that quotients tell, as a new tuple -/
def sp_told_by (K : PySem.W.Frag) : Sp := fun vs H Q _ => ∃ (a : Addr) (ns : List Int), vs = [.ref a] ∧ SqL K H a (ns.map V.int) ∧ ns ≠ [] ∧ Sz ns ∧
  ∀ H' p, Same H H' → H p = none → H' p = some (.tup [.int (Cm.W ns).1, .int (Cm.W ns).2]) → Q (.ref p) H'
section
variable {P : Program} {w : World} {K : PySem.W.Frag} {mg : Str → Option Value} {base : Heap}
theorem cal_told_by (T : Txt K mg) (NS : base.NoSeer) (ht : P.given.tree = none) : Cal P w K mg base CX0 1 "told_by" (sp_told_by K) := by
  refine cal_ok T.d_told_by sc_told_by (fun vs H Q E h => ?_) (fun f cdv A outer s H vs Q E hr h => ?_)
  · obtain ⟨a, ns, rfl, _⟩ := h
    rfl
  · refine ⟨_, (pss_cons (ps_set (i := 1) sc_told_by.nd rfl (.inl rfl) (pe_ix (r := rIxL K) ix_list (pv 0) (pe_un un_neg pe_int) (fun _ _ => rfl)))
      (pss_cons (ps_set (i := 2) sc_told_by.nd rfl (.inl rfl) pe_int)
      (pss_cons (ps_for PassesOwn.never rfl (pi_reversed (by rfl) T.z_reversed (pa_cons (pe_slice sl_list (pv 0) po_none (po_some (pe_un un_neg pe_int))) pa_nil)) (pg_name (i := 3) sc_told_by.nd rfl (.inl rfl))
      (pss_cons (ps_set (i := 4) sc_told_by.nd rfl (.inl rfl) (pe_op op_add (pe_op op_mulX (pv 3) (pv 1)) (pv 2)))
      (pss_cons (ps_set (i := 2) sc_told_by.nd rfl (.inl rfl) (pv 1))
      (pss_one (ps_set (i := 1) sc_told_by.nd rfl (.inl rfl) (pv 4))))))
      (pss_one (ps_ret (pe_tup (pa_cons (pv 1) (pa_cons (pv 2) pa_nil)))))))), ?_⟩
    obtain ⟨a, ns, rfl, hS, hne, ⟨n, hn, hb, hw⟩, q⟩ := h
    have hl : 0 < ns.length := List.length_pos_iff.mpr hne
    refine ⟨_, rfl, 1, rfl, a, _, _, _, rfl, rfl, hS, atI_neg1 hne, ?_⟩
    refine ⟨_, rfl, 1, rfl, _, rfl, a, _, rfl, hS, fun c nc => ?_⟩
    (generalize hH_ : upd _ c _ = H1; have s1 := same_of hH_ nc; have ec := at_new hH_; clear hH_)
    rw [cut_neg1, ← List.map_dropLast] at ec
    refine ⟨c, _, rfl, sqL ec, for_rev (K := K) (a := c) (xs := ns.dropLast.map V.int) (fun i σ H' => ∃ v3 v4, σ = [some (.ref a), some (.int (Cm.W (ns.drop (ns.length - 1 - i))).1), some (.int (Cm.W (ns.drop (ns.length - 1 - i))).2), v3, v4] ∧ H' = H1)
      ⟨none, none, by rw [told_last hne]; rfl, rfl⟩ (fun i σ H' _ ⟨_, _, _, e⟩ => by rw [e]; exact sqL ec) ?_ ?_⟩
    · rintro i y σ H' hi hy ⟨v3, v4, rfl, rfl⟩
      rw [List.length_map, List.length_dropLast] at hi hy
      obtain ⟨z, hz, rfl⟩ := map_int_at hy
      rw [List.getElem?_dropLast, if_pos (by omega)] at hz
      have hz' : ns[ns.length - 2 - i]? = some z := by rw [← hz]; congr 1
      have hbz : Bd n z := hb z (List.mem_of_getElem? hz')
      have st := told_step (by omega) hz'
      refine ⟨_, rfl, _, rfl, _, _, rfl, rfl, mulOk hbz (hw _).1 (by omega), _, rfl, _, _, rfl, rfl, _, rfl, _, rfl, ?_⟩
      refine ⟨some (.int z), some (.int (z * (Cm.W (ns.drop (ns.length - 1 - i))).1 + (Cm.W (ns.drop (ns.length - 1 - i))).2)), ?_, rfl⟩
      rw [st]
      rfl
    · rintro σ H' ⟨v3, v4, rfl, rfl⟩
      refine ⟨_, rfl, _, rfl, (by show 2 ≤ sizeLine; decide), fun p np => ?_⟩
      (generalize hH_ : upd _ p _ = H2; have s2 := same_of hH_ np; have ep := at_new hH_; clear hH_)
      refine q _ p (s1.trans s2) (s1.free np) ?_
      rw [ep, List.length_map, List.length_dropLast, Nat.sub_self, List.drop_zero]
end
/-- Euclid's quotients, as a new list -/
def sp_quotients_of (K : PySem.W.Frag) : Sp := fun vs H Q _ => ∃ (t b : Int), vs = [.int t, .int b] ∧ 0 < b ∧ Bd 8999 b ∧
  ∀ H' p, Same H H' → H p = none → H' p = some (.lst ((Cm.euc t b).map V.int)) → Q (.ref p) H'
section
variable {P : Program} {w : World} {K : PySem.W.Frag} {mg : Str → Option Value} {base : Heap}
theorem cal_quotients_of (T : Txt K mg) (NS : base.NoSeer) (ht : P.given.tree = none) : Cal P w K mg base CX0 1 "quotients_of" (sp_quotients_of K) := by
  refine cal_ok T.d_quotients_of sc_quotients_of (fun vs H Q E h => ?_) (fun f cdv A outer s H vs Q E hr h => ?_)
  · obtain ⟨x, t, rfl, _⟩ := h
    rfl
  · refine ⟨_, (pss_cons (ps_set (i := 2) sc_quotients_of.nd rfl (.inl rfl) (pe_lst pa_nil))
      (pss_cons (ps_while PassesOwn.never (pt_mono (pt_cmpR op_gt (pv 1) pe_int (nomark _)))
      (pss_cons (ps_asg (pe_callB call_divmodP (by rfl) T.z_divmod (by decide +kernel) (pa_cons (pv 0) (pa_cons (pv 1) pa_nil))) (pg_tup rfl (pgs_cons (pg_name (i := 3) sc_quotients_of.nd rfl (.inl rfl)) (pgs_cons (pg_name (i := 4) sc_quotients_of.nd rfl (.inl rfl)) pgs_nil))))
      (pss_cons (ps_expr (pe_bm PySem.F.plainAttrs_list PySem.F.slot_list_append PySem.F.type_list_append mt_append (pv 2) (pa_cons (pv 3) pa_nil)))
      (pss_cons (ps_set (i := 0) sc_quotients_of.nd rfl (.inl rfl) (pv 1))
      (pss_one (ps_set (i := 1) sc_quotients_of.nd rfl (.inl rfl) (pv 4)))))))
      (pss_one (ps_ret (pv 2))))), ?_⟩
    obtain ⟨t, b, rfl, hb0, hb, q⟩ := h
    refine ⟨Nat.zero_le _, fun c nc => ?_⟩
    (generalize hH_ : upd _ c _ = H1; have s1 := same_of hH_ nc; have ec := at_new hH_; clear hH_)
    refine while_m (fun σ H' => ∃ (t' b' : Int) (done : List Int) (v3 v4 : Option V), σ = [some (.int t'), some (.int b'), some (.ref c), v3, v4] ∧ Same H H' ∧ H' c = some (.lst (done.map V.int)) ∧ Cm.euc t b = done ++ Cm.euc t' b' ∧ Bd 8999 b' ∧ 0 ≤ b')
      (fun σ _ => match σ with | [_, some (.int b'), _, _, _] => b'.toNat | _ => 0) ⟨t, b, [], none, none, rfl, s1, ec, rfl, hb, by omega⟩ ?_
    · rintro σ H' ⟨t', b', done, v3, v4, rfl, sH, eD, ee, hb', h0⟩
      refine ⟨_, rfl, _, _, rfl, rfl, _, rfl, ite2 (fun c1 => ?_) (fun c1 => ?_)⟩
      · have hp : 0 < b' := of_decide_eq_true c1
        have r0 := Int.emod_nonneg t' (show b' ≠ 0 by omega)
        have r1 := Int.emod_lt_of_pos t' hp
        have hlen := euc_len' (t := t) hb
        rw [ee, List.length_append, Cm.euc_pos hp, List.length_cons] at hlen
        refine ⟨_, rfl, _, rfl, _, _, rfl, divOk hp hb' (by decide) (by decide), fun p np => ?_⟩
        (generalize hH_ : upd _ p _ = H2; have s2 := same_of hH_ np; have ep := at_new hH_; clear hH_)
        have ec2 : H2 c = some (.lst (done.map V.int)) := s2 _ _ eD
        refine ⟨p, _, rfl, sqT ep, rfl, _, _, rfl, _, _, rfl, rfl, ?_⟩
        refine ⟨_, rfl, .inl ⟨rfl, _, sqL ec2⟩, _, rfl, c, _, _, rfl, rfl, ec2, ?_, ?_⟩
        · rw [List.length_map]
          exact Nat.lt_of_le_of_lt (show done.length ≤ 18000 by omega) (by decide)
        · refine ⟨_, rfl, _, rfl, ⟨b', t' % b', done ++ [t' / b'], _, _, rfl, same_mut (sH.trans s2) nc, ?_, ?_, Bd.of_le r0 (Int.le_of_lt r1) hb', r0⟩, ?_⟩
          · rw [upd_same, List.map_append]
            rfl
          · rw [ee, Cm.euc_pos hp, List.append_assoc]
            rfl
          · show (t' % b').toNat < b'.toNat
            omega
      · have hp : ¬ 0 < b' := fun z => c1 (decide_eq_true z)
        rw [Cm.euc_zero hp, List.append_nil] at ee
        rw [← ee] at eD
        exact ⟨_, rfl, q _ c sH nc eD⟩
end
def sp_need_word (K : PySem.W.Frag) : Sp := fun vs H Q _ => ∃ (x : Str), vs = [.str x] ∧ x ∈ words ∧ ∀ H', Same H H' → Q .non H'
section
variable {P : Program} {w : World} {K : PySem.W.Frag} {mg : Str → Option Value} {base : Heap}
theorem cal_need_word (T : Txt K mg) (NS : base.NoSeer) (ht : P.given.tree = none) : Cal P w K mg base CX0 1 "need_word" (sp_need_word K) := by
  obtain ⟨pWORDS, gWORDS, tWORDS⟩ := T.c_WORDS.ex
  refine cal_ok T.d_need_word sc_need_word (fun vs H Q E h => ?_) (fun f cdv A outer s H vs Q E hr h => ?_)
  · obtain ⟨x, rfl, _⟩ := h
    rfl
  · refine ⟨_, (pss_one (ps_if (PW.pt (pw_or (pt_not (pt_val (pe_callB (r := rIsi K) (id := "isinstance") call_isi (by rfl) T.z_isinstance (by decide +kernel) (pa_cons (pv 0) (pa_cons (pe_bltn (v := .ty "str") (u := .type "str") (by rfl) T.z_str (by decide +kernel) rfl) pa_nil))))) (pw_or1 (pt_cmpR op_notIn_seq (pv 0) (pe_glob (v := .ref pWORDS) (by rfl) gWORDS rfl) (by rfl))))) (pss_one ps_never) pss_nil)), ?_⟩
    obtain ⟨x, rfl, hx, q⟩ := h
    have hi : inV (.str x) [.str "plus", .str "less", .str "times", .str "over"] = true := by
      unfold words at hx
      rcases List.mem_cons.mp hx with rfl | hx
      · decide
      rcases List.mem_cons.mp hx with rfl | hx
      · decide
      rcases List.mem_cons.mp hx with rfl | hx
      · decide
      rcases List.mem_cons.mp hx with rfl | hx
      · decide
      cases hx
    refine ⟨_, rfl, _, _, _, _, _, rfl, .ty _, (ty_str x), kit_ty (kit_tys (by decide) _ (by decide)), _, rfl, iteF ⟨_, rfl, pWORDS, _, rfl, .inr (tWORDS _), rfl, by decide, _, rfl, ?_⟩⟩
    rw [hi]
    exact iteF (q _ (Same.refl _))
end
/-- the word's fraction of two, as a new tuple -/
def sp_worth (K : PySem.W.Frag) : Sp := fun vs H Q _ => ∃ (x : Str) (a b : Addr) (f g : Int × Int), vs = [.str x, .ref a, .ref b] ∧ HPr K H a f ∧ HPr K H b g ∧ BdF 60000000 f ∧ BdF 60000000 g ∧
  ∀ H' p, Same H H' → H p = none → H' p = some (.tup [.int (doneV x f g).1, .int (doneV x f g).2]) → Q (.ref p) H'
section
variable {P : Program} {w : World} {K : PySem.W.Frag} {mg : Str → Option Value} {base : Heap}
theorem cal_worth (T : Txt K mg) (NS : base.NoSeer) (ht : P.given.tree = none) : Cal P w K mg base CX0 1 "worth" (sp_worth K) := by
  refine cal_ok T.d_worth sc_worth (fun vs H Q E h => ?_) (fun f cdv A outer s H vs Q E hr h => ?_)
  · obtain ⟨x, a, b, f, g, rfl, _⟩ := h
    rfl
  · refine ⟨_, (pss_cons (ps_if (pt_cmpR op_eq (pv 0) pe_str (nomark _)) (pss_one (ps_ret (pe_tup (pa_cons (pe_op op_add (pe_op op_mulX (pe_ix (r := rIxT K) ix_tup (pv 1) pe_int (fun _ _ => rfl)) (pe_ix (r := rIxT K) ix_tup (pv 2) pe_int (fun _ _ => rfl))) (pe_op op_mulX (pe_ix (r := rIxT K) ix_tup (pv 2) pe_int (fun _ _ => rfl)) (pe_ix (r := rIxT K) ix_tup (pv 1) pe_int (fun _ _ => rfl)))) (pa_cons (pe_op op_mulX (pe_ix (r := rIxT K) ix_tup (pv 1) pe_int (fun _ _ => rfl)) (pe_ix (r := rIxT K) ix_tup (pv 2) pe_int (fun _ _ => rfl))) pa_nil))))) pss_nil)
      (pss_cons (ps_if (pt_cmpR op_eq (pv 0) pe_str (nomark _)) (pss_one (ps_ret (pe_tup (pa_cons (pe_op op_sub (pe_op op_mulX (pe_ix (r := rIxT K) ix_tup (pv 1) pe_int (fun _ _ => rfl)) (pe_ix (r := rIxT K) ix_tup (pv 2) pe_int (fun _ _ => rfl))) (pe_op op_mulX (pe_ix (r := rIxT K) ix_tup (pv 2) pe_int (fun _ _ => rfl)) (pe_ix (r := rIxT K) ix_tup (pv 1) pe_int (fun _ _ => rfl)))) (pa_cons (pe_op op_mulX (pe_ix (r := rIxT K) ix_tup (pv 1) pe_int (fun _ _ => rfl)) (pe_ix (r := rIxT K) ix_tup (pv 2) pe_int (fun _ _ => rfl))) pa_nil))))) pss_nil)
      (pss_cons (ps_if (pt_cmpR op_eq (pv 0) pe_str (nomark _)) (pss_one (ps_ret (pe_tup (pa_cons (pe_op op_mulX (pe_ix (r := rIxT K) ix_tup (pv 1) pe_int (fun _ _ => rfl)) (pe_ix (r := rIxT K) ix_tup (pv 2) pe_int (fun _ _ => rfl))) (pa_cons (pe_op op_mulX (pe_ix (r := rIxT K) ix_tup (pv 1) pe_int (fun _ _ => rfl)) (pe_ix (r := rIxT K) ix_tup (pv 2) pe_int (fun _ _ => rfl))) pa_nil))))) pss_nil)
      (pss_one (ps_ret (pe_tup (pa_cons (pe_op op_mulX (pe_ix (r := rIxT K) ix_tup (pv 1) pe_int (fun _ _ => rfl)) (pe_ix (r := rIxT K) ix_tup (pv 2) pe_int (fun _ _ => rfl))) (pa_cons (pe_op op_mulX (pe_ix (r := rIxT K) ix_tup (pv 1) pe_int (fun _ _ => rfl)) (pe_ix (r := rIxT K) ix_tup (pv 2) pe_int (fun _ _ => rfl))) pa_nil)))))))), ?_⟩
    obtain ⟨x, a, b, f, g, rfl, hA, hB, bf, bg, q⟩ := h
    have a0 := pr_at0 hA
    have a1 := pr_at1 hA
    have b0 := pr_at0 hB
    have b1 := pr_at1 hB
    have m12 : IntMulOk f.1 g.2 := mulOk bf.top bg.bot (by decide)
    have m21 : IntMulOk g.1 f.2 := mulOk bg.top bf.bot (by decide)
    have m22 : IntMulOk f.2 g.2 := mulOk bf.bot bg.bot (by decide)
    have m11 : IntMulOk f.1 g.1 := mulOk bf.top bg.top (by decide)
    have m2t : IntMulOk f.2 g.1 := mulOk bf.bot bg.top (by decide)
    refine ⟨_, rfl, rfl, _, rfl, ite2 (fun c => ?_) (fun c => ?_)⟩
    · have c' : x = "plus" := V.str.inj (of_decide_eq_true c)
      have e : doneV x f g = (f.1 * g.2 + g.1 * f.2, f.2 * g.2) := by unfold doneV; rw [if_pos c']
      rw [e] at q
      refine ⟨_, rfl, a, _, _, _, rfl, rfl, hA, a0, _, rfl, b, _, _, _, rfl, rfl, hB, b1, _, _, rfl, rfl, m12, _, rfl, b, _, _, _, rfl, rfl, hB, b0, _, rfl, a, _, _, _, rfl, rfl, hA, a1, _, _, rfl, rfl, m21, _, _, rfl, rfl, ?_⟩
      refine ⟨_, rfl, a, _, _, _, rfl, rfl, hA, a1, _, rfl, b, _, _, _, rfl, rfl, hB, b1, _, _, rfl, rfl, m22, by show 2 ≤ sizeLine; decide, fun p np => ?_⟩
      (generalize hH_ : upd _ p _ = H2; have s2 := same_of hH_ np; have ep := at_new hH_; clear hH_)
      exact q _ p s2 np ep
    refine ⟨_, rfl, rfl, _, rfl, ite2 (fun c2 => ?_) (fun c2 => ?_)⟩
    · have c' : x = "less" := V.str.inj (of_decide_eq_true c2)
      have e : doneV x f g = (f.1 * g.2 - g.1 * f.2, f.2 * g.2) := by unfold doneV; rw [if_neg (fun z => c (decide_eq_true (by rw [z]))), if_pos c']
      rw [e] at q
      refine ⟨_, rfl, a, _, _, _, rfl, rfl, hA, a0, _, rfl, b, _, _, _, rfl, rfl, hB, b1, _, _, rfl, rfl, m12, _, rfl, b, _, _, _, rfl, rfl, hB, b0, _, rfl, a, _, _, _, rfl, rfl, hA, a1, _, _, rfl, rfl, m21, _, _, rfl, rfl, ?_⟩
      refine ⟨_, rfl, a, _, _, _, rfl, rfl, hA, a1, _, rfl, b, _, _, _, rfl, rfl, hB, b1, _, _, rfl, rfl, m22, by show 2 ≤ sizeLine; decide, fun p np => ?_⟩
      (generalize hH_ : upd _ p _ = H2; have s2 := same_of hH_ np; have ep := at_new hH_; clear hH_)
      exact q _ p s2 np ep
    refine ⟨_, rfl, rfl, _, rfl, ite2 (fun c3 => ?_) (fun c3 => ?_)⟩
    · have c' : x = "times" := V.str.inj (of_decide_eq_true c3)
      have e : doneV x f g = (f.1 * g.1, f.2 * g.2) := by unfold doneV; rw [if_neg (fun z => c (decide_eq_true (by rw [z]))), if_neg (fun z => c2 (decide_eq_true (by rw [z]))), if_pos c']
      rw [e] at q
      refine ⟨_, rfl, a, _, _, _, rfl, rfl, hA, a0, _, rfl, b, _, _, _, rfl, rfl, hB, b0, _, _, rfl, rfl, m11, ?_⟩
      refine ⟨_, rfl, a, _, _, _, rfl, rfl, hA, a1, _, rfl, b, _, _, _, rfl, rfl, hB, b1, _, _, rfl, rfl, m22, by show 2 ≤ sizeLine; decide, fun p np => ?_⟩
      (generalize hH_ : upd _ p _ = H2; have s2 := same_of hH_ np; have ep := at_new hH_; clear hH_)
      exact q _ p s2 np ep
    · have e : doneV x f g = (f.1 * g.2, f.2 * g.1) := by unfold doneV; rw [if_neg (fun z => c (decide_eq_true (by rw [z]))), if_neg (fun z => c2 (decide_eq_true (by rw [z]))), if_neg (fun z => c3 (decide_eq_true (by rw [z])))]
      rw [e] at q
      refine ⟨_, rfl, a, _, _, _, rfl, rfl, hA, a0, _, rfl, b, _, _, _, rfl, rfl, hB, b1, _, _, rfl, rfl, m12, ?_⟩
      refine ⟨_, rfl, a, _, _, _, rfl, rfl, hA, a1, _, rfl, b, _, _, _, rfl, rfl, hB, b0, _, _, rfl, rfl, m2t, by show 2 ≤ sizeLine; decide, fun p np => ?_⟩
      (generalize hH_ : upd _ p _ = H2; have s2 := same_of hH_ np; have ep := at_new hH_; clear hH_)
      exact q _ p s2 np ep
end
def sp_sure_between (K : PySem.W.Frag) : Sp := fun vs H Q _ => ∃ (p : Addr) (lv hv : V) (lo hi : Option (Int × Int)) (isL isH : Bool), vs = [.ref p] ∧ SqT K H p [lv, .bl isL, hv, .bl isH] ∧ HHi K H lv lo ∧ HHi K H hv hi ∧ (∀ l h, lo = some l → hi = some h → SbOk l h) ∧
  ∀ H' c, Same H H' → H c = none → H' c = some (.lst ((sureO lo hi isL isH).map V.int)) → (sureO lo hi isL isH).length ≤ 18000 → Q (.ref c) H'
section
variable {P : Program} {w : World} {K : PySem.W.Frag} {mg : Str → Option Value} {base : Heap}
theorem cal_sure_between (T : Txt K mg) (NS : base.NoSeer) (ht : P.given.tree = none) : Cal P w K mg base CX0 1 "sure_between" (sp_sure_between K) := by
  refine cal_ok T.d_sure_between sc_sure_between (fun vs H Q E h => ?_) (fun f cdv A outer s H vs Q E hr h => ?_)
  · obtain ⟨p, lv, hv, lo, hi, isL, isH, rfl, _⟩ := h
    rfl
  · refine ⟨_, (pss_cons (ps_asg (pv 0) (pg_tup rfl (pgs_cons (pg_name (i := 1) sc_sure_between.nd rfl (.inl rfl)) (pgs_cons (pg_name (i := 2) sc_sure_between.nd rfl (.inl rfl)) (pgs_cons (pg_name (i := 3) sc_sure_between.nd rfl (.inl rfl)) (pgs_cons (pg_name (i := 4) sc_sure_between.nd rfl (.inl rfl)) pgs_nil))))))
      (pss_cons (ps_set (i := 5) sc_sure_between.nd rfl (.inl rfl) (pe_lst pa_nil))
      (pss_cons (ps_while PassesOwn.never (pt_mono (PW.pt (pw_and (pt_cmpR op_notN (pv 1) pe_non (nomark _)) (pw_and1 (pt_cmpR op_notN (pv 3) pe_non (nomark _))))))
      (pss_cons (ps_set (i := 6) sc_sure_between.nd rfl (.inl rfl) (pe_op op_fdivP (pe_ix (r := rIxT K) ix_tup (pv 1) pe_int (fun _ _ => rfl)) (pe_ix (r := rIxT K) ix_tup (pv 1) pe_int (fun _ _ => rfl))))
      (pss_cons (ps_set (i := 7) sc_sure_between.nd rfl (.inl rfl) (pe_op op_sub (pe_ix (r := rIxT K) ix_tup (pv 3) pe_int (fun _ _ => rfl)) (pe_op op_mulX (pe_op op_add (pv 6) pe_int) (pe_ix (r := rIxT K) ix_tup (pv 3) pe_int (fun _ _ => rfl)))))
      (pss_cons (ps_if (PW.pt (pw_or (pt_cmpR op_gt (pv 7) pe_int (nomark _)) (pw_or1 (PW.pt (pw_and (pt_cmpR op_eq (pv 7) pe_int (nomark _)) (pw_and1 (pt_truth (pv 4) (by intro _; rfl)))))))) (pss_one (ps_ret (pv 5))) pss_nil)
      (pss_cons (ps_expr (pe_bm PySem.F.plainAttrs_list PySem.F.slot_list_append PySem.F.type_list_append mt_append (pv 5) (pa_cons (pv 6) pa_nil)))
      (pss_cons (ps_set (i := 8) sc_sure_between.nd rfl (.inl rfl) (pe_op op_sub (pe_ix (r := rIxT K) ix_tup (pv 1) pe_int (fun _ _ => rfl)) (pe_op op_mulX (pv 6) (pe_ix (r := rIxT K) ix_tup (pv 1) pe_int (fun _ _ => rfl)))))
      (pss_cons (ps_set (i := 9) sc_sure_between.nd rfl (.inl rfl) (pe_tup (pa_cons (pe_ix (r := rIxT K) ix_tup (pv 3) pe_int (fun _ _ => rfl)) (pa_cons (pe_op op_sub (pe_ix (r := rIxT K) ix_tup (pv 3) pe_int (fun _ _ => rfl)) (pe_op op_mulX (pv 6) (pe_ix (r := rIxT K) ix_tup (pv 3) pe_int (fun _ _ => rfl)))) pa_nil))))
      (pss_cons (ps_set (i := 3) sc_sure_between.nd rfl (.inl rfl) (pe_ifExp (pt_cmpR op_eq (pv 8) pe_int (nomark _)) pe_non (pe_tup (pa_cons (pe_ix (r := rIxT K) ix_tup (pv 1) pe_int (fun _ _ => rfl)) (pa_cons (pv 8) pa_nil)))))
      (pss_cons (ps_set (i := 1) sc_sure_between.nd rfl (.inl rfl) (pv 9))
      (pss_one (ps_par (i := 2) (j := 4) (by rfl) sc_sure_between.nd rfl rfl (by decide) rfl rfl (pa_cons (pv 4) (pa_cons (pv 2) pa_nil)) (by rfl))))))))))))
      (pss_one (ps_ret (pv 5)))))), ?_⟩
    obtain ⟨p, lv, hv, lo, hi, isL, isH, rfl, hT, hl, hh, ok, k⟩ := h
    have tl : (sureO lo hi isL isH).length ≤ 18000 := by
      cases lo with
      | none => exact Nat.zero_le _
      | some l =>
        cases hi with
        | none => exact Nat.zero_le _
        | some h =>
          have o := ok l h rfl rfl
          exact sureB_len o.l2 (by have := o.h2; omega) o.D o.b2 o.b4
    replace k := fun H' c a b d => k H' c a b d tl
    refine ⟨_, rfl, p, _, rfl, hT, rfl, _, _, rfl, _, _, rfl, _, _, rfl, _, _, rfl, rfl, ?_⟩
    refine ⟨Nat.zero_le _, fun c nc => ?_⟩
    (generalize hH_ : upd _ c _ = H1; have s1 := same_of hH_ nc; have ec := at_new hH_; clear hH_)
    generalize hN : sureO lo hi isL isH = told at *
    refine while_m (fun σ H' => ∃ (lv hv : V) (isL isH : Bool) (done : List Int) (v6 v7 v8 v9 : Option V), σ = [some (.ref p), some lv, some (.bl isL), some hv, some (.bl isH), some (.ref c), v6, v7, v8, v9] ∧ Same H H' ∧ H' c = some (.lst (done.map V.int)) ∧
        (((lv = .non ∨ hv = .non) ∧ (lv = .non ∨ ∃ a, lv = .ref a) ∧ done = told) ∨ ∃ (a b : Addr) (l h : Int × Int), lv = .ref a ∧ hv = .ref b ∧ HPr K H' a l ∧ HPr K H' b h ∧ SbOk l h ∧ done ++ Cm.sureB l.1 l.2 h.1 h.2 isL isH = told))
      (fun _ H' => match H' c with | some (.lst xs) => told.length - xs.length | _ => 0) ⟨lv, hv, isL, isH, [], none, none, none, none, rfl, s1, ec, ?_⟩ ?_
    · cases lo with
      | none => exact .inl ⟨.inl hl, .inl hl, hN⟩
      | some l =>
        obtain ⟨a, rfl, hA⟩ := hl
        cases hi with
        | none => exact .inl ⟨.inr hh, .inr ⟨a, rfl⟩, hN⟩
        | some h =>
          obtain ⟨b, rfl, hB⟩ := hh
          exact .inr ⟨a, b, l, h, rfl, rfl, same_t s1 hA, same_t s1 hB, ok l h rfl rfl, hN⟩
    · rintro σ H2 ⟨lv, hv, isL, isH, done, v6, v7, v8, v9, rfl, s2, ed, hcase⟩
      rcases hcase with ⟨h1, h2, rfl⟩ | ⟨a, b, l, h, rfl, rfl, hA, hB, o, et⟩
      · refine ⟨_, rfl, rfl, _, rfl, ?_⟩
        rcases h2 with rfl | ⟨a, rfl⟩
        · refine iteF ?_
          exact ⟨_, rfl, k _ c s2 nc ed⟩
        · have hv0 : hv = .non := h1.resolve_left (by intro z; cases z)
          subst hv0
          refine iteT ⟨_, rfl, rfl, _, rfl, iteF ?_⟩
          exact ⟨_, rfl, k _ c s2 nc ed⟩
      · obtain ⟨ln, ld⟩ := l
        obtain ⟨hn, hd⟩ := h
        have l2 : 0 < ld := o.l2
        have h2 : 0 < hd := o.h2
        have D : 0 < hn * ld - ln * hd := o.D
        have b1 : Bd 20000 ln := o.b1
        have b2 : Bd 8998 ld := o.b2
        have b3 : Bd 20000 hn := o.b3
        have b4 : Bd 8998 hd := o.b4
        refine ⟨_, rfl, rfl, _, rfl, iteT ⟨_, rfl, rfl, _, rfl, iteT ?_⟩⟩
        refine ⟨_, rfl, a, _, 0, _, rfl, rfl, hA, pr_at0 hA, _, rfl, a, _, 1, _, rfl, rfl, hA, pr_at1 hA, _, _, rfl, rfl, divOk l2 b2 (by decide) (by decide), ?_⟩
        have bq : Bd 20000 (ln / ld) := Nat.lt_of_le_of_lt (Int.natAbs_ediv_le_natAbs ln ld) b1
        have hdiv := Int.mul_ediv_add_emod ln ld
        have r0 := Int.emod_nonneg ln (show ld ≠ 0 by omega)
        have r1 := Int.emod_lt_of_pos ln l2
        have st := @Cm.sureB_step ln ld hn hd isL isH l2 h2
        have sp := @Cm.sureB_stop ln ld hn hd isL isH
        dsimp only at et
        dsimp only
        generalize ln / ld = q at *
        generalize ln % ld = r at *
        refine ⟨_, rfl, b, _, 0, _, rfl, rfl, hB, pr_at0 hB, _, rfl, _, _, rfl, rfl, _, rfl, b, _, 1, _, rfl, rfl, hB, pr_at1 hB, _, _, rfl, rfl, mulOk (bq.add (Bd.one (by decide))) b4 (by decide), _, _, rfl, rfl, ?_⟩
        have stopped : (0 < hn - (q + 1) * hd ∨ (hn - (q + 1) * hd = 0 ∧ isH = true)) → done = told := fun z => by
          rw [sp (fun w => w.2.2 z), List.append_nil] at et
          exact et
        refine ⟨_, rfl, _, _, rfl, rfl, _, rfl, ite2 (fun c1 => ?_) (fun c1 => ?_)⟩
        · rw [stopped (.inl (of_decide_eq_true c1))] at ed
          exact iteT ⟨_, rfl, k _ c s2 nc ed⟩
        refine ⟨_, rfl, rfl, _, rfl, ite2 (fun c2 => ?_) (fun c2 => ?_)⟩
        · have c2' : hn - (q + 1) * hd = 0 := V.int.inj (of_decide_eq_true c2)
          refine ⟨_, rfl, _, rfl, ?_⟩
          cases isH with
          | true =>
            rw [stopped (.inr ⟨c2', rfl⟩)] at ed
            exact iteT ⟨_, rfl, k _ c s2 nc ed⟩
          | false =>
            refine iteF ?_
            have hns : ¬ (0 < hn - (q + 1) * hd ∨ (hn - (q + 1) * hd = 0 ∧ false = true)) := fun z => by
              rcases z with z | z
              · omega
              · cases z.2
            rw [st hns] at et
            have x1 : (q + 1) * hd = q * hd + hd := by grind
            have x2 : q * ld = ld * q := Int.mul_comm _ _
            have x3 : ¬ 0 < hn - (q + 1) * hd := fun z => hns (.inl z)
            have er : ln - q * ld = r := by omega
            have n1 : 0 < hn - q * hd := by
              rcases Int.lt_or_le 0 (hn - q * hd) with w | w
              · exact w
              · have w1 := Int.mul_le_mul_of_nonneg_right w (show 0 ≤ ld by omega)
                have w2 := Int.mul_nonneg r0 (show 0 ≤ hd by omega)
                have w3 : hn * ld - ln * hd = (hn - q * hd) * ld - r * hd := by rw [← er]; grind
                omega
            have n2 : hn - q * hd ≤ hd := by omega
            have D2 : 0 < ld * (hn - q * hd) - hd * (ln - q * ld) := by
              have : ld * (hn - q * hd) - hd * (ln - q * ld) = hn * ld - ln * hd := by grind
              omega
            have lt : done.length + 1 ≤ told.length := by
              rw [← et, List.length_append, List.length_cons]
              omega
            have bn : Bd 8998 (hn - q * hd) := Bd.of_le (by omega) n2 b4
            have br : Bd 8998 r := Bd.of_le r0 (by omega) b2
            refine ⟨_, rfl, .inl ⟨rfl, _, sqL ed⟩, _, rfl, c, _, _, rfl, rfl, ed, ?_, ?_⟩
            · rw [List.length_map]
              exact Nat.lt_of_le_of_lt (show done.length ≤ 18000 by omega) (by decide)
            generalize hH3 : upd H2 c _ = H3
            have hA3 : HPr K H3 a (ln, ld) := hH3 ▸ sqT_upd hA ed
            have hB3 : HPr K H3 b (hn, hd) := hH3 ▸ sqT_upd hB ed
            have s3 : Same H H3 := same_mut_of hH3 s2 nc
            have e3 := at_new hH3
            clear hH3
            refine ⟨_, rfl, a, _, 0, _, rfl, rfl, hA3, pr_at0 hA3, _, rfl, _, rfl, a, _, 1, _, rfl, rfl, hA3, pr_at1 hA3, _, _, rfl, rfl, mulOk bq b2 (by decide), _, _, rfl, rfl, ?_⟩
            refine ⟨_, rfl, b, _, 1, _, rfl, rfl, hB3, pr_at1 hB3, _, rfl, b, _, 0, _, rfl, rfl, hB3, pr_at0 hB3, _, rfl, _, rfl, b, _, 1, _, rfl, rfl, hB3, pr_at1 hB3, _, _, rfl, rfl, mulOk bq b4 (by decide), _, _, rfl, rfl, by show 2 ≤ sizeLine; decide, fun f nf => ?_⟩
            (generalize hH_ : upd _ f _ = H4; have s4 := same_of hH_ nf; have ef := at_new hH_; clear hH_)
            have hF : HPr K H4 f (hd, hn - q * hd) := sqT ef
            have e4 := s4 _ _ e3
            replace e4 : H4 c = some (.lst ((done ++ [q]).map V.int)) := by rw [e4, List.map_append]; rfl
            refine ⟨_, rfl, rfl, _, rfl, ite2 (fun c3 => ?_) (fun c3 => ?_)⟩
            · have z0 : ln - q * ld = 0 := V.int.inj (of_decide_eq_true c3)
              refine ⟨_, rfl, _, rfl, _, rfl, _, _, rfl, ⟨.ref f, .non, _, _, done ++ [q], _, _, _, _, rfl, s3.trans s4, e4, .inl ⟨.inr rfl, .inr ⟨f, rfl⟩, ?_⟩⟩, ?_⟩
              · rw [← et, z0, sureB_hd0]
              · show (match H4 c with | some (.lst xs) => told.length - xs.length | _ => 0) < (match H2 c with | some (.lst xs) => told.length - xs.length | _ => 0)
                rw [e4, ed]
                show told.length - ((done ++ [q]).map V.int).length < told.length - (done.map V.int).length
                rw [List.length_map, List.length_map, List.length_append, List.length_singleton]
                omega
            · have z0 : ln - q * ld ≠ 0 := fun z => c3 (decide_eq_true (congrArg V.int z))
              refine ⟨_, rfl, a, _, 1, _, rfl, rfl, same_t s4 hA3, pr_at1 hA3, _, rfl, by show 2 ≤ sizeLine; decide, fun g ng => ?_⟩
              (generalize hH_ : upd _ g _ = H5; have s5 := same_of hH_ ng; have eg := at_new hH_; clear hH_)
              have e5 := s5 _ _ e4
              refine ⟨_, rfl, _, rfl, _, rfl, _, _, rfl, ⟨.ref f, .ref g, _, _, done ++ [q], _, _, _, _, rfl, (s3.trans s4).trans s5, e5, .inr ⟨f, g, (hd, hn - q * hd), (ld, ln - q * ld), rfl, rfl, same_t s5 hF, sqT eg, ⟨n1, by show 0 < ln - q * ld; omega, D2, b4.mono (by decide), bn, b2.mono (by decide), by show Bd 8998 (ln - q * ld); rw [er]; exact br⟩, ?_⟩⟩, ?_⟩
              · rw [← et, List.append_assoc]
                rfl
              · show (match H5 c with | some (.lst xs) => told.length - xs.length | _ => 0) < (match H2 c with | some (.lst xs) => told.length - xs.length | _ => 0)
                rw [e5, ed]
                show told.length - ((done ++ [q]).map V.int).length < told.length - (done.map V.int).length
                rw [List.length_map, List.length_map, List.length_append, List.length_singleton]
                omega
        · refine iteF ?_
          have hns : ¬ (0 < hn - (q + 1) * hd ∨ (hn - (q + 1) * hd = 0 ∧ isH = true)) := fun z => by
            rcases z with z | z
            · exact c1 (decide_eq_true z)
            · exact c2 (decide_eq_true (congrArg V.int z.1))
          rw [st hns] at et
          have x1 : (q + 1) * hd = q * hd + hd := by grind
          have x2 : q * ld = ld * q := Int.mul_comm _ _
          have x3 : ¬ 0 < hn - (q + 1) * hd := fun z => hns (.inl z)
          have er : ln - q * ld = r := by omega
          have n1 : 0 < hn - q * hd := by
            rcases Int.lt_or_le 0 (hn - q * hd) with w | w
            · exact w
            · have w1 := Int.mul_le_mul_of_nonneg_right w (show 0 ≤ ld by omega)
              have w2 := Int.mul_nonneg r0 (show 0 ≤ hd by omega)
              have w3 : hn * ld - ln * hd = (hn - q * hd) * ld - r * hd := by rw [← er]; grind
              omega
          have n2 : hn - q * hd ≤ hd := by omega
          have D2 : 0 < ld * (hn - q * hd) - hd * (ln - q * ld) := by
            have : ld * (hn - q * hd) - hd * (ln - q * ld) = hn * ld - ln * hd := by grind
            omega
          have lt : done.length + 1 ≤ told.length := by
            rw [← et, List.length_append, List.length_cons]
            omega
          have bn : Bd 8998 (hn - q * hd) := Bd.of_le (by omega) n2 b4
          have br : Bd 8998 r := Bd.of_le r0 (by omega) b2
          refine ⟨_, rfl, .inl ⟨rfl, _, sqL ed⟩, _, rfl, c, _, _, rfl, rfl, ed, ?_, ?_⟩
          · rw [List.length_map]
            exact Nat.lt_of_le_of_lt (show done.length ≤ 18000 by omega) (by decide)
          generalize hH3 : upd H2 c _ = H3
          have hA3 : HPr K H3 a (ln, ld) := hH3 ▸ sqT_upd hA ed
          have hB3 : HPr K H3 b (hn, hd) := hH3 ▸ sqT_upd hB ed
          have s3 : Same H H3 := same_mut_of hH3 s2 nc
          have e3 := at_new hH3
          clear hH3
          refine ⟨_, rfl, a, _, 0, _, rfl, rfl, hA3, pr_at0 hA3, _, rfl, _, rfl, a, _, 1, _, rfl, rfl, hA3, pr_at1 hA3, _, _, rfl, rfl, mulOk bq b2 (by decide), _, _, rfl, rfl, ?_⟩
          refine ⟨_, rfl, b, _, 1, _, rfl, rfl, hB3, pr_at1 hB3, _, rfl, b, _, 0, _, rfl, rfl, hB3, pr_at0 hB3, _, rfl, _, rfl, b, _, 1, _, rfl, rfl, hB3, pr_at1 hB3, _, _, rfl, rfl, mulOk bq b4 (by decide), _, _, rfl, rfl, by show 2 ≤ sizeLine; decide, fun f nf => ?_⟩
          (generalize hH_ : upd _ f _ = H4; have s4 := same_of hH_ nf; have ef := at_new hH_; clear hH_)
          have hF : HPr K H4 f (hd, hn - q * hd) := sqT ef
          have e4 := s4 _ _ e3
          replace e4 : H4 c = some (.lst ((done ++ [q]).map V.int)) := by rw [e4, List.map_append]; rfl
          refine ⟨_, rfl, rfl, _, rfl, ite2 (fun c3 => ?_) (fun c3 => ?_)⟩
          · have z0 : ln - q * ld = 0 := V.int.inj (of_decide_eq_true c3)
            refine ⟨_, rfl, _, rfl, _, rfl, _, _, rfl, ⟨.ref f, .non, _, _, done ++ [q], _, _, _, _, rfl, s3.trans s4, e4, .inl ⟨.inr rfl, .inr ⟨f, rfl⟩, ?_⟩⟩, ?_⟩
            · rw [← et, z0, sureB_hd0]
            · show (match H4 c with | some (.lst xs) => told.length - xs.length | _ => 0) < (match H2 c with | some (.lst xs) => told.length - xs.length | _ => 0)
              rw [e4, ed]
              show told.length - ((done ++ [q]).map V.int).length < told.length - (done.map V.int).length
              rw [List.length_map, List.length_map, List.length_append, List.length_singleton]
              omega
          · have z0 : ln - q * ld ≠ 0 := fun z => c3 (decide_eq_true (congrArg V.int z))
            refine ⟨_, rfl, a, _, 1, _, rfl, rfl, same_t s4 hA3, pr_at1 hA3, _, rfl, by show 2 ≤ sizeLine; decide, fun g ng => ?_⟩
            (generalize hH_ : upd _ g _ = H5; have s5 := same_of hH_ ng; have eg := at_new hH_; clear hH_)
            have e5 := s5 _ _ e4
            refine ⟨_, rfl, _, rfl, _, rfl, _, _, rfl, ⟨.ref f, .ref g, _, _, done ++ [q], _, _, _, _, rfl, (s3.trans s4).trans s5, e5, .inr ⟨f, g, (hd, hn - q * hd), (ld, ln - q * ld), rfl, rfl, same_t s5 hF, sqT eg, ⟨n1, by show 0 < ln - q * ld; omega, D2, b4.mono (by decide), bn, b2.mono (by decide), by show Bd 8998 (ln - q * ld); rw [er]; exact br⟩, ?_⟩⟩, ?_⟩
            · rw [← et, List.append_assoc]
              rfl
            · show (match H5 c with | some (.lst xs) => told.length - xs.length | _ => 0) < (match H2 c with | some (.lst xs) => told.length - xs.length | _ => 0)
              rw [e5, ed]
              show told.length - ((done ++ [q]).map V.int).length < told.length - (done.map V.int).length
              rw [List.length_map, List.length_map, List.length_append, List.length_singleton]
              omega
end
def sp_l_mixed (K : PySem.W.Frag) : Sp := fun vs H Q _ => ∃ (c k : Int), vs = [.int c, .int k] ∧ Q (.int (mixed c k)) H
section
variable {P : Program} {w : World} {K : PySem.W.Frag} {mg : Str → Option Value} {base : Heap}
theorem cal_l_mixed (T : Txt K mg) (NS : base.NoSeer) (ht : P.given.tree = none) : Cal P w K mg base CX0 1 "_law_mixed" (sp_l_mixed K) := by
  refine cal_ok T.d_l_mixed sc_l_mixed (fun vs H Q E h => ?_) (fun f cdv A outer s H vs Q E hr h => ?_)
  · obtain ⟨c, k, rfl, _⟩ := h
    rfl
  · refine ⟨_, (pss_cons (ps_set (i := 2) sc_l_mixed.nd rfl (.inl rfl) (pe_op op_mod (pe_op op_add (pe_op op_add (pe_op op_mod (pv 0) pe_int) (pe_op op_mulX pe_int (pv 1))) pe_int) pe_int))
      (pss_one (ps_ret (pe_op op_mod (pe_op op_mulX (pe_op op_mod (pe_op op_mulX (pv 2) (pv 2)) pe_int) (pv 2)) pe_int)))), ?_⟩
    obtain ⟨c, k, rfl, q⟩ := h
    have h0 := Int.emod_nonneg (c % 1000000007 + 7919 * k + 11) (show (1000003 : Int) ≠ 0 by decide)
    have h1 := Int.emod_lt_of_pos (c % 1000000007 + 7919 * k + 11) (show (0 : Int) < 1000003 by decide)
    have P1 : (0 : Int) < 1000000007 := by decide
    have P2 : (0 : Int) < 1000003 := by decide
    refine ⟨_, rfl, _, _, rfl, rfl, P1, _, rfl, _, _, rfl, rfl, mulOk_l (bdL (by decide)), _, _, rfl, rfl, _, _, rfl, rfl, _, _, rfl, rfl, P2, ?_⟩
    refine ⟨_, rfl, _, rfl, _, _, rfl, rfl, mulOk_l (bdL (by omega)), _, _, rfl, rfl, P2, _, rfl, _, _, rfl, rfl, mulOk_r (bdL (by omega)), _, _, rfl, rfl, P2, ?_⟩
    exact q
end
def sp_l_quotient (K : PySem.W.Frag) : Sp := fun vs H Q _ => ∃ (c : Int), vs = [.int c] ∧ ∀ H', Same H H' → Q (.int (lq c)) H'
section
variable {P : Program} {w : World} {K : PySem.W.Frag} {mg : Str → Option Value} {base : Heap}
theorem cal_l_quotient (T : Txt K mg) (NS : base.NoSeer) (ht : P.given.tree = none) : Cal P w K mg base CX0 1 "_law_quotient" (sp_l_quotient K) := by
  refine cal_ok T.d_l_quotient sc_l_quotient (fun vs H Q E h => ?_) (fun f cdv A outer s H vs Q E hr h => ?_)
  · obtain ⟨c, rfl, _⟩ := h
    rfl
  · refine ⟨_, (pss_one (ps_ret (pe_op op_add pe_int (pe_op op_mod (pv 0) (pe_ix (r := rIxL K) ix_list (pe_lst (pa_cons (pe_op op_pow pe_int pe_int) (pa_cons pe_int (pa_cons pe_int (pa_cons (pe_op op_pow pe_int pe_int) pa_nil))))) (pe_op op_mod (pe_op op_fdivP (pv 0) pe_int) pe_int) (fun _ _ => rfl)))))), ?_⟩
    obtain ⟨c, rfl, q⟩ := h
    have h0 := Int.emod_nonneg (c / 5) (show (4 : Int) ≠ 0 by decide)
    have h1 := Int.emod_lt_of_pos (c / 5) (show (0 : Int) < 4 by decide)
    refine ⟨_, rfl, _, _, rfl, rfl, ⟨by decide, by decide, by decide⟩, _, _, rfl, rfl, ⟨by decide, by decide, by decide⟩, (by show 4 ≤ sizeLine; decide), fun p np => ?_⟩
    (generalize hH_ : upd _ p _ = H1; have s1 := same_of hH_ np; have ep := at_new hH_; clear hH_)
    have ep' : H1 p = some (.lst (lqMenu.map V.int)) := ep
    refine ⟨_, rfl, _, _, rfl, rfl, divS (by decide) (by decide), _, _, rfl, rfl, (show (0 : Int) < 4 by decide), p, _, _, _, rfl, rfl, sqL ep', atI_menu h0 h1, ?_⟩
    refine ⟨_, _, rfl, rfl, (lqMenu_ok _ (lq_menu c)).1, _, _, rfl, rfl, ?_⟩
    exact q _ s1
end
theorem worth_at {ns : List Int} {i : Nat} {z : Int} (hz : ns.dropLast.reverse[i]? = some z) : i + 1 < ns.length ∧ ns[ns.length - 2 - i]? = some z := by
  have hi := (List.getElem?_eq_some_iff.mp hz).1
  rw [List.length_reverse, List.length_dropLast] at hi
  rw [List.getElem?_reverse (by rw [List.length_dropLast]; omega), List.length_dropLast, List.getElem?_dropLast, if_pos (by omega)] at hz
  exact ⟨by omega, by rw [← hz]; congr 1⟩
theorem worth_step {ns : List Int} {i : Nat} {z : Int} (hi : i + 1 < ns.length) (h : ns[ns.length - 2 - i]? = some z) :
    Cm.W (ns.drop (ns.length - 1 - (i + 1))) = (z * (Cm.W (ns.drop (ns.length - 1 - i))).1 + (Cm.W (ns.drop (ns.length - 1 - i))).2, (Cm.W (ns.drop (ns.length - 1 - i))).1) := by
  have e : ns.length - 1 - (i + 1) = ns.length - 2 - i := by omega
  have h1 : ns.length - 2 - i < ns.length := by omega
  have e2 : ns.length - 2 - i + 1 = ns.length - 1 - i := by omega
  rw [e, List.drop_eq_getElem_cons h1, e2, Cm.W_cons]
  have : ns[ns.length - 2 - i] = z := by
    rw [List.getElem?_eq_getElem h1] at h
    exact Option.some.inj h
  rw [this]
theorem worth_last {ns : List Int} (h : ns ≠ []) : Cm.W (ns.drop (ns.length - 1 - 0)) = (ns.getLast h, 1) := by
  have hl : 0 < ns.length := List.length_pos_iff.mpr h
  rw [Nat.sub_zero, List.drop_eq_getElem_cons (by omega), List.drop_eq_nil_of_le (by omega), Cm.W_one, List.getLast_eq_getElem]
/-- the fraction that quotients tell, as a new tuple -/
def sp_l_worth (K : PySem.W.Frag) : Sp := fun vs H Q _ => ∃ (a : Addr) (ns : List Int), vs = [.ref a] ∧ SqL K H a (ns.map V.int) ∧ ns ≠ [] ∧ Sz ns ∧
  ∀ H' p, Same H H' → H p = none → H' p = some (.tup [.int (Cm.W ns).1, .int (Cm.W ns).2]) → Q (.ref p) H'
section
variable {P : Program} {w : World} {K : PySem.W.Frag} {mg : Str → Option Value} {base : Heap}
theorem cal_l_worth (T : Txt K mg) (NS : base.NoSeer) (ht : P.given.tree = none) : Cal P w K mg base CX0 1 "_law_worth" (sp_l_worth K) := by
  refine cal_ok T.d_l_worth sc_l_worth (fun vs H Q E h => ?_) (fun f cdv A outer s H vs Q E hr h => ?_)
  · obtain ⟨a, ns, rfl, _⟩ := h
    rfl
  · refine ⟨_, (pss_cons (ps_par (i := 1) (j := 2) (by rfl) sc_l_worth.nd rfl rfl (by decide) rfl rfl (pa_cons (pe_ix (r := rIxL K) ix_list (pv 0) (pe_un un_neg pe_int) (fun _ _ => rfl)) (pa_cons pe_int pa_nil)) (by rfl))
      (pss_cons (ps_for PassesOwn.never rfl (pi_list (pe_revL (pe_slice sl_list (pv 0) po_none (po_some (pe_un un_neg pe_int))))) (pg_name (i := 3) sc_l_worth.nd rfl (.inl rfl))
      (pss_one (ps_par (i := 1) (j := 2) (by rfl) sc_l_worth.nd rfl rfl (by decide) rfl rfl (pa_cons (pe_op op_add (pe_op op_mulX (pv 3) (pv 1)) (pv 2)) (pa_cons (pv 1) pa_nil)) (by rfl))))
      (pss_one (ps_ret (pe_tup (pa_cons (pv 1) (pa_cons (pv 2) pa_nil))))))), ?_⟩
    obtain ⟨a, ns, rfl, hS, hne, ⟨n, hn, hb, hw⟩, q⟩ := h
    have hl : 0 < ns.length := List.length_pos_iff.mpr hne
    refine ⟨_, rfl, 1, rfl, a, _, _, _, rfl, rfl, hS, atI_neg1 hne, _, _, rfl, ?_⟩
    refine ⟨_, rfl, 1, rfl, _, rfl, a, _, rfl, hS, fun c nc => ?_⟩
    (generalize hH_ : upd _ c _ = H1; have s1 := same_of hH_ nc; have ec := at_new hH_; clear hH_)
    refine ⟨c, _, rfl, sqL ec, fun d nd => ?_⟩
    (generalize hH_ : upd _ d _ = H2; have s2 := same_of hH_ nd; have ed := at_new hH_; clear hH_)
    rw [cut_neg1, ← List.map_dropLast, ← List.map_reverse] at ed
    refine ⟨d, rfl, ⟨_, sqL ed⟩, for_list (K := K) (a := d) (xs := ns.dropLast.reverse.map V.int) (fun i σ H' => ∃ v3, σ = [some (.ref a), some (.int (Cm.W (ns.drop (ns.length - 1 - i))).1), some (.int (Cm.W (ns.drop (ns.length - 1 - i))).2), v3] ∧ H' = H2)
      ⟨none, by rw [worth_last hne]; rfl, rfl⟩ (fun i σ H' _ ⟨_, _, e⟩ => by rw [e]; exact sqL ed) ?_ ?_⟩
    · rintro i y σ H' hi ⟨v3, rfl, rfl⟩
      obtain ⟨z, hz, rfl⟩ := map_int_at hi
      obtain ⟨h1, hz'⟩ := worth_at hz
      have hbz : Bd n z := hb z (List.mem_of_getElem? hz')
      have st := worth_step h1 hz'
      refine ⟨_, rfl, _, rfl, _, _, rfl, rfl, mulOk hbz (hw _).1 (by omega), _, rfl, _, _, rfl, rfl, _, rfl, _, _, rfl, ?_⟩
      refine ⟨some (.int z), ?_, rfl⟩
      rw [st]
      rfl
    · rintro σ H' ⟨v3, rfl, rfl⟩
      refine ⟨_, rfl, _, rfl, (by show 2 ≤ sizeLine; decide), fun p np => ?_⟩
      (generalize hH_ : upd _ p _ = H3; have s3 := same_of hH_ np; have ep := at_new hH_; clear hH_)
      refine q _ p ((s1.trans s2).trans s3) ((s1.trans s2).free np) ?_
      rw [ep, List.length_map, List.length_reverse, List.length_dropLast, Nat.sub_self, List.drop_zero]
end
/-- the word's fraction of two, as a new tuple -/
def sp_l_done (K : PySem.W.Frag) : Sp := fun vs H Q _ => ∃ (x : Str) (a b : Addr) (f g : Int × Int), vs = [.str x, .ref a, .ref b] ∧ HPr K H a f ∧ HPr K H b g ∧ BdF 60000000 f ∧ BdF 60000000 g ∧
  ∀ H' p, Same H H' → H p = none → H' p = some (.tup [.int (doneV x f g).1, .int (doneV x f g).2]) → Q (.ref p) H'
section
variable {P : Program} {w : World} {K : PySem.W.Frag} {mg : Str → Option Value} {base : Heap}
theorem cal_l_done (T : Txt K mg) (NS : base.NoSeer) (ht : P.given.tree = none) : Cal P w K mg base CX0 1 "_law_done" (sp_l_done K) := by
  refine cal_ok T.d_l_done sc_l_done (fun vs H Q E h => ?_) (fun f cdv A outer s H vs Q E hr h => ?_)
  · obtain ⟨x, a, b, f, g, rfl, _⟩ := h
    rfl
  · refine ⟨_, (pss_cons (ps_if (pt_cmpR op_eq (pv 0) pe_str (nomark _)) (pss_one (ps_ret (pe_tup (pa_cons (pe_op op_add (pe_op op_mulX (pe_ix (r := rIxT K) ix_tup (pv 1) pe_int (fun _ _ => rfl)) (pe_ix (r := rIxT K) ix_tup (pv 2) pe_int (fun _ _ => rfl))) (pe_op op_mulX (pe_ix (r := rIxT K) ix_tup (pv 2) pe_int (fun _ _ => rfl)) (pe_ix (r := rIxT K) ix_tup (pv 1) pe_int (fun _ _ => rfl)))) (pa_cons (pe_op op_mulX (pe_ix (r := rIxT K) ix_tup (pv 1) pe_int (fun _ _ => rfl)) (pe_ix (r := rIxT K) ix_tup (pv 2) pe_int (fun _ _ => rfl))) pa_nil))))) pss_nil)
      (pss_cons (ps_if (pt_cmpR op_eq (pv 0) pe_str (nomark _)) (pss_one (ps_ret (pe_tup (pa_cons (pe_op op_sub (pe_op op_mulX (pe_ix (r := rIxT K) ix_tup (pv 1) pe_int (fun _ _ => rfl)) (pe_ix (r := rIxT K) ix_tup (pv 2) pe_int (fun _ _ => rfl))) (pe_op op_mulX (pe_ix (r := rIxT K) ix_tup (pv 2) pe_int (fun _ _ => rfl)) (pe_ix (r := rIxT K) ix_tup (pv 1) pe_int (fun _ _ => rfl)))) (pa_cons (pe_op op_mulX (pe_ix (r := rIxT K) ix_tup (pv 1) pe_int (fun _ _ => rfl)) (pe_ix (r := rIxT K) ix_tup (pv 2) pe_int (fun _ _ => rfl))) pa_nil))))) pss_nil)
      (pss_cons (ps_if (pt_cmpR op_eq (pv 0) pe_str (nomark _)) (pss_one (ps_ret (pe_tup (pa_cons (pe_op op_mulX (pe_ix (r := rIxT K) ix_tup (pv 1) pe_int (fun _ _ => rfl)) (pe_ix (r := rIxT K) ix_tup (pv 2) pe_int (fun _ _ => rfl))) (pa_cons (pe_op op_mulX (pe_ix (r := rIxT K) ix_tup (pv 1) pe_int (fun _ _ => rfl)) (pe_ix (r := rIxT K) ix_tup (pv 2) pe_int (fun _ _ => rfl))) pa_nil))))) pss_nil)
      (pss_one (ps_ret (pe_tup (pa_cons (pe_op op_mulX (pe_ix (r := rIxT K) ix_tup (pv 1) pe_int (fun _ _ => rfl)) (pe_ix (r := rIxT K) ix_tup (pv 2) pe_int (fun _ _ => rfl))) (pa_cons (pe_op op_mulX (pe_ix (r := rIxT K) ix_tup (pv 1) pe_int (fun _ _ => rfl)) (pe_ix (r := rIxT K) ix_tup (pv 2) pe_int (fun _ _ => rfl))) pa_nil)))))))), ?_⟩
    obtain ⟨x, a, b, f, g, rfl, hA, hB, bf, bg, q⟩ := h
    have a0 := pr_at0 hA
    have a1 := pr_at1 hA
    have b0 := pr_at0 hB
    have b1 := pr_at1 hB
    have m12 : IntMulOk f.1 g.2 := mulOk bf.top bg.bot (by decide)
    have m21 : IntMulOk g.1 f.2 := mulOk bg.top bf.bot (by decide)
    have m22 : IntMulOk f.2 g.2 := mulOk bf.bot bg.bot (by decide)
    have m11 : IntMulOk f.1 g.1 := mulOk bf.top bg.top (by decide)
    have m2t : IntMulOk f.2 g.1 := mulOk bf.bot bg.top (by decide)
    refine ⟨_, rfl, rfl, _, rfl, ite2 (fun c => ?_) (fun c => ?_)⟩
    · have c' : x = "plus" := V.str.inj (of_decide_eq_true c)
      have e : doneV x f g = (f.1 * g.2 + g.1 * f.2, f.2 * g.2) := by unfold doneV; rw [if_pos c']
      rw [e] at q
      refine ⟨_, rfl, a, _, _, _, rfl, rfl, hA, a0, _, rfl, b, _, _, _, rfl, rfl, hB, b1, _, _, rfl, rfl, m12, _, rfl, b, _, _, _, rfl, rfl, hB, b0, _, rfl, a, _, _, _, rfl, rfl, hA, a1, _, _, rfl, rfl, m21, _, _, rfl, rfl, ?_⟩
      refine ⟨_, rfl, a, _, _, _, rfl, rfl, hA, a1, _, rfl, b, _, _, _, rfl, rfl, hB, b1, _, _, rfl, rfl, m22, by show 2 ≤ sizeLine; decide, fun p np => ?_⟩
      (generalize hH_ : upd _ p _ = H2; have s2 := same_of hH_ np; have ep := at_new hH_; clear hH_)
      exact q _ p s2 np ep
    refine ⟨_, rfl, rfl, _, rfl, ite2 (fun c2 => ?_) (fun c2 => ?_)⟩
    · have c' : x = "less" := V.str.inj (of_decide_eq_true c2)
      have e : doneV x f g = (f.1 * g.2 - g.1 * f.2, f.2 * g.2) := by unfold doneV; rw [if_neg (fun z => c (decide_eq_true (by rw [z]))), if_pos c']
      rw [e] at q
      refine ⟨_, rfl, a, _, _, _, rfl, rfl, hA, a0, _, rfl, b, _, _, _, rfl, rfl, hB, b1, _, _, rfl, rfl, m12, _, rfl, b, _, _, _, rfl, rfl, hB, b0, _, rfl, a, _, _, _, rfl, rfl, hA, a1, _, _, rfl, rfl, m21, _, _, rfl, rfl, ?_⟩
      refine ⟨_, rfl, a, _, _, _, rfl, rfl, hA, a1, _, rfl, b, _, _, _, rfl, rfl, hB, b1, _, _, rfl, rfl, m22, by show 2 ≤ sizeLine; decide, fun p np => ?_⟩
      (generalize hH_ : upd _ p _ = H2; have s2 := same_of hH_ np; have ep := at_new hH_; clear hH_)
      exact q _ p s2 np ep
    refine ⟨_, rfl, rfl, _, rfl, ite2 (fun c3 => ?_) (fun c3 => ?_)⟩
    · have c' : x = "times" := V.str.inj (of_decide_eq_true c3)
      have e : doneV x f g = (f.1 * g.1, f.2 * g.2) := by unfold doneV; rw [if_neg (fun z => c (decide_eq_true (by rw [z]))), if_neg (fun z => c2 (decide_eq_true (by rw [z]))), if_pos c']
      rw [e] at q
      refine ⟨_, rfl, a, _, _, _, rfl, rfl, hA, a0, _, rfl, b, _, _, _, rfl, rfl, hB, b0, _, _, rfl, rfl, m11, ?_⟩
      refine ⟨_, rfl, a, _, _, _, rfl, rfl, hA, a1, _, rfl, b, _, _, _, rfl, rfl, hB, b1, _, _, rfl, rfl, m22, by show 2 ≤ sizeLine; decide, fun p np => ?_⟩
      (generalize hH_ : upd _ p _ = H2; have s2 := same_of hH_ np; have ep := at_new hH_; clear hH_)
      exact q _ p s2 np ep
    · have e : doneV x f g = (f.1 * g.2, f.2 * g.1) := by unfold doneV; rw [if_neg (fun z => c (decide_eq_true (by rw [z]))), if_neg (fun z => c2 (decide_eq_true (by rw [z]))), if_neg (fun z => c3 (decide_eq_true (by rw [z])))]
      rw [e] at q
      refine ⟨_, rfl, a, _, _, _, rfl, rfl, hA, a0, _, rfl, b, _, _, _, rfl, rfl, hB, b1, _, _, rfl, rfl, m12, ?_⟩
      refine ⟨_, rfl, a, _, _, _, rfl, rfl, hA, a1, _, rfl, b, _, _, _, rfl, rfl, hB, b0, _, _, rfl, rfl, m2t, by show 2 ≤ sizeLine; decide, fun p np => ?_⟩
      (generalize hH_ : upd _ p _ = H2; have s2 := same_of hH_ np; have ep := at_new hH_; clear hH_)
      exact q _ p s2 np ep
end
def sp_l_rests (K : PySem.W.Frag) : Sp := fun vs H Q _ => ∃ (t b : Int) (m : Nat), vs = [.int t, .int b, .int (m : Int)] ∧ 0 ≤ b ∧ Bd 8999 b ∧
  ∀ H' p, Same H H' → H p = none → H' p = some (.lst (((Cm.euc t b).take m).map V.int)) → Q (.ref p) H'
section
variable {P : Program} {w : World} {K : PySem.W.Frag} {mg : Str → Option Value} {base : Heap}
theorem cal_l_rests (T : Txt K mg) (NS : base.NoSeer) (ht : P.given.tree = none) : Cal P w K mg base CX0 1 "_law_rests" (sp_l_rests K) := by
  refine cal_ok T.d_l_rests sc_l_rests (fun vs H Q E h => ?_) (fun f cdv A outer s H vs Q E hr h => ?_)
  · obtain ⟨t, b, m, rfl, _⟩ := h
    rfl
  · refine ⟨_, (pss_cons (ps_set (i := 3) sc_l_rests.nd rfl (.inl rfl) (pe_lst pa_nil))
      (pss_cons (ps_while PassesOwn.never (pt_mono (PW.pt (pw_and (pt_cmpR op_gt (pv 1) pe_int (nomark _)) (pw_and1 (pt_cmpR op_lt (pe_callB call_len_seq (by rfl) T.z_len PySem.boot_len (pa_cons (pv 3) pa_nil)) (pv 2) (nomark _))))))
      (pss_cons (ps_expr (pe_bm PySem.F.plainAttrs_list PySem.F.slot_list_append PySem.F.type_list_append mt_append (pv 3) (pa_cons (pe_op op_fdivP (pv 0) (pv 1)) pa_nil)))
      (pss_one (ps_par (i := 0) (j := 1) (by rfl) sc_l_rests.nd rfl rfl (by decide) rfl rfl (pa_cons (pv 1) (pa_cons (pe_op op_mod (pv 0) (pv 1)) pa_nil)) (by rfl)))))
      (pss_one (ps_ret (pv 3))))), ?_⟩
    obtain ⟨t, b, m, rfl, hb0, hb, q⟩ := h
    have hlen := euc_len' (t := t) hb
    refine ⟨Nat.zero_le _, fun c nc => ?_⟩
    (generalize hH_ : upd _ c _ = H1; have s1 := same_of hH_ nc; have ec := at_new hH_; clear hH_)
    refine while_m (fun σ H' => ∃ (t' b' : Int) (done : List Int), σ = [some (.int t'), some (.int b'), some (.int (m : Int)), some (.ref c)] ∧ Same H H' ∧ H' c = some (.lst (done.map V.int)) ∧ Cm.euc t b = done ++ Cm.euc t' b' ∧ Bd 8999 b' ∧ 0 ≤ b' ∧ done.length ≤ m)
      (fun σ _ => match σ with | [_, some (.int b'), _, _] => b'.toNat | _ => 0) ⟨t, b, [], rfl, s1, ec, rfl, hb, hb0, Nat.zero_le _⟩ ?_
    rintro σ H' ⟨t', b', done, rfl, sH, eD, ee, hb', h0, hm⟩
    refine ⟨_, rfl, _, _, rfl, rfl, _, rfl, ite2 (fun c1 => ?_) (fun c1 => ?_)⟩
    · have hp : 0 < b' := of_decide_eq_true c1
      have r0 := Int.emod_nonneg t' (show b' ≠ 0 by omega)
      have r1 := Int.emod_lt_of_pos t' hp
      refine ⟨_, rfl, c, _, rfl, .inl (sqL eD), _, rfl, _, _, rfl, rfl, _, rfl, ite2 (fun c2 => ?_) (fun c2 => ?_)⟩
      · have lt : done.length < m := by
          have := of_decide_eq_true c2
          rw [List.length_map] at this
          omega
        rw [ee, List.length_append, Cm.euc_pos hp, List.length_cons] at hlen
        refine ⟨_, rfl, .inl ⟨rfl, _, sqL eD⟩, _, rfl, _, rfl, _, _, rfl, rfl, divOk hp hb' (by decide) (by decide), c, _, _, rfl, rfl, eD, ?_, ?_⟩
        · rw [List.length_map]
          exact Nat.lt_of_le_of_lt (show done.length ≤ 18000 by omega) (by decide)
        refine ⟨_, rfl, _, rfl, _, rfl, _, _, rfl, rfl, hp, _, _, rfl, ⟨b', t' % b', done ++ [t' / b'], rfl, same_mut sH nc, ?_, ?_, Bd.of_le r0 (Int.le_of_lt r1) hb', r0, ?_⟩, ?_⟩
        · rw [upd_same, List.map_append]
          rfl
        · rw [ee, Cm.euc_pos hp, List.append_assoc]
          rfl
        · rw [List.length_append, List.length_singleton]
          omega
        · show (t' % b').toNat < b'.toNat
          omega
      · have ge : done.length = m := by
          have : ¬ ((done.map V.int).length : Int) < (m : Int) := fun z => c2 (decide_eq_true z)
          rw [List.length_map] at this
          omega
        have : (Cm.euc t b).take m = done := by rw [ee, ← ge, List.take_left]
        rw [this] at q
        exact ⟨_, rfl, q _ c sH nc eD⟩
    · refine iteF ?_
      have hp : ¬ 0 < b' := fun z => c1 (decide_eq_true z)
      rw [Cm.euc_zero hp, List.append_nil] at ee
      have : (Cm.euc t b).take m = done := by rw [ee, List.take_of_length_le hm]
      rw [this] at q
      exact ⟨_, rfl, q _ c sH nc eD⟩
end
/-- a number's quotients so far, and whether it is whole -/
def numQ (q : List Int) (w : Bool) (k : Nat) : List Int × Bool := if w = true ∧ q.length ≤ k then (q, true) else (q.take k, false)
def sp_l_number (K : PySem.W.Frag) : Sp := fun vs H Q _ => ∃ (a : Addr) (q : List Int) (w : Bool) (k : Nat), vs = [.ref a, .bl w, .int (k : Int)] ∧ SqL K H a (q.map V.int) ∧
  ∀ H' p c, Same H H' → H p = none → H c = none → SqT K H' p [.ref c, .bl (numQ q w k).2] → H' c = some (.lst ((numQ q w k).1.map V.int)) → Q (.ref p) H'
section
variable {P : Program} {w : World} {K : PySem.W.Frag} {mg : Str → Option Value} {base : Heap}
theorem cal_l_number (T : Txt K mg) (NS : base.NoSeer) (ht : P.given.tree = none) : Cal P w K mg base CX0 1 "_law_number" (sp_l_number K) := by
  refine cal_ok T.d_l_number sc_l_number (fun vs H Q E h => ?_) (fun f cdv A outer s H vs Q E hr h => ?_)
  · obtain ⟨a, q, w, k, rfl, _⟩ := h
    rfl
  · refine ⟨_, (pss_cons (ps_if (PW.pt (pw_and (pt_truth (pv 1) (by intro _; rfl)) (pw_and1 (pt_cmpR op_ge (pv 2) (pe_callB call_len_seq (by rfl) T.z_len PySem.boot_len (pa_cons (pv 0) pa_nil)) (nomark _))))) (pss_one (ps_ret (pe_tup (pa_cons (pe_callTy call_list_of (by rfl) T.z_list (by decide +kernel) (pa_cons (pv 0) pa_nil)) (pa_cons pe_bl pa_nil))))) pss_nil)
      (pss_one (ps_ret (pe_tup (pa_cons (pe_slice sl_list (pv 0) po_none (po_some (pv 2))) (pa_cons pe_bl pa_nil)))))), ?_⟩
    obtain ⟨a, q, w, k, rfl, hS, kk⟩ := h
    have no : ¬ (w = true ∧ q.length ≤ k) → numQ q w k = (q.take k, false) := fun z => if_neg z
    have rest : ¬ (w = true ∧ q.length ≤ k) → ∀ c : Addr, H c = none → ∀ p : Addr, upd H c (.lst (cutV (q.map V.int) none (some (k : Int)))) p = none → Q (.ref p) (upd (upd H c (.lst (cutV (q.map V.int) none (some (k : Int))))) p (.tup [.ref c, .bl false])) := by
      intro z c nc p np
      (generalize hH_ : upd _ p _ = H2; have s2 := same_of hH_ np; have ep := at_new hH_; clear hH_)
      have e : upd H c (.lst (cutV (q.map V.int) none (some (k : Int)))) c = some (.lst ((q.take k).map V.int)) := by rw [upd_same, cut_to, List.map_take]
      have s1 : Same H (upd H c (.lst (cutV (q.map V.int) none (some (k : Int))))) := same_upd nc
      rw [no z] at kk
      exact kk _ p c (s1.trans s2) (s1.free np) nc (sqT ep) (s2 _ _ e)
    refine ⟨_, rfl, _, rfl, ?_⟩
    cases w with
    | true =>
      refine iteT ⟨_, rfl, _, rfl, a, _, rfl, .inl hS, _, _, rfl, rfl, _, rfl, ite2 (fun c1 => ?_) (fun c1 => ?_)⟩
      · have le : q.length ≤ k := by
          have := of_decide_eq_true c1
          rw [List.length_map] at this
          omega
        have e : numQ q true k = (q, true) := if_pos ⟨rfl, le⟩
        rw [e] at kk
        refine ⟨_, rfl, a, _, rfl, .inl hS, fun r nr => ?_⟩
        (generalize hH_ : upd _ r _ = H1; have s1 := same_of hH_ nr; have er := at_new hH_; clear hH_)
        refine ⟨by show 2 ≤ sizeLine; decide, fun p np => ?_⟩
        (generalize hH_ : upd _ p _ = H2; have s2 := same_of hH_ np; have ep := at_new hH_; clear hH_)
        exact kk _ p r (s1.trans s2) (s1.free np) nr (sqT ep) (s2 _ _ er)
      · have gt : ¬ q.length ≤ k := fun z => c1 (decide_eq_true (by rw [List.length_map]; show (q.length : Int) ≤ (k : Int); omega))
        refine ⟨_, rfl, _, rfl, (k : Int), rfl, a, _, rfl, hS, fun c nc => ?_⟩
        exact ⟨by show 2 ≤ sizeLine; decide, rest (fun z => gt z.2) c nc⟩
    | false =>
      refine iteF ⟨_, rfl, _, rfl, (k : Int), rfl, a, _, rfl, hS, fun c nc => ?_⟩
      exact ⟨by show 2 ≤ sizeLine; decide, rest (fun z => by cases z.1) c nc⟩
end
def sp_are_quotients (K : PySem.W.Frag) : Sp := fun vs H Q _ => ∃ (x : V) (th : Option (List V)), vs = [x] ∧ Thing K H x th ∧ ∀ H', Same H H' → Q (.bl (quotsT th)) H'
section
variable {P : Program} {w : World} {K : PySem.W.Frag} {mg : Str → Option Value} {base : Heap}
theorem cal_are_quotients (T : Txt K mg) (NS : base.NoSeer) (ht : P.given.tree = none) : Cal P w K mg base CX0 2 "are_quotients" (sp_are_quotients K) := by
  have C_is_whole := cal_is_whole (P := P) (w := w) (base := base) T NS ht
  refine cal_ok T.d_are_quotients sc_are_quotients (fun vs H Q E h => ?_) (fun f cdv A outer s H vs Q E hr h => ?_)
  · obtain ⟨x, t, rfl, _⟩ := h
    rfl
  · refine ⟨_, (pss_cons (ps_if (pt_not (pt_val (pe_callB (r := rIsi K) (id := "isinstance") call_isi (by rfl) T.z_isinstance (by decide +kernel) (pa_cons (pv 0) (pa_cons (pe_bltn (v := .ty "list") (u := .type "list") (by rfl) T.z_list (by decide +kernel) rfl) pa_nil))))) (pss_one (ps_ret pe_bl)) pss_nil)
      (pss_cons (ps_for PassesOwn.never rfl (pi_list (pv 0)) (pg_name (i := 1) sc_are_quotients.nd rfl (.inl rfl))
      (pss_one (ps_if (pt_not (pt_val (pe_c C_is_whole hr (by decide) (by rfl) (pa_cons (pv 1) pa_nil)))) (pss_one (ps_ret pe_bl)) pss_nil)))
      (pss_one (ps_ret (pe_callB (cr_all rfl) (by rfl) T.z_all (by decide +kernel) (pa_cons (pe_lc (own := [("quotient", 1)]) (g := gName 1) rfl sc_are_quotients.nd (pi_list (pe_slice sl_list (pv 0) (po_some pe_int) po_none)) (blkOk_by (N := N_are_quotients) (sc := defScope s_are_quotients) (own := [("quotient", 1)]) (by decide +kernel)) (fun _ _ _ _ _ => (pg_name (i := 1) sc_are_quotients.nd rfl (.inl rfl))) (fun _ _ _ _ _ => pts_nil) (fun _ _ _ _ _ => (pe_cmpR op_ge (pv 1) pe_int (nomark _)))) pa_nil)))))), ?_⟩
    obtain ⟨x, th, rfl, hx, q⟩ := h
    cases th with
    | none =>
      obtain ⟨t, ht, hn, ty⟩ := hx
      refine ⟨_, rfl, _, _, _, _, _, rfl, .ty _, ty, kit_ty (kit_tys (by decide) _ ht), _, rfl, ?_⟩
      have e : (!(decide (t = "list") || decide (t = "bool") && decide ("list" = "int"))) = true := by simp [hn]
      exact ite2 (fun _ => q _ (Same.refl _)) (fun c => absurd e c)
    | some xs =>
      obtain ⟨a, rfl, hS, hlen, hty⟩ := hx
      refine ⟨_, rfl, _, _, _, _, _, rfl, .ty _, (ty_list hS), kit_ty (kit_tys (by decide) _ (by decide)), _, rfl, iteF ?_⟩
      refine ⟨_, rfl, a, rfl, ⟨_, hS⟩, for_list (K := K) (a := a) (xs := xs) (fun i σ H' => ∃ v1, σ = [some (.ref a), v1] ∧ H' = H ∧ (xs.take i).all isI = true)
        ⟨none, rfl, rfl, rfl⟩ (fun i σ H' _ ⟨_, _, e, _⟩ => by rw [e]; exact hS) ?_ ?_⟩
      · rintro i y σ H' hi ⟨v1, rfl, rfl, hI⟩
        obtain ⟨t, ht, ty, e⟩ := hty y (List.mem_of_getElem? hi)
        refine ⟨_, rfl, _, t, rfl, ty, ht, _, rfl, ?_⟩
        rw [e]
        cases hy : isI y with
        | true =>
          refine iteF ⟨some y, rfl, rfl, ?_⟩
          rw [List.take_add_one, hi, List.all_append, hI]
          simp [hy]
        | false =>
          refine iteT ?_
          have : quotsT (some xs) = false := by
            have : xs.all isI = false := by
              rw [List.all_eq_false]
              exact ⟨y, List.mem_of_getElem? hi, by rw [hy]; exact Bool.false_ne_true⟩
            rw [quotsT_some, this]
            rfl
          rw [← this]
          exact q _ (Same.refl _)
      · rintro σ H' ⟨v1, rfl, rfl, hI⟩
        rw [List.take_length] at hI
        obtain ⟨ns, rfl⟩ := isI_ints xs hI
        refine ⟨_, rfl, 1, rfl, a, _, rfl, hS, fun c nc => ?_⟩
        (generalize hH_ : upd _ c _ = H1; have s1 := same_of hH_ nc; have ec := at_new hH_; clear hH_)
        rw [show cutV (ns.map V.int) (some 1) none = (ns.drop 1).map V.int by rw [show (1 : Int) = ((1 : Nat) : Int) from rfl, cut_from, List.map_drop]] at ec
        refine ⟨c, rfl, ⟨_, sqL ec⟩, fun D hD => lc_list (K := K) (a := c) (xs := (ns.drop 1).map V.int) (fun i H2 => Same H1 H2 ∧ H2 D = some (.lst ((((ns.drop 1).take i).map fun z => decide (1 ≤ z)).map V.bl)))
          ⟨same_upd hD, upd_same⟩ (fun i H2 _ ⟨s, _⟩ => s.seq (sqL ec)) ?_ ?_⟩
        · rintro i y H2 hi ⟨s, eD⟩
          obtain ⟨z, hz, rfl⟩ := map_int_at hi
          have hl : i < ns.length := by
            have := (List.getElem?_eq_some_iff.mp hz).1
            rw [List.length_drop] at this
            omega
          rw [List.length_map] at hlen
          refine ⟨rfl, _, rfl, _, 1, rfl, rfl, _, eD, ?_, same_mut s hD, ?_⟩
          · rw [List.length_map, List.length_map, List.length_take]
            exact Nat.lt_of_le_of_lt (show _ ≤ 100000 by omega) (by decide)
          · rw [upd_same, List.take_add_one, hz, List.map_append, List.map_append]
            rfl
        · rintro H2 ⟨s, eD⟩
          rw [List.length_map, List.take_length] at eD
          refine ⟨D, _, rfl, sqL eD, ?_⟩
          have e : (((ns.drop 1).map fun z => decide (1 ≤ z)).all id) = quotsT (some (ns.map V.int)) := by
            rw [quotsT_ints, List.all_map]
            rfl
          rw [e]
          exact q _ (s1.trans s)
end
def sp_joined (K : PySem.W.Frag) : Sp := fun vs H Q _ => ∃ (x : Str) (u v : V) (o o' : Option (Int × Int)), vs = [.str x, u, v] ∧ HHi K H u o ∧ HHi K H v o' ∧ (∀ f, o = some f → BdF 60000000 f) ∧ (∀ f, o' = some f → BdF 60000000 f) ∧
  ∀ H' r, Same H H' → HHi K H' r (joinO x o o') → Q r H'
section
variable {P : Program} {w : World} {K : PySem.W.Frag} {mg : Str → Option Value} {base : Heap}
theorem cal_joined (T : Txt K mg) (NS : base.NoSeer) (ht : P.given.tree = none) : Cal P w K mg base CX0 2 "joined" (sp_joined K) := by
  have C_worth := cal_worth (P := P) (w := w) (base := base) T NS ht
  refine cal_ok T.d_joined sc_joined (fun vs H Q E h => ?_) (fun f cdv A outer s H vs Q E hr h => ?_)
  · obtain ⟨x, u, v, o, o', rfl, _⟩ := h
    rfl
  · refine ⟨_, (pss_cons (ps_if (PW.pt (pw_and (pt_cmpR op_eq (pv 0) pe_str (nomark _)) (pw_and (pt_cmpR op_notN (pv 1) pe_non (nomark _)) (pw_and1 (pt_cmpR op_isN (pv 2) pe_non (nomark _)))))) (pss_one (ps_ret (pe_tup (pa_cons pe_int (pa_cons pe_int pa_nil))))) pss_nil)
      (pss_cons (ps_if (PW.pt (pw_or (pt_cmpR op_isN (pv 1) pe_non (nomark _)) (pw_or (pt_cmpR op_isN (pv 2) pe_non (nomark _)) (pw_or1 (PW.pt (pw_and (pt_cmpR op_eq (pv 0) pe_str (nomark _)) (pw_and1 (pt_cmpR op_eq (pe_ix (r := rIxT K) ix_tup (pv 2) pe_int (fun _ _ => rfl)) pe_int (nomark _))))))))) (pss_one (ps_ret pe_non)) pss_nil)
      (pss_one (ps_ret (pe_c C_worth hr (by decide) (by rfl) (pa_cons (pv 0) (pa_cons (pv 1) (pa_cons (pv 2) pa_nil)))))))), ?_⟩
    obtain ⟨x, u, v, o, o', rfl, hu, hv, bo, bo', k⟩ := h
    cases o with
    | none =>
      have eu : u = .non := hu
      subst eu
      have ej : joinO x none o' = none := rfl
      rw [ej] at k
      have rest : (fun (b : Bool) (H1 : Hp) => b = true → Q .non H1) true H := fun _ => k _ _ (Same.refl _) rfl
      refine ⟨_, rfl, rfl, _, rfl, ite2 (fun c => ?_) (fun c => ?_)⟩
      · refine ⟨_, rfl, rfl, _, rfl, iteF (iteF ?_)⟩
        exact ⟨_, rfl, rfl, _, rfl, iteT (iteT (rest rfl))⟩
      · refine iteF ?_
        exact ⟨_, rfl, rfl, _, rfl, iteT (iteT (rest rfl))⟩
    | some f =>
      obtain ⟨a, rfl, hA⟩ := hu
      cases o' with
      | none =>
        have ev : v = .non := hv
        subst ev
        refine ⟨_, rfl, rfl, _, rfl, ite2 (fun c => ?_) (fun c => ?_)⟩
        · have hx : x = "over" := V.str.inj (of_decide_eq_true c)
          have ej : joinO x (some f) none = some (0, 1) := if_pos hx
          rw [ej] at k
          refine ⟨_, rfl, rfl, _, rfl, iteT ⟨_, rfl, rfl, _, rfl, ?_⟩⟩
          refine iteT ?_
          refine ⟨by show 2 ≤ sizeLine; decide, fun p np => ?_⟩
          (generalize hH_ : upd _ p _ = H2; have s2 := same_of hH_ np; have ep := at_new hH_; clear hH_)
          exact k _ _ s2 ⟨p, rfl, sqT ep⟩
        · have hx : ¬ x = "over" := fun z => c (decide_eq_true (by rw [z]))
          have ej : joinO x (some f) none = none := if_neg hx
          rw [ej] at k
          exact iteF ⟨_, rfl, rfl, _, rfl, iteF ⟨_, rfl, rfl, _, rfl, iteT (iteT (k _ _ (Same.refl _) rfl))⟩⟩
      | some g =>
        obtain ⟨b, rfl, hB⟩ := hv
        have ej : joinO x (some f) (some g) = if x = "over" ∧ g.1 = 0 then none else some (doneV x f g) := rfl
        rw [ej] at k
        have fin : ¬ (x = "over" ∧ g.1 = 0) → sp_worth K [.str x, .ref a, .ref b] H (fun r H' => Q r H') E := fun hc => by
          rw [if_neg hc] at k
          exact ⟨x, a, b, f, g, rfl, hA, hB, bo _ rfl, bo' _ rfl, fun H1 p s1 np ep => k _ _ s1 ⟨p, rfl, sqT ep⟩⟩
        refine ⟨_, rfl, rfl, _, rfl, ite2 (fun c => ?_) (fun c => ?_)⟩
        · have hx : x = "over" := V.str.inj (of_decide_eq_true c)
          refine ⟨_, rfl, rfl, _, rfl, iteT ⟨_, rfl, rfl, _, rfl, iteF ?_⟩⟩
          refine ⟨_, rfl, rfl, _, rfl, iteF ⟨_, rfl, rfl, _, rfl, iteF ⟨_, rfl, rfl, _, rfl, ?_⟩⟩⟩
          rw [c]
          show (if true = true then _ else _)
          refine iteT ⟨_, rfl, b, _, 0, _, rfl, rfl, hB, pr_at0 hB, rfl, _, rfl, ite2 (fun c2 => ?_) (fun c2 => ?_)⟩
          · have hg : g.1 = 0 := V.int.inj (of_decide_eq_true c2)
            rw [if_pos ⟨hx, hg⟩] at k
            exact k _ _ (Same.refl _) rfl
          · exact ⟨_, rfl, _, rfl, _, rfl, fin fun z => c2 (decide_eq_true (by rw [z.2]))⟩
        · have hx : ¬ x = "over" := fun z => c (decide_eq_true (by rw [z]))
          refine iteF ⟨_, rfl, rfl, _, rfl, iteF ⟨_, rfl, rfl, _, rfl, iteF ⟨_, rfl, rfl, _, rfl, ?_⟩⟩⟩
          rw [decide_eq_false (fun z => hx (V.str.inj z))]
          refine iteF ?_
          exact iteF ⟨_, rfl, _, rfl, _, rfl, fin fun z => hx z.1⟩
end
/-- a chain of a number above 0, as a new list -/
def sp_l_chain (K : PySem.W.Frag) : Sp := fun vs H Q _ => ∃ (a : Addr) (cs : List Int) (n : Nat), vs = [.ref a] ∧ SqL K H a (cs.map V.int) ∧ cs.length ≤ n ∧ 0 < n ∧ n ≤ 63 ∧
  ∀ H' p l, Same H H' → H p = none → H' p = some (.lst (l.map V.int)) → abvB l = true → l.length ≤ n → (∀ y ∈ l, Bd 100 y) → Q (.ref p) H'
section
variable {P : Program} {w : World} {K : PySem.W.Frag} {mg : Str → Option Value} {base : Heap}
theorem cal_l_chain (T : Txt K mg) (NS : base.NoSeer) (ht : P.given.tree = none) : Cal P w K mg base CX0 2 "_law_chain" (sp_l_chain K) := by
  have C_l_quotient := cal_l_quotient (P := P) (w := w) (base := base) T NS ht
  refine cal_ok T.d_l_chain sc_l_chain (fun vs H Q E h => ?_) (fun f cdv A outer s H vs Q E hr h => ?_)
  · obtain ⟨a, cs, n, rfl, _⟩ := h
    rfl
  · refine ⟨_, (Evl.pss_cut (ps_set (i := 1) sc_l_chain.nd rfl (.inl rfl) (pe_orT (pe_lc (own := [("_law_cell", 2)]) (g := gName 2) rfl sc_l_chain.nd (pi_list (pv 0)) (blkOk_by (N := N_l_chain) (sc := defScope s_l_chain) (own := [("_law_cell", 2)]) (by decide +kernel)) (fun _ _ _ _ _ => (pg_name (i := 2) sc_l_chain.nd rfl (.inl rfl))) (fun _ _ _ _ _ => pts_nil) (fun _ _ _ _ _ => (pe_c C_l_quotient hr (by decide) (by rfl) (pa_cons (pv 2) pa_nil)))) (pe_one (pe_lst (pa_cons pe_int pa_nil)))))
      (pss_cons (ps_asg (pe_op op_sub (pe_ix (r := rIxL K) ix_list (pv 1) pe_int (fun _ _ => rfl)) pe_int) (pg_sub (pv 1) pe_int set_list))
      (Evl.pss_cut (ps_if (PW.pt (pw_and (pt_cmpR op_gt (pe_callB call_len_seq (by rfl) T.z_len PySem.boot_len (pa_cons (pv 1) pa_nil)) pe_int (nomark _)) (pw_and1 (pt_cmpR op_eq (pe_ix (r := rIxL K) ix_list (pv 1) (pe_un un_neg pe_int) (fun _ _ => rfl)) pe_int (nomark _))))) (pss_one (ps_asg pe_int (pg_sub (pv 1) (pe_un un_neg pe_int) set_list))) pss_nil)
      (pss_one (ps_ret (pe_ifExp (pt_cmpR (r := rEqD K) (op_eqD hr.units) (pv 1) (pe_lst (pa_cons pe_int pa_nil)) (nomark _)) (pe_lst (pa_cons pe_int pa_nil)) (pv 1))))))), ?_⟩
    obtain ⟨c, cs, n, rfl, hS, hcl, n0, n63, q⟩ := h
    -- [..] or [1]
    refine ⟨fun σ H' => ∃ (p : Addr) (x : Int) (r : List Int), σ = [some (.ref c), some (.ref p), none] ∧ Same H H' ∧ H p = none ∧ H' p = some (.lst ((x :: r).map V.int)) ∧ r.length + 1 ≤ n ∧ (∀ y ∈ x :: r, 1 ≤ y ∧ Bd 100 y), ?_, ?_⟩
    · refine ⟨_, rfl, c, rfl, ⟨_, hS⟩, fun D hD => lc_list (K := K) (a := c) (xs := cs.map V.int) (fun i H2 => Same H H2 ∧ H2 D = some (.lst (((cs.take i).map lq).map V.int)))
        ⟨same_upd hD, upd_same⟩ (fun i H2 _ ⟨s, _⟩ => s.seq hS) ?_ ?_⟩
      · rintro i y H2 hi ⟨s2, eD⟩
        obtain ⟨z, hz, rfl⟩ := map_int_at hi
        refine ⟨rfl, _, rfl, z, rfl, fun H3 s3 => ⟨_, s3 _ _ eD, ?_, same_mut (s2.trans s3) hD, ?_⟩⟩
        · rw [List.length_map, List.length_map, List.length_take]
          exact Nat.lt_of_le_of_lt (show min i cs.length ≤ 63 by omega) (by decide)
        · rw [upd_same, List.take_add_one, hz, List.map_append, List.map_append]
          rfl
      · rintro H2 ⟨s2, eD⟩
        rw [List.length_map, List.take_length] at eD
        refine ⟨_, .inl ⟨_, sqL eD, rfl⟩, ?_⟩
        cases cs with
        | nil =>
          refine ⟨by decide, fun p np => ?_⟩
          (generalize hH_ : upd _ p _ = H3; have s3 := same_of hH_ np; have ep := at_new hH_; clear hH_)
          refine ⟨p, 1, [], rfl, s2.trans s3, s2.free np, ep, n0, ?_⟩
          intro y hy
          rw [List.mem_singleton] at hy
          subst hy
          exact ⟨by decide, Bd.one (by decide)⟩
        | cons x r =>
          refine ⟨D, lq x, r.map lq, rfl, s2, hD, eD, ?_, ?_⟩
          · rw [List.length_map]
            exact hcl
          · intro y hy
            rw [← List.map_cons] at hy
            obtain ⟨z, _, rfl⟩ := List.mem_map.mp hy
            exact lq_ok z
    rintro σ H2 ⟨p, x, r, rfl, s2, np1, ep, hL, hall⟩
    -- _law_found[0] = _law_found[0] - 1
    refine ⟨_, rfl, p, _, 0, _, rfl, rfl, sqL ep, atI_int (ns := x :: r) (i := 0) rfl, _, _, rfl, rfl, ?_⟩
    refine ⟨_, rfl, p, _, _, 0, rfl, rfl, ep, ixN_0 (by simp), ?_⟩
    have hx := hall x (by simp)
    have bz : Bd 100 (x - 1) := Bd.of_le (by omega) (by omega) hx.2
    have z0 : 0 ≤ x - 1 := by omega
    have hr1 : ∀ y ∈ r, 1 ≤ y := fun y hy => (hall y (List.mem_cons_of_mem _ hy)).1
    (generalize hH_ : upd _ p _ = H4; have s4 := same_mut_of hH_ s2 np1; have e4 := at_new hH_; clear hH_)
    replace e4 : H4 p = some (.lst (((x - 1) :: r).map V.int)) := e4
    generalize x - 1 = z at *
    have hne : (z :: r) ≠ [] := by simp
    refine ⟨fun σ H' => σ = [some (.ref c), some (.ref p), none] ∧ Same H H' ∧ H' p = some (.lst ((fixl (z :: r)).map V.int)), ?_, ?_⟩
    · refine ⟨_, rfl, p, _, rfl, .inl (sqL e4), _, _, rfl, rfl, _, rfl, ite2 (fun c1 => ?_) (fun c1 => ?_)⟩
      · have c1' : 1 < (z :: r).length := by
          have := of_decide_eq_true c1
          rw [List.length_map] at this
          omega
        refine ⟨_, rfl, 1, rfl, p, _, _, _, rfl, rfl, sqL e4, getLastD_ne hne, rfl, _, rfl, ite2 (fun c2 => ?_) (fun c2 => ?_)⟩
        · have c2' : (z :: r).getLastD 0 = 1 := V.int.inj (of_decide_eq_true c2)
          refine ⟨_, rfl, 1, rfl, p, _, _, _, rfl, rfl, e4, ixN_neg1 (by simp), rfl, same_mut s4 np1, ?_⟩
          rw [upd_same, List.length_map, set_last2 hne]
          unfold fixl
          rw [if_pos ⟨c1', c2'⟩]
        · refine ⟨rfl, s4, ?_⟩
          unfold fixl
          rw [if_neg (fun k => c2 (decide_eq_true (by rw [k.2])))]
          exact e4
      · refine iteF ⟨rfl, s4, ?_⟩
        unfold fixl
        rw [if_neg (fun k => c1 (decide_eq_true (by have := k.1; rw [List.length_map]; omega)))]
        exact e4
    rintro σ H5 ⟨rfl, s5, e5⟩
    have hCh : Cm.Ch (fixl (z :: r)) := fixl_ch z r hr1
    have hlen2 : (fixl (z :: r)).length ≤ n := by rw [fixl_len]; exact hL
    have hb2 : ∀ y ∈ fixl (z :: r), Bd 100 y := fun y hy => by
      rcases fixl_mem hy with h | rfl
      · rcases List.mem_cons.mp h with rfl | h
        · exact bz
        · exact (hall y (List.mem_cons_of_mem _ h)).2
      · exact bdL (by decide)
    have h0 : 0 ≤ (fixl (z :: r)).headD 0 := by
      unfold fixl
      split
      · cases r with
        | nil => rename_i h; exact absurd h.1 (by simp)
        | cons w r => exact z0
      · exact z0
    have hcB := (chB_iff _).mpr hCh
    generalize fixl (z :: r) = l at *
    refine ⟨_, rfl, by decide, fun t nt => ?_⟩
    (generalize hH_ : upd _ t _ = H6; have s6 := same_of hH_ nt; have e6 := at_new hH_; clear hH_)
    replace e6 : H6 t = some (.lst (([0] : List Int).map V.int)) := e6
    refine ⟨_, _, dp_ints (s6.seq (sqL e5)), dp_ints (sqL e6), shaped_ints _, shaped_ints _, ?_⟩
    rw [eqv_ints]
    refine ⟨_, rfl, ite2 (fun c1 => ?_) (fun c1 => ?_)⟩
    · refine ⟨by decide, fun u nu => ?_⟩
      (generalize hH_ : upd _ u _ = H7; have s7 := same_of hH_ nu; have e7 := at_new hH_; clear hH_)
      exact q _ u [1] ((s5.trans s6).trans s7) ((s5.trans s6).free nu) e7 (by decide) n0 (fun y hy => by rw [List.mem_singleton] at hy; subst hy; exact Bd.one (by decide))
    · refine ⟨_, rfl, q _ p l (s5.trans s6) np1 (s6 _ _ e5) ?_ hlen2 hb2⟩
      unfold abvB
      rw [hcB, decide_eq_true h0]
      have : l ≠ [0] := fun e => c1 (decide_eq_true e)
      simpa using this
end
def sp_l_rounding (K : PySem.W.Frag) : Sp := fun vs H Q _ => ∃ (x : Str) (a : Addr) (q : List Int) (m : Int), vs = [.str x, .ref a, .int m] ∧ SqL K H a (q.map V.int) ∧ q ≠ [] ∧ begB q = true ∧ 0 < (Cm.W q).1 ∧ (∀ y ∈ q, Bd 100 y) ∧ q.length ≤ 6 ∧ 1 ≤ m ∧ m ≤ 5 ∧
  ∀ H' p l, Same H H' → H p = none → H' p = some (.lst (l.map V.int)) → abvB l = true → BdF 1400 (Cm.W l) → l.length ≤ 18000 → Q (.ref p) H'
section
variable {P : Program} {w : World} {K : PySem.W.Frag} {mg : Str → Option Value} {base : Heap}
theorem cal_l_rounding (T : Txt K mg) (NS : base.NoSeer) (ht : P.given.tree = none) : Cal P w K mg base CX0 2 "_law_rounding" (sp_l_rounding K) := by
  have C_l_worth := cal_l_worth (P := P) (w := w) (base := base) T NS ht
  have C_l_rests := cal_l_rests (P := P) (w := w) (base := base) T NS ht
  refine cal_ok T.d_l_rounding sc_l_rounding (fun vs H Q E h => ?_) (fun f cdv A outer s H vs Q E hr h => ?_)
  · obtain ⟨x, a, q, m, rfl, _⟩ := h
    rfl
  · refine ⟨_, (pss_cons (ps_asg (pe_c C_l_worth hr (by decide) (by rfl) (pa_cons (pv 1) pa_nil)) (pg_tup rfl (pgs_cons (pg_name (i := 3) sc_l_rounding.nd rfl (.inl rfl)) (pgs_cons (pg_name (i := 4) sc_l_rounding.nd rfl (.inl rfl)) pgs_nil))))
      (Evl.pss_cut (ps_if (pt_cmpR op_eq (pv 0) pe_str (nomark _)) (pss_one (ps_set (i := 5) sc_l_rounding.nd rfl (.inl rfl) (pe_tup (pa_cons (pe_op op_sub (pe_op op_mulX (pe_op op_add (pe_op op_fdivP (pv 3) (pv 4)) (pv 2)) (pv 4)) (pv 3)) (pa_cons (pv 4) pa_nil))))) (pss_one (ps_if (pt_cmpR op_eq (pv 0) pe_str (nomark _)) (pss_one (ps_set (i := 5) sc_l_rounding.nd rfl (.inl rfl) (pe_tup (pa_cons (pe_op op_add (pv 3) (pe_op op_mulX (pv 2) (pv 4))) (pa_cons (pv 4) pa_nil))))) (pss_one (ps_if (pt_cmpR op_eq (pv 0) pe_str (nomark _)) (pss_one (ps_set (i := 5) sc_l_rounding.nd rfl (.inl rfl) (pe_tup (pa_cons (pe_op op_mulX (pv 2) (pv 4)) (pa_cons (pv 3) pa_nil))))) (pss_one (ps_set (i := 5) sc_l_rounding.nd rfl (.inl rfl) (pe_tup (pa_cons (pv 3) (pa_cons (pe_op op_mulX (pv 4) (pv 2)) pa_nil))))))))))
      (pss_one (ps_ret (pe_c C_l_rests hr (by decide) (by rfl) (pa_cons (pe_ix (r := rIxT K) ix_tup (pv 5) pe_int (fun _ _ => rfl)) (pa_cons (pe_ix (r := rIxT K) ix_tup (pv 5) pe_int (fun _ _ => rfl)) (pa_cons pe_int pa_nil)))))))), ?_⟩
    obtain ⟨x, a, q, m, rfl, hS, hne, hb, w1, hbd, hl, m1, m5, k⟩ := h
    obtain ⟨c1, c2⟩ := W_bd' (m := 6) hbd hl
    have w2 := beg_bot hb hne
    refine ⟨_, rfl, a, q, rfl, hS, hne, sz_short (by omega) (fun y hy => (hbd y hy).mono (by decide)), fun H1 t s1 nt et => ?_⟩
    refine ⟨t, _, rfl, sqT et, rfl, _, _, rfl, _, _, rfl, rfl, ?_⟩
    generalize Cm.W q = f at *
    obtain ⟨u, v⟩ := f
    dsimp only at w1 w2 c1 c2 et
    have bm : Bd 10 m := Bd.of_le (by omega) m5 (bdL (by decide))
    have d0 := Int.mul_ediv_add_emod u v
    have r0 := Int.emod_nonneg u (show v ≠ 0 by omega)
    have r1 := Int.emod_lt_of_pos u (show 0 < v by omega)
    have bq : Bd 607 (u / v) := Nat.lt_of_le_of_lt (Int.natAbs_ediv_le_natAbs u v) c1
    have bvm : Bd 1400 (v * m) := (c2.mul bm).mono (by decide)
    have mv := Int.mul_pos (show 0 < m by omega) (show 0 < v by omega)
    refine ⟨fun σ H' => ∃ (p : Addr) (f : Int × Int), σ = [some (.str x), some (.ref a), some (.int m), some (.int u), some (.int v), some (.ref p)] ∧ Same H1 H' ∧ HPr K H' p f ∧ 0 < f.1 ∧ 0 < f.2 ∧ Bd 1400 f.1 ∧ Bd 1400 f.2, ?_, ?_⟩
    · refine ⟨_, rfl, rfl, _, rfl, ite2 (fun z1 => ?_) (fun z1 => ?_)⟩
      · refine ⟨_, rfl, _, rfl, _, _, rfl, rfl, divOk (by omega) (c2.mono (by decide)) (show 607 ≤ 9000 by decide) (by decide), _, rfl, _, _, rfl, rfl, _, rfl, _, _, rfl, rfl, mulOk (bq.add (bm.mono (by decide))) c2 (by decide), _, rfl, _, _, rfl, rfl, _, rfl, by show 2 ≤ sizeLine; decide, fun p np => ?_⟩
        (generalize hH_ : upd _ p _ = H2; have s2 := same_of hH_ np; have ep := at_new hH_; clear hH_)
        have e : (u / v + m) * v - u = m * v - u % v := by grind
        have mv1 := Int.mul_le_mul_of_nonneg_right m1 (show 0 ≤ v by omega)
        refine ⟨p, ((u / v + m) * v - u, v), rfl, s2, sqT ep, by show 0 < (u / v + m) * v - u; omega, by show 0 < v; omega, ?_, c2.mono (by decide)⟩
        exact ((((bq.add (bm.mono (by decide))).mul c2).mono (show _ ≤ 1300 by decide)).sub (c1.mono (by decide))).mono (by decide)
      · refine ⟨_, rfl, rfl, _, rfl, ite2 (fun z2 => ?_) (fun z2 => ?_)⟩
        · refine ⟨_, rfl, _, rfl, _, rfl, _, _, rfl, rfl, mulOk bm c2 (by decide), _, _, rfl, rfl, _, rfl, by show 2 ≤ sizeLine; decide, fun p np => ?_⟩
          (generalize hH_ : upd _ p _ = H2; have s2 := same_of hH_ np; have ep := at_new hH_; clear hH_)
          exact ⟨p, (u + m * v, v), rfl, s2, sqT ep, by show 0 < u + m * v; omega, by show 0 < v; omega, ((c1.mono (by decide)).add ((bm.mul c2).mono (show _ ≤ 1300 by decide))).mono (by decide), c2.mono (by decide)⟩
        · refine ⟨_, rfl, rfl, _, rfl, ite2 (fun z3 => ?_) (fun z3 => ?_)⟩
          · refine ⟨_, rfl, _, rfl, _, _, rfl, rfl, mulOk bm c2 (by decide), _, rfl, by show 2 ≤ sizeLine; decide, fun p np => ?_⟩
            (generalize hH_ : upd _ p _ = H2; have s2 := same_of hH_ np; have ep := at_new hH_; clear hH_)
            exact ⟨p, (m * v, u), rfl, s2, sqT ep, mv, w1, (bm.mul c2).mono (by decide), c1.mono (by decide)⟩
          · refine ⟨_, rfl, _, rfl, _, rfl, _, _, rfl, rfl, mulOk c2 bm (by decide), by show 2 ≤ sizeLine; decide, fun p np => ?_⟩
            (generalize hH_ : upd _ p _ = H2; have s2 := same_of hH_ np; have ep := at_new hH_; clear hH_)
            exact ⟨p, (u, v * m), rfl, s2, sqT ep, w1, by show 0 < v * m; rw [Int.mul_comm]; exact mv, c1.mono (by decide), bvm⟩
    rintro σ H2 ⟨p, f, rfl, s2, hp, f1, f2, b1, b2⟩
    refine ⟨_, rfl, p, _, 0, _, rfl, rfl, hp, pr_at0 hp, _, rfl, p, _, 1, _, rfl, rfl, hp, pr_at1 hp, f.1, f.2, 100000, rfl, by omega, b2.mono (by decide), fun H3 r s3 nr er => ?_⟩
    have len := euc_len' (t := f.1) (b2.mono (by decide) : Bd 8999 f.2)
    rw [List.take_of_length_le (by omega)] at er
    have N : Num 1400 (Cm.euc f.1 f.2) f := ⟨rfl, f1, f2, euc_bd f2 b1 b2⟩
    exact k _ r _ ((s1.trans s2).trans s3) ((s1.trans s2).free nr) er N.abv N.bd len
end
def sp_l_ends (K : PySem.W.Frag) : Sp := fun vs H Q _ => ∃ (a : Addr) (q : List Int) (w : Bool) (n : Nat), vs = [.ref a] ∧ HNum K H a q w ∧ q.length ≤ 90000 ∧ Okn q w ∧ NB n q ∧ n ≤ 10000000 ∧
  ∀ H' p lo hv, Same H H' → H p = none → H' p = some (.lst [.ref lo, .bl (nends q w).ml, hv, .bl (nends q w).mh]) → HPr K H' lo (nends q w).lo → HHi K H' hv (nends q w).hi → Q (.ref p) H'
section
variable {P : Program} {w : World} {K : PySem.W.Frag} {mg : Str → Option Value} {base : Heap}
theorem cal_l_ends (T : Txt K mg) (NS : base.NoSeer) (ht : P.given.tree = none) : Cal P w K mg base CX0 2 "_law_ends" (sp_l_ends K) := by
  have C_l_worth := cal_l_worth (P := P) (w := w) (base := base) T NS ht
  refine cal_ok T.d_l_ends sc_l_ends (fun vs H Q E h => ?_) (fun f cdv A outer s H vs Q E hr h => ?_)
  · obtain ⟨a, q, w, n, rfl, _⟩ := h
    rfl
  · refine ⟨_, (pss_cons (ps_asg (pv 0) (pg_tup rfl (pgs_cons (pg_name (i := 1) sc_l_ends.nd rfl (.inl rfl)) (pgs_cons (pg_name (i := 2) sc_l_ends.nd rfl (.inl rfl)) pgs_nil))))
      (pss_cons (ps_if (pt_cmpR (r := rEqD K) (op_eqD hr.units) (pv 1) (pe_lst pa_nil) (nomark _)) (pss_one (ps_ret (pe_lst (pa_cons (pe_tup (pa_cons pe_int (pa_cons pe_int pa_nil))) (pa_cons pe_bl (pa_cons pe_non (pa_cons pe_bl pa_nil))))))) pss_nil)
      (pss_cons (ps_set (i := 3) sc_l_ends.nd rfl (.inl rfl) (pe_c C_l_worth hr (by decide) (by rfl) (pa_cons (pv 1) pa_nil)))
      (pss_cons (ps_if (pt_truth (pv 2) (by intro _; rfl)) (pss_one (ps_ret (pe_lst (pa_cons (pv 3) (pa_cons pe_bl (pa_cons (pv 3) (pa_cons pe_bl pa_nil))))))) pss_nil)
      (pss_cons (ps_set (i := 4) sc_l_ends.nd rfl (.inl rfl) (pe_c C_l_worth hr (by decide) (by rfl) (pa_cons (pe_op op_cat (pe_slice sl_list (pv 1) po_none (po_some (pe_un un_neg pe_int))) (pe_lst (pa_cons (pe_op op_add (pe_ix (r := rIxL K) ix_list (pv 1) (pe_un un_neg pe_int) (fun _ _ => rfl)) pe_int) pa_nil))) pa_nil)))
      (Evl.pss_cut (ps_set (i := 5) sc_l_ends.nd rfl (.inl rfl) (pe_and (pe_cmpR (r := rNeD K) (op_neD hr.units) (pv 1) (pe_lst (pa_cons pe_int pa_nil)) (nomark _)) (pe_one (pe_or (pe_cmpR op_eq (pe_callB call_len_seq (by rfl) T.z_len PySem.boot_len (pa_cons (pv 1) pa_nil)) pe_int (nomark _)) (pe_one (pe_cmpR op_gt (pe_ix (r := rIxL K) ix_list (pv 1) (pe_un un_neg pe_int) (fun _ _ => rfl)) pe_int (nomark _)))))))
      (pss_one (ps_ret (pe_ix (r := rIxL K) ix_list (pe_lst (pa_cons (pe_lst (pa_cons (pv 4) (pa_cons pe_bl (pa_cons (pv 3) (pa_cons (pv 5) pa_nil))))) (pa_cons (pe_lst (pa_cons (pv 3) (pa_cons (pv 5) (pa_cons (pv 4) (pa_cons pe_bl pa_nil))))) pa_nil))) (pe_op op_mod (pe_callB call_len_seq (by rfl) T.z_len PySem.boot_len (pa_cons (pv 1) pa_nil)) pe_int) (fun _ _ => rfl)))))))))), ?_⟩
    obtain ⟨a, q, w, n, rfl, ⟨p, hT, hp⟩, hl, ok, nb, hn, k⟩ := h
    refine ⟨_, rfl, a, _, rfl, hT, rfl, _, _, rfl, _, _, rfl, rfl, ?_⟩
    refine ⟨_, rfl, Nat.zero_le _, fun c nc => ?_⟩
    (generalize hH_ : upd _ c _ = H1; have s1 := same_of hH_ nc; have ec := at_new hH_; clear hH_)
    have hp1 := s1 _ _ hp
    refine ⟨_, _, dp_ints (sqL hp1), dp_ints (ns := []) (sqL ec), shaped_ints _, shaped_ints _, ?_⟩
    rw [eqv_ints]
    refine ⟨_, rfl, ite2 (fun c1 => ?_) (fun c1 => ?_)⟩
    · have e0 : q = [] := of_decide_eq_true c1
      subst e0
      have w0 : w = false := by
        cases w with
        | false => rfl
        | true => exact absurd (ok.abv rfl) (by decide)
      subst w0
      refine ⟨(by show 2 ≤ sizeLine; decide), fun d nd => ?_⟩
      (generalize hH_ : upd _ d _ = H2; have s2 := same_of hH_ nd; have ed := at_new hH_; clear hH_)
      refine ⟨(by show 4 ≤ sizeLine; decide), fun r nr => ?_⟩
      (generalize hH_ : upd _ r _ = H3; have s3 := same_of hH_ nr; have er := at_new hH_; clear hH_)
      exact k _ r d .non ((s1.trans s2).trans s3) ((s1.trans s2).free nr) er (sqT (s3 _ _ ed)) rfl
    have hne : q ≠ [] := fun z => c1 (decide_eq_true z)
    obtain ⟨sz1, sz2⟩ := sz_beg ok.beg nb hn hne
    refine ⟨_, rfl, p, q, rfl, sqL hp1, hne, sz1, fun H2 u s2 nu eu => ?_⟩
    have hp2 := s2 _ _ hp1
    have hu : HPr K H2 u (Cm.W q) := sqT eu
    refine ⟨_, rfl, _, rfl, ?_⟩
    cases w with
    | true =>
      refine iteT ⟨_, rfl, _, rfl, by show 4 ≤ sizeLine; decide, fun r nr => ?_⟩
      (generalize hH_ : upd _ r _ = H3; have s3 := same_of hH_ nr; have er := at_new hH_; clear hH_)
      exact k _ r u (.ref u) ((s1.trans s2).trans s3) ((s1.trans s2).free nr) er (same_t s3 hu) ⟨u, rfl, same_t s3 hu⟩
    | false =>
    refine iteF ⟨_, rfl, 1, rfl, _, rfl, p, _, rfl, sqL hp2, fun d nd => ?_⟩
    (generalize hH_ : upd _ d _ = H3; have s3 := same_of hH_ nd; have ed := at_new hH_; clear hH_)
    rw [cut_neg1, ← List.map_dropLast] at ed
    have hp3 := s3 _ _ hp2
    refine ⟨_, rfl, 1, rfl, p, _, _, _, rfl, rfl, sqL hp3, getLastD_ne hne, _, _, rfl, rfl, (by show 1 ≤ sizeLine; decide), fun e ne => ?_⟩
    (generalize hH_ : upd _ e _ = H4; have s4 := same_of hH_ ne; have ee := at_new hH_; clear hH_)
    refine ⟨d, e, _, _, rfl, rfl, s4 _ _ ed, ee, ?_, fun g ng => ?_⟩
    · rw [List.length_map, List.length_dropLast]
      exact Nat.le_trans (show q.length - 1 + 1 ≤ 100000 by omega) (by decide)
    (generalize hH_ : upd _ g _ = H5; have s5 := same_of hH_ ng; have eg := at_new hH_; clear hH_)
    replace eg : H5 g = some (.lst ((Cm.up q).map V.int)) := by
      rw [eg]
      exact congrArg (fun z => some (HO.lst z)) up_map
    have une : Cm.up q ≠ [] := fun z => by
      have := up_len hne
      rw [z] at this
      exact hne (List.length_eq_zero_iff.mp this.symm)
    refine ⟨g, _, rfl, sqL eg, une, sz2, fun H6 v s6 nv ev => ?_⟩
    have s26 := ((s3.trans s4).trans s5).trans s6
    have hu6 : HPr K H6 u (Cm.W q) := same_t s26 hu
    have hv6 : HPr K H6 v (Cm.W (Cm.up q)) := sqT ev
    have hp6 := s26 _ _ hp2
    have s06 := (s1.trans s2).trans s26
    have en : nends q false = if q.length % 2 = 1 then ⟨Cm.W q, abvB q, some (Cm.W (Cm.up q)), false⟩ else ⟨Cm.W (Cm.up q), false, some (Cm.W q), abvB q⟩ := by
      show ends q = _
      unfold ends Cm.endsOf
      rw [if_neg hne]
    refine ⟨fun σ H' => σ = [some (.ref a), some (.ref p), some (.bl false), some (.ref u), some (.ref v), some (.bl (abvB q))] ∧ Same H6 H', ?_, ?_⟩
    · rw [abvB_beg ok.beg hne]
      refine ⟨_, rfl, by show 1 ≤ sizeLine; decide, fun z nz => ?_⟩
      (generalize hH_ : upd _ z _ = H7; have s7 := same_of hH_ nz; have ez := at_new hH_; clear hH_)
      replace ez : H7 z = some (.lst (([0] : List Int).map V.int)) := ez
      refine ⟨_, _, dp_ints (sqL (s7 _ _ hp6)), dp_ints (sqL ez), shaped_ints _, shaped_ints _, ?_⟩
      rw [eqv_ints]
      have e2 : (q != [0]) = !decide (q = [0]) := by
        cases z : decide (q = [0]) with
        | true => rw [of_decide_eq_true z]; rfl
        | false => simpa using of_decide_eq_false z
      rw [e2]
      refine ⟨_, rfl, ?_⟩
      cases hz : decide (q = [0]) with
      | true => exact iteF ⟨rfl, s7⟩
      | false =>
        refine iteT ⟨_, rfl, p, _, rfl, .inl (sqL (s7 _ _ hp6)), rfl, _, rfl, ite2 (fun c2 => ?_) (fun c2 => ?_)⟩
        · have l1 : q.length = 1 := by
            have := V.int.inj (of_decide_eq_true c2)
            rw [List.length_map] at this
            omega
          rw [l1]
          exact ⟨rfl, s7⟩
        · have l1 : (q.length == 1) = false := beq_eq_false_iff_ne.mpr fun z => c2 (decide_eq_true (by rw [List.length_map, z]; rfl))
          rw [l1]
          exact ⟨_, rfl, 1, rfl, p, _, _, _, rfl, rfl, sqL (s7 _ _ hp6), getLastD_ne hne, _, _, rfl, rfl, rfl, s7⟩
    rintro σ H7 ⟨rfl, s7⟩
    have hp7 := s7 _ _ hp6
    have hu7 := same_t s7 hu6
    have hv7 := same_t s7 hv6
    refine ⟨_, rfl, _, rfl, _, rfl, by show 4 ≤ sizeLine; decide, fun y1 n1 => ?_⟩
    (generalize hH_ : upd _ y1 _ = H8; have s8 := same_of hH_ n1; have e8 := at_new hH_; clear hH_)
    refine ⟨_, rfl, _, rfl, _, rfl, by show 4 ≤ sizeLine; decide, fun y2 n2 => ?_⟩
    (generalize hH_ : upd _ y2 _ = H9; have s9 := same_of hH_ n2; have e9 := at_new hH_; clear hH_)
    refine ⟨by show 2 ≤ sizeLine; decide, fun y3 n3 => ?_⟩
    (generalize hH_ : upd _ y3 _ = H10; have s10 := same_of hH_ n3; have e10 := at_new hH_; clear hH_)
    have s710 := (s8.trans s9).trans s10
    rw [en] at k
    refine ⟨_, rfl, p, _, rfl, .inl (sqL (s710 _ _ hp7)), _, _, rfl, rfl, (show (0 : Int) < 2 by decide), ?_⟩
    rw [List.length_map]
    have s010 := (s06.trans s7).trans s710
    by_cases ho : q.length % 2 = 1
    · rw [if_pos ho] at k
      have e3 : ((q.length : Nat) : Int) % 2 = 1 := by omega
      exact ⟨y3, _, ((q.length : Nat) : Int) % 2, .ref y2, rfl, rfl, sqL e10, (by rw [e3]; exact two1), k _ y2 u (.ref v) s010 ((s06.trans (s7.trans s8)).free n2) (s10 _ _ e9) (same_t s710 hu7) ⟨v, rfl, same_t s710 hv7⟩⟩
    · rw [if_neg ho] at k
      have e3 : ((q.length : Nat) : Int) % 2 = 0 := by omega
      exact ⟨y3, _, ((q.length : Nat) : Int) % 2, .ref y1, rfl, rfl, sqL e10, (by rw [e3]; exact two0), k _ y1 v (.ref u) s010 ((s06.trans s7).free n1) (s10 _ _ (s9 _ _ e8)) (same_t s710 hv7) ⟨u, rfl, same_t s710 hu7⟩⟩
end
def HEl (K : PySem.W.Frag) (H : Hp) (a : Addr) (e : Cm.En) : Prop := ∃ (lo : Addr) (hv : V), H a = some (.lst [.ref lo, .bl e.ml, hv, .bl e.mh]) ∧ HPr K H lo e.lo ∧ HHi K H hv e.hi
theorem HEl.same {K : PySem.W.Frag} {H H' : Hp} {a : Addr} {e : Cm.En} (h : HEl K H a e) (s : Same H H') : HEl K H' a e := by
  obtain ⟨lo, hv, h1, h2, h3⟩ := h
  exact ⟨lo, hv, s _ _ h1, same_t s h2, h3.same s⟩
def sp_l_both (K : PySem.W.Frag) : Sp := fun vs H Q _ => ∃ (x : Str) (a b : Addr) (e1 e2 : Cm.En), vs = [.str x, .ref a, .ref b] ∧ HEl K H a e1 ∧ HEl K H b e2 ∧ BdF 60000000 e1.lo ∧ (∀ f, e1.hi = some f → BdF 60000000 f) ∧ BdF 60000000 e2.lo ∧ (∀ f, e2.hi = some f → BdF 60000000 f ∧ 0 < f.1) ∧
  ∀ H' p lv hv, Same H H' → H p = none → H' p = some (.tup [lv, .bl (bothL x e1 e2), hv, .bl (bothH x e1 e2)]) → HHi K H' lv (bothLo x e1 e2) → HHi K H' hv (bothHi x e1 e2) → Q (.ref p) H'
section
variable {P : Program} {w : World} {K : PySem.W.Frag} {mg : Str → Option Value} {base : Heap}
theorem cal_l_both (T : Txt K mg) (NS : base.NoSeer) (ht : P.given.tree = none) : Cal P w K mg base CX0 2 "_law_both" (sp_l_both K) := by
  have C_l_done := cal_l_done (P := P) (w := w) (base := base) T NS ht
  refine cal_ok T.d_l_both sc_l_both (fun vs H Q E h => ?_) (fun f cdv A outer s H vs Q E hr h => ?_)
  · obtain ⟨x, a, b, e1, e2, rfl, _⟩ := h
    rfl
  · refine ⟨_, (Evl.pss_cut (ps_if (pt_cmpR op_in_seq (pv 0) (pe_tup (pa_cons pe_str (pa_cons pe_str pa_nil))) (by rfl)) (pss_one (ps_set (i := 2) sc_l_both.nd rfl (.inl rfl) (pe_op op_cat (pe_slice sl_list (pv 2) (po_some pe_int) po_none) (pe_slice sl_list (pv 2) po_none (po_some pe_int))))) pss_nil)
      (pss_cons (ps_asg (pe_tup (pa_cons pe_non (pa_cons pe_non pa_nil))) (pg_tup rfl (pgs_cons (pg_name (i := 3) sc_l_both.nd rfl (.inl rfl)) (pgs_cons (pg_name (i := 4) sc_l_both.nd rfl (.inl rfl)) pgs_nil))))
      (Evl.pss_cut (ps_if (PW.pt (pw_and (pt_cmpR op_eq (pv 0) pe_str (nomark _)) (pw_and1 (pt_cmpR op_isN (pe_ix (r := rIxL K) ix_list (pv 2) pe_int (fun _ _ => rfl)) pe_non (nomark _))))) (pss_one (ps_set (i := 3) sc_l_both.nd rfl (.inl rfl) (pe_tup (pa_cons pe_int (pa_cons pe_int pa_nil))))) (pss_one (ps_if (pt_cmpR op_notN (pe_ix (r := rIxL K) ix_list (pv 2) pe_int (fun _ _ => rfl)) pe_non (nomark _)) (pss_one (ps_set (i := 3) sc_l_both.nd rfl (.inl rfl) (pe_c C_l_done hr (by decide) (by rfl) (pa_cons (pv 0) (pa_cons (pe_ix (r := rIxL K) ix_list (pv 1) pe_int (fun _ _ => rfl)) (pa_cons (pe_ix (r := rIxL K) ix_list (pv 2) pe_int (fun _ _ => rfl)) pa_nil)))))) pss_nil)))
      (Evl.pss_cut (ps_if (PW.pt (pw_and (pt_cmpR op_notN (pe_ix (r := rIxL K) ix_list (pv 1) pe_int (fun _ _ => rfl)) pe_non (nomark _)) (pw_and (pt_cmpR op_notN (pe_ix (r := rIxL K) ix_list (pv 2) pe_int (fun _ _ => rfl)) pe_non (nomark _)) (pw_and1 (pt_not (PW.pt (pw_and (pt_cmpR op_eq (pv 0) pe_str (nomark _)) (pw_and1 (pt_cmpR op_eq (pe_ix (r := rIxT K) ix_tup (pe_ix (r := rIxL K) ix_list (pv 2) pe_int (fun _ _ => rfl)) pe_int (fun _ _ => rfl)) pe_int (nomark _)))))))))) (pss_one (ps_set (i := 4) sc_l_both.nd rfl (.inl rfl) (pe_c C_l_done hr (by decide) (by rfl) (pa_cons (pv 0) (pa_cons (pe_ix (r := rIxL K) ix_list (pv 1) pe_int (fun _ _ => rfl)) (pa_cons (pe_ix (r := rIxL K) ix_list (pv 2) pe_int (fun _ _ => rfl)) pa_nil)))))) pss_nil)
      (pss_one (ps_ret (pe_tup (pa_cons (pv 3) (pa_cons (pe_and (pe_ix (r := rIxL K) ix_list (pv 1) pe_int (fun _ _ => rfl)) (pe_one (pe_ix (r := rIxL K) ix_list (pv 2) pe_int (fun _ _ => rfl)))) (pa_cons (pv 4) (pa_cons (pe_and (pe_ix (r := rIxL K) ix_list (pv 1) pe_int (fun _ _ => rfl)) (pe_one (pe_ix (r := rIxL K) ix_list (pv 2) pe_int (fun _ _ => rfl)))) pa_nil))))))))))), ?_⟩
    obtain ⟨x, a, b, e1, e2, rfl, hA, hB, b1, b2, b3, b4, k⟩ := h
    -- the other one's ends, turned
    refine ⟨fun σ H' => ∃ (d : Addr) (lv hv : V), σ = [some (.str x), some (.ref a), some (.ref d), none, none] ∧ Same H H' ∧ H' d = some (.lst [lv, .bl (bif turns x then e2.mh else e2.ml), hv, .bl (bif turns x then e2.ml else e2.mh)]) ∧
      HHi K H' lv (bif turns x then e2.hi else some e2.lo) ∧ HHi K H' hv (bif turns x then some e2.lo else e2.hi), ?_, ?_⟩
    · refine ⟨_, rfl, by show 2 ≤ sizeLine; decide, fun t nt => ?_⟩
      (generalize hH_ : upd _ t _ = H1; have s1 := same_of hH_ nt; have et := at_new hH_; clear hH_)
      refine ⟨t, _, rfl, .inr (sqT et), rfl, by decide, ?_⟩
      rw [if_neg Bool.false_ne_true, in_turns]
      refine ⟨_, rfl, ?_⟩
      obtain ⟨lo, hv, h1, h2, h3⟩ := hB.same s1
      cases ht : turns x with
      | true =>
        refine iteT ⟨_, rfl, 2, rfl, b, _, rfl, sqL h1, fun c nc => ?_⟩
        (generalize hH_ : upd _ c _ = H2; have s2 := same_of hH_ nc; have ec := at_new hH_; clear hH_)
        refine ⟨_, rfl, 2, rfl, b, _, rfl, sqL (s2 _ _ h1), fun d nd => ?_⟩
        (generalize hH_ : upd _ d _ = H3; have s3 := same_of hH_ nd; have ed := at_new hH_; clear hH_)
        refine ⟨c, d, _, _, rfl, rfl, s3 _ _ ec, ed, by show 4 ≤ sizeLine; decide, fun g ng => ?_⟩
        (generalize hH_ : upd _ g _ = H4; have s4 := same_of hH_ ng; have eg := at_new hH_; clear hH_)
        have s14 := (s2.trans s3).trans s4
        exact ⟨g, hv, .ref lo, rfl, s1.trans s14, eg, h3.same s14, lo, rfl, same_t s14 h2⟩
      | false =>
        exact iteF ⟨b, .ref lo, hv, rfl, s1, h1, ⟨lo, rfl, h2⟩, h3⟩
    rintro σ H1 ⟨d, lv, hv, rfl, s1, ed, hl, hh⟩
    refine ⟨by show 2 ≤ sizeLine; decide, fun t nt => ?_⟩
    (generalize hH_ : upd _ t _ = H2; have s2 := same_of hH_ nt; have et := at_new hH_; clear hH_)
    refine ⟨t, _, rfl, sqT et, rfl, _, _, rfl, _, _, rfl, rfl, ?_⟩
    have ed2 := s2 _ _ ed
    have hl2 := hl.same s2
    have hh2 := hh.same s2
    have s02 := s1.trans s2
    obtain ⟨lo1, hv1, f1, f2, f3⟩ := hA.same s02
    clear et hl hh ed
    have bl : ∀ f, (bif turns x then e2.hi else some e2.lo) = some f → BdF 60000000 f ∧ (x = "over" → 0 < f.1) := by
      intro f hf
      cases ht : turns x with
      | true =>
        rw [ht] at hf
        exact ⟨(b4 f hf).1, fun _ => (b4 f hf).2⟩
      | false =>
        rw [ht] at hf
        rw [← Option.some.inj hf]
        refine ⟨b3, fun z => ?_⟩
        rw [z] at ht
        exact absurd ht (by decide)
    have bh : ∀ f, (bif turns x then some e2.lo else e2.hi) = some f → BdF 60000000 f := by
      intro f hf
      cases ht : turns x with
      | false =>
        rw [ht] at hf
        exact (b4 f hf).1
      | true =>
        rw [ht] at hf
        rw [← Option.some.inj hf]
        exact b3
    unfold bothLo bothHi at k
    have ej : ∀ o, joinO x (some e1.lo) o = match o with | some g => (if x = "over" ∧ g.1 = 0 then none else some (doneV x e1.lo g)) | none => if x = "over" then some (0, 1) else none := fun o => by cases o <;> rfl
    refine ⟨fun σ H' => ∃ lv3, σ = [some (.str x), some (.ref a), some (.ref d), some lv3, some .non] ∧ Same H2 H' ∧ HHi K H' lv3 (joinO x (some e1.lo) (bif turns x then e2.hi else some e2.lo)), ?_, ?_⟩
    · generalize (bif turns x then e2.hi else some e2.lo) = o2 at *
      cases o2 with
      | none =>
        have el : lv = .non := hl2
        subst el
        refine ⟨_, rfl, rfl, _, rfl, ite2 (fun c => ?_) (fun c => ?_)⟩
        · have hx : x = "over" := V.str.inj (of_decide_eq_true c)
          have e3 : joinO x (some e1.lo) none = some (0, 1) := if_pos hx
          refine ⟨_, rfl, d, _, 0, _, rfl, rfl, sqL ed2, en_at0, rfl, _, rfl, ?_⟩
          refine iteT ⟨by show 2 ≤ sizeLine; decide, fun p np => ?_⟩
          (generalize hH_ : upd _ p _ = H3; have s3 := same_of hH_ np; have ep := at_new hH_; clear hH_)
          rw [e3]
          exact ⟨.ref p, rfl, s3, p, rfl, sqT ep⟩
        · have hx : ¬ x = "over" := fun z => c (decide_eq_true (by rw [z]))
          have e3 : joinO x (some e1.lo) none = none := if_neg hx
          refine iteF ⟨_, rfl, d, _, 0, _, rfl, rfl, sqL ed2, en_at0, rfl, _, rfl, ?_⟩
          rw [e3]
          exact iteF ⟨.non, rfl, Same.refl _, rfl⟩
      | some g =>
        obtain ⟨c2, rfl, hC⟩ := hl2
        obtain ⟨bg, pg⟩ := bl g rfl
        have e3 : joinO x (some e1.lo) (some g) = some (doneV x e1.lo g) := if_neg fun z => by have := pg z.1; omega
        have fin : sp_l_done K [.str x, .ref lo1, .ref c2] H2 (fun v H' => ∃ lv3, [some (.str x), some (.ref a), some (.ref d), some v, some .non] = [some (.str x), some (.ref a), some (.ref d), some lv3, some .non] ∧ Same H2 H' ∧ HHi K H' lv3 (joinO x (some e1.lo) (some g))) E0 :=
          ⟨x, lo1, c2, e1.lo, g, rfl, f2, hC, b1, bg, fun H3 p s3 np ep => ⟨.ref p, rfl, s3, by rw [e3]; exact ⟨p, rfl, sqT ep⟩⟩⟩
        refine ⟨_, rfl, rfl, _, rfl, ite2 (fun c => ?_) (fun c => ?_)⟩
        · refine ⟨_, rfl, d, _, 0, _, rfl, rfl, sqL ed2, en_at0, rfl, _, rfl, ?_⟩
          refine iteF ⟨_, rfl, d, _, 0, _, rfl, rfl, sqL ed2, en_at0, rfl, _, rfl, ?_⟩
          exact iteT ⟨_, rfl, _, rfl, a, _, 0, _, rfl, rfl, sqL f1, en_at0, _, rfl, d, _, 0, _, rfl, rfl, sqL ed2, en_at0, fin⟩
        · refine iteF ⟨_, rfl, d, _, 0, _, rfl, rfl, sqL ed2, en_at0, rfl, _, rfl, ?_⟩
          exact iteT ⟨_, rfl, _, rfl, a, _, 0, _, rfl, rfl, sqL f1, en_at0, _, rfl, d, _, 0, _, rfl, rfl, sqL ed2, en_at0, fin⟩
    rintro σ H3 ⟨lv3, rfl, s3, hl3⟩
    have ed3 := s3 _ _ ed2
    have hh3 := hh2.same s3
    have f1' := s3 _ _ f1
    have f3' := f3.same s3
    refine ⟨fun σ H' => ∃ hv3, σ = [some (.str x), some (.ref a), some (.ref d), some lv3, some hv3] ∧ Same H3 H' ∧ HHi K H' hv3 (joinO x e1.hi (bif turns x then some e2.lo else e2.hi)), ?_, ?_⟩
    · have bh0 : (bif turns x then some e2.lo else e2.hi) = none → ¬ x = "over" := fun z w => by
        rw [w, show turns "over" = true from rfl] at z
        cases z
      generalize (bif turns x then some e2.lo else e2.hi) = o2 at *
      refine ⟨_, rfl, a, _, 2, _, rfl, rfl, sqL f1', en_at2, rfl, _, rfl, ?_⟩
      cases ho1 : e1.hi with
      | none =>
        rw [ho1] at f3'
        have z : hv1 = .non := f3'
        subst z
        exact iteF ⟨.non, rfl, Same.refl _, rfl⟩
      | some hf =>
        rw [ho1] at f3'
        obtain ⟨c1, rfl, hC1⟩ := f3'
        refine iteT ⟨_, rfl, d, _, 2, _, rfl, rfl, sqL ed3, en_at2, rfl, _, rfl, ?_⟩
        cases o2 with
        | none =>
          have z : hv = .non := hh3
          subst z
          have e3 : joinO x (some hf) none = none := if_neg (bh0 rfl)
          rw [e3]
          exact iteF ⟨.non, rfl, Same.refl _, rfl⟩
        | some g =>
          obtain ⟨c2, rfl, hC2⟩ := hh3
          have e3 : joinO x (some hf) (some g) = if x = "over" ∧ g.1 = 0 then none else some (doneV x hf g) := rfl
          have fin : ¬ (x = "over" ∧ g.1 = 0) → sp_l_done K [.str x, .ref c1, .ref c2] H3 (fun v H' => ∃ hv3, [some (.str x), some (.ref a), some (.ref d), some lv3, some v] = [some (.str x), some (.ref a), some (.ref d), some lv3, some hv3] ∧ Same H3 H' ∧ HHi K H' hv3 (joinO x (some hf) (some g))) E0 := fun hc =>
            ⟨x, c1, c2, hf, g, rfl, hC1, hC2, b2 hf ho1, bh g rfl, fun H4 p s4 np ep => ⟨.ref p, rfl, s4, by rw [e3, if_neg hc]; exact ⟨p, rfl, sqT ep⟩⟩⟩
          refine iteT ⟨_, rfl, rfl, _, rfl, ite2 (fun c => ?_) (fun c => ?_)⟩
          · have hx : x = "over" := V.str.inj (of_decide_eq_true c)
            refine ⟨_, rfl, d, _, 2, _, rfl, rfl, sqL ed3, en_at2, c2, _, 0, _, rfl, rfl, hC2, pr_at0 hC2, rfl, _, rfl, ?_⟩
            by_cases hg : g.1 = 0
            · rw [decide_eq_true (congrArg V.int hg), e3, if_pos ⟨hx, hg⟩]
              exact iteF ⟨.non, rfl, Same.refl _, rfl⟩
            · rw [decide_eq_false (fun z => hg (V.int.inj z))]
              exact iteT ⟨_, rfl, _, rfl, a, _, 2, _, rfl, rfl, sqL f1', en_at2, _, rfl, d, _, 2, _, rfl, rfl, sqL ed3, en_at2, fin fun z => hg z.2⟩
          · have hx : ¬ x = "over" := fun z => c (decide_eq_true (by rw [z]))
            exact iteT ⟨_, rfl, _, rfl, a, _, 2, _, rfl, rfl, sqL f1', en_at2, _, rfl, d, _, 2, _, rfl, rfl, sqL ed3, en_at2, fin fun z => hx z.1⟩
    rintro σ H4 ⟨hv3, rfl, s4, hh4⟩
    have ed4 := s4 _ _ ed3
    have f14 := s4 _ _ f1'
    have all := (s02.trans s3).trans s4
    refine ⟨_, rfl, _, rfl, a, _, 1, _, rfl, rfl, sqL f14, en_at1, _, rfl, ?_⟩
    cases hm : e1.ml with
    | true =>
      have eL : bothL x e1 e2 = (bif turns x then e2.mh else e2.ml) := by unfold bothL; rw [hm, Bool.true_and]
      refine iteT ⟨_, rfl, d, _, 1, _, rfl, rfl, sqL ed4, en_at1, ?_⟩
      refine ⟨_, rfl, _, rfl, a, _, 3, _, rfl, rfl, sqL f14, en_at3, _, rfl, ?_⟩
      cases hn2 : e1.mh with
      | true =>
        have eH : bothH x e1 e2 = (bif turns x then e2.ml else e2.mh) := by unfold bothH; rw [hn2, Bool.true_and]
        refine iteT ⟨_, rfl, d, _, 3, _, rfl, rfl, sqL ed4, en_at3, by show 4 ≤ sizeLine; decide, fun p np => ?_⟩
        (generalize hH_ : upd _ p _ = H6; have s6 := same_of hH_ np; have ep := at_new hH_; clear hH_)
        exact k _ p lv3 hv3 (all.trans s6) (all.free np) (by rw [eL, eH]; exact ep) ((hl3.same s4).same s6) (hh4.same s6)
      | false =>
        have eH : bothH x e1 e2 = false := by unfold bothH; rw [hn2, Bool.false_and]
        refine iteF ⟨by show 4 ≤ sizeLine; decide, fun p np => ?_⟩
        (generalize hH_ : upd _ p _ = H6; have s6 := same_of hH_ np; have ep := at_new hH_; clear hH_)
        exact k _ p lv3 hv3 (all.trans s6) (all.free np) (by rw [eL, eH]; exact ep) ((hl3.same s4).same s6) (hh4.same s6)
    | false =>
      have eL : bothL x e1 e2 = false := by unfold bothL; rw [hm, Bool.false_and]
      refine iteF ?_
      refine ⟨_, rfl, _, rfl, a, _, 3, _, rfl, rfl, sqL f14, en_at3, _, rfl, ?_⟩
      cases hn2 : e1.mh with
      | true =>
        have eH : bothH x e1 e2 = (bif turns x then e2.ml else e2.mh) := by unfold bothH; rw [hn2, Bool.true_and]
        refine iteT ⟨_, rfl, d, _, 3, _, rfl, rfl, sqL ed4, en_at3, by show 4 ≤ sizeLine; decide, fun p np => ?_⟩
        (generalize hH_ : upd _ p _ = H6; have s6 := same_of hH_ np; have ep := at_new hH_; clear hH_)
        exact k _ p lv3 hv3 (all.trans s6) (all.free np) (by rw [eL, eH]; exact ep) ((hl3.same s4).same s6) (hh4.same s6)
      | false =>
        have eH : bothH x e1 e2 = false := by unfold bothH; rw [hn2, Bool.false_and]
        refine iteF ⟨by show 4 ≤ sizeLine; decide, fun p np => ?_⟩
        (generalize hH_ : upd _ p _ = H6; have s6 := same_of hH_ np; have ep := at_new hH_; clear hH_)
        exact k _ p lv3 hv3 (all.trans s6) (all.free np) (by rw [eL, eH]; exact ep) ((hl3.same s4).same s6) (hh4.same s6)
end
def sp_is_chain (K : PySem.W.Frag) : Sp := fun vs H Q _ => ∃ (x : V) (th : Option (List V)), vs = [x] ∧ Thing K H x th ∧ ∀ H', Same H H' → Q (.bl (onInts chB th)) H'
section
variable {P : Program} {w : World} {K : PySem.W.Frag} {mg : Str → Option Value} {base : Heap}
theorem cal_is_chain (T : Txt K mg) (NS : base.NoSeer) (ht : P.given.tree = none) : Cal P w K mg base CX0 3 "is_chain" (sp_is_chain K) := by
  have C_are_quotients := cal_are_quotients (P := P) (w := w) (base := base) T NS ht
  refine cal_ok T.d_is_chain sc_is_chain (fun vs H Q E h => ?_) (fun f cdv A outer s H vs Q E hr h => ?_)
  · obtain ⟨x, t, rfl, _⟩ := h
    rfl
  · refine ⟨_, (pss_one (ps_ret (pe_and (pe_c C_are_quotients hr (by decide) (by rfl) (pa_cons (pv 0) pa_nil)) (pe_and (pe_cmpR (r := rNeD K) (op_neD hr.units) (pv 0) (pe_lst pa_nil) (nomark _)) (pe_one (pe_or (pe_cmpR op_eq (pe_callB call_len_seq (by rfl) T.z_len PySem.boot_len (pa_cons (pv 0) pa_nil)) pe_int (nomark _)) (pe_one (pe_cmpR op_gt (pe_ix (r := rIxL K) ix_list (pv 0) (pe_un un_neg pe_int) (fun _ _ => rfl)) pe_int (nomark _))))))))), ?_⟩
    obtain ⟨x, th, rfl, hx, q⟩ := h
    refine ⟨_, rfl, _, th, rfl, hx, fun H1 s1 => ⟨_, rfl, ?_⟩⟩
    cases e : quotsT th with
    | false =>
      have e2 := onInts_no chB_quots e
      rw [e2] at q
      exact iteF (q _ s1)
    | true =>
      obtain ⟨ns, rfl⟩ := quotsT_yes e
      obtain ⟨a, rfl, hS, hlen, _⟩ := hx
      rw [quotsT_ints] at e
      rw [onInts_ints] at q
      unfold chB at q
      rw [e, Bool.true_and] at q
      refine iteT ⟨_, rfl, Nat.zero_le _, fun c nc => ?_⟩
      (generalize hH_ : upd _ c _ = H2; have s2 := same_of hH_ nc; have ec := at_new hH_; clear hH_)
      have hA : SqL K H2 a (ns.map V.int) := s2.seq (s1.seq hS)
      refine ⟨_, _, dp_ints hA, dp_ints (ns := []) (sqL ec), shaped_ints _, shaped_ints _, ?_⟩
      rw [eqv_ints]
      refine ⟨_, rfl, ?_⟩
      by_cases h0 : ns = []
      · subst h0
        exact iteF (q _ (s1.trans s2))
      · rw [decide_eq_false h0]
        have e0 : (ns != []) = true := by simpa using h0
        rw [e0, Bool.true_and] at q
        refine iteT ⟨_, rfl, a, _, rfl, .inl hA, rfl, _, rfl, ?_⟩
        rw [List.length_map]
        by_cases h1 : ns.length = 1
        · have z : decide (V.int (ns.length : Int) = V.int 1) = true := decide_eq_true (by rw [h1]; rfl)
          rw [z]
          rw [h1] at q
          exact iteT (q _ (s1.trans s2))
        · have z : decide (V.int (ns.length : Int) = V.int 1) = false := decide_eq_false fun k => h1 (by have := V.int.inj k; omega)
          have z2 : (ns.length == 1) = false := by simpa using h1
          rw [z]
          rw [z2, Bool.false_or] at q
          refine iteF ⟨_, rfl, 1, rfl, a, _, _, _, rfl, rfl, hA, atI_neg1 h0, _, 1, rfl, rfl, ?_⟩
          rw [getLast_D h0]
          exact q _ (s1.trans s2)
end
def sp_is_begun (K : PySem.W.Frag) : Sp := fun vs H Q _ => ∃ (x : V) (th : Option (List V)), vs = [x] ∧ Thing K H x th ∧ ∀ H', Same H H' → Q (.bl (onInts begB th)) H'
section
variable {P : Program} {w : World} {K : PySem.W.Frag} {mg : Str → Option Value} {base : Heap}
theorem cal_is_begun (T : Txt K mg) (NS : base.NoSeer) (ht : P.given.tree = none) : Cal P w K mg base CX0 3 "is_begun" (sp_is_begun K) := by
  have C_are_quotients := cal_are_quotients (P := P) (w := w) (base := base) T NS ht
  refine cal_ok T.d_is_begun sc_is_begun (fun vs H Q E h => ?_) (fun f cdv A outer s H vs Q E hr h => ?_)
  · obtain ⟨x, t, rfl, _⟩ := h
    rfl
  · refine ⟨_, (pss_one (ps_ret (pe_and (pe_c C_are_quotients hr (by decide) (by rfl) (pa_cons (pv 0) pa_nil)) (pe_one (pe_or (pe_cmpR (r := rEqD K) (op_eqD hr.units) (pv 0) (pe_lst pa_nil) (nomark _)) (pe_one (pe_cmpR op_ge (pe_ix (r := rIxL K) ix_list (pv 0) pe_int (fun _ _ => rfl)) pe_int (nomark _)))))))), ?_⟩
    obtain ⟨x, th, rfl, hx, q⟩ := h
    refine ⟨_, rfl, _, th, rfl, hx, fun H1 s1 => ⟨_, rfl, ?_⟩⟩
    cases e : quotsT th with
    | false =>
      have e2 := onInts_no begB_quots e
      rw [e2] at q
      exact iteF (q _ s1)
    | true =>
      obtain ⟨ns, rfl⟩ := quotsT_yes e
      obtain ⟨a, rfl, hS, hlen, _⟩ := hx
      rw [quotsT_ints] at e
      rw [onInts_ints] at q
      unfold begB at q
      rw [e, Bool.true_and] at q
      refine iteT ⟨_, rfl, Nat.zero_le _, fun c nc => ?_⟩
      (generalize hH_ : upd _ c _ = H2; have s2 := same_of hH_ nc; have ec := at_new hH_; clear hH_)
      have hA : SqL K H2 a (ns.map V.int) := s2.seq (s1.seq hS)
      refine ⟨_, _, dp_ints hA, dp_ints (ns := []) (sqL ec), shaped_ints _, shaped_ints _, ?_⟩
      rw [eqv_ints]
      refine ⟨_, rfl, ?_⟩
      cases ns with
      | nil => exact iteT (q _ (s1.trans s2))
      | cons n r =>
        refine iteF ⟨_, rfl, a, _, 0, _, rfl, rfl, hA, atI_int (ns := n :: r) (i := 0) rfl, _, _, rfl, rfl, ?_⟩
        exact q _ (s1.trans s2)
end
theorem num_ok {n : Nat} {l : List Int} (h : abvB l = true) (b : BdF n (Cm.W l)) (n1 : 1 ≤ n) (hl : l.length ≤ 90000) (w : Bool) (k : Nat) : NumOk (n + 1) (numQ l w k).1 (numQ l w k).2 := by
  unfold numQ
  split
  · have := nb_take h b n1 l.length
    rw [List.take_length] at this
    exact ⟨⟨beg_of_abv h, fun _ => h⟩, this, hl⟩
  · refine ⟨⟨begB_take (beg_of_abv h) k, fun z => by cases z⟩, nb_take h b n1 k, ?_⟩
    show (l.take k).length ≤ 90000
    rw [List.length_take]
    omega
theorem word_at {m : Int} (h0 : 0 ≤ m) (h4 : m < 4) : ∃ x : Str, atI ([.str "plus", .str "less", .str "times", .str "over"] : List V) m = some (.str x) ∧ x ∈ words := by
  have : m = 0 ∨ m = 1 ∨ m = 2 ∨ m = 3 := by omega
  rcases this with rfl | rfl | rfl | rfl
  · exact ⟨_, atI_nat (j := 0) rfl, by decide⟩
  · exact ⟨_, atI_nat (j := 1) rfl, by decide⟩
  · exact ⟨_, atI_nat (j := 2) rfl, by decide⟩
  · exact ⟨_, atI_nat (j := 3) rfl, by decide⟩
/-- two numbers as they are asked -/
def PairOk (K : PySem.W.Frag) (H : Hp) (y : V) : Prop := ∃ (p a b : Addr) (q1 q2 : List Int) (w1 w2 : Bool), y = .ref p ∧ SqT K H p [.ref a, .ref b] ∧ HNum K H a q1 w1 ∧ HNum K H b q2 w2 ∧ NumOk 3100 q1 w1 ∧ NumOk 3100 q2 w2
theorem PairOk.same {K : PySem.W.Frag} {H H' : Hp} {y : V} (h : PairOk K H y) (s : Same H H') : PairOk K H' y := by
  obtain ⟨p, a, b, q1, q2, w1, w2, e, h1, h2, h3, h4⟩ := h
  exact ⟨p, a, b, q1, q2, w1, w2, e, same_t s h1, h2.same s, h3.same s, h4⟩
/-- .. whose lists are not the list of all -/
def PairL (K : PySem.W.Frag) (L : Addr) (H : Hp) (y : V) : Prop := ∃ (p a b c d : Addr) (q1 q2 : List Int) (w1 w2 : Bool), y = .ref p ∧ SqT K H p [.ref a, .ref b] ∧ SqT K H a [.ref c, .bl w1] ∧ SqT K H b [.ref d, .bl w2] ∧ H c = some (.lst (q1.map V.int)) ∧ H d = some (.lst (q2.map V.int)) ∧ c ≠ L ∧ d ≠ L ∧ NumOk 3100 q1 w1 ∧ NumOk 3100 q2 w2
theorem PairL.ok {K : PySem.W.Frag} {L : Addr} {H : Hp} {y : V} (h : PairL K L H y) : PairOk K H y := by
  obtain ⟨p, a, b, c, d, q1, q2, w1, w2, e, h1, h2, h3, h4, h5, _, _, h6, h7⟩ := h
  exact ⟨p, a, b, q1, q2, w1, w2, e, h1, ⟨c, h2, h4⟩, ⟨d, h3, h5⟩, h6, h7⟩
theorem PairL.same {K : PySem.W.Frag} {L : Addr} {H H' : Hp} {y : V} (h : PairL K L H y) (s : Same H H') : PairL K L H' y := by
  obtain ⟨p, a, b, c, d, q1, q2, w1, w2, e, h1, h2, h3, h4, h5, h6, h7, h8, h9⟩ := h
  exact ⟨p, a, b, c, d, q1, q2, w1, w2, e, same_t s h1, same_t s h2, same_t s h3, s _ _ h4, s _ _ h5, h6, h7, h8, h9⟩
theorem PairL.upd {K : PySem.W.Frag} {L : Addr} {H : Hp} {y : V} {xs : List V} {o : HO} (h : PairL K L H y) (e : H L = some (.lst xs)) : PairL K L (upd H L o) y := by
  obtain ⟨p, a, b, c, d, q1, q2, w1, w2, e', h1, h2, h3, h4, h5, h6, h7, h8, h9⟩ := h
  exact ⟨p, a, b, c, d, q1, q2, w1, w2, e', sqT_upd h1 e, sqT_upd h2 e, sqT_upd h3 e, by rw [upd_ne h6]; exact h4, by rw [upd_ne h7]; exact h5, h6, h7, h8, h9⟩
theorem NumOk.mono {n m : Nat} {q : List Int} {w : Bool} (h : NumOk n q w) (l : n ≤ m) : NumOk m q w := ⟨h.ok, h.nb.mono l, h.len⟩
/-- the steps -/
def Steps (H : Hp) (st : Addr) (sts : List (Addr × Nat × Nat)) : Prop := H st = some (.lst (sts.map fun s => .ref s.1)) ∧ (∀ s ∈ sts, H s.1 = some (.lst [.int (s.2.1 : Int), .int (s.2.2 : Int)])) ∧ sts ≠ [] ∧ sts.length ≤ 4
theorem Steps.same {H H' : Hp} {st : Addr} {sts : List (Addr × Nat × Nat)} (h : Steps H st sts) (s : Same H H') : Steps H' st sts := ⟨s _ _ h.1, fun x hx => s _ _ (h.2.1 x hx), h.2.2⟩
/-- a whole number in the heap -/
structure Whl (H : Hp) (p : Addr) (l : List Int) : Prop where
  at' : H p = some (.lst (l.map V.int))
  abv : abvB l = true
  bd : BdF 3031 (Cm.W l)
  len : l.length ≤ 18000
theorem Whl.same {H H' : Hp} {p : Addr} {l : List Int} (h : Whl H p l) (s : Same H H') : Whl H' p l := ⟨s _ _ h.at', h.abv, h.bd, h.len⟩
def sp_l_numbers (K : PySem.W.Frag) : Sp := fun vs H Q _ => ∃ (a : Addr) (ns : List Int), vs = [.ref a] ∧ SqL K H a (ns.map V.int) ∧ ns.length ≤ 63 ∧
  ∀ H' p L x items, Same H H' → H' p = some (.tup [.str x, .ref L]) → x ∈ words → H' L = some (.lst items) → items.length ≤ 1000 → (∀ y ∈ items, PairOk K H' y) → Q (.ref p) H'
section
variable {P : Program} {w : World} {K : PySem.W.Frag} {mg : Str → Option Value} {base : Heap}
theorem cal_l_numbers (T : Txt K mg) (NS : base.NoSeer) (ht : P.given.tree = none) : Cal P w K mg base CX0 3 "_law_numbers" (sp_l_numbers K) := by
  have C_l_chain := cal_l_chain (P := P) (w := w) (base := base) T NS ht
  have C_l_mixed := cal_l_mixed (P := P) (w := w) (base := base) T NS ht
  have C_l_rounding := cal_l_rounding (P := P) (w := w) (base := base) T NS ht
  have C_l_number := cal_l_number (P := P) (w := w) (base := base) T NS ht
  refine cal_ok T.d_l_numbers sc_l_numbers (fun vs H Q E h => ?_) (fun f cdv A outer s H vs Q E hr h => ?_)
  · obtain ⟨a, ns, rfl, _⟩ := h
    rfl
  · refine ⟨_, (pss_cons (ps_set (i := 1) sc_l_numbers.nd rfl (.inl rfl) (pe_c C_l_chain hr (by decide) (by rfl) (pa_cons (pe_sliceK (pv 0) po_none (po_some pe_int)) pa_nil)))
      (pss_cons (ps_set (i := 2) sc_l_numbers.nd rfl (.inl rfl) (pe_c C_l_chain hr (by decide) (by rfl) (pa_cons (pe_sliceK (pv 0) (po_some pe_int) (po_some pe_int)) pa_nil)))
      (pss_cons (ps_set (i := 3) sc_l_numbers.nd rfl (.inl rfl) pe_int)
      (pss_cons (ps_for PassesOwn.never rfl (pi_list (pe_slice sl_list (pv 0) po_none (po_some pe_int))) (pg_name (i := 4) sc_l_numbers.nd rfl (.inl rfl))
      (pss_one (ps_set (i := 3) sc_l_numbers.nd rfl (.inl rfl) (pe_op op_mod (pe_op op_add (pe_op op_mulX pe_int (pv 3)) (pe_c C_l_mixed hr (by decide) (by rfl) (pa_cons (pv 4) (pa_cons pe_int pa_nil)))) pe_int))))
      (pss_cons (ps_set (i := 5) sc_l_numbers.nd rfl (.inl rfl) (pe_ix (r := rIxL K) ix_list (pe_lst (pa_cons pe_str (pa_cons pe_str (pa_cons pe_str (pa_cons pe_str pa_nil))))) (pe_op op_mod (pe_op op_fdivP (pv 3) pe_int) pe_int) (fun _ _ => rfl)))
      (pss_cons (ps_asg (pe_tup (pa_cons pe_int (pa_cons pe_int pa_nil))) (pg_tup rfl (pgs_cons (pg_name (i := 6) sc_l_numbers.nd rfl (.inl rfl)) (pgs_cons (pg_name (i := 7) sc_l_numbers.nd rfl (.inl rfl)) pgs_nil))))
      (pss_cons (ps_set (i := 8) sc_l_numbers.nd rfl (.inl rfl) (pe_lst (pa_cons (pe_lst (pa_cons pe_int (pa_cons pe_int pa_nil))) (pa_cons (pe_lst (pa_cons pe_int (pa_cons pe_int pa_nil))) (pa_cons (pe_lst (pa_cons pe_int (pa_cons pe_int pa_nil))) (pa_cons (pe_lst (pa_cons pe_int (pa_cons pe_int pa_nil))) pa_nil))))))
      (Evl.pss_cut (ps_if (pt_cmpR op_eq (pe_op op_mod (pe_op op_fdivP (pv 3) pe_int) pe_int) pe_int (nomark _)) (pss_cons (ps_set (i := 9) sc_l_numbers.nd rfl (.inl rfl) (pe_slice sl_list (pv 1) po_none (po_some (pe_op op_add pe_int (pe_op op_mod (pe_op op_fdivP (pv 3) pe_int) pe_int)))))
      (pss_cons (ps_set (i := 2) sc_l_numbers.nd rfl (.inl rfl) (pe_c C_l_rounding hr (by decide) (by rfl) (pa_cons (pv 5) (pa_cons (pe_ifExp (pt_cmpR (r := rEqD K) (op_eqD hr.units) (pv 9) (pe_lst (pa_cons pe_int pa_nil)) (nomark _)) (pe_lst (pa_cons pe_int pa_nil)) (pv 9)) (pa_cons (pe_op op_add pe_int (pe_op op_mod (pe_op op_fdivP (pv 3) pe_int) pe_int)) pa_nil)))))
      (pss_cons (ps_set (i := 7) sc_l_numbers.nd rfl (.inl rfl) (pe_op op_add (pe_callB call_len_seq (by rfl) T.z_len PySem.boot_len (pa_cons (pv 2) pa_nil)) pe_int))
      (pss_cons (ps_set (i := 8) sc_l_numbers.nd rfl (.inl rfl) (pe_lst (pa_cons (pe_lst (pa_cons pe_int (pa_cons pe_int pa_nil))) pa_nil)))
      (pss_one (ps_if (PW.pt (pw_and (pt_cmpR op_eq (pe_op op_mod (pe_op op_fdivP (pv 3) pe_int) pe_int) pe_int (nomark _)) (pw_and1 (pt_cmpR op_gt (pe_ix (r := rIxL K) ix_list (pv 9) (pe_un un_neg pe_int) (fun _ _ => rfl)) pe_int (nomark _))))) (pss_one (ps_set (i := 1) sc_l_numbers.nd rfl (.inl rfl) (pe_callTy call_list_of (by rfl) T.z_list (by decide +kernel) (pa_cons (pv 9) pa_nil)))) pss_nil)))))) pss_nil)
      (pss_cons (ps_set (i := 10) sc_l_numbers.nd rfl (.inl rfl) (pe_lst pa_nil))
      (pss_cons (ps_for PassesOwn.never rfl (pi_range1 (by rfl) T.z_range (pa_cons pe_int pa_nil)) (pg_name (i := 11) sc_l_numbers.nd rfl (.inl rfl))
      (Evl.pss_cut (ps_set (i := 12) sc_l_numbers.nd rfl (.inl rfl) (pe_c C_l_number hr (by decide) (by rfl) (pa_cons (pv 1) (pa_cons (pe_or (pe_cmpR op_eq (pe_op op_mod (pv 3) pe_int) pe_int (nomark _)) (pe_one (pe_cmpR op_gt (pv 6) (pe_callB call_len_seq (by rfl) T.z_len PySem.boot_len (pa_cons (pv 1) pa_nil)) (nomark _)))) (pa_cons (pv 6) pa_nil)))))
      (Evl.pss_cut (ps_set (i := 13) sc_l_numbers.nd rfl (.inl rfl) (pe_c C_l_number hr (by decide) (by rfl) (pa_cons (pv 2) (pa_cons (pe_or (pe_cmpR op_eq (pe_op op_mod (pe_op op_fdivP (pv 3) pe_int) pe_int) pe_int (nomark _)) (pe_one (pe_cmpR op_gt (pv 7) (pe_callB call_len_seq (by rfl) T.z_len PySem.boot_len (pa_cons (pv 2) pa_nil)) (nomark _)))) (pa_cons (pv 7) pa_nil)))))
      (pss_cons (ps_expr (pe_bm PySem.F.plainAttrs_list PySem.F.slot_list_append PySem.F.type_list_append mt_append (pv 10) (pa_cons (pe_tup (pa_cons (pv 12) (pa_cons (pv 13) pa_nil))) pa_nil)))
      (pss_cons (ps_set (i := 14) sc_l_numbers.nd rfl (.inl rfl) (pe_op op_mod (pe_c C_l_mixed hr (by decide) (by rfl) (pa_cons (pv 3) (pa_cons (pv 11) pa_nil))) (pe_callB call_len_seq (by rfl) T.z_len PySem.boot_len (pa_cons (pv 8) pa_nil))))
      (pss_cons (ps_set (i := 6) sc_l_numbers.nd rfl (.inl rfl) (pe_op op_add (pv 6) (pe_ix (r := rIxL K) ix_list (pe_ix (r := rIxL K) ix_list (pv 8) (pv 14) (fun _ _ => rfl)) pe_int (fun _ _ => rfl))))
      (pss_one (ps_set (i := 7) sc_l_numbers.nd rfl (.inl rfl) (pe_op op_add (pv 7) (pe_ix (r := rIxL K) ix_list (pe_ix (r := rIxL K) ix_list (pv 8) (pv 14) (fun _ _ => rfl)) pe_int (fun _ _ => rfl)))))))))))
      (pss_cons (ps_expr (pe_bm PySem.F.plainAttrs_list PySem.F.slot_list_append PySem.F.type_list_append mt_append (pv 10) (pa_cons (pe_tup (pa_cons (pe_tup (pa_cons (pv 1) (pa_cons pe_bl pa_nil))) (pa_cons (pe_tup (pa_cons (pv 2) (pa_cons pe_bl pa_nil))) pa_nil))) pa_nil)))
      (pss_one (ps_ret (pe_tup (pa_cons (pv 5) (pa_cons (pv 10) pa_nil)))))))))))))))), ?_⟩
    obtain ⟨a, ns, rfl, hS, hlen, k⟩ := h
    refine ⟨_, rfl, _, rfl, a, _, rfl, hS, fun c nc => ?_⟩
    (generalize hH_ : upd _ c _ = H1; have s1 := same_of hH_ nc; have ec := at_new hH_; clear hH_)
    rw [pickV_map] at ec
    have hl1 : (pickV ns none (some 60) 2).length ≤ 30 := pickV_len ns none 60 2 (by decide) (by simp)
    refine ⟨c, _, 30, rfl, sqL ec, hl1, by decide, by decide, fun H2 p1 l1 s2 np1 ep1 a1 ln1 b1 => ?_⟩
    have s02 := s1.trans s2
    refine ⟨_, rfl, 1, rfl, _, rfl, a, _, rfl, s02.seq hS, fun c2 nc2 => ?_⟩
    (generalize hH_ : upd _ c2 _ = H3; have s3 := same_of hH_ nc2; have ec2 := at_new hH_; clear hH_)
    rw [pickV_map] at ec2
    have hl2 : (pickV ns (some 1) (some 60) 2).length ≤ 30 := pickV_len ns (some 1) 60 2 (by decide) (by intro i h; cases h; decide)
    refine ⟨c2, _, 30, rfl, sqL ec2, hl2, by decide, by decide, fun H4 p2 l2 s4 np2 ep2 a2 ln2 b2 => ?_⟩
    have s04 := (s02.trans s3).trans s4
    have W1 : Whl H4 p1 l1 := ⟨s4 _ _ (s3 _ _ ep1), a1, ⟨(W_bd' (m := 30) b1 ln1).1, (W_bd' (m := 30) b1 ln1).2⟩, by omega⟩
    have W2 : Whl H4 p2 l2 := ⟨ep2, a2, ⟨(W_bd' (m := 30) b2 ln2).1, (W_bd' (m := 30) b2 ln2).2⟩, by omega⟩
    clear hl1 hl2 ec ec2 s1 s2 s3 s4 nc nc2 s02 np1 np2 ep1 ep2 a2 b2
    -- the number
    refine ⟨_, rfl, 60, rfl, a, _, rfl, s04.seq hS, fun c nc => ?_⟩
    (generalize hH_ : upd _ c _ = H5; have s5 := same_of hH_ nc; have ec := at_new hH_; clear hH_)
    rw [show cutV (ns.map V.int) none (some 60) = (ns.take 60).map V.int by rw [show (60 : Int) = ((60 : Nat) : Int) from rfl, cut_to, List.map_take]] at ec
    refine ⟨c, rfl, ⟨_, sqL ec⟩, for_list (K := K) (a := c) (xs := (ns.take 60).map V.int) (fun i σ H' => ∃ (N : Int) (v4 : Option V), σ = [some (.ref a), some (.ref p1), some (.ref p2), some (.int N), v4, none, none, none, none, none, none, none, none, none, none] ∧ H5 = H' ∧ Bd 64 N)
      ⟨7, none, rfl, rfl, bdL (by decide)⟩ (fun i σ H' _ ⟨_, _, _, e, _⟩ => by rw [← e]; exact sqL ec) ?_ ?_⟩
    · rintro i y σ H' hi ⟨N, v4, rfl, rfl, bN⟩
      obtain ⟨u, hu, rfl⟩ := map_int_at hi
      have P : (0 : Int) < 1000003 := by decide
      refine ⟨_, rfl, _, _, rfl, rfl, mulOk_l (bdL (by decide)), _, rfl, u, 1, rfl, _, _, rfl, rfl, _, _, rfl, rfl, P, _, _, rfl, rfl, ?_⟩
      have g0 := Int.emod_nonneg (31 * N + mixed u 1) (show (1000003 : Int) ≠ 0 by decide)
      have g1 := Int.emod_lt_of_pos (31 * N + mixed u 1) P
      exact bdL (by omega)
    rintro σ H' ⟨N, v4, rfl, rfl, bN⟩
    obtain ⟨x, hx, hxw⟩ := word_at (Int.emod_nonneg (N / 4) (show (4 : Int) ≠ 0 by decide)) (Int.emod_lt_of_pos (N / 4) (show (0 : Int) < 4 by decide))
    have s05 := s04.trans s5
    refine ⟨by show 4 ≤ sizeLine; decide, fun d nd => ?_⟩
    (generalize hH_ : upd _ d _ = H6; have s6 := same_of hH_ nd; have ed := at_new hH_; clear hH_)
    refine ⟨_, rfl, _, _, rfl, rfl, divS (by decide) (by decide), _, _, rfl, rfl, (show (0 : Int) < 4 by decide), d, _, _, _, rfl, rfl, sqL ed, hx, ?_⟩
    refine ⟨by show 2 ≤ sizeLine; decide, fun t nt => ?_⟩
    (generalize hH_ : upd _ t _ = H7; have s7 := same_of hH_ nt; have et := at_new hH_; clear hH_)
    refine ⟨t, _, rfl, sqT et, rfl, _, _, rfl, _, _, rfl, rfl, ?_⟩
    refine ⟨by show 2 ≤ sizeLine; decide, fun t1 nt1 => ?_⟩
    (generalize hH_ : upd _ t1 _ = H8; have s8 := same_of hH_ nt1; have et1 := at_new hH_; clear hH_)
    refine ⟨by show 2 ≤ sizeLine; decide, fun t2 nt2 => ?_⟩
    (generalize hH_ : upd _ t2 _ = H9; have s9 := same_of hH_ nt2; have et2 := at_new hH_; clear hH_)
    refine ⟨by show 2 ≤ sizeLine; decide, fun t3 nt3 => ?_⟩
    (generalize hH_ : upd _ t3 _ = H10; have s10 := same_of hH_ nt3; have et3 := at_new hH_; clear hH_)
    refine ⟨by show 2 ≤ sizeLine; decide, fun t4 nt4 => ?_⟩
    (generalize hH_ : upd _ t4 _ = H11; have s11 := same_of hH_ nt4; have et4 := at_new hH_; clear hH_)
    refine ⟨by show 4 ≤ sizeLine; decide, fun st nst => ?_⟩
    (generalize hH_ : upd _ st _ = H12; have s12 := same_of hH_ nst; have est := at_new hH_; clear hH_)
    have hst : Steps H12 st [(t1, 1, 3), (t2, 2, 0), (t3, 3, 1), (t4, 0, 2)] := by
      refine ⟨est, fun z hz => ?_, by simp, Nat.le_refl 4⟩
      rcases List.mem_cons.mp hz with rfl | hz
      · exact s12 _ _ (s11 _ _ (s10 _ _ (s9 _ _ et1)))
      rcases List.mem_cons.mp hz with rfl | hz
      · exact s12 _ _ (s11 _ _ (s10 _ _ et2))
      rcases List.mem_cons.mp hz with rfl | hz
      · exact s12 _ _ (s11 _ _ et3)
      rcases List.mem_cons.mp hz with rfl | hz
      · exact s12 _ _ et4
      cases hz
    have s412 : Same H4 H12 := ((((((s5.trans s6).trans s7).trans s8).trans s9).trans s10).trans s11).trans s12
    have s012 := s04.trans s412
    have W1' := W1.same s412
    have W2' := W2.same s412
    clear W1 W2 est et1 et2 et3 et4 s5 s6 s7 s8 s9 s10 s11 s12 nd nt nt1 nt2 nt3 nt4 nst ed et hx s05 s04 s412 ec nc
    refine ⟨fun σ H' => ∃ (p1 p2 st : Addr) (l1 l2 : List Int) (sts : List (Addr × Nat × Nat)) (g : Nat) (v9 : Option V), σ = [some (.ref a), some (.ref p1), some (.ref p2), some (.int N), v4, some (.str x), some (.int 0), some (.int (g : Int)), some (.ref st), v9, none, none, none, none, none] ∧ Same H12 H' ∧ Whl H' p1 l1 ∧ Whl H' p2 l2 ∧ Steps H' st sts, ?_, ?_⟩
    · refine ⟨_, rfl, _, _, rfl, rfl, divS (by decide) (by decide), _, _, rfl, rfl, (show (0 : Int) < 3 by decide), rfl, _, rfl, ite2 (fun _ => ?_) (fun _ => ?_)⟩
      · have k0 := Int.emod_nonneg (N / 48) (show (6 : Int) ≠ 0 by decide)
        have k6 := Int.emod_lt_of_pos (N / 48) (show (0 : Int) < 6 by decide)
        have j0 := Int.emod_nonneg (N / 300) (show (5 : Int) ≠ 0 by decide)
        have j5 := Int.emod_lt_of_pos (N / 300) (show (0 : Int) < 5 by decide)
        refine ⟨_, rfl, _, rfl, _, _, rfl, rfl, divS (by decide) (by decide), _, _, rfl, rfl, (show (0 : Int) < 6 by decide), _, _, rfl, rfl, _, rfl, p1, _, rfl, sqL W1'.at', fun c nc => ?_⟩
        (generalize hH_ : upd _ c _ = H13; have s13 := same_of hH_ nc; have ec := at_new hH_; clear hH_)
        obtain ⟨kk, hk, hk1, hk6⟩ : ∃ kk : Nat, 1 + N / 48 % 6 = (kk : Int) ∧ 1 ≤ kk ∧ kk ≤ 6 := ⟨(1 + N / 48 % 6).toNat, by omega, by omega, by omega⟩
        rw [hk, cut_to, ← List.map_take] at ec
        have hr1 : begB (l1.take kk) = true := begB_take (beg_of_abv a1) kk
        have hr2 : ∀ y ∈ l1.take kk, Bd 100 y := fun y hy => b1 y (List.mem_of_mem_take hy)
        have hr3 : (l1.take kk).length ≤ 6 := by rw [List.length_take]; omega
        have hr4 : l1.take kk ≠ [] := fun z => by
          have := congrArg List.length z
          rw [List.length_take, List.length_nil] at this
          have l0 : l1.length ≠ 0 := fun e => by
            rw [List.length_eq_zero_iff] at e
            subst e
            exact absurd a1 (by decide)
          omega
        generalize l1.take kk = r at *
        refine ⟨_, rfl, _, rfl, by show 1 ≤ sizeLine; decide, fun z nz => ?_⟩
        (generalize hH_ : upd _ z _ = H14; have s14 := same_of hH_ nz; have ez := at_new hH_; clear hH_)
        replace ez : H14 z = some (.lst (([0] : List Int).map V.int)) := ez
        have ec14 := s14 _ _ ec
        refine ⟨_, _, dp_ints (sqL ec14), dp_ints (sqL ez), shaped_ints _, shaped_ints _, ?_⟩
        rw [eqv_ints]
        refine ⟨_, rfl, ite2 (fun c1 => ?_) (fun c1 => ?_)⟩
        · refine ⟨by show 1 ≤ sizeLine; decide, fun y ny => ?_⟩
          (generalize hH_ : upd _ y _ = H15; have s15 := same_of hH_ ny; have ey := at_new hH_; clear hH_)
          replace ey : H15 y = some (.lst (([1] : List Int).map V.int)) := ey
          refine ⟨_, rfl, _, _, rfl, rfl, divS (by decide) (by decide), _, _, rfl, rfl, (show (0 : Int) < 5 by decide), _, _, rfl, rfl, ?_⟩
          refine ⟨x, y, [1], _, rfl, sqL ey, by decide, by decide, by rw [Cm.W_one]; decide, (fun u hu => by rw [List.mem_singleton] at hu; subst hu; exact Bd.one (by decide)), by decide, by omega, by omega, fun H16 po lo s16 npo epo abo bdo leno => ?_⟩
          have s1316 : Same H13 H16 := (s14.trans s15).trans s16
          have Wo : Whl H16 po lo := ⟨epo, abo, bdo.mono (by decide), leno⟩
          refine ⟨_, rfl, po, _, rfl, .inl (sqL epo), _, _, rfl, rfl, ?_⟩
          refine ⟨by show 2 ≤ sizeLine; decide, fun u1 nu1 => ?_⟩
          (generalize hH_ : upd _ u1 _ = H17; have s17 := same_of hH_ nu1; have eu1 := at_new hH_; clear hH_)
          refine ⟨by show 1 ≤ sizeLine; decide, fun u2 nu2 => ?_⟩
          (generalize hH_ : upd _ u2 _ = H18; have s18 := same_of hH_ nu2; have eu2 := at_new hH_; clear hH_)
          have s1618 := s17.trans s18
          have s1318 := s1316.trans s1618
          have hst2 : Steps H18 u2 [(u1, 1, 0)] := ⟨eu2, (fun z hz => by rw [List.mem_singleton] at hz; subst hz; exact s18 _ _ eu1), by simp, by show 1 ≤ 4; decide⟩
          have ec18 := s1318 _ _ ec
          refine ⟨_, rfl, _, _, rfl, rfl, divS (by decide) (by decide), _, _, rfl, rfl, (show (0 : Int) < 2 by decide), rfl, _, rfl, ite2 (fun _ => ?_) (fun _ => ?_)⟩
          · refine ⟨_, rfl, 1, rfl, c, _, _, _, rfl, rfl, sqL ec18, getLastD_ne hr4, _, _, rfl, rfl, _, rfl, ite2 (fun c3 => ?_) (fun c3 => ?_)⟩
            · have last : 1 < r.getLastD 0 := of_decide_eq_true c3
              have abr : abvB r = true := by
                rw [abvB_beg hr1 hr4]
                have n0 : r ≠ [0] := fun e => by rw [e] at last; exact absurd last (by decide)
                have e1 : (r != [0]) = true := by simpa using n0
                rw [e1, decide_eq_true last, Bool.or_true]
                rfl
              refine ⟨_, rfl, c, _, rfl, .inl (sqL ec18), fun d nd => ?_⟩
              (generalize hH_ : upd _ d _ = H19; have s19 := same_of hH_ nd; have ed := at_new hH_; clear hH_)
              have Wd : Whl H19 d r := ⟨ed, abr, ⟨(W_bd' (m := 6) hr2 hr3).1.mono (by decide), (W_bd' (m := 6) hr2 hr3).2.mono (by decide)⟩, by omega⟩
              exact ⟨d, po, u2, r, lo, _, (lo.map V.int).length + 1, _, rfl, (s13.trans s1318).trans s19, Wd, (Wo.same s1618).same s19, hst2.same s19⟩
            · exact ⟨p1, po, u2, l1, lo, _, (lo.map V.int).length + 1, _, rfl, s13.trans s1318, W1'.same (s13.trans s1318), Wo.same s1618, hst2⟩
          · refine iteF ?_
            exact ⟨p1, po, u2, l1, lo, _, (lo.map V.int).length + 1, _, rfl, s13.trans s1318, W1'.same (s13.trans s1318), Wo.same s1618, hst2⟩
        · have hne0 : r ≠ [0] := fun e => c1 (decide_eq_true e)
          have w1 : 0 < (Cm.W r).1 := by
            cases r with
            | nil => exact absurd rfl hr4
            | cons u v =>
              obtain ⟨u0, hv⟩ := beg_tl hr1
              cases v with
              | nil =>
                rw [Cm.W_one]
                have : u ≠ 0 := fun e => hne0 (by rw [e])
                show 0 < u
                omega
              | cons w v =>
                rw [Cm.W_cons, Cm.W_cons]
                show 0 < u * (w * (Cm.W v).1 + (Cm.W v).2) + (Cm.W v).1
                have k1 := w_pos1 (l := v) fun z hz => hv z (List.mem_cons_of_mem _ hz)
                have k2 := w_nn (l := v) fun z hz => by have := hv z (List.mem_cons_of_mem _ hz); omega
                have k3 := hv w List.mem_cons_self
                have := Int.mul_nonneg u0 (Int.add_nonneg (Int.mul_nonneg (show 0 ≤ w by omega) k2.1) k2.2)
                omega
          refine ⟨_, rfl, _, rfl, _, _, rfl, rfl, divS (by decide) (by decide), _, _, rfl, rfl, (show (0 : Int) < 5 by decide), _, _, rfl, rfl, ?_⟩
          refine ⟨x, c, r, _, rfl, sqL ec14, hr4, hr1, w1, hr2, hr3, by omega, by omega, fun H16 po lo s16 npo epo abo bdo leno => ?_⟩
          have s1316 : Same H13 H16 := s14.trans s16
          have Wo : Whl H16 po lo := ⟨epo, abo, bdo.mono (by decide), leno⟩
          refine ⟨_, rfl, po, _, rfl, .inl (sqL epo), _, _, rfl, rfl, ?_⟩
          refine ⟨by show 2 ≤ sizeLine; decide, fun u1 nu1 => ?_⟩
          (generalize hH_ : upd _ u1 _ = H17; have s17 := same_of hH_ nu1; have eu1 := at_new hH_; clear hH_)
          refine ⟨by show 1 ≤ sizeLine; decide, fun u2 nu2 => ?_⟩
          (generalize hH_ : upd _ u2 _ = H18; have s18 := same_of hH_ nu2; have eu2 := at_new hH_; clear hH_)
          have s1618 := s17.trans s18
          have s1318 := s1316.trans s1618
          have hst2 : Steps H18 u2 [(u1, 1, 0)] := ⟨eu2, (fun z hz => by rw [List.mem_singleton] at hz; subst hz; exact s18 _ _ eu1), by simp, by show 1 ≤ 4; decide⟩
          have ec18 := s1318 _ _ ec
          refine ⟨_, rfl, _, _, rfl, rfl, divS (by decide) (by decide), _, _, rfl, rfl, (show (0 : Int) < 2 by decide), rfl, _, rfl, ite2 (fun _ => ?_) (fun _ => ?_)⟩
          · refine ⟨_, rfl, 1, rfl, c, _, _, _, rfl, rfl, sqL ec18, getLastD_ne hr4, _, _, rfl, rfl, _, rfl, ite2 (fun c3 => ?_) (fun c3 => ?_)⟩
            · have last : 1 < r.getLastD 0 := of_decide_eq_true c3
              have abr : abvB r = true := by
                rw [abvB_beg hr1 hr4]
                have n0 : r ≠ [0] := fun e => by rw [e] at last; exact absurd last (by decide)
                have e1 : (r != [0]) = true := by simpa using n0
                rw [e1, decide_eq_true last, Bool.or_true]
                rfl
              refine ⟨_, rfl, c, _, rfl, .inl (sqL ec18), fun d nd => ?_⟩
              (generalize hH_ : upd _ d _ = H19; have s19 := same_of hH_ nd; have ed := at_new hH_; clear hH_)
              have Wd : Whl H19 d r := ⟨ed, abr, ⟨(W_bd' (m := 6) hr2 hr3).1.mono (by decide), (W_bd' (m := 6) hr2 hr3).2.mono (by decide)⟩, by omega⟩
              exact ⟨d, po, u2, r, lo, _, (lo.map V.int).length + 1, _, rfl, (s13.trans s1318).trans s19, Wd, (Wo.same s1618).same s19, hst2.same s19⟩
            · exact ⟨p1, po, u2, l1, lo, _, (lo.map V.int).length + 1, _, rfl, s13.trans s1318, W1'.same (s13.trans s1318), Wo.same s1618, hst2⟩
          · refine iteF ?_
            exact ⟨p1, po, u2, l1, lo, _, (lo.map V.int).length + 1, _, rfl, s13.trans s1318, W1'.same (s13.trans s1318), Wo.same s1618, hst2⟩
      · exact ⟨p1, p2, st, l1, l2, _, 0, _, rfl, Same.refl _, W1', W2', hst⟩
    clear hst W1' W2' a1 b1 ln1 ln2
    rintro σ H13 ⟨p1, p2, st, l1, l2, sts, g, v9, rfl, s13, W1, W2, hst⟩
    refine ⟨Nat.zero_le _, fun L nL => ?_⟩
    (generalize hH_ : upd _ L _ = H14; have s14 := same_of hH_ nL; have eL := at_new hH_; clear hH_)
    refine ⟨24, rfl, by decide, by decide, for_range (lo := 0) (n := 24) (fun i σ H' => ∃ (f g : Nat) (v11 v12 v13 v14 : Option V) (items : List V), σ = [some (.ref a), some (.ref p1), some (.ref p2), some (.int N), v4, some (.str x), some (.int (f : Int)), some (.int (g : Int)), some (.ref st), v9, some (.ref L), v11, v12, v13, v14] ∧ Same H13 H' ∧ H' L = some (.lst items) ∧ items.length ≤ i ∧ ∀ y ∈ items, PairL K L H' y)
      ⟨0, g, _, _, _, _, [], rfl, s14, eL, Nat.zero_le _, fun y hy => by cases hy⟩ ?_ ?_⟩
    · rintro i σ H15 hi ⟨f, g, v11, v12, v13, v14, items, rfl, s15, eL, hli, hit⟩
      have W1' := W1.same s15
      have W2' := W2.same s15
      have st' := hst.same s15
      -- _law_left
      refine ⟨fun σ H' => ∃ (lf : Addr) (q : List Int) (w : Bool), σ = [some (.ref a), some (.ref p1), some (.ref p2), some (.int N), v4, some (.str x), some (.int (f : Int)), some (.int (g : Int)), some (.ref st), v9, some (.ref L), some (.int (0 + (i : Int))), some (.ref lf), v13, v14] ∧ Same H15 H' ∧ (∃ c, SqT K H' lf [.ref c, .bl w] ∧ H' c = some (.lst (q.map V.int)) ∧ c ≠ L) ∧ NumOk 3100 q w, ?_, ?_⟩
      · have fin : ∀ w : Bool, sp_l_number K [.ref p1, .bl w, .int (f : Int)] H15 (fun v H' => ∃ (lf : Addr) (q : List Int) (w : Bool), [some (.ref a), some (.ref p1), some (.ref p2), some (.int N), v4, some (.str x), some (.int (f : Int)), some (.int (g : Int)), some (.ref st), v9, some (.ref L), some (.int (0 + (i : Int))), some v, v13, v14] = [some (.ref a), some (.ref p1), some (.ref p2), some (.int N), v4, some (.str x), some (.int (f : Int)), some (.int (g : Int)), some (.ref st), v9, some (.ref L), some (.int (0 + (i : Int))), some (.ref lf), v13, v14] ∧ Same H15 H' ∧ (∃ c, SqT K H' lf [.ref c, .bl w] ∧ H' c = some (.lst (q.map V.int)) ∧ c ≠ L) ∧ NumOk 3100 q w) E0 := fun w =>
          ⟨p1, l1, w, f, rfl, sqL W1'.at', fun H' p c s np ncc hc1 hc2 => ⟨p, _, _, rfl, s, ⟨c, hc1, hc2, fun z => by rw [z, eL] at ncc; cases ncc⟩, (num_ok W1'.abv W1'.bd (by decide) (by have := W1'.len; omega) w f).mono (by decide)⟩⟩
        refine ⟨_, rfl, _, rfl, _, _, rfl, rfl, (show (0 : Int) < 2 by decide), rfl, _, rfl, ite2 (fun _ => ?_) (fun _ => ?_)⟩
        · exact ⟨_, rfl, fin _⟩
        · exact ⟨_, rfl, _, rfl, p1, _, rfl, .inl (sqL W1'.at'), _, _, rfl, rfl, _, rfl, fin _⟩
      rintro σ H16 ⟨lf, ql, wl, rfl, s16, ⟨cl, hl1, hl2, hl3⟩, okl⟩
      have W2'' := W2'.same s16
      refine ⟨fun σ H' => ∃ (rf : Addr) (q : List Int) (w : Bool), σ = [some (.ref a), some (.ref p1), some (.ref p2), some (.int N), v4, some (.str x), some (.int (f : Int)), some (.int (g : Int)), some (.ref st), v9, some (.ref L), some (.int (0 + (i : Int))), some (.ref lf), some (.ref rf), v14] ∧ Same H16 H' ∧ (∃ c, SqT K H' rf [.ref c, .bl w] ∧ H' c = some (.lst (q.map V.int)) ∧ c ≠ L) ∧ NumOk 3100 q w, ?_, ?_⟩
      · have fin : ∀ w : Bool, sp_l_number K [.ref p2, .bl w, .int (g : Int)] H16 (fun v H' => ∃ (rf : Addr) (q : List Int) (w : Bool), [some (.ref a), some (.ref p1), some (.ref p2), some (.int N), v4, some (.str x), some (.int (f : Int)), some (.int (g : Int)), some (.ref st), v9, some (.ref L), some (.int (0 + (i : Int))), some (.ref lf), some v, v14] = [some (.ref a), some (.ref p1), some (.ref p2), some (.int N), v4, some (.str x), some (.int (f : Int)), some (.int (g : Int)), some (.ref st), v9, some (.ref L), some (.int (0 + (i : Int))), some (.ref lf), some (.ref rf), v14] ∧ Same H16 H' ∧ (∃ c, SqT K H' rf [.ref c, .bl w] ∧ H' c = some (.lst (q.map V.int)) ∧ c ≠ L) ∧ NumOk 3100 q w) E0 := fun w =>
          ⟨p2, l2, w, g, rfl, sqL W2''.at', fun H' p c s np ncc hc1 hc2 => ⟨p, _, _, rfl, s, ⟨c, hc1, hc2, fun z => by rw [z, s16 _ _ eL] at ncc; cases ncc⟩, (num_ok W2''.abv W2''.bd (by decide) (by have := W2''.len; omega) w g).mono (by decide)⟩⟩
        refine ⟨_, rfl, _, rfl, _, _, rfl, rfl, divS (by decide) (by decide), _, _, rfl, rfl, (show (0 : Int) < 2 by decide), rfl, _, rfl, ite2 (fun _ => ?_) (fun _ => ?_)⟩
        · exact ⟨_, rfl, fin _⟩
        · exact ⟨_, rfl, _, rfl, p2, _, rfl, .inl (sqL W2''.at'), _, _, rfl, rfl, _, rfl, fin _⟩
      rintro σ H17 ⟨rf, qr, wr, rfl, s17, ⟨cr, hr1, hr2, hr3⟩, okr⟩
      have s1517 := s16.trans s17
      have eL17 := s1517 _ _ eL
      refine ⟨_, rfl, .inl ⟨rfl, _, sqL eL17⟩, _, rfl, _, rfl, by show 2 ≤ sizeLine; decide, fun t nt => ?_⟩
      (generalize hH_ : upd _ t _ = H18; have s18 := same_of hH_ nt; have et := at_new hH_; clear hH_)
      have eL18 := s18 _ _ eL17
      have s1718 := s17.trans s18
      have py : PairL K L H18 (.ref t) := ⟨t, lf, rf, cl, cr, ql, qr, wl, wr, rfl, sqT et, same_t s1718 hl1, same_t s18 hr1, s1718 _ _ hl2, s18 _ _ hr2, hl3, hr3, okl, okr⟩
      refine ⟨L, _, _, rfl, rfl, eL18, Nat.lt_of_le_of_lt (show items.length ≤ 1000 by omega) (by decide), ?_⟩
      have hit18 : ∀ y ∈ items, PairL K L H18 y := fun y hy => ((hit y hy).same s1517).same s18
      have st18 := (st'.same s1517).same s18
      have s1318 := (s15.trans s1517).trans s18
      have hitU : ∀ y ∈ items ++ [.ref t], PairL K L (upd H18 L (.lst (items ++ [.ref t]))) y := fun y hy => by
        rcases List.mem_append.mp hy with hy | hy
        · exact (hit18 y hy).upd eL18
        · rw [List.mem_singleton] at hy
          subst hy
          exact py.upd eL18
      generalize hH19 : upd H18 L (.lst (items ++ [.ref t])) = H19 at hitU ⊢
      have s1319 : Same H13 H19 := same_mut_of hH19 s1318 nL
      have eL19 := at_new hH19
      obtain ⟨st1, st2, st3, st4⟩ := hst.same s1319
      have slen : 0 < sts.length := List.length_pos_iff.mpr st3
      have P : (0 : Int) < ((sts.map fun s => V.ref s.1).length : Nat) := by rw [List.length_map]; omega
      have m0 := Int.emod_nonneg (mixed N (0 + (i : Int))) (show (((sts.map fun s => V.ref s.1).length : Nat) : Int) ≠ 0 by omega)
      have m1 := Int.emod_lt_of_pos (mixed N (0 + (i : Int))) P
      refine ⟨_, rfl, _, rfl, N, 0 + (i : Int), rfl, _, rfl, st, _, rfl, .inl (sqL st1), _, _, rfl, rfl, P, ?_⟩
      generalize hm : mixed N (0 + (i : Int)) % (((sts.map fun s => V.ref s.1).length : Nat) : Int) = m at *
      rw [List.length_map] at m1
      have mlt : m.toNat < sts.length := by omega
      have hs := st2 _ (List.getElem_mem mlt)
      have at1 : atI (sts.map fun s => V.ref s.1) m = some (.ref (sts[m.toNat]).1) := atI_of m0 (by rw [List.getElem?_map, List.getElem?_eq_getElem mlt]; rfl)
      refine ⟨_, rfl, _, rfl, _, rfl, st, _, m, _, rfl, congrArg V.int hm, sqL st1, at1, _, _, 0, _, rfl, rfl, sqL hs, two0, _, _, rfl, rfl, ?_⟩
      refine ⟨_, rfl, _, rfl, _, rfl, st, _, m, _, rfl, congrArg V.int hm, sqL st1, at1, _, _, 1, _, rfl, rfl, sqL hs, two1, _, _, rfl, rfl, ?_⟩
      refine ⟨f + (sts[m.toNat]).2.1, g + (sts[m.toNat]).2.2, some (.int (0 + (i : Int))), some (.ref lf), some (.ref rf), some (.int (mixed N (0 + (i : Int)) % (((sts.map fun s => V.ref s.1).length : Nat) : Int))), items ++ [.ref t], ?_, s1319, eL19, ?_, hitU⟩
      · rw [Int.natCast_add, Int.natCast_add]
        rfl
      · rw [List.length_append, List.length_singleton]
        omega
    rintro σ H15 ⟨f, g, v11, v12, v13, v14, items, rfl, s15, eL, hli, hit⟩
    have W1' := W1.same s15
    have W2' := W2.same s15
    refine ⟨_, rfl, .inl ⟨rfl, _, sqL eL⟩, _, rfl, by show 2 ≤ sizeLine; decide, fun t1 nt1 => ?_⟩
    (generalize hH_ : upd _ t1 _ = H16; have s16 := same_of hH_ nt1; have et1 := at_new hH_; clear hH_)
    refine ⟨_, rfl, by show 2 ≤ sizeLine; decide, fun t2 nt2 => ?_⟩
    (generalize hH_ : upd _ t2 _ = H17; have s17 := same_of hH_ nt2; have et2 := at_new hH_; clear hH_)
    refine ⟨by show 2 ≤ sizeLine; decide, fun t3 nt3 => ?_⟩
    (generalize hH_ : upd _ t3 _ = H18; have s18 := same_of hH_ nt3; have et3 := at_new hH_; clear hH_)
    have s1518 := (s16.trans s17).trans s18
    have eL18 := s1518 _ _ eL
    refine ⟨L, _, _, rfl, rfl, eL18, Nat.lt_of_le_of_lt (show items.length ≤ 1000 by omega) (by decide), ?_⟩
    generalize hH19 : upd H18 L (.lst (items ++ [.ref t3])) = H19
    have s1319 : Same H13 H19 := same_mut_of hH19 (s15.trans s1518) nL
    have eL19 := at_new hH19
    have n1 : p1 ≠ L := fun z => by have := W1.at'; rw [z, nL] at this; cases this
    have n2 : p2 ≠ L := fun z => by have := W2.at'; rw [z, nL] at this; cases this
    have ok1 : NumOk 3100 l1 true := by
      have := (num_ok W1.abv W1.bd (by decide) (by have := W1.len; omega) true l1.length).mono (show 3032 ≤ 3100 by decide)
      have e : numQ l1 true l1.length = (l1, true) := if_pos ⟨rfl, Nat.le_refl _⟩
      rw [e] at this
      exact this
    have ok2 : NumOk 3100 l2 true := by
      have := (num_ok W2.abv W2.bd (by decide) (by have := W2.len; omega) true l2.length).mono (show 3032 ≤ 3100 by decide)
      have e : numQ l2 true l2.length = (l2, true) := if_pos ⟨rfl, Nat.le_refl _⟩
      rw [e] at this
      exact this
    have py : PairL K L H18 (.ref t3) := ⟨t3, t1, t2, p1, p2, l1, l2, true, true, rfl, sqT et3, sqT (s18 _ _ (s17 _ _ et1)), sqT (s18 _ _ et2), s1518 _ _ W1'.at', s1518 _ _ W2'.at', n1, n2, ok1, ok2⟩
    have hitU : ∀ y ∈ items ++ [.ref t3], PairL K L H19 y := fun y hy => by
      rw [← hH19]
      rcases List.mem_append.mp hy with hy | hy
      · exact ((hit y hy).same s1518).upd eL18
      · rw [List.mem_singleton] at hy
        subst hy
        exact py.upd eL18
    refine ⟨_, rfl, _, rfl, by show 2 ≤ sizeLine; decide, fun p np => ?_⟩
    (generalize hH_ : upd _ p _ = H20; have s20 := same_of hH_ np; have ep := at_new hH_; clear hH_)
    refine k _ p L x (items ++ [.ref t3]) ((s012.trans s13).trans (s1319.trans s20)) ep hxw (s20 _ _ eL19) ?_ fun y hy => ((hitU y hy).same s20).ok
    rw [List.length_append, List.length_singleton]
    omega
end
def sp_l_sure (K : PySem.W.Frag) : Sp := fun vs H Q _ => ∃ (x : Str) (a b : Addr) (q1 q2 : List Int) (w1 w2 : Bool) (n1 n2 : Nat), vs = [.str x, .ref a, .ref b] ∧ x ∈ words ∧ HNum K H a q1 w1 ∧ HNum K H b q2 w2 ∧ q1.length ≤ 90000 ∧ q2.length ≤ 90000 ∧ Okn q1 w1 ∧ Okn q2 w2 ∧ NB n1 q1 ∧ NB n2 q2 ∧ n1 + n2 + 1 ≤ 8998 ∧ (w1 && w2) = false ∧
  ∀ H' c, Same H H' → H c = none → H' c = some (.lst ((toldV x (nends q1 w1) (nends q2 w2)).map V.int)) → Q (.ref c) H'
theorem hi_bd2 {n : Nat} {q : List Int} {w : Bool} (ok : Okn q w) (h : NB n q) (f : Int × Int) (e : (nends q w).hi = some f) : BdF n f ∧ 0 < f.1 := by
  have E := num_end ok h
  have z := hi_is e
  rw [← z]
  exact ⟨E.bh, E.h1⟩
section
variable {P : Program} {w : World} {K : PySem.W.Frag} {mg : Str → Option Value} {base : Heap}
theorem cal_l_sure (T : Txt K mg) (NS : base.NoSeer) (ht : P.given.tree = none) : Cal P w K mg base CX0 3 "_law_sure" (sp_l_sure K) := by
  have C_l_both := cal_l_both (P := P) (w := w) (base := base) T NS ht
  have C_l_ends := cal_l_ends (P := P) (w := w) (base := base) T NS ht
  refine cal_ok T.d_l_sure sc_l_sure (fun vs H Q E h => ?_) (fun f cdv A outer s H vs Q E hr h => ?_)
  · obtain ⟨x, a, b, q1, q2, w1, w2, n1, n2, rfl, _⟩ := h
    rfl
  · refine ⟨_, (pss_cons (ps_asg (pe_c C_l_both hr (by decide) (by rfl) (pa_cons (pv 0) (pa_cons (pe_c C_l_ends hr (by decide) (by rfl) (pa_cons (pv 1) pa_nil)) (pa_cons (pe_c C_l_ends hr (by decide) (by rfl) (pa_cons (pv 2) pa_nil)) pa_nil)))) (pg_tup rfl (pgs_cons (pg_name (i := 3) sc_l_sure.nd rfl (.inl rfl)) (pgs_cons (pg_name (i := 4) sc_l_sure.nd rfl (.inl rfl)) (pgs_cons (pg_name (i := 5) sc_l_sure.nd rfl (.inl rfl)) (pgs_cons (pg_name (i := 6) sc_l_sure.nd rfl (.inl rfl)) pgs_nil))))))
      (pss_cons (ps_set (i := 7) sc_l_sure.nd rfl (.inl rfl) (pe_lst pa_nil))
      (pss_cons (ps_while PassesOwn.never (pt_mono (PW.pt (pw_and (pt_cmpR op_notN (pv 3) pe_non (nomark _)) (pw_and1 (pt_cmpR op_notN (pv 5) pe_non (nomark _))))))
      (pss_cons (ps_set (i := 8) sc_l_sure.nd rfl (.inl rfl) (pe_op op_fdivP (pe_ix (r := rIxT K) ix_tup (pv 3) pe_int (fun _ _ => rfl)) (pe_ix (r := rIxT K) ix_tup (pv 3) pe_int (fun _ _ => rfl))))
      (pss_cons (ps_set (i := 9) sc_l_sure.nd rfl (.inl rfl) (pe_op op_sub (pe_ix (r := rIxT K) ix_tup (pv 5) pe_int (fun _ _ => rfl)) (pe_op op_mulX (pe_op op_add (pv 8) pe_int) (pe_ix (r := rIxT K) ix_tup (pv 5) pe_int (fun _ _ => rfl)))))
      (pss_cons (ps_if (PW.pt (pw_or (pt_cmpR op_gt (pv 9) pe_int (nomark _)) (pw_or1 (PW.pt (pw_and (pt_cmpR op_eq (pv 9) pe_int (nomark _)) (pw_and1 (pt_truth (pv 6) (by intro _; rfl)))))))) (pss_one (ps_ret (pv 7))) pss_nil)
      (pss_cons (ps_expr (pe_bm PySem.F.plainAttrs_list PySem.F.slot_list_append PySem.F.type_list_append mt_append (pv 7) (pa_cons (pv 8) pa_nil)))
      (pss_cons (ps_set (i := 10) sc_l_sure.nd rfl (.inl rfl) (pe_tup (pa_cons (pe_op op_sub (pe_ix (r := rIxT K) ix_tup (pv 3) pe_int (fun _ _ => rfl)) (pe_op op_mulX (pv 8) (pe_ix (r := rIxT K) ix_tup (pv 3) pe_int (fun _ _ => rfl)))) (pa_cons (pe_ix (r := rIxT K) ix_tup (pv 3) pe_int (fun _ _ => rfl)) pa_nil))))
      (pss_cons (ps_set (i := 11) sc_l_sure.nd rfl (.inl rfl) (pe_tup (pa_cons (pe_op op_sub (pe_ix (r := rIxT K) ix_tup (pv 5) pe_int (fun _ _ => rfl)) (pe_op op_mulX (pv 8) (pe_ix (r := rIxT K) ix_tup (pv 5) pe_int (fun _ _ => rfl)))) (pa_cons (pe_ix (r := rIxT K) ix_tup (pv 5) pe_int (fun _ _ => rfl)) pa_nil))))
      (pss_cons (ps_par (i := 3) (j := 5) (by rfl) sc_l_sure.nd rfl rfl (by decide) rfl rfl (pa_cons (pe_revT (pv 11)) (pa_cons (pe_ifExp (pt_cmpR op_eq (pe_ix (r := rIxT K) ix_tup (pv 10) pe_int (fun _ _ => rfl)) pe_int (nomark _)) pe_non (pe_revT (pv 10))) pa_nil)) (by rfl))
      (pss_one (ps_par (i := 4) (j := 6) (by rfl) sc_l_sure.nd rfl rfl (by decide) rfl rfl (pa_cons (pv 6) (pa_cons (pv 4) pa_nil)) (by rfl)))))))))))
      (pss_one (ps_ret (pv 7)))))), ?_⟩
    obtain ⟨x, one, two, q1, q2, w1, w2, n1, n2, rfl, hx, hA, hB, l1, l2, ok1, ok2, nb1, nb2, hn, hw, k⟩ := h
    have sb := sb_ok hx ok1 ok2 nb1 nb2 hw (by omega)
    have E1 := num_end ok1 nb1
    have E2 := num_end ok2 nb2
    refine ⟨_, rfl, _, rfl, one, q1, w1, n1, rfl, hA, l1, ok1, nb1, by omega, fun H1 e1 lo1 hv1 s1 ne1 f1 g1 h1 => ?_⟩
    refine ⟨_, rfl, two, q2, w2, n2, rfl, hB.same s1, l2, ok2, nb2, by omega, fun H2 e2 lo2 hv2 s2 ne2 f2 g2 h2 => ?_⟩
    refine ⟨x, e1, e2, _, _, rfl, ⟨lo1, hv1, s2 _ _ f1, same_t s2 g1, h1.same s2⟩, ⟨lo2, hv2, f2, g2, h2⟩, E1.be.mono (by omega), (fun f z => (hi_bd2 ok1 nb1 f z).1.mono (by omega)), E2.be.mono (by omega), (fun f z => ⟨(hi_bd2 ok2 nb2 f z).1.mono (by omega), (hi_bd2 ok2 nb2 f z).2⟩), fun H3 p lv hv s3 np ep hl hh => ?_⟩
    replace k := fun H' c a b d => k H' c a b d
    change ∀ H' c, Same H H' → H c = none → H' c = some (.lst ((sureO (bothLo x (nends q1 w1) (nends q2 w2)) (bothHi x (nends q1 w1) (nends q2 w2)) (bothL x (nends q1 w1) (nends q2 w2)) (bothH x (nends q1 w1) (nends q2 w2))).map V.int)) → Q (.ref c) H' at k
    have s03 := (s1.trans s2).trans s3
    clear E1 E2 f1 g1 h1 f2 g2 h2 hA hB nb1 nb2 ok1 ok2
    generalize bothLo x (nends q1 w1) (nends q2 w2) = lo at *
    generalize bothHi x (nends q1 w1) (nends q2 w2) = hi at *
    generalize bothL x (nends q1 w1) (nends q2 w2) = isL at *
    generalize bothH x (nends q1 w1) (nends q2 w2) = isH at *
    have ok : ∀ l h, lo = some l → hi = some h → SbOk l h := sb
    have tl : (sureO lo hi isL isH).length ≤ 18000 := by
      cases lo with
      | none => exact Nat.zero_le _
      | some l =>
        cases hi with
        | none => exact Nat.zero_le _
        | some h =>
          have o := ok l h rfl rfl
          exact sureB_len o.l2 (by have := o.h2; omega) o.D o.b2 o.b4
    refine ⟨p, _, rfl, sqT ep, rfl, _, _, rfl, _, _, rfl, _, _, rfl, _, _, rfl, rfl, ?_⟩
    refine ⟨Nat.zero_le _, fun c nc0 => ?_⟩
    (generalize hH_ : upd _ c _ = H4; have s4 := same_of hH_ nc0; have ec := at_new hH_; clear hH_)
    have s1 : Same H H4 := s03.trans s4
    have nc : H c = none := s03.free nc0
    replace hl := hl.same s4
    replace hh := hh.same s4
    clear s2 s3 ep np s03 s4 nc0
    generalize hN : sureO lo hi isL isH = told at *
    refine while_m (fun σ H' => ∃ (lv hv : V) (isL isH : Bool) (done : List Int) (v6 v7 v8 v9 : Option V), σ = [some (.str x), some (.ref one), some (.ref two), some lv, some (.bl isL), some hv, some (.bl isH), some (.ref c), v6, v7, v8, v9] ∧ Same H H' ∧ H' c = some (.lst (done.map V.int)) ∧
        (((lv = .non ∨ hv = .non) ∧ (lv = .non ∨ ∃ a, lv = .ref a) ∧ done = told) ∨ ∃ (a b : Addr) (l h : Int × Int), lv = .ref a ∧ hv = .ref b ∧ HPr K H' a l ∧ HPr K H' b h ∧ SbOk l h ∧ done ++ Cm.sureB l.1 l.2 h.1 h.2 isL isH = told))
      (fun _ H' => match H' c with | some (.lst xs) => told.length - xs.length | _ => 0) ⟨lv, hv, isL, isH, [], none, none, none, none, rfl, s1, ec, ?_⟩ ?_
    · cases lo with
      | none => exact .inl ⟨.inl hl, .inl hl, hN⟩
      | some l =>
        obtain ⟨a, rfl, hA⟩ := hl
        cases hi with
        | none => exact .inl ⟨.inr hh, .inr ⟨a, rfl⟩, hN⟩
        | some h =>
          obtain ⟨b, rfl, hB⟩ := hh
          exact .inr ⟨a, b, l, h, rfl, rfl, hA, hB, ok l h rfl rfl, hN⟩
    · rintro σ H2 ⟨lv, hv, isL, isH, done, v6, v7, v8, v9, rfl, s2, ed, hcase⟩
      rcases hcase with ⟨h1, h2, rfl⟩ | ⟨a, b, l, h, rfl, rfl, hA, hB, o, et⟩
      · refine ⟨_, rfl, rfl, _, rfl, ?_⟩
        rcases h2 with rfl | ⟨a, rfl⟩
        · refine iteF ?_
          exact ⟨_, rfl, k _ c s2 nc ed⟩
        · have hv0 : hv = .non := h1.resolve_left (by intro z; cases z)
          subst hv0
          refine iteT ⟨_, rfl, rfl, _, rfl, iteF ?_⟩
          exact ⟨_, rfl, k _ c s2 nc ed⟩
      · obtain ⟨ln, ld⟩ := l
        obtain ⟨hn, hd⟩ := h
        have l2 : 0 < ld := o.l2
        have h2 : 0 < hd := o.h2
        have D : 0 < hn * ld - ln * hd := o.D
        have b1 : Bd 20000 ln := o.b1
        have b2 : Bd 8998 ld := o.b2
        have b3 : Bd 20000 hn := o.b3
        have b4 : Bd 8998 hd := o.b4
        refine ⟨_, rfl, rfl, _, rfl, iteT ⟨_, rfl, rfl, _, rfl, iteT ?_⟩⟩
        refine ⟨_, rfl, a, _, 0, _, rfl, rfl, hA, pr_at0 hA, _, rfl, a, _, 1, _, rfl, rfl, hA, pr_at1 hA, _, _, rfl, rfl, divOk l2 b2 (by decide) (by decide), ?_⟩
        have bq : Bd 20000 (ln / ld) := Nat.lt_of_le_of_lt (Int.natAbs_ediv_le_natAbs ln ld) b1
        have hdiv := Int.mul_ediv_add_emod ln ld
        have r0 := Int.emod_nonneg ln (show ld ≠ 0 by omega)
        have r1 := Int.emod_lt_of_pos ln l2
        have st := @Cm.sureB_step ln ld hn hd isL isH l2 h2
        have sp := @Cm.sureB_stop ln ld hn hd isL isH
        dsimp only at et
        dsimp only
        generalize ln / ld = q at *
        generalize ln % ld = r at *
        refine ⟨_, rfl, b, _, 0, _, rfl, rfl, hB, pr_at0 hB, _, rfl, _, _, rfl, rfl, _, rfl, b, _, 1, _, rfl, rfl, hB, pr_at1 hB, _, _, rfl, rfl, mulOk (bq.add (Bd.one (by decide))) b4 (by decide), _, _, rfl, rfl, ?_⟩
        have stopped : (0 < hn - (q + 1) * hd ∨ (hn - (q + 1) * hd = 0 ∧ isH = true)) → done = told := fun z => by
          rw [sp (fun w => w.2.2 z), List.append_nil] at et
          exact et
        refine ⟨_, rfl, _, _, rfl, rfl, _, rfl, ite2 (fun c1 => ?_) (fun c1 => ?_)⟩
        · rw [stopped (.inl (of_decide_eq_true c1))] at ed
          exact iteT ⟨_, rfl, k _ c s2 nc ed⟩
        refine ⟨_, rfl, rfl, _, rfl, ite2 (fun c2 => ?_) (fun c2 => ?_)⟩
        · have c2' : hn - (q + 1) * hd = 0 := V.int.inj (of_decide_eq_true c2)
          refine ⟨_, rfl, _, rfl, ?_⟩
          cases isH with
          | true =>
            rw [stopped (.inr ⟨c2', rfl⟩)] at ed
            exact iteT ⟨_, rfl, k _ c s2 nc ed⟩
          | false =>
            refine iteF ?_
            have hns : ¬ (0 < hn - (q + 1) * hd ∨ (hn - (q + 1) * hd = 0 ∧ false = true)) := fun z => by
              rcases z with z | z
              · omega
              · cases z.2
            rw [st hns] at et
            have x1 : (q + 1) * hd = q * hd + hd := by grind
            have x2 : q * ld = ld * q := Int.mul_comm _ _
            have x3 : ¬ 0 < hn - (q + 1) * hd := fun z => hns (.inl z)
            have er : ln - q * ld = r := by omega
            have n1 : 0 < hn - q * hd := by
              rcases Int.lt_or_le 0 (hn - q * hd) with w | w
              · exact w
              · have w1 := Int.mul_le_mul_of_nonneg_right w (show 0 ≤ ld by omega)
                have w2 := Int.mul_nonneg r0 (show 0 ≤ hd by omega)
                have w3 : hn * ld - ln * hd = (hn - q * hd) * ld - r * hd := by rw [← er]; grind
                omega
            have n2 : hn - q * hd ≤ hd := by omega
            have D2 : 0 < ld * (hn - q * hd) - hd * (ln - q * ld) := by
              have : ld * (hn - q * hd) - hd * (ln - q * ld) = hn * ld - ln * hd := by grind
              omega
            have lt : done.length + 1 ≤ told.length := by
              rw [← et, List.length_append, List.length_cons]
              omega
            have bn : Bd 8998 (hn - q * hd) := Bd.of_le (by omega) n2 b4
            have br : Bd 8998 r := Bd.of_le r0 (by omega) b2
            refine ⟨_, rfl, .inl ⟨rfl, _, sqL ed⟩, _, rfl, c, _, _, rfl, rfl, ed, ?_, ?_⟩
            · rw [List.length_map]
              exact Nat.lt_of_le_of_lt (show done.length ≤ 18000 by omega) (by decide)
            generalize hH3 : upd H2 c _ = H3
            have hA3 : HPr K H3 a (ln, ld) := hH3 ▸ sqT_upd hA ed
            have hB3 : HPr K H3 b (hn, hd) := hH3 ▸ sqT_upd hB ed
            have s3 : Same H H3 := same_mut_of hH3 s2 nc
            have e3 := at_new hH3
            clear hH3
            refine ⟨_, rfl, a, _, 0, _, rfl, rfl, hA3, pr_at0 hA3, _, rfl, _, rfl, a, _, 1, _, rfl, rfl, hA3, pr_at1 hA3, _, _, rfl, rfl, mulOk bq b2 (by decide), _, _, rfl, rfl, _, rfl, a, _, 1, _, rfl, rfl, hA3, pr_at1 hA3, by show 2 ≤ sizeLine; decide, fun inn ni => ?_⟩
            (generalize hH_ : upd _ inn _ = H31; have s31 := same_of hH_ ni; have ei := at_new hH_; clear hH_)
            have hA31 := same_t s31 hA3
            have hB31 := same_t s31 hB3
            refine ⟨_, rfl, b, _, 0, _, rfl, rfl, hB31, pr_at0 hB31, _, rfl, _, rfl, b, _, 1, _, rfl, rfl, hB31, pr_at1 hB31, _, _, rfl, rfl, mulOk bq b4 (by decide), _, _, rfl, rfl, _, rfl, b, _, 1, _, rfl, rfl, hB31, pr_at1 hB31, by show 2 ≤ sizeLine; decide, fun out no => ?_⟩
            (generalize hH_ : upd _ out _ = H32; have s32 := same_of hH_ no; have eo := at_new hH_; clear hH_)
            have ei32 : HPr K H32 inn (ln - q * ld, ld) := same_t s32 (sqT ei)
            have eo32 : HPr K H32 out (hn - q * hd, hd) := sqT eo
            refine ⟨_, rfl, out, _, _, rfl, eo32, fun f nf => ?_⟩
            (generalize hH_ : upd _ f _ = H4; have s4' := same_of hH_ nf; have ef := at_new hH_; clear hH_)
            have s4 := (s31.trans s32).trans s4'
            have hF : HPr K H4 f (hd, hn - q * hd) := sqT ef
            have e4 := s4 _ _ e3
            replace e4 : H4 c = some (.lst ((done ++ [q]).map V.int)) := by rw [e4, List.map_append]; rfl
            have ei4 := same_t s4' ei32
            refine ⟨_, rfl, inn, _, 0, _, rfl, rfl, ei4, pr_at0 (f := (ln - q * ld, ld)) ei4, rfl, _, rfl, ite2 (fun c3 => ?_) (fun c3 => ?_)⟩
            · have z0 : ln - q * ld = 0 := V.int.inj (of_decide_eq_true c3)
              refine ⟨_, _, rfl, _, rfl, _, rfl, _, _, rfl, ⟨.ref f, .non, _, _, done ++ [q], _, _, _, _, rfl, s3.trans s4, e4, .inl ⟨.inr rfl, .inr ⟨f, rfl⟩, ?_⟩⟩, ?_⟩
              · rw [← et, z0, sureB_hd0]
              · show (match H4 c with | some (.lst xs) => told.length - xs.length | _ => 0) < (match H2 c with | some (.lst xs) => told.length - xs.length | _ => 0)
                rw [e4, ed]
                show told.length - ((done ++ [q]).map V.int).length < told.length - (done.map V.int).length
                rw [List.length_map, List.length_map, List.length_append, List.length_singleton]
                omega
            · have z0 : ln - q * ld ≠ 0 := fun z => c3 (decide_eq_true (congrArg V.int z))
              refine ⟨_, rfl, inn, _, _, rfl, ei4, fun g ng => ?_⟩
              (generalize hH_ : upd _ g _ = H5; have s5 := same_of hH_ ng; have eg := at_new hH_; clear hH_)
              have e5 := s5 _ _ e4
              refine ⟨_, _, rfl, _, rfl, _, rfl, _, _, rfl, ⟨.ref f, .ref g, _, _, done ++ [q], _, _, _, _, rfl, (s3.trans s4).trans s5, e5, .inr ⟨f, g, (hd, hn - q * hd), (ld, ln - q * ld), rfl, rfl, same_t s5 hF, sqT eg, ⟨n1, by show 0 < ln - q * ld; omega, D2, b4.mono (by decide), bn, b2.mono (by decide), by show Bd 8998 (ln - q * ld); rw [er]; exact br⟩, ?_⟩⟩, ?_⟩
              · rw [← et, List.append_assoc]
                rfl
              · show (match H5 c with | some (.lst xs) => told.length - xs.length | _ => 0) < (match H2 c with | some (.lst xs) => told.length - xs.length | _ => 0)
                rw [e5, ed]
                show told.length - ((done ++ [q]).map V.int).length < told.length - (done.map V.int).length
                rw [List.length_map, List.length_map, List.length_append, List.length_singleton]
                omega
        · refine iteF ?_
          have hns : ¬ (0 < hn - (q + 1) * hd ∨ (hn - (q + 1) * hd = 0 ∧ isH = true)) := fun z => by
            rcases z with z | z
            · exact c1 (decide_eq_true z)
            · exact c2 (decide_eq_true (congrArg V.int z.1))
          rw [st hns] at et
          have x1 : (q + 1) * hd = q * hd + hd := by grind
          have x2 : q * ld = ld * q := Int.mul_comm _ _
          have x3 : ¬ 0 < hn - (q + 1) * hd := fun z => hns (.inl z)
          have er : ln - q * ld = r := by omega
          have n1 : 0 < hn - q * hd := by
            rcases Int.lt_or_le 0 (hn - q * hd) with w | w
            · exact w
            · have w1 := Int.mul_le_mul_of_nonneg_right w (show 0 ≤ ld by omega)
              have w2 := Int.mul_nonneg r0 (show 0 ≤ hd by omega)
              have w3 : hn * ld - ln * hd = (hn - q * hd) * ld - r * hd := by rw [← er]; grind
              omega
          have n2 : hn - q * hd ≤ hd := by omega
          have D2 : 0 < ld * (hn - q * hd) - hd * (ln - q * ld) := by
            have : ld * (hn - q * hd) - hd * (ln - q * ld) = hn * ld - ln * hd := by grind
            omega
          have lt : done.length + 1 ≤ told.length := by
            rw [← et, List.length_append, List.length_cons]
            omega
          have bn : Bd 8998 (hn - q * hd) := Bd.of_le (by omega) n2 b4
          have br : Bd 8998 r := Bd.of_le r0 (by omega) b2
          refine ⟨_, rfl, .inl ⟨rfl, _, sqL ed⟩, _, rfl, c, _, _, rfl, rfl, ed, ?_, ?_⟩
          · rw [List.length_map]
            exact Nat.lt_of_le_of_lt (show done.length ≤ 18000 by omega) (by decide)
          generalize hH3 : upd H2 c _ = H3
          have hA3 : HPr K H3 a (ln, ld) := hH3 ▸ sqT_upd hA ed
          have hB3 : HPr K H3 b (hn, hd) := hH3 ▸ sqT_upd hB ed
          have s3 : Same H H3 := same_mut_of hH3 s2 nc
          have e3 := at_new hH3
          clear hH3
          refine ⟨_, rfl, a, _, 0, _, rfl, rfl, hA3, pr_at0 hA3, _, rfl, _, rfl, a, _, 1, _, rfl, rfl, hA3, pr_at1 hA3, _, _, rfl, rfl, mulOk bq b2 (by decide), _, _, rfl, rfl, _, rfl, a, _, 1, _, rfl, rfl, hA3, pr_at1 hA3, by show 2 ≤ sizeLine; decide, fun inn ni => ?_⟩
          (generalize hH_ : upd _ inn _ = H31; have s31 := same_of hH_ ni; have ei := at_new hH_; clear hH_)
          have hA31 := same_t s31 hA3
          have hB31 := same_t s31 hB3
          refine ⟨_, rfl, b, _, 0, _, rfl, rfl, hB31, pr_at0 hB31, _, rfl, _, rfl, b, _, 1, _, rfl, rfl, hB31, pr_at1 hB31, _, _, rfl, rfl, mulOk bq b4 (by decide), _, _, rfl, rfl, _, rfl, b, _, 1, _, rfl, rfl, hB31, pr_at1 hB31, by show 2 ≤ sizeLine; decide, fun out no => ?_⟩
          (generalize hH_ : upd _ out _ = H32; have s32 := same_of hH_ no; have eo := at_new hH_; clear hH_)
          have ei32 : HPr K H32 inn (ln - q * ld, ld) := same_t s32 (sqT ei)
          have eo32 : HPr K H32 out (hn - q * hd, hd) := sqT eo
          refine ⟨_, rfl, out, _, _, rfl, eo32, fun f nf => ?_⟩
          (generalize hH_ : upd _ f _ = H4; have s4' := same_of hH_ nf; have ef := at_new hH_; clear hH_)
          have s4 := (s31.trans s32).trans s4'
          have hF : HPr K H4 f (hd, hn - q * hd) := sqT ef
          have e4 := s4 _ _ e3
          replace e4 : H4 c = some (.lst ((done ++ [q]).map V.int)) := by rw [e4, List.map_append]; rfl
          have ei4 := same_t s4' ei32
          refine ⟨_, rfl, inn, _, 0, _, rfl, rfl, ei4, pr_at0 (f := (ln - q * ld, ld)) ei4, rfl, _, rfl, ite2 (fun c3 => ?_) (fun c3 => ?_)⟩
          · have z0 : ln - q * ld = 0 := V.int.inj (of_decide_eq_true c3)
            refine ⟨_, _, rfl, _, rfl, _, rfl, _, _, rfl, ⟨.ref f, .non, _, _, done ++ [q], _, _, _, _, rfl, s3.trans s4, e4, .inl ⟨.inr rfl, .inr ⟨f, rfl⟩, ?_⟩⟩, ?_⟩
            · rw [← et, z0, sureB_hd0]
            · show (match H4 c with | some (.lst xs) => told.length - xs.length | _ => 0) < (match H2 c with | some (.lst xs) => told.length - xs.length | _ => 0)
              rw [e4, ed]
              show told.length - ((done ++ [q]).map V.int).length < told.length - (done.map V.int).length
              rw [List.length_map, List.length_map, List.length_append, List.length_singleton]
              omega
          · have z0 : ln - q * ld ≠ 0 := fun z => c3 (decide_eq_true (congrArg V.int z))
            refine ⟨_, rfl, inn, _, _, rfl, ei4, fun g ng => ?_⟩
            (generalize hH_ : upd _ g _ = H5; have s5 := same_of hH_ ng; have eg := at_new hH_; clear hH_)
            have e5 := s5 _ _ e4
            refine ⟨_, _, rfl, _, rfl, _, rfl, _, _, rfl, ⟨.ref f, .ref g, _, _, done ++ [q], _, _, _, _, rfl, (s3.trans s4).trans s5, e5, .inr ⟨f, g, (hd, hn - q * hd), (ld, ln - q * ld), rfl, rfl, same_t s5 hF, sqT eg, ⟨n1, by show 0 < ln - q * ld; omega, D2, b4.mono (by decide), bn, b2.mono (by decide), by show Bd 8998 (ln - q * ld); rw [er]; exact br⟩, ?_⟩⟩, ?_⟩
            · rw [← et, List.append_assoc]
              rfl
            · show (match H5 c with | some (.lst xs) => told.length - xs.length | _ => 0) < (match H2 c with | some (.lst xs) => told.length - xs.length | _ => 0)
              rw [e5, ed]
              show told.length - ((done ++ [q]).map V.int).length < told.length - (done.map V.int).length
              rw [List.length_map, List.length_map, List.length_append, List.length_singleton]
              omega
end
def sp_is_above (K : PySem.W.Frag) : Sp := fun vs H Q _ => ∃ (x : V) (th : Option (List V)), vs = [x] ∧ Thing K H x th ∧ ∀ H', Same H H' → Q (.bl (onInts abvB th)) H'
section
variable {P : Program} {w : World} {K : PySem.W.Frag} {mg : Str → Option Value} {base : Heap}
theorem cal_is_above (T : Txt K mg) (NS : base.NoSeer) (ht : P.given.tree = none) : Cal P w K mg base CX0 4 "is_above" (sp_is_above K) := by
  have C_is_chain := cal_is_chain (P := P) (w := w) (base := base) T NS ht
  refine cal_ok T.d_is_above sc_is_above (fun vs H Q E h => ?_) (fun f cdv A outer s H vs Q E hr h => ?_)
  · obtain ⟨x, t, rfl, _⟩ := h
    rfl
  · refine ⟨_, (pss_one (ps_ret (pe_and (pe_c C_is_chain hr (by decide) (by rfl) (pa_cons (pv 0) pa_nil)) (pe_and (pe_cmpR op_ge (pe_ix (r := rIxL K) ix_list (pv 0) pe_int (fun _ _ => rfl)) pe_int (nomark _)) (pe_one (pe_cmpR (r := rNeD K) (op_neD hr.units) (pv 0) (pe_lst (pa_cons pe_int pa_nil)) (nomark _))))))), ?_⟩
    obtain ⟨x, th, rfl, hx, q⟩ := h
    refine ⟨_, rfl, _, th, rfl, hx, fun H1 s1 => ⟨_, rfl, ?_⟩⟩
    cases e : quotsT th with
    | false =>
      rw [onInts_no chB_quots e]
      rw [onInts_no (fun ns h => chB_quots ns (abvB_chB h)) e] at q
      exact iteF (q _ s1)
    | true =>
      obtain ⟨ns, rfl⟩ := quotsT_yes e
      obtain ⟨a, rfl, hS, hlen, _⟩ := hx
      rw [onInts_ints]
      rw [onInts_ints] at q
      unfold abvB at q
      cases hc : chB ns with
      | false =>
        rw [hc] at q
        exact iteF (q _ s1)
      | true =>
        rw [hc, Bool.true_and] at q
        cases ns with
        | nil => exact absurd hc (by decide)
        | cons n r =>
          refine iteT ⟨_, rfl, a, _, 0, _, rfl, rfl, s1.seq hS, atI_int (ns := n :: r) (i := 0) rfl, _, _, rfl, rfl, _, rfl, ite2 (fun c1 => ?_) (fun c1 => ?_)⟩
          · have c1' : decide (0 ≤ (n :: r).headD 0) = true := c1
            rw [c1', Bool.true_and] at q
            refine ⟨_, rfl, (by show 1 ≤ sizeLine; decide), fun c nc => ?_⟩
            (generalize hH_ : upd _ c _ = H2; have s2 := same_of hH_ nc; have ec := at_new hH_; clear hH_)
            replace ec : H2 c = some (.lst (([0] : List Int).map V.int)) := ec
            refine ⟨_, _, dp_ints (s2.seq (s1.seq hS)), dp_ints (sqL ec), shaped_ints _, shaped_ints _, ?_⟩
            rw [eqv_ints]
            have e2 : ((n :: r) != [0]) = !decide ((n :: r) = [0]) := by
              cases z : decide ((n :: r) = [0]) with
              | true => rw [of_decide_eq_true z]; rfl
              | false => simpa using of_decide_eq_false z
            rw [e2] at q
            exact q _ (s1.trans s2)
          · have c1' : decide (0 ≤ (n :: r).headD 0) = false := Bool.eq_false_iff.mpr c1
            rw [c1'] at q
            exact q _ s1
end
def sp_need_chain (K : PySem.W.Frag) : Sp := fun vs H Q _ => ∃ (a : Addr) (ns : List Int), vs = [.ref a] ∧ SqL K H a (ns.map V.int) ∧ ns.length ≤ 100000 ∧ chB ns = true ∧ ∀ H', Same H H' → Q .non H'
section
variable {P : Program} {w : World} {K : PySem.W.Frag} {mg : Str → Option Value} {base : Heap}
theorem cal_need_chain (T : Txt K mg) (NS : base.NoSeer) (ht : P.given.tree = none) : Cal P w K mg base CX0 4 "need_chain" (sp_need_chain K) := by
  have C_is_chain := cal_is_chain (P := P) (w := w) (base := base) T NS ht
  refine cal_ok T.d_need_chain sc_need_chain (fun vs H Q E h => ?_) (fun f cdv A outer s H vs Q E hr h => ?_)
  · obtain ⟨x, t, rfl, _⟩ := h
    rfl
  · refine ⟨_, (pss_one (ps_if (pt_not (pt_val (pe_c C_is_chain hr (by decide) (by rfl) (pa_cons (pv 0) pa_nil)))) (pss_one ps_never) pss_nil)), ?_⟩
    obtain ⟨a, ns, rfl, hS, hl, hc, q⟩ := h
    refine ⟨_, rfl, _, _, rfl, thing_ints hS hl, fun H1 s1 => ⟨_, rfl, ?_⟩⟩
    rw [onInts_ints, hc]
    exact iteF (q _ s1)
end
def sp_fraction_of (K : PySem.W.Frag) : Sp := fun vs H Q _ => ∃ (a : Addr) (ns : List Int), vs = [.ref a] ∧ SqL K H a (ns.map V.int) ∧ ns.length ≤ 100000 ∧ chB ns = true ∧ Sz ns ∧
  ∀ H' p, Same H H' → H p = none → H' p = some (.tup [.int (Cm.W ns).1, .int (Cm.W ns).2]) → Q (.ref p) H'
section
variable {P : Program} {w : World} {K : PySem.W.Frag} {mg : Str → Option Value} {base : Heap}
theorem cal_fraction_of (T : Txt K mg) (NS : base.NoSeer) (ht : P.given.tree = none) : Cal P w K mg base CX0 5 "fraction_of" (sp_fraction_of K) := by
  have C_need_chain := cal_need_chain (P := P) (w := w) (base := base) T NS ht
  have C_told_by := cal_told_by (P := P) (w := w) (base := base) T NS ht
  refine cal_ok T.d_fraction_of sc_fraction_of (fun vs H Q E h => ?_) (fun f cdv A outer s H vs Q E hr h => ?_)
  · obtain ⟨x, t, rfl, _⟩ := h
    rfl
  · refine ⟨_, (pss_cons (ps_expr (pe_c C_need_chain hr (by decide) (by rfl) (pa_cons (pv 0) pa_nil)))
      (pss_one (ps_ret (pe_c C_told_by hr (by decide) (by rfl) (pa_cons (pv 0) pa_nil))))), ?_⟩
    obtain ⟨a, ns, rfl, hS, hl, hc, hb, q⟩ := h
    refine ⟨_, rfl, _, _, rfl, hS, hl, hc, fun H1 s1 => ?_⟩
    refine ⟨_, rfl, a, ns, rfl, s1.seq hS, ?_, hb, fun H2 p s2 np ep => q _ _ (s1.trans s2) (s1.free np) ep⟩
    rintro rfl
    exact absurd hc (by decide)
end
def sp_ends_of (K : PySem.W.Frag) : Sp := fun vs H Q _ => ∃ (a : Addr) (ns : List Int), vs = [.ref a] ∧ SqL K H a (ns.map V.int) ∧ ns.length ≤ 90000 ∧ begB ns = true ∧ (ns ≠ [] → Sz ns ∧ Sz (Cm.up ns)) ∧
  ∀ H' p, Same H H' → H p = none → HEn K H' p (ends ns) → Q (.ref p) H'
section
variable {P : Program} {w : World} {K : PySem.W.Frag} {mg : Str → Option Value} {base : Heap}
theorem cal_ends_of (T : Txt K mg) (NS : base.NoSeer) (ht : P.given.tree = none) : Cal P w K mg base CX0 5 "ends_of" (sp_ends_of K) := by
  have C_is_begun := cal_is_begun (P := P) (w := w) (base := base) T NS ht
  have C_told_by := cal_told_by (P := P) (w := w) (base := base) T NS ht
  have C_is_above := cal_is_above (P := P) (w := w) (base := base) T NS ht
  refine cal_ok T.d_ends_of sc_ends_of (fun vs H Q E h => ?_) (fun f cdv A outer s H vs Q E hr h => ?_)
  · obtain ⟨x, t, rfl, _⟩ := h
    rfl
  · refine ⟨_, (pss_cons (ps_if (pt_not (pt_val (pe_c C_is_begun hr (by decide) (by rfl) (pa_cons (pv 0) pa_nil)))) (pss_one ps_never) pss_nil)
      (pss_cons (ps_if (pt_cmpR (r := rEqD K) (op_eqD hr.units) (pv 0) (pe_lst pa_nil) (nomark _)) (pss_one (ps_ret (pe_tup (pa_cons (pe_tup (pa_cons pe_int (pa_cons pe_int pa_nil))) (pa_cons pe_bl (pa_cons pe_non (pa_cons pe_bl pa_nil))))))) pss_nil)
      (pss_cons (ps_set (i := 1) sc_ends_of.nd rfl (.inl rfl) (pe_c C_told_by hr (by decide) (by rfl) (pa_cons (pv 0) pa_nil)))
      (pss_cons (ps_set (i := 2) sc_ends_of.nd rfl (.inl rfl) (pe_c C_told_by hr (by decide) (by rfl) (pa_cons (pe_op op_cat (pe_slice sl_list (pv 0) po_none (po_some (pe_un un_neg pe_int))) (pe_lst (pa_cons (pe_op op_add (pe_ix (r := rIxL K) ix_list (pv 0) (pe_un un_neg pe_int) (fun _ _ => rfl)) pe_int) pa_nil))) pa_nil)))
      (pss_cons (ps_if (pt_cmpR op_eq (pe_op op_mod (pe_callB call_len_seq (by rfl) T.z_len PySem.boot_len (pa_cons (pv 0) pa_nil)) pe_int) pe_int (nomark _)) (pss_one (ps_ret (pe_tup (pa_cons (pv 1) (pa_cons (pe_c C_is_above hr (by decide) (by rfl) (pa_cons (pv 0) pa_nil)) (pa_cons (pv 2) (pa_cons pe_bl pa_nil))))))) pss_nil)
      (pss_one (ps_ret (pe_tup (pa_cons (pv 2) (pa_cons pe_bl (pa_cons (pv 1) (pa_cons (pe_c C_is_above hr (by decide) (by rfl) (pa_cons (pv 0) pa_nil)) pa_nil)))))))))))), ?_⟩
    obtain ⟨a, ns, rfl, hS, hl, hb, hbd, q⟩ := h
    refine ⟨_, rfl, _, _, rfl, thing_ints hS (by omega), fun H1 s1 => ⟨_, rfl, ?_⟩⟩
    rw [onInts_ints, hb]
    refine iteF ⟨_, rfl, Nat.zero_le _, fun c nc => ?_⟩
    (generalize hH_ : upd _ c _ = H2; have s2 := same_of hH_ nc; have ec := at_new hH_; clear hH_)
    have hA := s2.seq (s1.seq hS)
    refine ⟨_, _, dp_ints hA, dp_ints (ns := []) (sqL ec), shaped_ints _, shaped_ints _, ?_⟩
    rw [eqv_ints]
    refine ⟨_, rfl, ite2 (fun c1 => ?_) (fun c1 => ?_)⟩
    · have e0 : ns = [] := of_decide_eq_true c1
      subst e0
      refine ⟨(by show 2 ≤ sizeLine; decide), fun d nd => ?_⟩
      (generalize hH_ : upd _ d _ = H3; have s3 := same_of hH_ nd; have ed := at_new hH_; clear hH_)
      refine ⟨(by show 4 ≤ sizeLine; decide), fun e ne => ?_⟩
      (generalize hH_ : upd _ e _ = H4; have s4 := same_of hH_ ne; have ee := at_new hH_; clear hH_)
      refine q _ e (((s1.trans s2).trans s3).trans s4) (((s1.trans s2).trans s3).free ne) ?_
      unfold ends
      rw [Cm.endsOf_nil]
      exact ⟨d, .non, sqT ee, sqT (s4 _ _ ed), rfl⟩
    · have hne : ns ≠ [] := fun z => c1 (decide_eq_true z)
      obtain ⟨i, x, rfl⟩ := Cm.snoc_of hne
      obtain ⟨sz1, sz2⟩ := hbd hne
      refine ⟨_, rfl, a, _, rfl, hA, hne, sz1, fun H3 u s3 nu eu => ?_⟩
      have hA3 := s3.seq hA
      refine ⟨_, rfl, 1, rfl, _, rfl, a, _, rfl, hA3, fun d nd => ?_⟩
      (generalize hH_ : upd _ d _ = H4; have s4 := same_of hH_ nd; have ed := at_new hH_; clear hH_)
      rw [cut_neg1, ← List.map_dropLast] at ed
      have hA4 := s4.seq hA3
      refine ⟨_, rfl, 1, rfl, a, _, _, _, rfl, rfl, hA4, getLastD_ne hne, _, _, rfl, rfl, (by show 1 ≤ sizeLine; decide), fun e ne => ?_⟩
      (generalize hH_ : upd _ e _ = H5; have s5 := same_of hH_ ne; have ee := at_new hH_; clear hH_)
      refine ⟨d, e, _, _, rfl, rfl, s5 _ _ ed, ee, ?_, fun g ng => ?_⟩
      · rw [List.length_map, List.length_dropLast]
        exact Nat.le_trans (show (i ++ [x]).length - 1 + 1 ≤ 100000 by omega) (by decide)
      (generalize hH_ : upd _ g _ = H6; have s6 := same_of hH_ ng; have eg := at_new hH_; clear hH_)
      replace eg : H6 g = some (.lst ((Cm.up (i ++ [x])).map V.int)) := by
        rw [eg]
        exact congrArg (fun z => some (HO.lst z)) up_map
      have une : Cm.up (i ++ [x]) ≠ [] := fun z => by
        have := up_len hne
        rw [z] at this
        simp at this
      refine ⟨g, _, rfl, sqL eg, une, sz2, fun H7 v s7 nv ev => ?_⟩
      have all7 : Same H2 H7 := ((((s3.trans s4).trans s5).trans s6).trans s7)
      have hA7 := all7.seq hA
      have eu7 : HPr K H7 u (Cm.W (i ++ [x])) := same_t (((s4.trans s5).trans s6).trans s7) (sqT eu)
      have ev7 : HPr K H7 v (Cm.W (Cm.up (i ++ [x]))) := sqT ev
      refine ⟨_, rfl, a, _, rfl, .inl hA7, _, _, rfl, rfl, (show (0 : Int) < 2 by decide), rfl, _, rfl, ite2 (fun c2 => ?_) (fun c2 => ?_)⟩
      · have c2' : i.length % 2 = 0 := by
          have := V.int.inj (of_decide_eq_true c2)
          rw [List.length_map, List.length_append, List.length_singleton] at this
          omega
        refine ⟨_, rfl, _, rfl, _, _, rfl, thing_ints hA7 (by omega), fun H8 s8 => ⟨_, rfl, (by show 4 ≤ sizeLine; decide), fun r nr => ?_⟩⟩
        (generalize hH_ : upd _ r _ = H9; have s9 := same_of hH_ nr; have er := at_new hH_; clear hH_)
        rw [onInts_ints] at er
        refine q _ r (((s1.trans s2).trans all7).trans (s8.trans s9)) ((((s1.trans s2).trans all7).trans s8).free nr) ?_
        unfold ends
        rw [Cm.endsOf_odd i x _ c2']
        exact ⟨u, .ref v, sqT er, same_t (s8.trans s9) eu7, v, rfl, same_t (s8.trans s9) ev7⟩
      · have c2' : i.length % 2 = 1 := by
          have : ¬ ((((i ++ [x]).map V.int).length : Nat) : Int) % 2 = 1 := fun z => c2 (decide_eq_true (congrArg V.int z))
          rw [List.length_map, List.length_append, List.length_singleton] at this
          omega
        refine ⟨_, rfl, _, rfl, _, rfl, _, _, rfl, thing_ints hA7 (by omega), fun H8 s8 => ⟨(by show 4 ≤ sizeLine; decide), fun r nr => ?_⟩⟩
        (generalize hH_ : upd _ r _ = H9; have s9 := same_of hH_ nr; have er := at_new hH_; clear hH_)
        rw [onInts_ints] at er
        refine q _ r (((s1.trans s2).trans all7).trans (s8.trans s9)) ((((s1.trans s2).trans all7).trans s8).free nr) ?_
        unfold ends
        rw [Cm.endsOf_even i x _ c2']
        exact ⟨v, .ref u, sqT er, same_t (s8.trans s9) ev7, u, rfl, same_t (s8.trans s9) eu7⟩
end
def sp_need_number (K : PySem.W.Frag) : Sp := fun vs H Q _ => ∃ (a : Addr) (q : List Int) (w : Bool), vs = [.ref a] ∧ HNum K H a q w ∧ q.length ≤ 90000 ∧ Okn q w ∧ ∀ H', Same H H' → Q .non H'
section
variable {P : Program} {w : World} {K : PySem.W.Frag} {mg : Str → Option Value} {base : Heap}
theorem cal_need_number (T : Txt K mg) (NS : base.NoSeer) (ht : P.given.tree = none) : Cal P w K mg base CX0 5 "need_number" (sp_need_number K) := by
  have C_is_begun := cal_is_begun (P := P) (w := w) (base := base) T NS ht
  have C_is_above := cal_is_above (P := P) (w := w) (base := base) T NS ht
  refine cal_ok T.d_need_number sc_need_number (fun vs H Q E h => ?_) (fun f cdv A outer s H vs Q E hr h => ?_)
  · obtain ⟨a, q, w, rfl, _⟩ := h
    rfl
  · refine ⟨_, (pss_cons (ps_if (PW.pt (pw_or (pt_not (pt_val (pe_callB (r := rIsi K) (id := "isinstance") call_isi (by rfl) T.z_isinstance (by decide +kernel) (pa_cons (pv 0) (pa_cons (pe_bltn (v := .ty "tuple") (u := .type "tuple") (by rfl) T.z_tuple (by decide +kernel) rfl) pa_nil))))) (pw_or (pt_cmpR op_ne (pe_callB call_len_seq (by rfl) T.z_len PySem.boot_len (pa_cons (pv 0) pa_nil)) pe_int (nomark _)) (pw_or1 (pt_not (pt_val (pe_callB (r := rIsi K) (id := "isinstance") call_isi (by rfl) T.z_isinstance (by decide +kernel) (pa_cons (pe_ix (r := rIxT K) ix_tup (pv 0) pe_int (fun _ _ => rfl)) (pa_cons (pe_bltn (v := .ty "bool") (u := .type "bool") (by rfl) T.z_bool (by decide +kernel) rfl) pa_nil))))))))) (pss_one ps_never) pss_nil)
      (pss_one (ps_if (PW.pt (pw_or (PW.pt (pw_and (pt_truth (pe_ix (r := rIxT K) ix_tup (pv 0) pe_int (fun _ _ => rfl)) (by intro _; rfl)) (pw_and1 (pt_not (pt_val (pe_c C_is_above hr (by decide) (by rfl) (pa_cons (pe_ix (r := rIxT K) ix_tup (pv 0) pe_int (fun _ _ => rfl)) pa_nil))))))) (pw_or1 (pt_not (pt_val (pe_c C_is_begun hr (by decide) (by rfl) (pa_cons (pe_ix (r := rIxT K) ix_tup (pv 0) pe_int (fun _ _ => rfl)) pa_nil))))))) (pss_one ps_never) pss_nil))), ?_⟩
    obtain ⟨a, q, w, rfl, ⟨p, hT, hp⟩, hl, ok, k⟩ := h
    refine ⟨_, rfl, _, _, _, _, _, rfl, .ty _, (ty_tup hT), kit_ty (kit_tys (by decide) _ (by decide)), _, rfl, iteF ?_⟩
    refine ⟨_, rfl, a, _, rfl, .inr hT, rfl, _, rfl, iteNS (show V.int _ = V.int 2 from rfl) ?_⟩
    refine ⟨_, rfl, a, _, 1, _, rfl, rfl, hT, two1, _, _, _, _, _, rfl, .ty _, (ty_bl w), kit_ty (kit_tys (by decide) _ (by decide)), _, rfl, iteF ?_⟩
    refine ⟨_, rfl, a, _, 1, _, rfl, rfl, hT, two1, _, rfl, ?_⟩
    cases w with
    | false =>
      refine iteF (iteF ⟨_, rfl, a, _, 0, _, rfl, rfl, hT, two0, _, _, rfl, thing_ints (sqL hp) (by omega), fun H1 s1 => ⟨_, rfl, ?_⟩⟩)
      rw [onInts_ints, ok.beg]
      exact iteF (k _ s1)
    | true =>
      refine iteT ⟨_, rfl, a, _, 0, _, rfl, rfl, hT, two0, _, _, rfl, thing_ints (sqL hp) (by omega), fun H1 s1 => ⟨_, rfl, ?_⟩⟩
      rw [onInts_ints, ok.abv rfl]
      refine iteF ⟨_, rfl, a, _, 0, _, rfl, rfl, same_t s1 hT, two0, _, _, rfl, thing_ints (sqL (s1 _ _ hp)) (by omega), fun H2 s2 => ⟨_, rfl, ?_⟩⟩
      rw [onInts_ints, ok.beg]
      exact iteF (k _ (s1.trans s2))
end
def sp_near_end (K : PySem.W.Frag) : Sp := fun vs H Q _ => ∃ (a : Addr) (q : List Int) (w low : Bool) (G : Int), vs = [.ref a, .bl low, .int G] ∧ HNum K H a q w ∧ q.length ≤ 90000 ∧
  ∀ H' p, Same H H' → H p = none → H' p = some (.lst ((near q w low G).map V.int)) → Q (.ref p) H'
section
variable {P : Program} {w : World} {K : PySem.W.Frag} {mg : Str → Option Value} {base : Heap}
theorem cal_near_end (T : Txt K mg) (NS : base.NoSeer) (ht : P.given.tree = none) : Cal P w K mg base CX0 5 "near_end" (sp_near_end K) := by
  have C_is_above := cal_is_above (P := P) (w := w) (base := base) T NS ht
  refine cal_ok T.d_near_end sc_near_end (fun vs H Q E h => ?_) (fun f cdv A outer s H vs Q E hr h => ?_)
  · obtain ⟨a, q, w, low, G, rfl, _⟩ := h
    rfl
  · refine ⟨_, (pss_cons (ps_asg (pv 0) (pg_tup rfl (pgs_cons (pg_name (i := 3) sc_near_end.nd rfl (.inl rfl)) (pgs_cons (pg_name (i := 4) sc_near_end.nd rfl (.inl rfl)) pgs_nil))))
      (pss_cons (ps_if (pt_truth (pv 4) (by intro _; rfl)) (pss_one (ps_ret (pe_callTy call_list_of (by rfl) T.z_list (by decide +kernel) (pa_cons (pv 3) pa_nil)))) pss_nil)
      (pss_cons (ps_if (pt_cmpR (r := rEqD K) (op_eqD hr.units) (pv 3) (pe_lst pa_nil) (nomark _)) (pss_one (ps_ret (pe_ifExp (pt_truth (pv 1) (by intro _; rfl)) (pe_lst (pa_cons pe_int (pa_cons (pv 2) pa_nil))) (pe_lst (pa_cons (pv 2) pa_nil))))) pss_nil)
      (pss_cons (ps_if (pt_cmpR op_ne (pv 1) (pe_cmpR op_eq (pe_op op_mod (pe_callB call_len_seq (by rfl) T.z_len PySem.boot_len (pa_cons (pv 3) pa_nil)) pe_int) pe_int (nomark _)) (nomark _)) (pss_one (ps_ret (pe_op op_cat (pv 3) (pe_lst (pa_cons pe_int (pa_cons (pv 2) pa_nil)))))) pss_nil)
      (pss_cons (ps_if (pt_val (pe_c C_is_above hr (by decide) (by rfl) (pa_cons (pv 3) pa_nil))) (pss_one (ps_ret (pe_callTy call_list_of (by rfl) T.z_list (by decide +kernel) (pa_cons (pv 3) pa_nil)))) pss_nil)
      (pss_one (ps_ret (pe_op op_cat (pv 3) (pe_lst (pa_cons (pv 2) pa_nil)))))))))), ?_⟩
    obtain ⟨a, q, w, low, G, rfl, ⟨p, hT, hp⟩, hl, k⟩ := h
    refine ⟨_, rfl, a, _, rfl, hT, rfl, _, _, rfl, _, _, rfl, rfl, ?_⟩
    refine ⟨_, rfl, _, rfl, ?_⟩
    cases w with
    | true =>
      refine iteT ⟨_, rfl, p, _, rfl, .inl (sqL hp), fun r nr => ?_⟩
      (generalize hH_ : upd _ r _ = H1; have s1 := same_of hH_ nr; have er := at_new hH_; clear hH_)
      exact k _ r s1 nr er
    | false =>
    refine iteF ⟨_, rfl, Nat.zero_le _, fun c nc => ?_⟩
    (generalize hH_ : upd _ c _ = H1; have s1 := same_of hH_ nc; have ec := at_new hH_; clear hH_)
    have hp1 := s1 _ _ hp
    refine ⟨_, _, dp_ints (sqL hp1), dp_ints (ns := []) (sqL ec), shaped_ints _, shaped_ints _, ?_⟩
    rw [eqv_ints]
    refine ⟨_, rfl, ite2 (fun c1 => ?_) (fun c1 => ?_)⟩
    · have e0 : q = [] := of_decide_eq_true c1
      subst e0
      refine ⟨_, rfl, _, rfl, ?_⟩
      cases low with
      | true =>
        refine iteT ⟨_, rfl, by show 2 ≤ sizeLine; decide, fun r nr => ?_⟩
        (generalize hH_ : upd _ r _ = H2; have s2 := same_of hH_ nr; have er := at_new hH_; clear hH_)
        exact k _ r (s1.trans s2) (s1.free nr) er
      | false =>
        refine iteF ⟨_, rfl, by show 1 ≤ sizeLine; decide, fun r nr => ?_⟩
        (generalize hH_ : upd _ r _ = H2; have s2 := same_of hH_ nr; have er := at_new hH_; clear hH_)
        exact k _ r (s1.trans s2) (s1.free nr) er
    have hne : q ≠ [] := fun z => c1 (decide_eq_true z)
    have en : near q false low G = if (low != decide (q.length % 2 = 1)) = true then q ++ [1, G] else if abvB q = true then q else q ++ [G] := by
      unfold near
      rw [if_neg Bool.false_ne_true, if_neg hne]
    rw [en] at k
    have ho : decide (V.int (((q.map V.int).length : Nat) % 2 : Int) = V.int 1) = decide (q.length % 2 = 1) := by
      rw [List.length_map]
      exact decide_eq_decide.mpr ⟨fun z => by have := V.int.inj z; omega, fun z => by congr 1; omega⟩
    refine ⟨_, rfl, _, rfl, p, _, rfl, .inl (sqL hp1), _, _, rfl, rfl, (show (0 : Int) < 2 by decide), rfl, rfl, ?_⟩
    rw [ho]
    have hb : (!decide (V.bl low = V.bl (decide (q.length % 2 = 1)))) = (low != decide (q.length % 2 = 1)) := by cases low <;> cases decide (q.length % 2 = 1) <;> rfl
    rw [hb]
    refine ⟨_, rfl, ?_⟩
    cases hc : (low != decide (q.length % 2 = 1)) with
    | true =>
      rw [hc, if_pos rfl] at k
      refine iteT ⟨_, rfl, _, rfl, by show 2 ≤ sizeLine; decide, fun t nt => ?_⟩
      (generalize hH_ : upd _ t _ = H2; have s2 := same_of hH_ nt; have et := at_new hH_; clear hH_)
      refine ⟨p, t, _, _, rfl, rfl, s2 _ _ hp1, et, ?_, fun r nr => ?_⟩
      · rw [List.length_map]
        exact Nat.le_trans (show q.length + 2 ≤ 100000 by omega) (by decide)
      (generalize hH_ : upd _ r _ = H3; have s3 := same_of hH_ nr; have er := at_new hH_; clear hH_)
      refine k _ r ((s1.trans s2).trans s3) ((s1.trans s2).free nr) ?_
      rw [er, List.map_append]
      rfl
    | false =>
      rw [hc, if_neg Bool.false_ne_true] at k
      refine iteF ⟨_, rfl, _, _, rfl, thing_ints (sqL hp1) (by omega), fun H2 s2 => ⟨_, rfl, ?_⟩⟩
      rw [onInts_ints]
      cases ha : abvB q with
      | true =>
        rw [ha, if_pos rfl] at k
        refine iteT ⟨_, rfl, p, _, rfl, .inl (sqL (s2 _ _ hp1)), fun r nr => ?_⟩
        (generalize hH_ : upd _ r _ = H3; have s3 := same_of hH_ nr; have er := at_new hH_; clear hH_)
        exact k _ r ((s1.trans s2).trans s3) ((s1.trans s2).free nr) er
      | false =>
        rw [ha, if_neg Bool.false_ne_true] at k
        refine iteF ⟨_, rfl, _, rfl, by show 1 ≤ sizeLine; decide, fun t nt => ?_⟩
        (generalize hH_ : upd _ t _ = H3; have s3 := same_of hH_ nt; have et := at_new hH_; clear hH_)
        refine ⟨p, t, _, _, rfl, rfl, s3 _ _ (s2 _ _ hp1), et, ?_, fun r nr => ?_⟩
        · rw [List.length_map]
          exact Nat.le_trans (show q.length + 1 ≤ 100000 by omega) (by decide)
        (generalize hH_ : upd _ r _ = H4; have s4 := same_of hH_ nr; have er := at_new hH_; clear hH_)
        refine k _ r (((s1.trans s2).trans s3).trans s4) (((s1.trans s2).trans s3).free nr) ?_
        rw [er, List.map_append]
        rfl
end
/-- what a word makes of two chains of numbers above 0: its chain, as a new list -/
def sp_reckoned (K : PySem.W.Frag) : Sp := fun vs H Q _ => ∃ (x : Str) (a b : Addr) (ns ms : List Int), vs = [.str x, .ref a, .ref b] ∧ SqL K H a (ns.map V.int) ∧ SqL K H b (ms.map V.int) ∧ ns.length ≤ 100000 ∧ ms.length ≤ 100000 ∧ x ∈ words ∧
  abvB ns = true ∧ abvB ms = true ∧ Sz ns ∧ Sz ms ∧ Bd 8999 (doneV x (Cm.W ns) (Cm.W ms)).2 ∧
  ∀ H' p, Same H H' → H p = none → H' p = some (.lst ((Cm.euc (doneV x (Cm.W ns) (Cm.W ms)).1 (doneV x (Cm.W ns) (Cm.W ms)).2).map V.int)) → Q (.ref p) H'
section
variable {P : Program} {w : World} {K : PySem.W.Frag} {mg : Str → Option Value} {base : Heap}
theorem cal_reckoned (T : Txt K mg) (NS : base.NoSeer) (ht : P.given.tree = none) : Cal P w K mg base CX0 6 "reckoned" (sp_reckoned K) := by
  have C_need_word := cal_need_word (P := P) (w := w) (base := base) T NS ht
  have C_is_above := cal_is_above (P := P) (w := w) (base := base) T NS ht
  have C_worth := cal_worth (P := P) (w := w) (base := base) T NS ht
  have C_fraction_of := cal_fraction_of (P := P) (w := w) (base := base) T NS ht
  have C_quotients_of := cal_quotients_of (P := P) (w := w) (base := base) T NS ht
  refine cal_ok T.d_reckoned sc_reckoned (fun vs H Q E h => ?_) (fun f cdv A outer s H vs Q E hr h => ?_)
  · obtain ⟨x, a, b, ns, ms, rfl, _⟩ := h
    rfl
  · refine ⟨_, (pss_cons (ps_expr (pe_c C_need_word hr (by decide) (by rfl) (pa_cons (pv 0) pa_nil)))
      (pss_cons (ps_if (PW.pt (pw_or (pt_not (pt_val (pe_c C_is_above hr (by decide) (by rfl) (pa_cons (pv 1) pa_nil)))) (pw_or1 (pt_not (pt_val (pe_c C_is_above hr (by decide) (by rfl) (pa_cons (pv 2) pa_nil))))))) (pss_one ps_never) pss_nil)
      (pss_cons (ps_asg (pe_c C_worth hr (by decide) (by rfl) (pa_cons (pv 0) (pa_cons (pe_c C_fraction_of hr (by decide) (by rfl) (pa_cons (pv 1) pa_nil)) (pa_cons (pe_c C_fraction_of hr (by decide) (by rfl) (pa_cons (pv 2) pa_nil)) pa_nil)))) (pg_tup rfl (pgs_cons (pg_name (i := 3) sc_reckoned.nd rfl (.inl rfl)) (pgs_cons (pg_name (i := 4) sc_reckoned.nd rfl (.inl rfl)) pgs_nil))))
      (pss_one (ps_ret (pe_c C_quotients_of hr (by decide) (by rfl) (pa_cons (pv 3) (pa_cons (pv 4) pa_nil)))))))), ?_⟩
    obtain ⟨x, a, b, ns, ms, rfl, hA, hB, ln, lm, hx, an, am, zn, zm, hb, q⟩ := h
    refine ⟨_, rfl, x, rfl, hx, fun H1 s1 => ?_⟩
    refine ⟨_, rfl, _, _, rfl, thing_ints (s1.seq hA) ln, fun H2 s2 => ⟨_, rfl, ?_⟩⟩
    rw [onInts_ints, an]
    refine iteF ⟨_, rfl, _, _, rfl, thing_ints ((s1.trans s2).seq hB) lm, fun H3 s3 => ⟨_, rfl, ?_⟩⟩
    rw [onInts_ints, am]
    have s13 := (s1.trans s2).trans s3
    refine iteF ⟨_, rfl, _, rfl, a, ns, rfl, s13.seq hA, ln, abvB_chB an, zn, fun H4 f s4 nf ef => ?_⟩
    refine ⟨_, rfl, b, ms, rfl, (s13.trans s4).seq hB, lm, abvB_chB am, zm, fun H5 g s5 ng eg => ?_⟩
    have hf : HPr K H5 f (Cm.W ns) := sqT (s5 _ _ ef)
    have hg : HPr K H5 g (Cm.W ms) := sqT eg
    refine ⟨x, f, g, _, _, rfl, hf, hg, zn.bdF, zm.bdF, fun H6 p s6 np ep => ?_⟩
    refine ⟨p, _, rfl, sqT ep, rfl, _, _, rfl, _, _, rfl, rfl, ?_⟩
    obtain ⟨p1, p2⟩ := abv_pos an
    obtain ⟨p3, p4⟩ := abv_pos am
    have s16 := ((s13.trans s4).trans s5).trans s6
    refine ⟨_, rfl, _, rfl, _, _, rfl, done_pos p2 p3 p4, hb, fun H7 r s7 nr er => q _ r (s16.trans s7) (s16.free nr) er⟩
end
def sp_ends_of_number (K : PySem.W.Frag) : Sp := fun vs H Q _ => ∃ (a : Addr) (q : List Int) (w : Bool) (n : Nat), vs = [.ref a] ∧ HNum K H a q w ∧ q.length ≤ 90000 ∧ Okn q w ∧ NB n q ∧ n ≤ 10000000 ∧
  ∀ H' p, Same H H' → H p = none → HEn K H' p (nends q w) → Q (.ref p) H'
section
variable {P : Program} {w : World} {K : PySem.W.Frag} {mg : Str → Option Value} {base : Heap}
theorem cal_ends_of_number (T : Txt K mg) (NS : base.NoSeer) (ht : P.given.tree = none) : Cal P w K mg base CX0 6 "ends_of_number" (sp_ends_of_number K) := by
  have C_ends_of := cal_ends_of (P := P) (w := w) (base := base) T NS ht
  have C_fraction_of := cal_fraction_of (P := P) (w := w) (base := base) T NS ht
  refine cal_ok T.d_ends_of_number sc_ends_of_number (fun vs H Q E h => ?_) (fun f cdv A outer s H vs Q E hr h => ?_)
  · obtain ⟨a, q, w, n, rfl, _⟩ := h
    rfl
  · refine ⟨_, (pss_cons (ps_if (pt_not (pt_truth (pe_ix (r := rIxT K) ix_tup (pv 0) pe_int (fun _ _ => rfl)) (by intro _; rfl))) (pss_one (ps_ret (pe_c C_ends_of hr (by decide) (by rfl) (pa_cons (pe_ix (r := rIxT K) ix_tup (pv 0) pe_int (fun _ _ => rfl)) pa_nil)))) pss_nil)
      (pss_cons (ps_set (i := 1) sc_ends_of_number.nd rfl (.inl rfl) (pe_c C_fraction_of hr (by decide) (by rfl) (pa_cons (pe_ix (r := rIxT K) ix_tup (pv 0) pe_int (fun _ _ => rfl)) pa_nil)))
      (pss_one (ps_ret (pe_tup (pa_cons (pv 1) (pa_cons pe_bl (pa_cons (pv 1) (pa_cons pe_bl pa_nil))))))))), ?_⟩
    obtain ⟨a, q, w, n, rfl, ⟨p, hT, hp⟩, hl, ok, nb, hn, k⟩ := h
    refine ⟨_, rfl, a, _, 1, _, rfl, rfl, hT, two1, _, rfl, ?_⟩
    cases w with
    | false =>
      refine iteT ⟨_, rfl, a, _, 0, _, rfl, rfl, hT, two0, p, q, rfl, sqL hp, hl, ok.beg, sz_beg ok.beg nb hn, fun H1 r s1 nr er => k _ r s1 nr er⟩
    | true =>
      have ha := ok.abv rfl
      refine iteF ⟨_, rfl, a, _, 0, _, rfl, rfl, hT, two0, p, q, rfl, sqL hp, by omega, abvB_chB ha, sz_abv ha nb hn, fun H1 f s1 nf ef => ?_⟩
      refine ⟨_, rfl, _, rfl, by show 4 ≤ sizeLine; decide, fun r nr => ?_⟩
      (generalize hH_ : upd _ r _ = H2; have s2 := same_of hH_ nr; have er := at_new hH_; clear hH_)
      have hf : HPr K H2 f (Cm.W q) := sqT (s2 _ _ ef)
      exact k _ r (s1.trans s2) (s1.free nr) ⟨f, .ref f, sqT er, hf, f, rfl, hf⟩
end
def sp_pair_near (K : PySem.W.Frag) : Sp := fun vs H Q _ => ∃ (x : Str) (a b : Addr) (q1 q2 : List Int) (w1 w2 low : Bool) (G : Int), vs = [.str x, .ref a, .ref b, .bl low, .int G] ∧ HNum K H a q1 w1 ∧ HNum K H b q2 w2 ∧ q1.length ≤ 90000 ∧ q2.length ≤ 90000 ∧
  ∀ H' p u v, Same H H' → H p = none → H' p = some (.tup [.ref u, .ref v]) → H' u = some (.lst ((near q1 w1 low G).map V.int)) → H' v = some (.lst ((near q2 w2 (low != turns x) G).map V.int)) → Q (.ref p) H'
section
variable {P : Program} {w : World} {K : PySem.W.Frag} {mg : Str → Option Value} {base : Heap}
theorem cal_pair_near (T : Txt K mg) (NS : base.NoSeer) (ht : P.given.tree = none) : Cal P w K mg base CX0 6 "pair_near" (sp_pair_near K) := by
  have C_near_end := cal_near_end (P := P) (w := w) (base := base) T NS ht
  refine cal_ok T.d_pair_near sc_pair_near (fun vs H Q E h => ?_) (fun f cdv A outer s H vs Q E hr h => ?_)
  · obtain ⟨x, a, b, q1, q2, w1, w2, low, G, rfl, _⟩ := h
    rfl
  · refine ⟨_, (pss_cons (ps_set (i := 5) sc_pair_near.nd rfl (.inl rfl) (pe_cmpR op_ne (pv 3) (pe_cmpR op_in_seq (pv 0) (pe_tup (pa_cons pe_str (pa_cons pe_str pa_nil))) (by rfl)) (nomark _)))
      (pss_one (ps_ret (pe_tup (pa_cons (pe_c C_near_end hr (by decide) (by rfl) (pa_cons (pv 1) (pa_cons (pv 3) (pa_cons (pv 4) pa_nil)))) (pa_cons (pe_c C_near_end hr (by decide) (by rfl) (pa_cons (pv 2) (pa_cons (pv 5) (pa_cons (pv 4) pa_nil)))) pa_nil)))))), ?_⟩
    obtain ⟨x, a, b, q1, q2, w1, w2, low, G, rfl, hA, hB, l1, l2, k⟩ := h
    refine ⟨_, rfl, _, rfl, by show 2 ≤ sizeLine; decide, fun t nt => ?_⟩
    (generalize hH_ : upd _ t _ = H1; have s1 := same_of hH_ nt; have et := at_new hH_; clear hH_)
    refine ⟨t, _, rfl, .inr (sqT et), rfl, by decide, ?_⟩
    rw [if_neg Bool.false_ne_true, in_turns]
    refine ⟨rfl, ?_⟩
    have hl : (!decide (V.bl low = V.bl (turns x))) = (low != turns x) := by cases low <;> cases turns x <;> rfl
    rw [hl]
    refine ⟨_, rfl, _, rfl, _, rfl, a, q1, w1, low, G, rfl, hA.same s1, l1, fun H2 u s2 nu eu => ?_⟩
    refine ⟨_, rfl, _, rfl, _, rfl, b, q2, w2, _, G, rfl, hB.same (s1.trans s2), l2, fun H3 v s3 nv ev => ?_⟩
    refine ⟨by show 2 ≤ sizeLine; decide, fun p np => ?_⟩
    (generalize hH_ : upd _ p _ = H4; have s4 := same_of hH_ np; have ep := at_new hH_; clear hH_)
    have s14 := ((s1.trans s2).trans s3).trans s4
    exact k _ p u v s14 (((s1.trans s2).trans s3).free np) ep (s4 _ _ (s3 _ _ eu)) (s4 _ _ ev)
end
theorem hi_bd {n : Nat} {q : List Int} {w : Bool} (ok : Okn q w) (h : NB n q) (f : Int × Int) (e : (nends q w).hi = some f) : BdF n f := by
  have E := (num_end ok h).bh
  unfold hiG at E
  rw [e] at E
  exact E
def sp_ends_of_both (K : PySem.W.Frag) : Sp := fun vs H Q _ => ∃ (x : Str) (a b : Addr) (q1 q2 : List Int) (w1 w2 : Bool) (n : Nat), vs = [.str x, .ref a, .ref b] ∧ HNum K H a q1 w1 ∧ HNum K H b q2 w2 ∧ q1.length ≤ 90000 ∧ q2.length ≤ 90000 ∧ Okn q1 w1 ∧ Okn q2 w2 ∧ NB n q1 ∧ NB n q2 ∧ n ≤ 10000000 ∧
  ∀ H' p lv hv, Same H H' → H p = none → H' p = some (.tup [lv, .bl (bothL x (nends q1 w1) (nends q2 w2)), hv, .bl (bothH x (nends q1 w1) (nends q2 w2))]) → HHi K H' lv (bothLo x (nends q1 w1) (nends q2 w2)) → HHi K H' hv (bothHi x (nends q1 w1) (nends q2 w2)) → Q (.ref p) H'
section
variable {P : Program} {w : World} {K : PySem.W.Frag} {mg : Str → Option Value} {base : Heap}
theorem cal_ends_of_both (T : Txt K mg) (NS : base.NoSeer) (ht : P.given.tree = none) : Cal P w K mg base CX0 7 "ends_of_both" (sp_ends_of_both K) := by
  have C_ends_of_number := cal_ends_of_number (P := P) (w := w) (base := base) T NS ht
  have C_joined := cal_joined (P := P) (w := w) (base := base) T NS ht
  refine cal_ok T.d_ends_of_both sc_ends_of_both (fun vs H Q E h => ?_) (fun f cdv A outer s H vs Q E hr h => ?_)
  · obtain ⟨x, a, b, q1, q2, w1, w2, n, rfl, _⟩ := h
    rfl
  · refine ⟨_, (pss_cons (ps_asg (pe_c C_ends_of_number hr (by decide) (by rfl) (pa_cons (pv 2) pa_nil)) (pg_tup rfl (pgs_cons (pg_name (i := 3) sc_ends_of_both.nd rfl (.inl rfl)) (pgs_cons (pg_name (i := 4) sc_ends_of_both.nd rfl (.inl rfl)) (pgs_cons (pg_name (i := 5) sc_ends_of_both.nd rfl (.inl rfl)) (pgs_cons (pg_name (i := 6) sc_ends_of_both.nd rfl (.inl rfl)) pgs_nil))))))
      (Evl.pss_cut (ps_if (pt_cmpR op_in_seq (pv 0) (pe_tup (pa_cons pe_str (pa_cons pe_str pa_nil))) (by rfl)) (pss_one (ps_asg (pe_tup (pa_cons (pv 5) (pa_cons (pv 6) (pa_cons (pv 3) (pa_cons (pv 4) pa_nil))))) (pg_tup rfl (pgs_cons (pg_name (i := 3) sc_ends_of_both.nd rfl (.inl rfl)) (pgs_cons (pg_name (i := 4) sc_ends_of_both.nd rfl (.inl rfl)) (pgs_cons (pg_name (i := 5) sc_ends_of_both.nd rfl (.inl rfl)) (pgs_cons (pg_name (i := 6) sc_ends_of_both.nd rfl (.inl rfl)) pgs_nil))))))) pss_nil)
      (pss_cons (ps_set (i := 7) sc_ends_of_both.nd rfl (.inl rfl) (pe_c C_ends_of_number hr (by decide) (by rfl) (pa_cons (pv 1) pa_nil)))
      (pss_one (ps_ret (pe_tup (pa_cons (pe_c C_joined hr (by decide) (by rfl) (pa_cons (pv 0) (pa_cons (pe_ix (r := rIxT K) ix_tup (pv 7) pe_int (fun _ _ => rfl)) (pa_cons (pv 3) pa_nil)))) (pa_cons (pe_and (pe_ix (r := rIxT K) ix_tup (pv 7) pe_int (fun _ _ => rfl)) (pe_one (pv 4))) (pa_cons (pe_c C_joined hr (by decide) (by rfl) (pa_cons (pv 0) (pa_cons (pe_ix (r := rIxT K) ix_tup (pv 7) pe_int (fun _ _ => rfl)) (pa_cons (pv 5) pa_nil)))) (pa_cons (pe_and (pe_ix (r := rIxT K) ix_tup (pv 7) pe_int (fun _ _ => rfl)) (pe_one (pv 6))) pa_nil)))))))))), ?_⟩
    obtain ⟨x, a, b, q1, q2, w1, w2, n, rfl, hA, hB, l1, l2, ok1, ok2, nb1, nb2, hn, k⟩ := h
    refine ⟨_, rfl, b, q2, w2, n, rfl, hB, l2, ok2, nb2, hn, fun H1 r s1 nr er => ?_⟩
    obtain ⟨lo2, hv2, e2, e3, e4⟩ := er.ex
    refine ⟨r, _, rfl, e2, rfl, _, _, rfl, _, _, rfl, _, _, rfl, _, _, rfl, rfl, ?_⟩
    refine ⟨fun σ H' => ∃ lv hv, σ = [some (.str x), some (.ref a), some (.ref b), some lv, some (.bl (bif turns x then (nends q2 w2).mh else (nends q2 w2).ml)), some hv, some (.bl (bif turns x then (nends q2 w2).ml else (nends q2 w2).mh)), none] ∧ Same H1 H' ∧
      HHi K H' lv (bif turns x then (nends q2 w2).hi else some (nends q2 w2).lo) ∧ HHi K H' hv (bif turns x then some (nends q2 w2).lo else (nends q2 w2).hi), ?_, ?_⟩
    · refine ⟨_, rfl, by show 2 ≤ sizeLine; decide, fun t nt => ?_⟩
      (generalize hH_ : upd _ t _ = H2; have s2 := same_of hH_ nt; have et := at_new hH_; clear hH_)
      refine ⟨t, _, rfl, .inr (sqT et), rfl, by decide, ?_⟩
      rw [if_neg Bool.false_ne_true, in_turns]
      refine ⟨_, rfl, ?_⟩
      have h1 : HHi K H2 (.ref lo2) (some (nends q2 w2).lo) := ⟨lo2, rfl, same_t s2 e3⟩
      have h2 := e4.same s2
      cases ht : turns x with
      | true =>
        refine iteT ⟨_, rfl, _, rfl, _, rfl, _, rfl, by show 4 ≤ sizeLine; decide, fun u nu => ?_⟩
        (generalize hH_ : upd _ u _ = H3; have s3 := same_of hH_ nu; have eu := at_new hH_; clear hH_)
        exact ⟨u, _, rfl, sqT eu, rfl, _, _, rfl, _, _, rfl, _, _, rfl, _, _, rfl, rfl, _, _, rfl, s2.trans s3, h2.same s3, h1.same s3⟩
      | false =>
        exact iteF ⟨_, _, rfl, s2, h1, h2⟩
    rintro σ H2 ⟨lv, hv, rfl, s2, hl, hh⟩
    have s12 := s1.trans s2
    refine ⟨_, rfl, a, q1, w1, n, rfl, hA.same s12, l1, ok1, nb1, hn, fun H3 f s3 nf ef => ?_⟩
    obtain ⟨lo1, hv1, f2, f3, f4⟩ := ef.ex
    have hl3 := hl.same s3
    have hh3 := hh.same s3
    have E1 := num_end ok1 nb1
    have E2 := num_end ok2 nb2
    have bl : ∀ f, (bif turns x then (nends q2 w2).hi else some (nends q2 w2).lo) = some f → BdF 60000000 f := by
      intro f hf
      cases ht : turns x with
      | true =>
        rw [ht] at hf
        exact (hi_bd ok2 nb2 f hf).mono (by omega)
      | false =>
        rw [ht] at hf
        rw [← Option.some.inj hf]
        exact E2.be.mono (by omega)
    have bh : ∀ f, (bif turns x then some (nends q2 w2).lo else (nends q2 w2).hi) = some f → BdF 60000000 f := by
      intro f hf
      cases ht : turns x with
      | false =>
        rw [ht] at hf
        exact (hi_bd ok2 nb2 f hf).mono (by omega)
      | true =>
        rw [ht] at hf
        rw [← Option.some.inj hf]
        exact E2.be.mono (by omega)
    refine ⟨_, rfl, _, rfl, f, _, 0, _, rfl, rfl, f2, en_at0, _, rfl, x, .ref lo1, lv, some (nends q1 w1).lo, _, rfl, ⟨lo1, rfl, f3⟩, hl3, (fun g hg => by rw [← Option.some.inj hg]; exact E1.be.mono (by omega)), bl, fun H4 rl s4 h4 => ?_⟩
    have f24 := same_t s4 f2
    refine ⟨_, rfl, f, _, 1, _, rfl, rfl, f24, en_at1, _, rfl, ?_⟩
    cases hm : (nends q1 w1).ml with
    | true =>
      have eL : bothL x (nends q1 w1) (nends q2 w2) = (bif turns x then (nends q2 w2).mh else (nends q2 w2).ml) := by unfold bothL; rw [hm, Bool.true_and]
      refine iteT ⟨_, rfl, ?_⟩
      refine ⟨_, rfl, _, rfl, f, _, 2, _, rfl, rfl, f24, en_at2, _, rfl, x, hv1, hv, (nends q1 w1).hi, _, rfl, f4.same s4, hh3.same s4, (fun g hg => (hi_bd ok1 nb1 g hg).mono (by omega)), bh, fun H5 rh s5 h5 => ?_⟩
      refine ⟨_, rfl, f, _, 3, _, rfl, rfl, same_t s5 f24, en_at3, _, rfl, ?_⟩
      cases hn2 : (nends q1 w1).mh with
      | true =>
        have eH : bothH x (nends q1 w1) (nends q2 w2) = (bif turns x then (nends q2 w2).ml else (nends q2 w2).mh) := by unfold bothH; rw [hn2, Bool.true_and]
        refine iteT ⟨_, rfl, by show 4 ≤ sizeLine; decide, fun p np => ?_⟩
        (generalize hH_ : upd _ p _ = H6; have s6 := same_of hH_ np; have ep := at_new hH_; clear hH_)
        have s16 := (((s12.trans s3).trans s4).trans s5).trans s6
        exact k _ p rl rh s16 ((((s12.trans s3).trans s4).trans s5).free np) (by rw [eL, eH]; exact ep) ((h4.same s5).same s6) (h5.same s6)
      | false =>
        have eH : bothH x (nends q1 w1) (nends q2 w2) = false := by unfold bothH; rw [hn2, Bool.false_and]
        refine iteF ⟨by show 4 ≤ sizeLine; decide, fun p np => ?_⟩
        (generalize hH_ : upd _ p _ = H6; have s6 := same_of hH_ np; have ep := at_new hH_; clear hH_)
        have s16 := (((s12.trans s3).trans s4).trans s5).trans s6
        exact k _ p rl rh s16 ((((s12.trans s3).trans s4).trans s5).free np) (by rw [eL, eH]; exact ep) ((h4.same s5).same s6) (h5.same s6)
    | false =>
      have eL : bothL x (nends q1 w1) (nends q2 w2) = false := by unfold bothL; rw [hm, Bool.false_and]
      refine iteF ?_
      refine ⟨_, rfl, _, rfl, f, _, 2, _, rfl, rfl, f24, en_at2, _, rfl, x, hv1, hv, (nends q1 w1).hi, _, rfl, f4.same s4, hh3.same s4, (fun g hg => (hi_bd ok1 nb1 g hg).mono (by omega)), bh, fun H5 rh s5 h5 => ?_⟩
      refine ⟨_, rfl, f, _, 3, _, rfl, rfl, same_t s5 f24, en_at3, _, rfl, ?_⟩
      cases hn2 : (nends q1 w1).mh with
      | true =>
        have eH : bothH x (nends q1 w1) (nends q2 w2) = (bif turns x then (nends q2 w2).ml else (nends q2 w2).mh) := by unfold bothH; rw [hn2, Bool.true_and]
        refine iteT ⟨_, rfl, by show 4 ≤ sizeLine; decide, fun p np => ?_⟩
        (generalize hH_ : upd _ p _ = H6; have s6 := same_of hH_ np; have ep := at_new hH_; clear hH_)
        have s16 := (((s12.trans s3).trans s4).trans s5).trans s6
        exact k _ p rl rh s16 ((((s12.trans s3).trans s4).trans s5).free np) (by rw [eL, eH]; exact ep) ((h4.same s5).same s6) (h5.same s6)
      | false =>
        have eH : bothH x (nends q1 w1) (nends q2 w2) = false := by unfold bothH; rw [hn2, Bool.false_and]
        refine iteF ⟨by show 4 ≤ sizeLine; decide, fun p np => ?_⟩
        (generalize hH_ : upd _ p _ = H6; have s6 := same_of hH_ np; have ep := at_new hH_; clear hH_)
        have s16 := (((s12.trans s3).trans s4).trans s5).trans s6
        exact k _ p rl rh s16 ((((s12.trans s3).trans s4).trans s5).free np) (by rw [eL, eH]; exact ep) ((h4.same s5).same s6) (h5.same s6)
end
def optV : Option Int → V
  | none => .non
  | some i => .int i
def sp_quotient_at (K : PySem.W.Frag) : Sp := fun vs H Q _ => ∃ (x : Str) (p u v : Addr) (l m : List Int) (n : Nat), vs = [.str x, .ref p, .int (n : Int)] ∧ SqT K H p [.ref u, .ref v] ∧ SqL K H u (l.map V.int) ∧ SqL K H v (m.map V.int) ∧ l.length ≤ 100000 ∧ m.length ≤ 100000 ∧ chB l = true ∧ chB m = true ∧ Sz l ∧ Sz m ∧
  0 < (doneV x (Cm.W l) (Cm.W m)).2 ∧ n ≤ 100000 ∧ ∀ H', Same H H' → Q (optV (qat (doneV x (Cm.W l) (Cm.W m)) n)) H'
section
variable {P : Program} {w : World} {K : PySem.W.Frag} {mg : Str → Option Value} {base : Heap}
theorem cal_quotient_at (T : Txt K mg) (NS : base.NoSeer) (ht : P.given.tree = none) : Cal P w K mg base CX0 40 "quotient_at" (sp_quotient_at K) := by
  have C_worth := cal_worth (P := P) (w := w) (base := base) T NS ht
  have C_fraction_of := cal_fraction_of (P := P) (w := w) (base := base) T NS ht
  refine cal_ok T.d_quotient_at sc_quotient_at (fun vs H Q E h => ?_) (fun f cdv A outer s H vs Q E hr h => ?_)
  · obtain ⟨x, p, u, v, l, m, n, rfl, _⟩ := h
    rfl
  · have SE : Seer (cxOf CX0 P w K mg base N_quotient_at "quotient_at" (defScope s_quotient_at) f cdv A outer s H E).nox := ⟨NS, ht, by have := hr.dp; show (A.deeper _).depth + 100 < 1000; have e : recursionLimit = 1000 := rfl; omega, rfl, sc_quotient_at.gen, sc_quotient_at.co⟩
    refine ⟨_, (pss_cons (ps_asg (pe_c C_worth hr (by decide) (by rfl) (pa_cons (pv 0) (pa_cons (pe_c C_fraction_of hr (by decide) (by rfl) (pa_cons (pe_ix (r := rIxT K) ix_tup (pv 1) pe_int (fun _ _ => rfl)) pa_nil)) (pa_cons (pe_c C_fraction_of hr (by decide) (by rfl) (pa_cons (pe_ix (r := rIxT K) ix_tup (pv 1) pe_int (fun _ _ => rfl)) pa_nil)) pa_nil)))) (pg_tup rfl (pgs_cons (pg_name (i := 3) sc_quotient_at.nd rfl (.inl rfl)) (pgs_cons (pg_name (i := 4) sc_quotient_at.nd rfl (.inl rfl)) pgs_nil))))
      (pss_cons (ps_for PassesOwn.never rfl (pi_range1 (by rfl) T.z_range (pa_cons (pv 2) pa_nil)) (pg_name (i := 5) sc_quotient_at.nd rfl (.inl rfl))
      (pss_cons (ps_if (pt_cmpR op_eq (pv 4) pe_int (nomark _)) (pss_one (ps_ret pe_non)) pss_nil)
      (pss_cons (ps_set (i := 6) sc_quotient_at.nd rfl (.inl rfl) (pe_op op_mod (pv 3) (pv 4)))
      (pss_cons (ps_set (i := 3) sc_quotient_at.nd rfl (.inl rfl) (pv 4))
      (pss_one (ps_set (i := 4) sc_quotient_at.nd rfl (.inl rfl) (pv 6)))))))
      (pss_one (ps_ret (pe_ifExp (pt_cmpR op_eq (pv 4) pe_int (nomark _)) pe_non (pe_op (op_fdivR SE) (pv 3) (pv 4))))))), ?_⟩
    obtain ⟨x, p, u, v, l, m, n, rfl, hT, hU, hV, ll, lm, cl, cm, zl, zm, hpos, hn, k⟩ := h
    refine ⟨_, rfl, _, rfl, p, _, 0, _, rfl, rfl, hT, two0, u, l, rfl, hU, ll, cl, zl, fun H1 a s1 na ea => ?_⟩
    refine ⟨_, rfl, p, _, 1, _, rfl, rfl, same_t s1 hT, two1, v, m, rfl, s1.seq hV, lm, cm, zm, fun H2 b s2 nb eb => ?_⟩
    refine ⟨x, a, b, _, _, rfl, sqT (s2 _ _ ea), sqT eb, zl.bdF, zm.bdF, fun H3 r s3 nr er => ?_⟩
    refine ⟨r, _, rfl, sqT er, rfl, _, _, rfl, _, _, rfl, rfl, ?_⟩
    have s13 := (s1.trans s2).trans s3
    replace k := k _ s13
    unfold qat at k
    generalize doneV x (Cm.W l) (Cm.W m) = D at *
    clear zl zm cl cm ll lm hT hU hV
    refine ⟨_, rfl, (n : Int), rfl, by omega, by omega, for_range (lo := 0) (n := ((n : Nat) : Int).toNat) (fun i σ H' => ∃ (t b' : Int) (done : List Int) (v5 v6 : Option V), σ = [some (.str x), some (.ref p), some (.int (n : Int)), some (.int t), some (.int b'), v5, v6] ∧ H3 = H' ∧ 0 ≤ b' ∧ done.length = i ∧ Cm.euc D.1 D.2 = done ++ Cm.euc t b')
      ⟨D.1, D.2, [], none, none, rfl, rfl, by omega, rfl, rfl⟩ ?_ ?_⟩
    · rintro i σ H' hi ⟨t, b', done, v5, v6, rfl, rfl, b0, hd, he⟩
      refine ⟨_, rfl, rfl, _, rfl, ite2 (fun c => ?_) (fun c => ?_)⟩
      · have z : b' = 0 := V.int.inj (of_decide_eq_true c)
        subst z
        rw [Cm.euc_zero (t := t) (b := 0) (by omega), List.append_nil] at he
        rw [he, List.getElem?_eq_none (by omega)] at k
        exact k
      · have z : b' ≠ 0 := fun z => c (decide_eq_true (congrArg V.int z))
        have bp : 0 < b' := by omega
        refine ⟨_, rfl, _, rfl, _, _, rfl, rfl, bp, _, rfl, _, rfl, b', t % b', done ++ [t / b'], _, _, rfl, rfl, Int.emod_nonneg t z, ?_, ?_⟩
        · rw [List.length_append, hd]
          rfl
        · rw [he, Cm.euc_pos bp, List.append_assoc]
          rfl
    · rintro σ H' ⟨t, b', done, v5, v6, rfl, rfl, b0, hd, he⟩
      have hd' : done.length = n := by omega
      rw [he, ← hd', Cm.get_app] at k
      refine ⟨_, rfl, rfl, _, rfl, ite2 (fun c => ?_) (fun c => ?_)⟩
      · have z : b' = 0 := V.int.inj (of_decide_eq_true c)
        subst z
        rw [Cm.euc_zero (by omega)] at k
        exact k
      · have z : b' ≠ 0 := fun z => c (decide_eq_true (congrArg V.int z))
        have bp : 0 < b' := by omega
        rw [Cm.euc_pos bp] at k
        exact ⟨_, rfl, _, rfl, _, _, rfl, rfl, bp, k⟩
end
def sp_sure (K : PySem.W.Frag) : Sp := fun vs H Q _ => ∃ (x : Str) (a b : Addr) (q1 q2 : List Int) (w1 w2 : Bool) (n1 n2 : Nat), vs = [.str x, .ref a, .ref b] ∧ x ∈ words ∧ HNum K H a q1 w1 ∧ HNum K H b q2 w2 ∧ q1.length ≤ 90000 ∧ q2.length ≤ 90000 ∧ Okn q1 w1 ∧ Okn q2 w2 ∧ NB n1 q1 ∧ NB n2 q2 ∧ n1 + n2 + 1 ≤ 8998 ∧
  ((w1 && w2) = true → ∀ H' p r, Same H H' → H p = none → H r = none → H' p = some (.tup [.ref r, .non, .non]) → H' r = some (.lst ((Cm.euc (doneV x (Cm.W q1) (Cm.W q2)).1 (doneV x (Cm.W q1) (Cm.W q2)).2).map V.int)) → Q (.ref p) H') ∧
  ((w1 && w2) = false → ∀ H' p c f s u1 v1 u2 v2 G, Same H H' → H p = none → H c = none → H' p = some (.tup [.ref c, .ref f, .ref s]) → H' c = some (.lst ((toldV x (nends q1 w1) (nends q2 w2)).map V.int)) → (toldV x (nends q1 w1) (nends q2 w2)).length ≤ 18000 →
    H' f = some (.tup [.ref u1, .ref v1]) → H' u1 = some (.lst ((near q1 w1 true G).map V.int)) → H' v1 = some (.lst ((near q2 w2 (true != turns x) G).map V.int)) →
    H' s = some (.tup [.ref u2, .ref v2]) → H' u2 = some (.lst ((near q1 w1 false G).map V.int)) → H' v2 = some (.lst ((near q2 w2 (false != turns x) G).map V.int)) → GreatIs x q1 w1 q2 w2 G → Q (.ref p) H')
section
variable {P : Program} {w : World} {K : PySem.W.Frag} {mg : Str → Option Value} {base : Heap}
theorem cal_sure (T : Txt K mg) (NS : base.NoSeer) (ht : P.given.tree = none) : Cal P w K mg base CX0 41 "sure" (sp_sure K) := by
  have C_need_word := cal_need_word (P := P) (w := w) (base := base) T NS ht
  have C_need_number := cal_need_number (P := P) (w := w) (base := base) T NS ht
  have C_reckoned := cal_reckoned (P := P) (w := w) (base := base) T NS ht
  have C_sure_between := cal_sure_between (P := P) (w := w) (base := base) T NS ht
  have C_ends_of_both := cal_ends_of_both (P := P) (w := w) (base := base) T NS ht
  have C_pair_near := cal_pair_near (P := P) (w := w) (base := base) T NS ht
  have C_quotient_at := cal_quotient_at (P := P) (w := w) (base := base) T NS ht
  refine cal_ok T.d_sure sc_sure (fun vs H Q E h => ?_) (fun f cdv A outer s H vs Q E hr h => ?_)
  · obtain ⟨x, a, b, q1, q2, w1, w2, n1, n2, rfl, _⟩ := h
    rfl
  · refine ⟨_, (pss_cons (ps_expr (pe_c C_need_word hr (by decide) (by rfl) (pa_cons (pv 0) pa_nil)))
      (pss_cons (ps_expr (pe_c C_need_number hr (by decide) (by rfl) (pa_cons (pv 1) pa_nil)))
      (pss_cons (ps_expr (pe_c C_need_number hr (by decide) (by rfl) (pa_cons (pv 2) pa_nil)))
      (Evl.pss_cut (ps_if (PW.pt (pw_and (pt_truth (pe_ix (r := rIxT K) ix_tup (pv 1) pe_int (fun _ _ => rfl)) (by intro _; rfl)) (pw_and1 (pt_truth (pe_ix (r := rIxT K) ix_tup (pv 2) pe_int (fun _ _ => rfl)) (by intro _; rfl))))) (pss_one (ps_ret (pe_tup (pa_cons (pe_c C_reckoned hr (by decide) (by rfl) (pa_cons (pv 0) (pa_cons (pe_ix (r := rIxT K) ix_tup (pv 1) pe_int (fun _ _ => rfl)) (pa_cons (pe_ix (r := rIxT K) ix_tup (pv 2) pe_int (fun _ _ => rfl)) pa_nil)))) (pa_cons pe_non (pa_cons pe_non pa_nil)))))) pss_nil)
      (pss_cons (ps_set (i := 3) sc_sure.nd rfl (.inl rfl) (pe_c C_sure_between hr (by decide) (by rfl) (pa_cons (pe_c C_ends_of_both hr (by decide) (by rfl) (pa_cons (pv 0) (pa_cons (pv 1) (pa_cons (pv 2) pa_nil)))) pa_nil)))
      (pss_cons (ps_set (i := 4) sc_sure.nd rfl (.inl rfl) pe_int)
      (pss_one (ps_while PassesOwn.never (pt_mono (pt_val pe_bl))
      (pss_cons (ps_set (i := 5) sc_sure.nd rfl (.inl rfl) (pe_c C_pair_near hr (by decide) (by rfl) (pa_cons (pv 0) (pa_cons (pv 1) (pa_cons (pv 2) (pa_cons pe_bl (pa_cons (pv 4) pa_nil)))))))
      (pss_cons (ps_set (i := 6) sc_sure.nd rfl (.inl rfl) (pe_c C_pair_near hr (by decide) (by rfl) (pa_cons (pv 0) (pa_cons (pv 1) (pa_cons (pv 2) (pa_cons pe_bl (pa_cons (pv 4) pa_nil)))))))
      (pss_cons (ps_if (pt_cmpR op_ne (pe_c C_quotient_at hr (by decide) (by rfl) (pa_cons (pv 0) (pa_cons (pv 5) (pa_cons (pe_callB call_len_seq (by rfl) T.z_len PySem.boot_len (pa_cons (pv 3) pa_nil)) pa_nil)))) (pe_c C_quotient_at hr (by decide) (by rfl) (pa_cons (pv 0) (pa_cons (pv 6) (pa_cons (pe_callB call_len_seq (by rfl) T.z_len PySem.boot_len (pa_cons (pv 3) pa_nil)) pa_nil)))) (nomark _)) (pss_one (ps_ret (pe_tup (pa_cons (pv 3) (pa_cons (pv 5) (pa_cons (pv 6) pa_nil)))))) pss_nil)
      (pss_one (ps_set (i := 4) sc_sure.nd rfl (.inl rfl) (pe_op op_mulX (pv 4) (pv 4))))))))))))))), ?_⟩
    obtain ⟨x, a, b, q1, q2, w1, w2, n1, n2, rfl, hx, hA, hB, l1, l2, ok1, ok2, nb1, nb2, hn, kw, kn⟩ := h
    refine ⟨_, rfl, x, rfl, hx, fun H1 s1 => ?_⟩
    refine ⟨_, rfl, a, q1, w1, rfl, hA.same s1, l1, ok1, fun H2 s2 => ?_⟩
    refine ⟨_, rfl, b, q2, w2, rfl, hB.same (s1.trans s2), l2, ok2, fun H3 s3 => ?_⟩
    have s03 := (s1.trans s2).trans s3
    obtain ⟨p1, hT1, hp1⟩ := hA.same s03
    obtain ⟨p2, hT2, hp2⟩ := hB.same s03
    have hA3 := hA.same s03
    have hB3 := hB.same s03
    refine ⟨fun σ H' => σ = [some (.str x), some (.ref a), some (.ref b), none, none, none, none] ∧ H3 = H' ∧ (w1 && w2) = false, ?_, ?_⟩
    · refine ⟨_, rfl, a, _, 1, _, rfl, rfl, hT1, two1, _, rfl, ite2 (fun c1 => ?_) (fun c1 => ?_)⟩
      · refine ⟨_, rfl, b, _, 1, _, rfl, rfl, hT2, two1, _, rfl, ite2 (fun c2 => ?_) (fun c2 => ?_)⟩
        · refine ⟨_, rfl, _, rfl, a, _, 0, _, rfl, rfl, hT1, two0, _, rfl, b, _, 0, _, rfl, rfl, hT2, two0, ?_⟩
          refine ⟨x, p1, p2, q1, q2, rfl, sqL hp1, sqL hp2, by omega, by omega, hx, ok1.abv c1, ok2.abv c2, sz_abv (ok1.abv c1) nb1 (by omega), sz_abv (ok2.abv c2) nb2 (by omega), ((done_bd (x := x) nb1.w nb2.w).bot).mono (by omega), fun H4 r s4 nr er => ?_⟩
          refine ⟨by show 3 ≤ sizeLine; decide, fun p np => ?_⟩
          (generalize hH_ : upd _ p _ = H5; have s5 := same_of hH_ np; have ep := at_new hH_; clear hH_)
          exact kw (by rw [c1, c2]; rfl) _ p r ((s03.trans s4).trans s5) ((s03.trans s4).free np) (s03.free nr) ep (s5 _ _ er)
        · exact ⟨rfl, rfl, by rw [c1, Bool.eq_false_iff.mpr c2]; rfl⟩
      · refine iteF ?_
        exact ⟨rfl, rfl, by rw [Bool.eq_false_iff.mpr c1]; rfl⟩
    rintro σ H' ⟨rfl, rfl, hw⟩
    replace kn := kn hw
    clear kw
    have nm1 := nb1.mono (Nat.le_max_left n1 n2)
    have nm2 := nb2.mono (Nat.le_max_right n1 n2)
    have hmax : max n1 n2 ≤ 8998 := by omega
    have sb := sb_ok hx ok1 ok2 nb1 nb2 hw (by omega)
    have stop := fun G => @sure_stop x (max n1 n2) q1 q2 w1 w2 G hx ok1 ok2 nm1 nm2 hw
    generalize max n1 n2 = n at *
    -- told
    refine ⟨_, rfl, _, rfl, _, rfl, x, a, b, q1, q2, w1, w2, n, rfl, hA3, hB3, l1, l2, ok1, ok2, nm1, nm2, by omega, fun H4 e lv hv s4 ne ee hl hh => ?_⟩
    refine ⟨e, lv, hv, _, _, _, _, rfl, sqT ee, hl, hh, sb, fun H5 c s5 nc ec tl => ?_⟩
    replace ec : H5 c = some (.lst ((toldV x (nends q1 w1) (nends q2 w2)).map V.int)) := ec
    replace tl : (toldV x (nends q1 w1) (nends q2 w2)).length ≤ 18000 := tl
    have s05 := (s03.trans s4).trans s5
    have nc0 : H c = none := (s03.trans s4).free nc
    have hA5 := (hA3.same s4).same s5
    have hB5 := (hB3.same s4).same s5
    clear ee hl hh hT1 hT2 hp1 hp2 hA3 hB3 s4 s5 nc ne sb s1 s2 s3 s03 hA hB
    -- the loop
    refine while_m (fun σ H' => ∃ (k : Nat) (v5 v6 : Option V), σ = [some (.str x), some (.ref a), some (.ref b), some (.ref c), some (.int (2 ^ 2 ^ k)), v5, v6] ∧ Same H5 H' ∧ 2 ^ k ≤ 16 * n + 20 ∧ ∀ i < k, ¬ Dif x q1 w1 q2 w2 (2 ^ 2 ^ i))
      (fun σ _ => match σ with | [_, _, _, _, some (.int G), _, _] => 16 * n + 21 - G.natAbs.log2 | _ => 0) ⟨0, none, none, rfl, Same.refl _, by show 1 ≤ _; omega, fun i hi => by omega⟩ ?_
    rintro σ H6 ⟨k, v5, v6, rfl, s6, hk, hmin⟩
    refine ⟨_, rfl, iteT ?_⟩
    have G2 : (2 : Int) ≤ 2 ^ 2 ^ k := by
      have e : (2 : Int) ^ 2 ^ k = 2 ^ (2 ^ k - 1) * 2 := by
        rw [← Int.pow_succ]
        congr 1
        have := Nat.pow_pos (n := k) (show 0 < 2 by decide)
        omega
      have p : (0 : Int) < 2 ^ (2 ^ k - 1) := Int.pow_pos (by decide)
      omega
    have bG := bd_pow (2 ^ k)
    generalize hG : (2 : Int) ^ 2 ^ k = G at *
    have s06 := s05.trans s6
    refine ⟨_, rfl, _, rfl, _, rfl, _, rfl, x, a, b, q1, q2, w1, w2, true, G, rfl, hA5.same s6, hB5.same s6, l1, l2, fun H7 f u1 v1 s7 nf ef eu1 ev1 => ?_⟩
    refine ⟨_, rfl, _, rfl, _, rfl, _, rfl, x, a, b, q1, q2, w1, w2, false, G, rfl, (hA5.same s6).same s7, (hB5.same s6).same s7, l1, l2, fun H8 s u2 v2 s8 ns es eu2 ev2 => ?_⟩
    have ec8 := s8 _ _ (s7 _ _ (s6 _ _ ec))
    have ef8 := s8 _ _ ef
    have eu18 := s8 _ _ eu1
    have ev18 := s8 _ _ ev1
    have np1 := fun low => near_pos (w := w1) ok1 nm1 (show 0 < G by omega) low
    have np2 := fun low => near_pos (w := w2) ok2 nm2 (show 0 < G by omega) low
    have nc1 := fun low => (chB_iff _).mpr (near_ch ok1 G2 low)
    have nc2 := fun low => (chB_iff _).mpr (near_ch ok2 G2 low)
    have nz1 := fun low => near_sz (w := w1) ok1 nm1 G2 bG (show 2 ^ k + 1 + n + 1 ≤ 10000000 by omega) low
    have nz2 := fun low => near_sz (w := w2) ok2 nm2 G2 bG (show 2 ^ k + 1 + n + 1 ≤ 10000000 by omega) low
    have nl1 := fun low => Nat.le_trans (near_len (q := q1) (w := w1) (G := G) low) (show q1.length + 2 ≤ 100000 by omega)
    have nl2 := fun low => Nat.le_trans (near_len (q := q2) (w := w2) (G := G) low) (show q2.length + 2 ≤ 100000 by omega)
    have tlen : ((toldV x (nends q1 w1) (nends q2 w2)).map V.int).length = (toldV x (nends q1 w1) (nends q2 w2)).length := List.length_map _
    refine ⟨_, rfl, _, rfl, _, rfl, c, _, rfl, .inl (sqL ec8), ?_⟩
    refine ⟨x, f, u1, v1, _, _, _, rfl, sqT ef8, sqL eu18, sqL ev18, nl1 _, nl2 _, nc1 _, nc2 _, nz1 _, nz2 _, done_pos (np1 _).2 (np2 _).1 (np2 _).2, by rw [tlen]; omega, fun H9 s9 => ?_⟩
    refine ⟨_, rfl, _, rfl, _, rfl, c, _, rfl, .inl (sqL (s9 _ _ ec8)), ?_⟩
    refine ⟨x, s, u2, v2, _, _, _, rfl, sqT (s9 _ _ es), sqL (s9 _ _ eu2), sqL (s9 _ _ ev2), nl1 _, nl2 _, nc1 _, nc2 _, nz1 _, nz2 _, done_pos (np1 _).2 (np2 _).1 (np2 _).2, by rw [tlen]; omega, fun H10 s10 => ?_⟩
    have sc : ∀ o o' : Option Int, scal (optV o) (optV o') = true ∧ (decide (optV o = optV o') = decide (o = o')) := fun o o' => by
      cases o with
      | none =>
        cases o' with
        | none => exact ⟨rfl, rfl⟩
        | some j => exact ⟨rfl, rfl⟩
      | some i =>
        cases o' with
        | none => exact ⟨rfl, rfl⟩
        | some j => exact ⟨rfl, decide_eq_decide.mpr ⟨fun z => congrArg some (V.int.inj z), fun z => congrArg V.int (Option.some.inj z)⟩⟩
    refine ⟨(sc _ _).1, ?_⟩
    rw [(sc _ _).2, tlen]
    refine ⟨_, rfl, ?_⟩
    have s810 := s9.trans s10
    cases hd : decide (qat (doneV x (Cm.W (near q1 w1 true G)) (Cm.W (near q2 w2 (true != turns x) G))) (toldV x (nends q1 w1) (nends q2 w2)).length = qat (doneV x (Cm.W (near q1 w1 false G)) (Cm.W (near q2 w2 (false != turns x) G))) (toldV x (nends q1 w1) (nends q2 w2)).length) with
    | false =>
      have D : Dif x q1 w1 q2 w2 G := of_decide_eq_false hd
      refine iteT ⟨_, rfl, _, rfl, _, rfl, by show 3 ≤ sizeLine; decide, fun p np => ?_⟩
      (generalize hH_ : upd _ p _ = H11; have s11 := same_of hH_ np; have ep := at_new hH_; clear hH_)
      have all := ((s06.trans s7).trans s8).trans (s810.trans s11)
      have nn := (((s06.trans s7).trans s8).trans s810).free np
      have s811 := s810.trans s11
      exact kn _ p c f s u1 v1 u2 v2 G all nn nc0 ep (s811 _ _ ec8) tl (s811 _ _ ef8) (s811 _ _ eu18) (s811 _ _ ev18) (s811 _ _ es) (s811 _ _ eu2) (s811 _ _ ev2) ⟨k, hG.symm, D, hmin⟩
    | true =>
      have nD : ¬ Dif x q1 w1 q2 w2 G := fun z => z (of_decide_eq_true hd)
      have hsm : 2 ^ k ≤ 8 * n + 9 := by
        refine pow_lt ?_
        rw [hG]
        rcases Int.lt_or_le (2 ^ (8 * n + 9)) G with z | z
        · exact absurd (stop G z) nD
        · exact z
      have e2 : 2 ^ (k + 1) = 2 ^ k + 2 ^ k := by rw [Nat.pow_succ]; omega
      have eG : (2 : Int) ^ 2 ^ (k + 1) = G * G := by rw [e2, Int.pow_add, hG]
      refine iteF ⟨_, rfl, _, rfl, _, _, rfl, rfl, mulOk bG bG (by omega), ⟨k + 1, some (.ref f), some (.ref s), ?_, ((s6.trans s7).trans s8).trans s810, by omega, ?_⟩, ?_⟩
      · rw [eG]
        rfl
      · intro i hi
        rcases Nat.lt_or_ge i k with z | z
        · exact hmin i z
        · have : i = k := by omega
          subst this
          rw [hG]
          exact nD
      · show 16 * n + 21 - (G * G).natAbs.log2 < 16 * n + 21 - G.natAbs.log2
        rw [← eG, ← hG, log_pow, log_pow, e2]
        have := Nat.pow_pos (n := k) (show 0 < 2 by decide)
        omega
end
theorem three0 {a b c : V} : atI [a, b, c] 0 = some a := atI_nat (j := 0) rfl
section
variable {P : Program} {w : World} {K : PySem.W.Frag} {mg : Str → Option Value} {base : Heap}
theorem ok_law {f : Addr} {fd : FuncData} (T : Txt K mg) (NS : base.NoSeer) (ht : P.given.tree = none) (F : L2.Fun K "law" "law" s_law f fd) : FnOk P w K mg base CX0 42 f fd ["_law_script"] (spLaw K) := by
  have C_l_numbers := cal_l_numbers (P := P) (w := w) (base := base) T NS ht
  have C_sure := cal_sure (P := P) (w := w) (base := base) T NS ht
  have C_l_sure := cal_l_sure (P := P) (w := w) (base := base) T NS ht
  refine F.ok sc_law (fun vs H Q E h => ?_) (fun cdv A outer s H vs Q E hr h => ?_)
  · obtain ⟨a, ns, rfl, _⟩ := h
    rfl
  · refine ⟨_, (pss_cons (ps_asg (pe_c C_l_numbers hr (by decide) (by rfl) (pa_cons (pv 0) pa_nil)) (pg_tup rfl (pgs_cons (pg_name (i := 1) sc_law.nd rfl (.inl rfl)) (pgs_cons (pg_name (i := 2) sc_law.nd rfl (.inl rfl)) pgs_nil))))
      (pss_cons (ps_for PassesOwn.never rfl (pi_list (pv 2)) (pg_tup rfl (pgs_cons (pg_name (i := 3) sc_law.nd rfl (.inl rfl)) (pgs_cons (pg_name (i := 4) sc_law.nd rfl (.inl rfl)) pgs_nil)))
      (pss_one (ps_if (PW.pt (pw_and (pt_not (PW.pt (pw_and (pt_truth (pe_ix (r := rIxT K) ix_tup (pv 3) pe_int (fun _ _ => rfl)) (by intro _; rfl)) (pw_and1 (pt_truth (pe_ix (r := rIxT K) ix_tup (pv 4) pe_int (fun _ _ => rfl)) (by intro _; rfl)))))) (pw_and1 (pt_cmpR (r := rNeD K) (op_neD hr.units) (pe_ix (r := rIxT K) ix_tup (pe_c C_sure hr (by decide) (by rfl) (pa_cons (pv 1) (pa_cons (pv 3) (pa_cons (pv 4) pa_nil)))) pe_int (fun _ _ => rfl)) (pe_c C_l_sure hr (by decide) (by rfl) (pa_cons (pv 1) (pa_cons (pv 3) (pa_cons (pv 4) pa_nil)))) (nomark _))))) (pss_one (ps_ret pe_bl)) pss_nil)))
      (pss_one (ps_ret (pe_cmpR (r := rEqD K) (op_eqD hr.units) (pe_ix (r := rIxT K) ix_tup (pe_c C_sure hr (by decide) (by rfl) (pa_cons (pv 1) (pa_cons (pe_tup (pa_cons (pe_lst pa_nil) (pa_cons pe_bl pa_nil))) (pa_cons (pe_tup (pa_cons (pe_lst pa_nil) (pa_cons pe_bl pa_nil))) pa_nil)))) pe_int (fun _ _ => rfl)) (pe_lst pa_nil) (nomark _)))))), ?_⟩
    obtain ⟨a, ns, rfl, hS, hlen, q⟩ := h
    refine ⟨_, rfl, a, ns, rfl, hS, hlen, fun H1 p L x items s1 ep hxw eL hil hit => ?_⟩
    refine ⟨p, _, rfl, sqT ep, rfl, _, _, rfl, _, _, rfl, rfl, ?_⟩
    refine ⟨_, rfl, L, rfl, ⟨_, sqL eL⟩, for_list (K := K) (a := L) (xs := items) (fun i σ H' => ∃ v3 v4, σ = [some (.ref a), some (.str x), some (.ref L), v3, v4] ∧ Same H1 H')
      ⟨none, none, rfl, Same.refl _⟩ (fun i σ H' _ ⟨_, _, _, s⟩ => sqL (s _ _ eL)) ?_ ?_⟩
    · rintro i y σ H2 hi ⟨v3, v4, rfl, s2⟩
      obtain ⟨p2, a2, b2, q1, q2, w1, w2, rfl, hT, hn1, hn2, o1, o2⟩ := (hit y (List.mem_of_getElem? hi)).same s2
      obtain ⟨c1, hT1, _⟩ := id hn1
      obtain ⟨c2, hT2, _⟩ := id hn2
      refine ⟨p2, _, rfl, hT, rfl, _, _, rfl, _, _, rfl, rfl, ?_⟩
      refine ⟨_, rfl, a2, _, 1, _, rfl, rfl, hT1, two1, _, rfl, ?_⟩
      cases w1 with
      | true =>
        refine iteT ⟨_, rfl, b2, _, 1, _, rfl, rfl, hT2, two1, _, rfl, ?_⟩
        cases w2 with
        | true => exact iteF ⟨_, _, rfl, s2⟩
        | false =>
          have hw : (true && false) = false := rfl
          refine iteT ?_
          refine ⟨_, rfl, _, rfl, _, rfl, x, a2, b2, q1, q2, _, _, 3100, 3100, rfl, hxw, hn1, hn2, o1.len, o2.len, o1.ok, o2.ok, o1.nb, o2.nb, by decide, (fun z => absurd (hw.symm.trans z) Bool.false_ne_true), (fun _ H3 p3 c3 f3 t3 u1 v1 u2 v2 G s3 np3 nc3 ep3 ec3 tl3 _ _ _ _ _ _ _ => ?_)⟩
          refine ⟨p3, _, 0, _, rfl, rfl, sqT ep3, three0, ?_⟩
          refine ⟨_, rfl, _, rfl, _, rfl, x, a2, b2, q1, q2, _, _, 3100, 3100, rfl, hxw, hn1.same s3, hn2.same s3, o1.len, o2.len, o1.ok, o2.ok, o1.nb, o2.nb, by decide, hw, fun H4 c4 s4 nc4 ec4 => ?_⟩
          refine ⟨_, _, dp_ints (sqL (s4 _ _ ec3)), dp_ints (sqL ec4), shaped_ints _, shaped_ints _, ?_⟩
          rw [eqv_ints, decide_eq_true rfl]
          refine ⟨_, rfl, iteF ?_⟩
          exact ⟨_, _, rfl, (s2.trans s3).trans s4⟩
      | false =>
        have hw : (false && w2) = false := rfl
        refine iteF ?_
        refine iteT ?_
        refine ⟨_, rfl, _, rfl, _, rfl, x, a2, b2, q1, q2, _, _, 3100, 3100, rfl, hxw, hn1, hn2, o1.len, o2.len, o1.ok, o2.ok, o1.nb, o2.nb, by decide, (fun z => absurd (hw.symm.trans z) Bool.false_ne_true), (fun _ H3 p3 c3 f3 t3 u1 v1 u2 v2 G s3 np3 nc3 ep3 ec3 tl3 _ _ _ _ _ _ _ => ?_)⟩
        refine ⟨p3, _, 0, _, rfl, rfl, sqT ep3, three0, ?_⟩
        refine ⟨_, rfl, _, rfl, _, rfl, x, a2, b2, q1, q2, _, _, 3100, 3100, rfl, hxw, hn1.same s3, hn2.same s3, o1.len, o2.len, o1.ok, o2.ok, o1.nb, o2.nb, by decide, hw, fun H4 c4 s4 nc4 ec4 => ?_⟩
        refine ⟨_, _, dp_ints (sqL (s4 _ _ ec3)), dp_ints (sqL ec4), shaped_ints _, shaped_ints _, ?_⟩
        rw [eqv_ints, decide_eq_true rfl]
        refine ⟨_, rfl, iteF ?_⟩
        exact ⟨_, _, rfl, (s2.trans s3).trans s4⟩
    rintro σ H2 ⟨v3, v4, rfl, s2⟩
    refine ⟨_, rfl, Nat.zero_le _, fun l1 nl1 => ?_⟩
    (generalize hH_ : upd _ l1 _ = H3; have s3 := same_of hH_ nl1; have el1 := at_new hH_; clear hH_)
    refine ⟨by show 2 ≤ sizeLine; decide, fun t1 nt1 => ?_⟩
    (generalize hH_ : upd _ t1 _ = H4; have s4 := same_of hH_ nt1; have et1 := at_new hH_; clear hH_)
    refine ⟨Nat.zero_le _, fun l2 nl2 => ?_⟩
    (generalize hH_ : upd _ l2 _ = H5; have s5 := same_of hH_ nl2; have el2 := at_new hH_; clear hH_)
    refine ⟨by show 2 ≤ sizeLine; decide, fun t2 nt2 => ?_⟩
    (generalize hH_ : upd _ t2 _ = H6; have s6 := same_of hH_ nt2; have et2 := at_new hH_; clear hH_)
    have h1 : HNum K H6 t1 [] false := ⟨l1, sqT (s6 _ _ (s5 _ _ et1)), s6 _ _ (s5 _ _ (s4 _ _ el1))⟩
    have h2 : HNum K H6 t2 [] false := ⟨l2, sqT et2, s6 _ _ el2⟩
    have ok : Okn [] false := ⟨by decide, fun z => by cases z⟩
    have nb : NB 1 [] := ⟨by decide, ⟨Bd.one (by decide), Bd.zero⟩, fun z => absurd rfl z⟩
    have e0 : toldV x (nends [] false) (nends [] false) = [] := sureO_none
    refine ⟨x, t1, t2, [], [], false, false, 1, 1, rfl, hxw, h1, h2, by decide, by decide, ok, ok, nb, nb, by decide, (fun z => by cases z), (fun _ H7 p3 c3 f3 t3 u1 v1 u2 v2 G s7 np3 nc3 ep3 ec3 tl3 _ _ _ _ _ _ _ => ?_)⟩
    rw [e0] at ec3
    refine ⟨p3, _, 0, _, rfl, rfl, sqT ep3, three0, Nat.zero_le _, fun z nz => ?_⟩
    (generalize hH_ : upd _ z _ = H8; have s8 := same_of hH_ nz; have ez := at_new hH_; clear hH_)
    refine ⟨_, _, dp_ints (ns := []) (sqL (s8 _ _ ec3)), dp_ints (ns := []) (sqL ez), shaped_ints _, shaped_ints _, ?_⟩
    rw [eqv_ints, decide_eq_true rfl]
    exact q _
end
theorem txt_mk {K : PySem.W.Frag} {h : Heap} {mg : Str → Option Value} {f1 f2 f3 f4 f5 f6 f7 f8 f9 f10 f11 f12 f13 f14 f15 f16 f17 f18 f19 f20 f21 f22 f23 f24 f25 f26 f27 f28 f29 f30 f31 f32 f33 f34 f35 : Addr} (X : K.In h) (G : h.Ns mainGlobals mg)
    {od1 od2 od3 od4 od5 od6 od7 od8 od9 od10 od11 od12 od13 od14 od15 od16 od17 od18 od19 od20 od21 od22 od23 od24 od25 od26 od27 od28 od29 od30 od31 od32 od33 od34 od35 an1 an2 an3 an4 an5 an6 an7 an8 an9 an10 an11 an12 an13 an14 an15 an16 an17 an18 an19 an20 an21 an22 an23 an24 an25 an26 an27 an28 an29 an30 an31 an32 an33 an34 an35 : Option Addr} {sl1 sl2 sl3 sl4 sl5 sl6 sl7 sl8 sl9 sl10 sl11 sl12 sl13 sl14 sl15 sl16 sl17 sl18 sl19 sl20 sl21 sl22 sl23 sl24 sl25 sl26 sl27 sl28 sl29 sl30 sl31 sl32 sl33 sl34 sl35 : Array (Option Value)} {oc1 oc2 oc3 oc4 oc5 oc6 oc7 oc8 oc9 oc10 oc11 oc12 oc13 oc14 oc15 oc16 oc17 oc18 oc19 oc20 oc21 oc22 oc23 oc24 oc25 oc26 oc27 oc28 oc29 oc30 oc31 oc32 oc33 oc34 oc35 kV1 kV2 kV3 kV4 kV5 kV6 kV7 kV8 kV9 kV10 kV11 kV12 kV13 kV14 kV15 kV16 kV17 kV18 kV19 kV20 kV21 kV22 kV23 kV24 kV25 kV26 kV27 kV28 kV29 kV30 kV31 kV32 kV33 kV34 kV35 dc1 dc2 dc3 dc4 dc5 dc6 dc7 dc8 dc9 dc10 dc11 dc12 dc13 dc14 dc15 dc16 dc17 dc18 dc19 dc20 dc21 dc22 dc23 dc24 dc25 dc26 dc27 dc28 dc29 dc30 dc31 dc32 dc33 dc34 dc35 pm1 pm2 pm3 pm4 pm5 pm6 pm7 pm8 pm9 pm10 pm11 pm12 pm13 pm14 pm15 pm16 pm17 pm18 pm19 pm20 pm21 pm22 pm23 pm24 pm25 pm26 pm27 pm28 pm29 pm30 pm31 pm32 pm33 pm34 pm35 cd1 cd2 cd3 cd4 cd5 cd6 cd7 cd8 cd9 cd10 cd11 cd12 cd13 cd14 cd15 cd16 cd17 cd18 cd19 cd20 cd21 cd22 cd23 cd24 cd25 cd26 cd27 cd28 cd29 cd30 cd31 cd32 cd33 cd34 cd35 ct1 ct2 ct3 ct4 ct5 ct6 ct7 ct8 ct9 ct10 ct11 ct12 ct13 ct14 ct15 ct16 ct17 ct18 ct19 ct20 ct21 ct22 ct23 ct24 ct25 ct26 ct27 ct28 ct29 ct30 ct31 ct32 ct33 ct34 ct35 : Value}
    (a1 : PySem.W.nsIn K mainGlobals "is_whole" = some (some (.ref f1))) (l1 : K.lookup f1 = some ⟨oc1, od1, .func (PySem.W.fnOf "is_whole" "is_whole" (defArgs s_is_whole) (defBody s_is_whole) (defScope s_is_whole) .none kV1 dc1 pm1 an1 cd1 ct1), sl1⟩) (c1 : PySem.W.codeIn K cd1 "is_whole" = true) (k1 : PySem.W.keepIn K (.ref f1) = true)
    (a2 : PySem.W.nsIn K mainGlobals "are_quotients" = some (some (.ref f2))) (l2 : K.lookup f2 = some ⟨oc2, od2, .func (PySem.W.fnOf "are_quotients" "are_quotients" (defArgs s_are_quotients) (defBody s_are_quotients) (defScope s_are_quotients) .none kV2 dc2 pm2 an2 cd2 ct2), sl2⟩) (c2 : PySem.W.codeIn K cd2 "are_quotients" = true) (k2 : PySem.W.keepIn K (.ref f2) = true)
    (a3 : PySem.W.nsIn K mainGlobals "is_chain" = some (some (.ref f3))) (l3 : K.lookup f3 = some ⟨oc3, od3, .func (PySem.W.fnOf "is_chain" "is_chain" (defArgs s_is_chain) (defBody s_is_chain) (defScope s_is_chain) .none kV3 dc3 pm3 an3 cd3 ct3), sl3⟩) (c3 : PySem.W.codeIn K cd3 "is_chain" = true) (k3 : PySem.W.keepIn K (.ref f3) = true)
    (a4 : PySem.W.nsIn K mainGlobals "is_begun" = some (some (.ref f4))) (l4 : K.lookup f4 = some ⟨oc4, od4, .func (PySem.W.fnOf "is_begun" "is_begun" (defArgs s_is_begun) (defBody s_is_begun) (defScope s_is_begun) .none kV4 dc4 pm4 an4 cd4 ct4), sl4⟩) (c4 : PySem.W.codeIn K cd4 "is_begun" = true) (k4 : PySem.W.keepIn K (.ref f4) = true)
    (a5 : PySem.W.nsIn K mainGlobals "is_above" = some (some (.ref f5))) (l5 : K.lookup f5 = some ⟨oc5, od5, .func (PySem.W.fnOf "is_above" "is_above" (defArgs s_is_above) (defBody s_is_above) (defScope s_is_above) .none kV5 dc5 pm5 an5 cd5 ct5), sl5⟩) (c5 : PySem.W.codeIn K cd5 "is_above" = true) (k5 : PySem.W.keepIn K (.ref f5) = true)
    (a6 : PySem.W.nsIn K mainGlobals "need_chain" = some (some (.ref f6))) (l6 : K.lookup f6 = some ⟨oc6, od6, .func (PySem.W.fnOf "need_chain" "need_chain" (defArgs s_need_chain) (defBody s_need_chain) (defScope s_need_chain) .none kV6 dc6 pm6 an6 cd6 ct6), sl6⟩) (c6 : PySem.W.codeIn K cd6 "need_chain" = true) (k6 : PySem.W.keepIn K (.ref f6) = true)
    (a7 : PySem.W.nsIn K mainGlobals "told_by" = some (some (.ref f7))) (l7 : K.lookup f7 = some ⟨oc7, od7, .func (PySem.W.fnOf "told_by" "told_by" (defArgs s_told_by) (defBody s_told_by) (defScope s_told_by) .none kV7 dc7 pm7 an7 cd7 ct7), sl7⟩) (c7 : PySem.W.codeIn K cd7 "told_by" = true) (k7 : PySem.W.keepIn K (.ref f7) = true)
    (a8 : PySem.W.nsIn K mainGlobals "fraction_of" = some (some (.ref f8))) (l8 : K.lookup f8 = some ⟨oc8, od8, .func (PySem.W.fnOf "fraction_of" "fraction_of" (defArgs s_fraction_of) (defBody s_fraction_of) (defScope s_fraction_of) .none kV8 dc8 pm8 an8 cd8 ct8), sl8⟩) (c8 : PySem.W.codeIn K cd8 "fraction_of" = true) (k8 : PySem.W.keepIn K (.ref f8) = true)
    (a9 : PySem.W.nsIn K mainGlobals "quotients_of" = some (some (.ref f9))) (l9 : K.lookup f9 = some ⟨oc9, od9, .func (PySem.W.fnOf "quotients_of" "quotients_of" (defArgs s_quotients_of) (defBody s_quotients_of) (defScope s_quotients_of) .none kV9 dc9 pm9 an9 cd9 ct9), sl9⟩) (c9 : PySem.W.codeIn K cd9 "quotients_of" = true) (k9 : PySem.W.keepIn K (.ref f9) = true)
    (a10 : PySem.W.nsIn K mainGlobals "ends_of" = some (some (.ref f10))) (l10 : K.lookup f10 = some ⟨oc10, od10, .func (PySem.W.fnOf "ends_of" "ends_of" (defArgs s_ends_of) (defBody s_ends_of) (defScope s_ends_of) .none kV10 dc10 pm10 an10 cd10 ct10), sl10⟩) (c10 : PySem.W.codeIn K cd10 "ends_of" = true) (k10 : PySem.W.keepIn K (.ref f10) = true)
    (a11 : PySem.W.nsIn K mainGlobals "need_word" = some (some (.ref f11))) (l11 : K.lookup f11 = some ⟨oc11, od11, .func (PySem.W.fnOf "need_word" "need_word" (defArgs s_need_word) (defBody s_need_word) (defScope s_need_word) .none kV11 dc11 pm11 an11 cd11 ct11), sl11⟩) (c11 : PySem.W.codeIn K cd11 "need_word" = true) (k11 : PySem.W.keepIn K (.ref f11) = true)
    (a12 : PySem.W.nsIn K mainGlobals "worth" = some (some (.ref f12))) (l12 : K.lookup f12 = some ⟨oc12, od12, .func (PySem.W.fnOf "worth" "worth" (defArgs s_worth) (defBody s_worth) (defScope s_worth) .none kV12 dc12 pm12 an12 cd12 ct12), sl12⟩) (c12 : PySem.W.codeIn K cd12 "worth" = true) (k12 : PySem.W.keepIn K (.ref f12) = true)
    (a13 : PySem.W.nsIn K mainGlobals "reckoned" = some (some (.ref f13))) (l13 : K.lookup f13 = some ⟨oc13, od13, .func (PySem.W.fnOf "reckoned" "reckoned" (defArgs s_reckoned) (defBody s_reckoned) (defScope s_reckoned) .none kV13 dc13 pm13 an13 cd13 ct13), sl13⟩) (c13 : PySem.W.codeIn K cd13 "reckoned" = true) (k13 : PySem.W.keepIn K (.ref f13) = true)
    (a14 : PySem.W.nsIn K mainGlobals "need_number" = some (some (.ref f14))) (l14 : K.lookup f14 = some ⟨oc14, od14, .func (PySem.W.fnOf "need_number" "need_number" (defArgs s_need_number) (defBody s_need_number) (defScope s_need_number) .none kV14 dc14 pm14 an14 cd14 ct14), sl14⟩) (c14 : PySem.W.codeIn K cd14 "need_number" = true) (k14 : PySem.W.keepIn K (.ref f14) = true)
    (a15 : PySem.W.nsIn K mainGlobals "ends_of_number" = some (some (.ref f15))) (l15 : K.lookup f15 = some ⟨oc15, od15, .func (PySem.W.fnOf "ends_of_number" "ends_of_number" (defArgs s_ends_of_number) (defBody s_ends_of_number) (defScope s_ends_of_number) .none kV15 dc15 pm15 an15 cd15 ct15), sl15⟩) (c15 : PySem.W.codeIn K cd15 "ends_of_number" = true) (k15 : PySem.W.keepIn K (.ref f15) = true)
    (a16 : PySem.W.nsIn K mainGlobals "joined" = some (some (.ref f16))) (l16 : K.lookup f16 = some ⟨oc16, od16, .func (PySem.W.fnOf "joined" "joined" (defArgs s_joined) (defBody s_joined) (defScope s_joined) .none kV16 dc16 pm16 an16 cd16 ct16), sl16⟩) (c16 : PySem.W.codeIn K cd16 "joined" = true) (k16 : PySem.W.keepIn K (.ref f16) = true)
    (a17 : PySem.W.nsIn K mainGlobals "ends_of_both" = some (some (.ref f17))) (l17 : K.lookup f17 = some ⟨oc17, od17, .func (PySem.W.fnOf "ends_of_both" "ends_of_both" (defArgs s_ends_of_both) (defBody s_ends_of_both) (defScope s_ends_of_both) .none kV17 dc17 pm17 an17 cd17 ct17), sl17⟩) (c17 : PySem.W.codeIn K cd17 "ends_of_both" = true) (k17 : PySem.W.keepIn K (.ref f17) = true)
    (a18 : PySem.W.nsIn K mainGlobals "sure_between" = some (some (.ref f18))) (l18 : K.lookup f18 = some ⟨oc18, od18, .func (PySem.W.fnOf "sure_between" "sure_between" (defArgs s_sure_between) (defBody s_sure_between) (defScope s_sure_between) .none kV18 dc18 pm18 an18 cd18 ct18), sl18⟩) (c18 : PySem.W.codeIn K cd18 "sure_between" = true) (k18 : PySem.W.keepIn K (.ref f18) = true)
    (a19 : PySem.W.nsIn K mainGlobals "near_end" = some (some (.ref f19))) (l19 : K.lookup f19 = some ⟨oc19, od19, .func (PySem.W.fnOf "near_end" "near_end" (defArgs s_near_end) (defBody s_near_end) (defScope s_near_end) .none kV19 dc19 pm19 an19 cd19 ct19), sl19⟩) (c19 : PySem.W.codeIn K cd19 "near_end" = true) (k19 : PySem.W.keepIn K (.ref f19) = true)
    (a20 : PySem.W.nsIn K mainGlobals "pair_near" = some (some (.ref f20))) (l20 : K.lookup f20 = some ⟨oc20, od20, .func (PySem.W.fnOf "pair_near" "pair_near" (defArgs s_pair_near) (defBody s_pair_near) (defScope s_pair_near) .none kV20 dc20 pm20 an20 cd20 ct20), sl20⟩) (c20 : PySem.W.codeIn K cd20 "pair_near" = true) (k20 : PySem.W.keepIn K (.ref f20) = true)
    (a21 : PySem.W.nsIn K mainGlobals "quotient_at" = some (some (.ref f21))) (l21 : K.lookup f21 = some ⟨oc21, od21, .func (PySem.W.fnOf "quotient_at" "quotient_at" (defArgs s_quotient_at) (defBody s_quotient_at) (defScope s_quotient_at) .none kV21 dc21 pm21 an21 cd21 ct21), sl21⟩) (c21 : PySem.W.codeIn K cd21 "quotient_at" = true) (k21 : PySem.W.keepIn K (.ref f21) = true)
    (a22 : PySem.W.nsIn K mainGlobals "sure" = some (some (.ref f22))) (l22 : K.lookup f22 = some ⟨oc22, od22, .func (PySem.W.fnOf "sure" "sure" (defArgs s_sure) (defBody s_sure) (defScope s_sure) .none kV22 dc22 pm22 an22 cd22 ct22), sl22⟩) (c22 : PySem.W.codeIn K cd22 "sure" = true) (k22 : PySem.W.keepIn K (.ref f22) = true)
    (a23 : PySem.W.nsIn K mainGlobals "_law_mixed" = some (some (.ref f23))) (l23 : K.lookup f23 = some ⟨oc23, od23, .func (PySem.W.fnOf "_law_mixed" "_law_mixed" (defArgs s_l_mixed) (defBody s_l_mixed) (defScope s_l_mixed) .none kV23 dc23 pm23 an23 cd23 ct23), sl23⟩) (c23 : PySem.W.codeIn K cd23 "_law_mixed" = true) (k23 : PySem.W.keepIn K (.ref f23) = true)
    (a24 : PySem.W.nsIn K mainGlobals "_law_quotient" = some (some (.ref f24))) (l24 : K.lookup f24 = some ⟨oc24, od24, .func (PySem.W.fnOf "_law_quotient" "_law_quotient" (defArgs s_l_quotient) (defBody s_l_quotient) (defScope s_l_quotient) .none kV24 dc24 pm24 an24 cd24 ct24), sl24⟩) (c24 : PySem.W.codeIn K cd24 "_law_quotient" = true) (k24 : PySem.W.keepIn K (.ref f24) = true)
    (a25 : PySem.W.nsIn K mainGlobals "_law_worth" = some (some (.ref f25))) (l25 : K.lookup f25 = some ⟨oc25, od25, .func (PySem.W.fnOf "_law_worth" "_law_worth" (defArgs s_l_worth) (defBody s_l_worth) (defScope s_l_worth) .none kV25 dc25 pm25 an25 cd25 ct25), sl25⟩) (c25 : PySem.W.codeIn K cd25 "_law_worth" = true) (k25 : PySem.W.keepIn K (.ref f25) = true)
    (a26 : PySem.W.nsIn K mainGlobals "_law_chain" = some (some (.ref f26))) (l26 : K.lookup f26 = some ⟨oc26, od26, .func (PySem.W.fnOf "_law_chain" "_law_chain" (defArgs s_l_chain) (defBody s_l_chain) (defScope s_l_chain) .none kV26 dc26 pm26 an26 cd26 ct26), sl26⟩) (c26 : PySem.W.codeIn K cd26 "_law_chain" = true) (k26 : PySem.W.keepIn K (.ref f26) = true)
    (a27 : PySem.W.nsIn K mainGlobals "_law_done" = some (some (.ref f27))) (l27 : K.lookup f27 = some ⟨oc27, od27, .func (PySem.W.fnOf "_law_done" "_law_done" (defArgs s_l_done) (defBody s_l_done) (defScope s_l_done) .none kV27 dc27 pm27 an27 cd27 ct27), sl27⟩) (c27 : PySem.W.codeIn K cd27 "_law_done" = true) (k27 : PySem.W.keepIn K (.ref f27) = true)
    (a28 : PySem.W.nsIn K mainGlobals "_law_rests" = some (some (.ref f28))) (l28 : K.lookup f28 = some ⟨oc28, od28, .func (PySem.W.fnOf "_law_rests" "_law_rests" (defArgs s_l_rests) (defBody s_l_rests) (defScope s_l_rests) .none kV28 dc28 pm28 an28 cd28 ct28), sl28⟩) (c28 : PySem.W.codeIn K cd28 "_law_rests" = true) (k28 : PySem.W.keepIn K (.ref f28) = true)
    (a29 : PySem.W.nsIn K mainGlobals "_law_number" = some (some (.ref f29))) (l29 : K.lookup f29 = some ⟨oc29, od29, .func (PySem.W.fnOf "_law_number" "_law_number" (defArgs s_l_number) (defBody s_l_number) (defScope s_l_number) .none kV29 dc29 pm29 an29 cd29 ct29), sl29⟩) (c29 : PySem.W.codeIn K cd29 "_law_number" = true) (k29 : PySem.W.keepIn K (.ref f29) = true)
    (a30 : PySem.W.nsIn K mainGlobals "_law_rounding" = some (some (.ref f30))) (l30 : K.lookup f30 = some ⟨oc30, od30, .func (PySem.W.fnOf "_law_rounding" "_law_rounding" (defArgs s_l_rounding) (defBody s_l_rounding) (defScope s_l_rounding) .none kV30 dc30 pm30 an30 cd30 ct30), sl30⟩) (c30 : PySem.W.codeIn K cd30 "_law_rounding" = true) (k30 : PySem.W.keepIn K (.ref f30) = true)
    (a31 : PySem.W.nsIn K mainGlobals "_law_numbers" = some (some (.ref f31))) (l31 : K.lookup f31 = some ⟨oc31, od31, .func (PySem.W.fnOf "_law_numbers" "_law_numbers" (defArgs s_l_numbers) (defBody s_l_numbers) (defScope s_l_numbers) .none kV31 dc31 pm31 an31 cd31 ct31), sl31⟩) (c31 : PySem.W.codeIn K cd31 "_law_numbers" = true) (k31 : PySem.W.keepIn K (.ref f31) = true)
    (a32 : PySem.W.nsIn K mainGlobals "_law_ends" = some (some (.ref f32))) (l32 : K.lookup f32 = some ⟨oc32, od32, .func (PySem.W.fnOf "_law_ends" "_law_ends" (defArgs s_l_ends) (defBody s_l_ends) (defScope s_l_ends) .none kV32 dc32 pm32 an32 cd32 ct32), sl32⟩) (c32 : PySem.W.codeIn K cd32 "_law_ends" = true) (k32 : PySem.W.keepIn K (.ref f32) = true)
    (a33 : PySem.W.nsIn K mainGlobals "_law_both" = some (some (.ref f33))) (l33 : K.lookup f33 = some ⟨oc33, od33, .func (PySem.W.fnOf "_law_both" "_law_both" (defArgs s_l_both) (defBody s_l_both) (defScope s_l_both) .none kV33 dc33 pm33 an33 cd33 ct33), sl33⟩) (c33 : PySem.W.codeIn K cd33 "_law_both" = true) (k33 : PySem.W.keepIn K (.ref f33) = true)
    (a34 : PySem.W.nsIn K mainGlobals "_law_sure" = some (some (.ref f34))) (l34 : K.lookup f34 = some ⟨oc34, od34, .func (PySem.W.fnOf "_law_sure" "_law_sure" (defArgs s_l_sure) (defBody s_l_sure) (defScope s_l_sure) .none kV34 dc34 pm34 an34 cd34 ct34), sl34⟩) (c34 : PySem.W.codeIn K cd34 "_law_sure" = true) (k34 : PySem.W.keepIn K (.ref f34) = true)
    (a35 : PySem.W.nsIn K mainGlobals "law" = some (some (.ref f35))) (l35 : K.lookup f35 = some ⟨oc35, od35, .func (PySem.W.fnOf "law" "law" (defArgs s_law) (defBody s_law) (defScope s_law) .none kV35 dc35 pm35 an35 cd35 ct35), sl35⟩) (c35 : PySem.W.codeIn K cd35 "law" = true) (k35 : PySem.W.keepIn K (.ref f35) = true)
    (z1 : PySem.W.nsIn K mainGlobals "all" = some none)
    (z2 : PySem.W.nsIn K mainGlobals "bool" = some none)
    (z3 : PySem.W.nsIn K mainGlobals "divmod" = some none)
    (z4 : PySem.W.nsIn K mainGlobals "int" = some none)
    (z5 : PySem.W.nsIn K mainGlobals "isinstance" = some none)
    (z6 : PySem.W.nsIn K mainGlobals "len" = some none)
    (z7 : PySem.W.nsIn K mainGlobals "list" = some none)
    (z8 : PySem.W.nsIn K mainGlobals "range" = some none)
    (z9 : PySem.W.nsIn K mainGlobals "reversed" = some none)
    (z10 : PySem.W.nsIn K mainGlobals "str" = some none)
    (z11 : PySem.W.nsIn K mainGlobals "tuple" = some none)
    {pc1 : Addr} {oc1x : Option Addr} {os1x : Array (Option Value)} {on1x : Nat} {tk1_0 : Tok} {tk1_1 : Tok} {tk1_2 : Tok} {tk1_3 : Tok} (ca1 : PySem.W.nsIn K mainGlobals "WORDS" = some (some (.ref pc1))) (cl1 : K.lookup pc1 = some ⟨.type "tuple", oc1x, .seq #[.str "plus" tk1_0, .str "less" tk1_1, .str "times" tk1_2, .str "over" tk1_3] on1x, os1x⟩)
    : Txt K mg :=
  ⟨defAt_mk (ps := ["thing"]) l1 c1 k1 (PySem.W.mg_of X G a1) (fun _ _ _ _ _ _ us hl => match us, hl with | [_], _ => rfl),
    defAt_mk (ps := ["thing"]) l2 c2 k2 (PySem.W.mg_of X G a2) (fun _ _ _ _ _ _ us hl => match us, hl with | [_], _ => rfl),
    defAt_mk (ps := ["thing"]) l3 c3 k3 (PySem.W.mg_of X G a3) (fun _ _ _ _ _ _ us hl => match us, hl with | [_], _ => rfl),
    defAt_mk (ps := ["thing"]) l4 c4 k4 (PySem.W.mg_of X G a4) (fun _ _ _ _ _ _ us hl => match us, hl with | [_], _ => rfl),
    defAt_mk (ps := ["thing"]) l5 c5 k5 (PySem.W.mg_of X G a5) (fun _ _ _ _ _ _ us hl => match us, hl with | [_], _ => rfl),
    defAt_mk (ps := ["thing"]) l6 c6 k6 (PySem.W.mg_of X G a6) (fun _ _ _ _ _ _ us hl => match us, hl with | [_], _ => rfl),
    defAt_mk (ps := ["quotients"]) l7 c7 k7 (PySem.W.mg_of X G a7) (fun _ _ _ _ _ _ us hl => match us, hl with | [_], _ => rfl),
    defAt_mk (ps := ["chain"]) l8 c8 k8 (PySem.W.mg_of X G a8) (fun _ _ _ _ _ _ us hl => match us, hl with | [_], _ => rfl),
    defAt_mk (ps := ["top", "bottom"]) l9 c9 k9 (PySem.W.mg_of X G a9) (fun _ _ _ _ _ _ us hl => match us, hl with | [_, _], _ => rfl),
    defAt_mk (ps := ["begun"]) l10 c10 k10 (PySem.W.mg_of X G a10) (fun _ _ _ _ _ _ us hl => match us, hl with | [_], _ => rfl),
    defAt_mk (ps := ["word"]) l11 c11 k11 (PySem.W.mg_of X G a11) (fun _ _ _ _ _ _ us hl => match us, hl with | [_], _ => rfl),
    defAt_mk (ps := ["word", "one", "other"]) l12 c12 k12 (PySem.W.mg_of X G a12) (fun _ _ _ _ _ _ us hl => match us, hl with | [_, _, _], _ => rfl),
    defAt_mk (ps := ["word", "one", "other"]) l13 c13 k13 (PySem.W.mg_of X G a13) (fun _ _ _ _ _ _ us hl => match us, hl with | [_, _, _], _ => rfl),
    defAt_mk (ps := ["thing"]) l14 c14 k14 (PySem.W.mg_of X G a14) (fun _ _ _ _ _ _ us hl => match us, hl with | [_], _ => rfl),
    defAt_mk (ps := ["number"]) l15 c15 k15 (PySem.W.mg_of X G a15) (fun _ _ _ _ _ _ us hl => match us, hl with | [_], _ => rfl),
    defAt_mk (ps := ["word", "one", "other"]) l16 c16 k16 (PySem.W.mg_of X G a16) (fun _ _ _ _ _ _ us hl => match us, hl with | [_, _, _], _ => rfl),
    defAt_mk (ps := ["word", "one", "other"]) l17 c17 k17 (PySem.W.mg_of X G a17) (fun _ _ _ _ _ _ us hl => match us, hl with | [_, _, _], _ => rfl),
    defAt_mk (ps := ["ends"]) l18 c18 k18 (PySem.W.mg_of X G a18) (fun _ _ _ _ _ _ us hl => match us, hl with | [_], _ => rfl),
    defAt_mk (ps := ["number", "is_low", "great"]) l19 c19 k19 (PySem.W.mg_of X G a19) (fun _ _ _ _ _ _ us hl => match us, hl with | [_, _, _], _ => rfl),
    defAt_mk (ps := ["word", "one", "other", "is_low", "great"]) l20 c20 k20 (PySem.W.mg_of X G a20) (fun _ _ _ _ _ _ us hl => match us, hl with | [_, _, _, _, _], _ => rfl),
    defAt_mk (ps := ["word", "pair", "place"]) l21 c21 k21 (PySem.W.mg_of X G a21) (fun _ _ _ _ _ _ us hl => match us, hl with | [_, _, _], _ => rfl),
    defAt_mk (ps := ["word", "one", "other"]) l22 c22 k22 (PySem.W.mg_of X G a22) (fun _ _ _ _ _ _ us hl => match us, hl with | [_, _, _], _ => rfl),
    defAt_mk (ps := ["_law_cell", "_law_k"]) l23 c23 k23 (PySem.W.mg_of X G a23) (fun _ _ _ _ _ _ us hl => match us, hl with | [_, _], _ => rfl),
    defAt_mk (ps := ["_law_cell"]) l24 c24 k24 (PySem.W.mg_of X G a24) (fun _ _ _ _ _ _ us hl => match us, hl with | [_], _ => rfl),
    defAt_mk (ps := ["_law_quotients"]) l25 c25 k25 (PySem.W.mg_of X G a25) (fun _ _ _ _ _ _ us hl => match us, hl with | [_], _ => rfl),
    defAt_mk (ps := ["_law_cells"]) l26 c26 k26 (PySem.W.mg_of X G a26) (fun _ _ _ _ _ _ us hl => match us, hl with | [_], _ => rfl),
    defAt_mk (ps := ["_law_word", "_law_one", "_law_other"]) l27 c27 k27 (PySem.W.mg_of X G a27) (fun _ _ _ _ _ _ us hl => match us, hl with | [_, _, _], _ => rfl),
    defAt_mk (ps := ["_law_top", "_law_bottom", "_law_many"]) l28 c28 k28 (PySem.W.mg_of X G a28) (fun _ _ _ _ _ _ us hl => match us, hl with | [_, _, _], _ => rfl),
    defAt_mk (ps := ["_law_quotients", "_law_whole_here", "_law_k"]) l29 c29 k29 (PySem.W.mg_of X G a29) (fun _ _ _ _ _ _ us hl => match us, hl with | [_, _, _], _ => rfl),
    defAt_mk (ps := ["_law_word", "_law_quotients", "_law_more"]) l30 c30 k30 (PySem.W.mg_of X G a30) (fun _ _ _ _ _ _ us hl => match us, hl with | [_, _, _], _ => rfl),
    defAt_mk (ps := ["_law_script"]) l31 c31 k31 (PySem.W.mg_of X G a31) (fun _ _ _ _ _ _ us hl => match us, hl with | [_], _ => rfl),
    defAt_mk (ps := ["_law_number_here"]) l32 c32 k32 (PySem.W.mg_of X G a32) (fun _ _ _ _ _ _ us hl => match us, hl with | [_], _ => rfl),
    defAt_mk (ps := ["_law_word", "_law_one", "_law_other"]) l33 c33 k33 (PySem.W.mg_of X G a33) (fun _ _ _ _ _ _ us hl => match us, hl with | [_, _, _], _ => rfl),
    defAt_mk (ps := ["_law_word", "_law_one", "_law_other"]) l34 c34 k34 (PySem.W.mg_of X G a34) (fun _ _ _ _ _ _ us hl => match us, hl with | [_, _, _], _ => rfl),
    lawAt_mk (ps := ["_law_script"]) l35 c35 k35 (PySem.W.mg_of X G a35) (fun _ _ => .of_eq rfl),
    PySem.W.mg_none_of X G z1,
    PySem.W.mg_none_of X G z2,
    PySem.W.mg_none_of X G z3,
    PySem.W.mg_none_of X G z4,
    PySem.W.mg_none_of X G z5,
    PySem.W.mg_none_of X G z6,
    PySem.W.mg_none_of X G z7,
    PySem.W.mg_none_of X G z8,
    PySem.W.mg_none_of X G z9,
    PySem.W.mg_none_of X G z10,
    PySem.W.mg_none_of X G z11,
    ⟨⟨_, PySem.W.mg_of X G ca1, fun _ => .inr ⟨_, _, _, cl1, rfl, rfl, by show 4 ≤ sizeLine; decide, .cons ⟨_, rfl⟩ (.cons ⟨_, rfl⟩ (.cons ⟨_, rfl⟩ (.cons ⟨_, rfl⟩ (.nil))))⟩⟩⟩⟩
theorem law_mk {P : Program} {w : World} {K : PySem.W.Frag} {mg : Str → Option Value} {fa : Addr} (ht : P.given.tree = none) (hfa : mg "law" = some (.ref fa)) (T : Txt K mg) :
    ∃ fd : FuncData, (∀ (s : Shared) (v : Value), BindsTo s fd ⟨[v], []⟩ [("_law_script", v)]) ∧ ∀ base : Heap, base.NoSeer → FnOk P w K mg base CX0 42 fa fd ["_law_script"] (spLaw K) := by
  obtain ⟨f, fd, F, m, b⟩ := T.d_law.ex
  cases hfa.symm.trans m
  exact ⟨fd, b, fun base NS => ok_law T NS ht F⟩

end Cs
open PySem PySem.W PyProof.Rows
set_option maxHeartbeats 0 in
theorem PySem.Challenge.cw_chainsum_k13_all_that_is_sure_holds : PySem.Challenge.rw_chainsum_k13_all_that_is_sure.Holds := by
  w_on; o_law; k_head; (case hw => w_witness2)
  k_fill
  refine Cs.walkS (l := PySem.Challenge.rw_chainsum_k13_all_that_is_sure) (k := 42) rfl rfl ⟨rfl, by decide, by decide⟩ (by decide +kernel) (fun w h Y => PySem.W.kIn_of Y) ?F
  case F =>
    intro w mg fa h KX G hmg
    refine Cs.law_mk rfl hmg ?T
    refine' Cs.txt_mk KX G ?a1 ?l1 ?c1 ?k1 ?a2 ?l2 ?c2 ?k2 ?a3 ?l3 ?c3 ?k3 ?a4 ?l4 ?c4 ?k4 ?a5 ?l5 ?c5 ?k5 ?a6 ?l6 ?c6 ?k6 ?a7 ?l7 ?c7 ?k7 ?a8 ?l8 ?c8 ?k8 ?a9 ?l9 ?c9 ?k9 ?a10 ?l10 ?c10 ?k10 ?a11 ?l11 ?c11 ?k11 ?a12 ?l12 ?c12 ?k12 ?a13 ?l13 ?c13 ?k13 ?a14 ?l14 ?c14 ?k14 ?a15 ?l15 ?c15 ?k15 ?a16 ?l16 ?c16 ?k16 ?a17 ?l17 ?c17 ?k17 ?a18 ?l18 ?c18 ?k18 ?a19 ?l19 ?c19 ?k19 ?a20 ?l20 ?c20 ?k20 ?a21 ?l21 ?c21 ?k21 ?a22 ?l22 ?c22 ?k22 ?a23 ?l23 ?c23 ?k23 ?a24 ?l24 ?c24 ?k24 ?a25 ?l25 ?c25 ?k25 ?a26 ?l26 ?c26 ?k26 ?a27 ?l27 ?c27 ?k27 ?a28 ?l28 ?c28 ?k28 ?a29 ?l29 ?c29 ?k29 ?a30 ?l30 ?c30 ?k30 ?a31 ?l31 ?c31 ?k31 ?a32 ?l32 ?c32 ?k32 ?a33 ?l33 ?c33 ?k33 ?a34 ?l34 ?c34 ?k34 ?a35 ?l35 ?c35 ?k35 ?z1 ?z2 ?z3 ?z4 ?z5 ?z6 ?z7 ?z8 ?z9 ?z10 ?z11 ?ca1 ?cl1
    (case a1 => k_is)
    (case l1 => k_is)
    (case c1 => k_is)
    (case k1 => k_is)
    (case a2 => k_is)
    (case l2 => k_is)
    (case c2 => k_is)
    (case k2 => k_is)
    (case a3 => k_is)
    (case l3 => k_is)
    (case c3 => k_is)
    (case k3 => k_is)
    (case a4 => k_is)
    (case l4 => k_is)
    (case c4 => k_is)
    (case k4 => k_is)
    (case a5 => k_is)
    (case l5 => k_is)
    (case c5 => k_is)
    (case k5 => k_is)
    (case a6 => k_is)
    (case l6 => k_is)
    (case c6 => k_is)
    (case k6 => k_is)
    (case a7 => k_is)
    (case l7 => k_is)
    (case c7 => k_is)
    (case k7 => k_is)
    (case a8 => k_is)
    (case l8 => k_is)
    (case c8 => k_is)
    (case k8 => k_is)
    (case a9 => k_is)
    (case l9 => k_is)
    (case c9 => k_is)
    (case k9 => k_is)
    (case a10 => k_is)
    (case l10 => k_is)
    (case c10 => k_is)
    (case k10 => k_is)
    (case a11 => k_is)
    (case l11 => k_is)
    (case c11 => k_is)
    (case k11 => k_is)
    (case a12 => k_is)
    (case l12 => k_is)
    (case c12 => k_is)
    (case k12 => k_is)
    (case a13 => k_is)
    (case l13 => k_is)
    (case c13 => k_is)
    (case k13 => k_is)
    (case a14 => k_is)
    (case l14 => k_is)
    (case c14 => k_is)
    (case k14 => k_is)
    (case a15 => k_is)
    (case l15 => k_is)
    (case c15 => k_is)
    (case k15 => k_is)
    (case a16 => k_is)
    (case l16 => k_is)
    (case c16 => k_is)
    (case k16 => k_is)
    (case a17 => k_is)
    (case l17 => k_is)
    (case c17 => k_is)
    (case k17 => k_is)
    (case a18 => k_is)
    (case l18 => k_is)
    (case c18 => k_is)
    (case k18 => k_is)
    (case a19 => k_is)
    (case l19 => k_is)
    (case c19 => k_is)
    (case k19 => k_is)
    (case a20 => k_is)
    (case l20 => k_is)
    (case c20 => k_is)
    (case k20 => k_is)
    (case a21 => k_is)
    (case l21 => k_is)
    (case c21 => k_is)
    (case k21 => k_is)
    (case a22 => k_is)
    (case l22 => k_is)
    (case c22 => k_is)
    (case k22 => k_is)
    (case a23 => k_is)
    (case l23 => k_is)
    (case c23 => k_is)
    (case k23 => k_is)
    (case a24 => k_is)
    (case l24 => k_is)
    (case c24 => k_is)
    (case k24 => k_is)
    (case a25 => k_is)
    (case l25 => k_is)
    (case c25 => k_is)
    (case k25 => k_is)
    (case a26 => k_is)
    (case l26 => k_is)
    (case c26 => k_is)
    (case k26 => k_is)
    (case a27 => k_is)
    (case l27 => k_is)
    (case c27 => k_is)
    (case k27 => k_is)
    (case a28 => k_is)
    (case l28 => k_is)
    (case c28 => k_is)
    (case k28 => k_is)
    (case a29 => k_is)
    (case l29 => k_is)
    (case c29 => k_is)
    (case k29 => k_is)
    (case a30 => k_is)
    (case l30 => k_is)
    (case c30 => k_is)
    (case k30 => k_is)
    (case a31 => k_is)
    (case l31 => k_is)
    (case c31 => k_is)
    (case k31 => k_is)
    (case a32 => k_is)
    (case l32 => k_is)
    (case c32 => k_is)
    (case k32 => k_is)
    (case a33 => k_is)
    (case l33 => k_is)
    (case c33 => k_is)
    (case k33 => k_is)
    (case a34 => k_is)
    (case l34 => k_is)
    (case c34 => k_is)
    (case k34 => k_is)
    (case a35 => k_is)
    (case l35 => k_is)
    (case c35 => k_is)
    (case k35 => k_is)
    (case z1 => k_is)
    (case z2 => k_is)
    (case z3 => k_is)
    (case z4 => k_is)
    (case z5 => k_is)
    (case z6 => k_is)
    (case z7 => k_is)
    (case z8 => k_is)
    (case z9 => k_is)
    (case z10 => k_is)
    (case z11 => k_is)
    (case ca1 => k_is)
    (case cl1 => k_is)
