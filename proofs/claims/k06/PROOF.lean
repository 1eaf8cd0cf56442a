import PyProof.Rows.All
import Wide.All
import OpenK.AllK
import Wide.FinOn
import HandS.ForMost
import HandS.ForExc
import HandS.Wide
import HandS.WideBits
import HandS.Flow
import HandS.Style
import HandS.IsInst
import HandS.TupAny
import HandS.Evl
import PySem.Challenge.RW_chainsum_k06_whole_within_and_beside
set_option Elab.async false
set_option linter.all false
set_option maxRecDepth 100000
set_option maxHeartbeats 2000000

namespace Cm
/-! ### chains: what quotients tell, and Euclid's quotients -/
def W : List Int → Int × Int
  | [] => (1, 0)
  | q :: r => (q * (W r).1 + (W r).2, (W r).1)
theorem W_nil : W [] = (1, 0) := rfl
theorem W_cons (q : Int) (r : List Int) : W (q :: r) = (q * (W r).1 + (W r).2, (W r).1) := rfl
theorem W_one (q : Int) : W [q] = (q, 1) := by rw [W_cons, W_nil]; simp
def euc (t b : Int) : List Int := if h : 0 < b then t / b :: euc b (t % b) else []
  termination_by b.toNat
  decreasing_by
    have h1 := Int.emod_lt_of_pos t h
    have h2 := Int.emod_nonneg t (show b ≠ 0 by omega)
    omega
theorem euc_pos {t b : Int} (h : 0 < b) : euc t b = t / b :: euc b (t % b) := by rw [euc]; rw [dif_pos h]
theorem euc_zero {t b : Int} (h : ¬ 0 < b) : euc t b = [] := by rw [euc]; rw [dif_neg h]
/-- behind the first quotient of a chain of several -/
def Tl : List Int → Prop
  | [] => False
  | [x] => 2 ≤ x
  | x :: y :: r => 1 ≤ x ∧ Tl (y :: r)
def Ch : List Int → Prop
  | [] => False
  | [_] => True
  | _ :: y :: r => Tl (y :: r)
theorem Tl.ch : ∀ {l : List Int}, Tl l → Ch l
  | [], h => h
  | [_], _ => trivial
  | _ :: _ :: _, h => h.2
theorem Tl.pos1 : ∀ {l : List Int}, Tl l → ∀ x ∈ l, 1 ≤ x
  | [], h, _, _ => h.elim
  | [a], h, x, hx => by
    rw [List.mem_singleton] at hx
    subst hx
    have : 2 ≤ x := h
    omega
  | a :: b :: r, h, x, hx => by
    rcases List.mem_cons.mp hx with rfl | hx
    · exact h.1
    · exact Tl.pos1 h.2 x hx
theorem Tl.w : ∀ {l : List Int}, Tl l → 1 ≤ (W l).2 ∧ (W l).2 < (W l).1
  | [], h => h.elim
  | [x], h => by
    have h2 : 2 ≤ x := h
    rw [W_one]
    show (1 : Int) ≤ 1 ∧ 1 < x
    omega
  | x :: y :: r, h => by
    have ih := Tl.w (l := y :: r) h.2
    have h1 : 1 ≤ x := h.1
    rw [W_cons]
    show 1 ≤ (W (y :: r)).1 ∧ (W (y :: r)).1 < x * (W (y :: r)).1 + (W (y :: r)).2
    have := Int.mul_le_mul_of_nonneg_right h1 (show 0 ≤ (W (y :: r)).1 by omega)
    omega
theorem Ch.bot {l : List Int} (h : Ch l) : 1 ≤ (W l).2 := by
  cases l with
  | nil => exact h.elim
  | cons x r =>
    cases r with
    | nil => rw [W_one]; exact Int.le_refl 1
    | cons y r =>
      have := Tl.w (l := y :: r) h
      rw [W_cons]
      show 1 ≤ (W (y :: r)).1
      omega
theorem div_of {t b q r : Int} (e : t = q * b + r) (h0 : 0 ≤ r) (h1 : r < b) : t / b = q ∧ t % b = r := by
  have hb : b ≠ 0 := by omega
  subst e
  rw [Int.add_comm, Int.add_mul_ediv_right _ _ hb, Int.add_mul_emod_self_right, Int.ediv_eq_zero_of_lt h0 h1, Int.emod_eq_of_lt h0 h1]
  simp
/-- the chain of a fraction that a chain tells is this chain -/
theorem euc_W : ∀ {l : List Int} {k : Int}, Ch l → 0 < k → euc (k * (W l).1) (k * (W l).2) = l
  | [], k, h, _ => h.elim
  | [x], k, _, hk => by
    rw [W_one]
    show euc (k * x) (k * 1) = [x]
    obtain ⟨e1, e2⟩ := div_of (t := k * x) (b := k * 1) (q := x) (r := 0) (by grind) (by omega) (by omega)
    rw [euc_pos (by omega), e1, e2, euc_zero (by omega)]
  | x :: y :: r, k, h, hk => by
    have ih := euc_W (l := y :: r) (k := k) (Tl.ch h) hk
    obtain ⟨w1, w2⟩ := Tl.w (l := y :: r) h
    rw [W_cons]
    show euc (k * (x * (W (y :: r)).1 + (W (y :: r)).2)) (k * (W (y :: r)).1) = x :: y :: r
    generalize W (y :: r) = z at *
    obtain ⟨a, b⟩ := z
    have p1 : 0 < k * b := Int.mul_pos hk (by show 0 < b; exact w1)
    have p2 : k * b < k * a := Int.mul_lt_mul_of_pos_left w2 hk
    obtain ⟨e1, e2⟩ := div_of (t := k * (x * a + b)) (b := k * a) (q := x) (r := k * b) (by grind) (by omega) p2
    show euc (k * (x * a + b)) (k * a) = x :: y :: r
    rw [euc_pos (Int.lt_trans p1 p2), e1, e2]
    show x :: euc (k * a) (k * b) = x :: y :: r
    rw [ih]
theorem euc_W1 {l : List Int} (h : Ch l) : euc (W l).1 (W l).2 = l := by
  have := euc_W (k := 1) h (by omega)
  rwa [Int.one_mul, Int.one_mul] at this
/-- Euclid's quotients of a fraction above 1 -/
theorem euc_big : ∀ (n : Nat) {t b : Int}, b.toNat ≤ n → 0 < b → b < t → Tl (euc t b) ∧ ∃ g, 0 < g ∧ t = g * (W (euc t b)).1 ∧ b = g * (W (euc t b)).2
  | n, t, b, hn, hb, hlt => by
    have r0 := Int.emod_nonneg t (show b ≠ 0 by omega)
    have r1 := Int.emod_lt_of_pos t hb
    have et := Int.mul_ediv_add_emod t b
    rw [euc_pos hb]
    generalize hq : t / b = q at *
    generalize hr : t % b = r at *
    by_cases h : 0 < r
    · obtain ⟨m, rfl⟩ : ∃ m, n = m + 1 := ⟨n - 1, by omega⟩
      obtain ⟨i1, g, i2, i3, i4⟩ := euc_big m (t := b) (b := r) (by omega) h r1
      have q1 : 1 ≤ q := by
        rcases Int.lt_or_le 0 q with z | z
        · exact z
        · have := Int.mul_le_mul_of_nonneg_left z (show 0 ≤ b by omega)
          omega
      generalize hl : euc b r = l at *
      cases l with
      | nil => exact i1.elim
      | cons y s =>
        refine ⟨⟨q1, i1⟩, g, i2, ?_, ?_⟩
        · rw [W_cons]; show t = g * (q * (W (y :: s)).1 + (W (y :: s)).2); grind
        · rw [W_cons]; exact i3
    · have e0 : r = 0 := by omega
      subst e0
      rw [euc_zero (by omega)]
      have q2 : 2 ≤ q := by
        rcases Int.lt_or_le 1 q with z | z
        · exact z
        · have := Int.mul_le_mul_of_nonneg_left z (show 0 ≤ b by omega)
          omega
      refine ⟨q2, b, hb, ?_, ?_⟩
      · rw [W_one]; show t = b * q; omega
      · rw [W_one]; show b = b * 1; omega
theorem euc_ok {t b : Int} (hb : 0 < b) : Ch (euc t b) ∧ ∃ g, 0 < g ∧ t = g * (W (euc t b)).1 ∧ b = g * (W (euc t b)).2 := by
  have r0 := Int.emod_nonneg t (show b ≠ 0 by omega)
  have r1 := Int.emod_lt_of_pos t hb
  have et := Int.mul_ediv_add_emod t b
  rw [euc_pos hb]
  generalize hq : t / b = q at *
  generalize hr : t % b = r at *
  by_cases h : 0 < r
  · obtain ⟨i1, g, i2, i3, i4⟩ := euc_big _ (t := b) (b := r) (Nat.le_refl _) h r1
    generalize hl : euc b r = l at *
    cases l with
    | nil => exact i1.elim
    | cons y s =>
      refine ⟨i1, g, i2, ?_, ?_⟩
      · rw [W_cons]; show t = g * (q * (W (y :: s)).1 + (W (y :: s)).2); grind
      · rw [W_cons]; exact i3
  · have e0 : r = 0 := by omega
    subst e0
    rw [euc_zero (by omega)]
    refine ⟨trivial, b, hb, ?_, ?_⟩
    · rw [W_one]; show t = b * q; omega
    · rw [W_one]; show b = b * 1; omega
/-- the same fraction, the same chain -/
theorem euc_same {t b t' b' : Int} (hb : 0 < b) (hb' : 0 < b') (e : t * b' = t' * b) : euc t b = euc t' b' := by
  obtain ⟨c1, g1, p1, a1, d1⟩ := euc_ok (t := t) hb
  obtain ⟨c2, g2, p2, a2, d2⟩ := euc_ok (t := t') hb'
  have x1 := euc_W (k := g1 * b') c1 (Int.mul_pos p1 hb')
  have x2 := euc_W (k := g2 * b) c2 (Int.mul_pos p2 hb)
  have k1 : g1 * b' * (W (euc t b)).1 = g2 * b * (W (euc t' b')).1 := by grind
  have k2 : g1 * b' * (W (euc t b)).2 = g2 * b * (W (euc t' b')).2 := by grind
  rw [k1, k2, x2] at x1
  exact x1.symm
/-- a chain is that of its fraction, in any terms -/
theorem euc_of {t b : Int} {l : List Int} (hb : 0 < b) (c : Ch l) (e : t * (W l).2 = (W l).1 * b) : euc t b = l := by
  rw [euc_same hb (show 0 < (W l).2 from Ch.bot c) e, euc_W1 c]
theorem euc_len : ∀ (n : Nat) {t b : Int}, 0 < b → b < 2 ^ n → (euc t b).length ≤ 2 * n
  | 0, t, b, h0, h => by
    simp at h
    omega
  | n + 1, t, b, h0, h => by
    have r0 := Int.emod_nonneg t (show b ≠ 0 by omega)
    have r1 := Int.emod_lt_of_pos t h0
    rw [euc_pos h0]
    generalize t % b = r at *
    by_cases hr : 0 < r
    · rw [euc_pos hr]
      have s0 := Int.emod_nonneg b (show r ≠ 0 by omega)
      have s1 := Int.emod_lt_of_pos b hr
      have es := Int.mul_ediv_add_emod b r
      have q1 : 1 ≤ b / r := by
        have := Int.le_ediv_of_mul_le hr (show 1 * r ≤ b by omega)
        exact this
      have q2 := Int.mul_le_mul_of_nonneg_left q1 (show 0 ≤ r by omega)
      generalize b / r = q at *
      generalize b % r = s at *
      rw [Int.pow_succ] at h
      by_cases hs : 0 < s
      · have ih := euc_len n (t := r) (b := s) hs (by omega)
        simp only [List.length_cons]
        omega
      · rw [euc_zero hs]
        simp only [List.length_cons, List.length_nil]
        omega
    · rw [euc_zero hr]
      simp only [List.length_cons, List.length_nil]
      omega
def sg (p : Nat) : Int := if p % 2 = 0 then 1 else -1
theorem sg_succ (p : Nat) : sg (p + 1) = - sg p := by
  unfold sg
  split <;> split <;> omega
def sgn (i : Int) : Int := if 0 < i then 1 else if i < 0 then -1 else 0
theorem sgn_neg (i : Int) : sgn (-i) = - sgn i := by
  unfold sgn
  split <;> split <;> (try split) <;> omega
theorem sgn_pos {i : Int} (h : 0 < i) : sgn i = 1 := if_pos h
theorem sgn_lt {i : Int} (h : i < 0) : sgn i = -1 := by
  unfold sgn
  rw [if_neg (by omega), if_pos h]
end Cm

namespace Cm
/-! ### continuants: what a list tells, as its last part varies -/
def Mx : List Int → (Int × Int) × (Int × Int)
  | [] => ((1, 0), (0, 1))
  | q :: r => ((q * (Mx r).1.1 + (Mx r).2.1, q * (Mx r).1.2 + (Mx r).2.2), ((Mx r).1.1, (Mx r).1.2))
theorem Mx_cons (q : Int) (r : List Int) : Mx (q :: r) = ((q * (Mx r).1.1 + (Mx r).2.1, q * (Mx r).1.2 + (Mx r).2.2), ((Mx r).1.1, (Mx r).1.2)) := rfl
theorem W_app : ∀ l r : List Int, W (l ++ r) = ((Mx l).1.1 * (W r).1 + (Mx l).1.2 * (W r).2, (Mx l).2.1 * (W r).1 + (Mx l).2.2 * (W r).2)
  | [], r => by
    show W r = (1 * (W r).1 + 0 * (W r).2, 0 * (W r).1 + 1 * (W r).2)
    simp
  | q :: l, r => by
    rw [List.cons_append, W_cons, W_app l r, Mx_cons]
    dsimp only
    congr 1
    grind
theorem Mx_det : ∀ l : List Int, (Mx l).1.1 * (Mx l).2.2 - (Mx l).1.2 * (Mx l).2.1 = sg l.length
  | [] => rfl
  | q :: l => by
    have ih := Mx_det l
    rw [List.length_cons, sg_succ, ← ih, Mx_cons]
    dsimp only
    grind
theorem W_snoc (l : List Int) (x : Int) : W (l ++ [x]) = ((Mx l).1.1 * x + (Mx l).1.2, (Mx l).2.1 * x + (Mx l).2.2) := by
  rw [W_app, W_one]
  dsimp only
  rw [Int.mul_one, Int.mul_one]
/-- the list with its last quotient one greater -/
def up (l : List Int) : List Int := l.dropLast ++ [l.getLastD 0 + 1]
theorem up_snoc (l : List Int) (x : Int) : up (l ++ [x]) = l ++ [x + 1] := by
  unfold up
  rw [List.dropLast_concat, List.getLastD_concat]
theorem snoc_of {l : List Int} (h : l ≠ []) : ∃ i x, l = i ++ [x] := by
  rcases List.eq_nil_or_concat l with rfl | ⟨s, y, rfl⟩
  · exact absurd rfl h
  · exact ⟨s, y, List.concat_eq_append⟩
/-- one greater against as it stands -/
theorem up_cross (i : List Int) (x : Int) : (W (up (i ++ [x]))).1 * (W (i ++ [x])).2 - (W (i ++ [x])).1 * (W (up (i ++ [x]))).2 = sg i.length := by
  rw [up_snoc, W_snoc, W_snoc, ← Mx_det i]
  dsimp only
  grind
theorem go_cross (i : List Int) (x : Int) (r : List Int) : (W (i ++ [x] ++ r)).1 * (W (i ++ [x])).2 - (W (i ++ [x])).1 * (W (i ++ [x] ++ r)).2 = (W r).2 * sg i.length := by
  rw [List.append_assoc, W_app i ([x] ++ r), W_snoc, ← Mx_det i]
  show _ = _
  rw [List.singleton_append, W_cons]
  dsimp only
  grind
theorem go_up (i : List Int) (x : Int) (r : List Int) : (W (up (i ++ [x]))).1 * (W (i ++ [x] ++ r)).2 - (W (i ++ [x] ++ r)).1 * (W (up (i ++ [x]))).2 = ((W r).1 - (W r).2) * sg i.length := by
  rw [up_snoc, List.append_assoc, W_app i ([x] ++ r), W_snoc, ← Mx_det i]
  show _ = _
  rw [List.singleton_append, W_cons]
  dsimp only
  grind
/-! ### ends -/
structure En where
  lo : Int × Int
  ml : Bool
  hi : Option (Int × Int)
  mh : Bool
def endsOf (l : List Int) (met : Bool) : En :=
  if l = [] then ⟨(0, 1), false, none, false⟩ else if l.length % 2 = 1 then ⟨W l, met, some (W (up l)), false⟩ else ⟨W (up l), false, some (W l), met⟩
/-- whether a fraction lies between ends, or at one that is met -/
def betw (e : En) (f : Int × Int) : Bool :=
  if f.1 * e.lo.2 - e.lo.1 * f.2 < 0 ∨ (f.1 * e.lo.2 - e.lo.1 * f.2 = 0 ∧ e.ml = false) then false
  else match e.hi with
    | none => true
    | some h => decide (0 < h.1 * f.2 - f.1 * h.2) || (decide (h.1 * f.2 - f.1 * h.2 = 0) && e.mh)
theorem endsOf_nil (m : Bool) : endsOf [] m = ⟨(0, 1), false, none, false⟩ := if_pos rfl
theorem endsOf_odd (i : List Int) (x : Int) (m : Bool) (h : i.length % 2 = 0) : endsOf (i ++ [x]) m = ⟨W (i ++ [x]), m, some (W (up (i ++ [x]))), false⟩ := by
  unfold endsOf
  rw [if_neg (by simp), if_pos (by rw [List.length_append, List.length_singleton]; omega)]
theorem endsOf_even (i : List Int) (x : Int) (m : Bool) (h : i.length % 2 = 1) : endsOf (i ++ [x]) m = ⟨W (up (i ++ [x])), false, some (W (i ++ [x])), m⟩ := by
  unfold endsOf
  rw [if_neg (by simp), if_neg (by rw [List.length_append, List.length_singleton]; omega)]
/-- the ends of a beginning stand one unit apart, across -/
theorem ends_gap (l : List Int) (m : Bool) (h : Int × Int) (e : (endsOf l m).hi = some h) : h.1 * (endsOf l m).lo.2 - (endsOf l m).lo.1 * h.2 = 1 := by
  by_cases hn : l = []
  · subst hn
    rw [endsOf_nil] at e
    cases e
  · obtain ⟨i, x, rfl⟩ := snoc_of hn
    have c := up_cross i x
    rcases Nat.mod_two_eq_zero_or_one i.length with z | z
    · rw [endsOf_odd i x m z] at e ⊢
      cases e
      unfold sg at c
      rw [if_pos z] at c
      exact c
    · rw [endsOf_even i x m z] at e ⊢
      cases e
      unfold sg at c
      rw [if_neg (by omega)] at c
      dsimp only
      omega
/-- a fraction whose chain goes on as the beginning lies between its ends -/
theorem ends_go {l r : List Int} (m : Bool) (hr : Tl r) : betw (endsOf l m) (W (l ++ r)) = true := by
  obtain ⟨b1, ab⟩ := hr.w
  by_cases hn : l = []
  · subst hn
    rw [endsOf_nil, List.nil_append]
    unfold betw
    dsimp only
    rw [if_neg (by omega)]
  · obtain ⟨i, x, rfl⟩ := snoc_of hn
    have c1 := go_cross i x r
    have c2 := go_up i x r
    unfold sg at c1 c2
    rcases Nat.mod_two_eq_zero_or_one i.length with z | z
    · rw [endsOf_odd i x m z]
      rw [if_pos z] at c1 c2
      unfold betw
      dsimp only
      rw [if_neg (by omega), decide_eq_true (by omega), Bool.true_or]
    · rw [endsOf_even i x m z]
      rw [if_neg (by omega)] at c1 c2
      unfold betw
      dsimp only
      rw [if_neg (by omega), decide_eq_true (by omega), Bool.true_or]
theorem betw_lo (l : List Int) (m : Bool) : betw (endsOf l m) (endsOf l m).lo = (endsOf l m).ml := by
  have g := ends_gap l m
  generalize endsOf l m = e at *
  unfold betw
  have z : e.lo.1 * e.lo.2 - e.lo.1 * e.lo.2 = 0 := by omega
  rw [z]
  cases hm : e.ml with
  | false => rw [if_pos (by simp)]
  | true =>
    rw [if_neg (by simp)]
    cases hh : e.hi with
    | none => rfl
    | some h =>
      have := g h hh
      dsimp only
      rw [decide_eq_true (by omega), Bool.true_or]
theorem betw_hi (l : List Int) (m : Bool) (h : Int × Int) (e : (endsOf l m).hi = some h) : betw (endsOf l m) h = (endsOf l m).mh := by
  have g := ends_gap l m h e
  generalize endsOf l m = e at *
  unfold betw
  rw [g, if_neg (by omega), e]
  dsimp only
  have z : h.1 * h.2 - h.1 * h.2 = 0 := by omega
  rw [z]
  simp
end Cm

namespace Cm
/-! ### beginnings within one another -/
def ordE : Option (Int × Int) → Option (Int × Int) → Int
  | none, none => 0
  | none, some _ => 1
  | some _, none => -1
  | some f, some g => sgn (f.1 * g.2 - g.1 * f.2)
def wB (a b : Int) (im om ih oh : Bool) : Bool := if a < 0 ∨ b < 0 then false else !(decide (a = 0) && (im && !om)) && !(decide (b = 0) && (ih && !oh))
theorem wB_ok {a b : Int} {im om ih oh : Bool} (h1 : 0 ≤ a) (h2 : 0 ≤ b) (h3 : a = 0 → im = false) (h4 : b = 0 → ih = false) : wB a b im om ih oh = true := by
  unfold wB
  rw [if_neg (by omega)]
  by_cases e1 : a = 0
  · rw [h3 e1]
    by_cases e2 : b = 0
    · rw [h4 e2]
      simp
    · simp [e2]
  · by_cases e2 : b = 0
    · rw [h4 e2]
      simp [e1]
    · simp [e1, e2]
def withinE (i o : En) : Bool := wB (ordE (some i.lo) (some o.lo)) (ordE o.hi i.hi) i.ml o.ml i.mh o.mh
def bB (a b : Int) (am bm ah bh : Bool) : Bool := if a = 0 then ah != bm else decide (b = 0) && bh != am
def besideE (a b : En) : Bool := bB (ordE a.hi (some b.lo)) (ordE b.hi (some a.lo)) a.ml b.ml a.mh b.mh
/-- the stretch: top and bottom -/
def wide (e : En) (h : Int × Int) : Int × Int := (h.1 * e.lo.2 - e.lo.1 * h.2, e.lo.2 * h.2)
def halfE (i o : En) : Bool := match o.hi, i.hi with
  | none, none => false
  | none, some _ => true
  | some _, none => false
  | some k, some h => decide (2 * (wide i h).1 * (wide o k).2 < (wide o k).1 * (wide i h).2)
theorem Mx_snoc : ∀ (i : List Int) (q : Int), Mx (i ++ [q]) = (((Mx i).1.1 * q + (Mx i).1.2, (Mx i).1.1), ((Mx i).2.1 * q + (Mx i).2.2, (Mx i).2.1))
  | [], q => by
    show ((q * 1 + 0, q * 0 + 1), ((1 : Int), (0 : Int))) = ((1 * q + 0, 1), (0 * q + 1, 0))
    simp
  | z :: i, q => by
    rw [List.cons_append, Mx_cons, Mx_snoc i q, Mx_cons]
    dsimp only
    congr 1
    congr 1
    grind
theorem W_Mx : ∀ i : List Int, W i = ((Mx i).1.1, (Mx i).2.1) := fun i => by
  have := W_app i []
  rw [List.append_nil, W_nil] at this
  rw [this]
  dsimp only
  simp
theorem W_up {p : List Int} (h : p ≠ []) : W (up p) = ((Mx p).1.1 + (Mx p).1.2, (Mx p).2.1 + (Mx p).2.2) := by
  obtain ⟨i, q, rfl⟩ := snoc_of h
  rw [up_snoc, W_snoc, Mx_snoc]
  dsimp only
  congr 1 <;> grind
theorem sgn_nn {i : Int} (h : 0 ≤ i) : 0 ≤ sgn i := by
  unfold sgn
  split <;> (try split) <;> omega
theorem sgn_z {i : Int} : sgn i = 0 ↔ i = 0 := by
  unfold sgn
  split <;> (try split) <;> omega
/-- a beginning of one quotient more lies within: y the quotient, m, m' whether the ends are met -/
theorem within_ok {p : List Int} {y : Int} {m m' : Bool} (h0 : p = [] → 0 ≤ y ∧ (y = 0 → m' = false)) (h1 : p ≠ [] → 1 ≤ y ∧ (y = 1 → m' = false)) : withinE (endsOf (p ++ [y]) m') (endsOf p m) = true := by
  by_cases hp : p = []
  · subst hp
    obtain ⟨y0, ym⟩ := h0 rfl
    rw [endsOf_nil, endsOf_odd [] y m' rfl]
    rw [List.nil_append]
    have e : (W [y]).1 * 1 - 0 * (W [y]).2 = y := by rw [W_one]; dsimp only; omega
    refine wB_ok ?_ (by show (0 : Int) ≤ 1; decide) (fun z => ym ?_) (fun z => rfl)
    · show 0 ≤ sgn ((W [y]).1 * 1 - 0 * (W [y]).2)
      rw [e]
      exact sgn_nn y0
    · have z' : sgn ((W [y]).1 * 1 - 0 * (W [y]).2) = 0 := z
      rw [e] at z'
      exact sgn_z.mp z'
  · obtain ⟨y1, ym⟩ := h1 hp
    have det := Mx_det p
    have wu := W_up hp
    have wp := W_Mx p
    have ws := W_snoc p y
    have wsu := W_snoc p (y + 1)
    rcases Nat.mod_two_eq_zero_or_one p.length with z | z
    · obtain ⟨i, q, rfl⟩ := snoc_of hp
      have zi : i.length % 2 = 1 := by rw [List.length_append, List.length_singleton] at z; omega
      rw [endsOf_even i q m zi, endsOf_odd (i ++ [q]) y m' z]
      unfold sg at det
      rw [if_pos z] at det
      rw [up_snoc (i ++ [q]) y, wu, wp, ws, wsu]
      generalize Mx (i ++ [q]) = M at *
      obtain ⟨⟨a, b⟩, ⟨c, d⟩⟩ := M
      dsimp only at *
      have e1 : (a * y + b) * (c + d) - (a + b) * (c * y + d) = (a * d - b * c) * (y - 1) := by grind
      have e2 : a * (c * (y + 1) + d) - (a * (y + 1) + b) * c = a * d - b * c := by grind
      rw [det] at e1 e2
      refine wB_ok ?_ ?_ (fun k => ym ?_) (fun _ => rfl)
      · show 0 ≤ sgn ((a * y + b) * (c + d) - (a + b) * (c * y + d))
        exact sgn_nn (by omega)
      · show 0 ≤ sgn (a * (c * (y + 1) + d) - (a * (y + 1) + b) * c)
        exact sgn_nn (by omega)
      · have k' : sgn ((a * y + b) * (c + d) - (a + b) * (c * y + d)) = 0 := k
        have := sgn_z.mp k'
        omega
    · obtain ⟨i, q, rfl⟩ := snoc_of hp
      have zi : i.length % 2 = 0 := by rw [List.length_append, List.length_singleton] at z; omega
      rw [endsOf_odd i q m zi, endsOf_even (i ++ [q]) y m' z]
      unfold sg at det
      rw [if_neg (by omega)] at det
      rw [up_snoc (i ++ [q]) y, wu, wp, ws, wsu]
      generalize Mx (i ++ [q]) = M at *
      obtain ⟨⟨a, b⟩, ⟨c, d⟩⟩ := M
      dsimp only at *
      have e1 : (a + b) * (c * y + d) - (a * y + b) * (c + d) = (a * d - b * c) * (1 - y) := by grind
      have e2 : (a * (y + 1) + b) * c - a * (c * (y + 1) + d) = -(a * d - b * c) := by grind
      rw [det] at e1 e2
      refine wB_ok ?_ ?_ (fun _ => rfl) (fun k => ym ?_)
      · show 0 ≤ sgn ((a * (y + 1) + b) * c - a * (c * (y + 1) + d))
        exact sgn_nn (by omega)
      · show 0 ≤ sgn ((a + b) * (c * y + d) - (a * y + b) * (c + d))
        exact sgn_nn (by omega)
      · have k' : sgn ((a + b) * (c * y + d) - (a * y + b) * (c + d)) = 0 := k
        have := sgn_z.mp k'
        omega
theorem beside_ok {p : List Int} {x : Int} {m : Bool} : besideE (endsOf (p ++ [x]) m) (endsOf (p ++ [x + 1]) true) = true := by
  rcases Nat.mod_two_eq_zero_or_one p.length with z | z
  · rw [endsOf_odd p x m z, endsOf_odd p (x + 1) true z, up_snoc]
    have e : ordE (some (W (p ++ [x + 1]))) (some (W (p ++ [x + 1]))) = 0 := sgn_z.mpr (by omega)
    unfold besideE bB
    dsimp only
    rw [e]
    rfl
  · rw [endsOf_even p x m z, endsOf_even p (x + 1) true z, up_snoc, up_snoc]
    have det := Mx_det p
    unfold sg at det
    rw [if_neg (by omega)] at det
    have e1 : ¬ ordE (some (W (p ++ [x]))) (some (W (p ++ [x + 1 + 1]))) = 0 := fun k => by
      have := sgn_z.mp k
      rw [W_snoc, W_snoc] at this
      generalize Mx p = M at *
      obtain ⟨⟨a, b⟩, ⟨c, d⟩⟩ := M
      dsimp only at *
      have e : (a * x + b) * (c * (x + 1 + 1) + d) - (a * (x + 1 + 1) + b) * (c * x + d) = -2 * (a * d - b * c) := by grind
      omega
    have e2 : ordE (some (W (p ++ [x + 1]))) (some (W (p ++ [x + 1]))) = 0 := sgn_z.mpr (by omega)
    unfold besideE bB
    dsimp only
    rw [if_neg e1, decide_eq_true e2]
    rfl
theorem Mx_nn : ∀ {l : List Int}, (∀ x ∈ l, 1 ≤ x) → 1 ≤ (Mx l).1.1 ∧ 0 ≤ (Mx l).1.2 ∧ 0 ≤ (Mx l).2.1 ∧ 0 ≤ (Mx l).2.2
  | [], _ => by decide
  | q :: r, h => by
    obtain ⟨a, b, c, d⟩ := Mx_nn (l := r) fun x hx => h x (List.mem_cons_of_mem _ hx)
    have h1 := h q List.mem_cons_self
    rw [Mx_cons]
    dsimp only
    have e1 := Int.mul_le_mul_of_nonneg_right h1 (show 0 ≤ (Mx r).1.1 by omega)
    have e2 := Int.mul_le_mul_of_nonneg_right h1 b
    omega
theorem half_num {c d q x : Int} (hc : 1 ≤ c) (hd : 0 ≤ d) (hq : 1 ≤ q) (hx : 1 ≤ x) : 2 * (c * (c + d)) < ((c * q + d) * x + c) * ((c * q + d) * (x + 1) + c) := by
  have g1 : c + d ≤ c * q + d := by
    have := Int.mul_le_mul_of_nonneg_left hq (show 0 ≤ c by omega)
    omega
  generalize c * q + d = g at *
  have f1 : g ≤ g * x := by
    have := Int.mul_le_mul_of_nonneg_left hx (show 0 ≤ g by omega)
    omega
  have f2 : 2 * g ≤ g * (x + 1) := by
    have : g * (x + 1) = g * x + g := by grind
    omega
  have k1 : 2 * c ≤ g * x + c := by omega
  have k2 : c + d < g * (x + 1) + c := by omega
  generalize g * x + c = u at *
  generalize g * (x + 1) + c = v at *
  have s1 : 2 * c * (c + d) ≤ u * (c + d) := Int.mul_le_mul_of_nonneg_right k1 (by omega)
  have s2 : u * (c + d) < u * v := Int.mul_lt_mul_of_pos_left k2 (by omega)
  have : 2 * (c * (c + d)) = 2 * c * (c + d) := by grind
  omega
theorem wide_ends (l : List Int) (m : Bool) (k : Int × Int) (h : (endsOf l m).hi = some k) (hne : l ≠ []) : wide (endsOf l m) k = (1, (W l).2 * (W (up l)).2) := by
  unfold wide
  rw [ends_gap l m k h]
  obtain ⟨i, x, rfl⟩ := snoc_of hne
  rcases Nat.mod_two_eq_zero_or_one i.length with z | z
  · rw [endsOf_odd i x m z] at h ⊢
    cases h
    rfl
  · rw [endsOf_even i x m z] at h ⊢
    cases h
    dsimp only
    rw [Int.mul_comm]
theorem endsOf_hi {l : List Int} (m : Bool) (h : l ≠ []) : ∃ k, (endsOf l m).hi = some k := by
  unfold endsOf
  rw [if_neg h]
  split
  · exact ⟨_, rfl⟩
  · exact ⟨_, rfl⟩
theorem half_ok {i : List Int} {q x : Int} {m m' : Bool} (hi : ∀ y ∈ i.drop 1, 1 ≤ y) (hq : i ≠ [] → 1 ≤ q) (hx : 1 ≤ x) : halfE (endsOf (i ++ [q] ++ [x]) m') (endsOf i m) = true := by
  obtain ⟨h, eh⟩ := endsOf_hi (l := i ++ [q] ++ [x]) m' (by simp)
  unfold halfE
  by_cases hn : i = []
  · subst hn
    rw [eh, endsOf_nil]
  · obtain ⟨k, ek⟩ := endsOf_hi (l := i) m hn
    rw [ek, eh]
    dsimp only
    rw [wide_ends _ _ _ eh (by simp), wide_ends _ _ _ ek hn]
    dsimp only
    refine decide_eq_true ?_
    rw [up_snoc, W_snoc, W_snoc, Mx_snoc, W_up hn, W_Mx]
    obtain ⟨z, r, rfl⟩ : ∃ z r, i = z :: r := by
      cases i with
      | nil => exact absurd rfl hn
      | cons z r => exact ⟨z, r, rfl⟩
    obtain ⟨a1, b1, _, _⟩ := Mx_nn (l := r) hi
    have := half_num (c := (Mx (z :: r)).2.1) (d := (Mx (z :: r)).2.2) a1 b1 (hq hn) hx
    dsimp only at this ⊢
    omega
end Cm

namespace Cs
open PySem PySem.Spec PyProof.Rows L2
/-! ### defs of the text, by name -/
structure DefAt (K : PySem.W.Frag) (mg : Str → Option Value) (x : Str) (st : Stmt) (ps : List Str) : Prop where
  ex : ∃ (f : Addr) (fd : FuncData), L2.Fun K x x st f fd ∧ mg x = some (.ref f) ∧ Binds K fd ps []
structure Cal (P : Program) (w : World) (K : PySem.W.Frag) (mg : Str → Option Value) (base : Heap) (CX : CXT) (k : Nat) (x : Str) (sp : Sp) : Prop where
  ex : ∃ (f : Addr) (fd : FuncData) (ps : List Str), FnOk P w K mg base CX k f fd ps sp ∧ mg x = some (.ref f) ∧ PySem.W.keepIn K (.ref f) = true ∧ Binds K fd ps []
theorem defAt_mk {K : PySem.W.Frag} {mg : Str → Option Value} {x : Str} {st : Stmt} {ps : List Str} {f : Addr} {oc : Value} {od an : Option Addr} {osl : Array (Option Value)} {kV doc pm cdv ct : Value}
    (l : K.lookup f = some ⟨oc, od, .func (PySem.W.fnOf x x (defArgs st) (defBody st) (defScope st) .none kV doc pm an cdv ct), osl⟩)
    (c : PySem.W.codeIn K cdv x = true) (k : PySem.W.keepIn K (.ref f) = true) (g : mg x = some (.ref f))
    (h : ∀ (kV doc pm : Value) (an : Option Addr) (cdv ct : Value) (us : List Value), us.length = ps.length → bindArgs (PySem.W.fnOf x x (defArgs st) (defBody st) (defScope st) .none kV doc pm an cdv ct) ⟨us, []⟩ = pure (ps.zip us)) : DefAt K mg x st ps :=
  ⟨f, _, fun_mk l c k, g, (fun_mk l c k).binds h⟩
section
variable {P : Program} {w : World} {K : PySem.W.Frag} {mg : Str → Option Value} {base : Heap}
theorem cal_ok {x : Str} {st : Stmt} {N ps : List Str} {k : Nat} {sp : Sp} (D : DefAt K mg x st ps) (S : FnScope N ps (defScope st)) (len : ∀ vs H Q E, sp vs H Q E → vs.length = ps.length)
    (hbody : ∀ (f : Addr) (cdv : Value) (A : Around) (outer : List Env) (s : Shared) (H : Hp) (vs : List V) (Q : VK) (E : XK), Room k (A.deeper (envOfC x (defScope st) s.heap.objs.size f cdv)) → sp vs H Q E →
      ∃ t, PSs (cxOf CX0 P w K mg base N x (defScope st) f cdv A outer s H E).nox (defBody st) t ∧ t { nx := fun _ H' => Q .non H', rt := Q } (start N vs) H) : Cal P w K mg base CX0 (k + 1) x sp := by
  obtain ⟨f, fd, F, m, b⟩ := D.ex
  exact ⟨f, fd, ps, F.ok S len (hbody f), m, F.kp, b⟩
end
section
variable {X : Cx} {x : Str} {sp : Sp} {e : Expr} {es : List Expr} {t : TA} {p pos : Pos} {k j : Nat}
theorem pe_c (c : Cal X.prog X.w X.K X.mg X.base CX0 k x sp) (hr : Room j X.A) (hk : k ≤ j) (hg : Gl X x) (ha : PA X (e :: es) t)
    (hdb : (x == ("__debug__" : Str)) = false := by decide) (he : starEach (e :: es) X.env = (false, eval e X.env) :: starEach es X.env := by rfl) (hpl : (backTo pos (starEach es X.env)).any (·.1) = false := by rfl) :
    PE X (.Call (.Name x p) (e :: es) [] pos) (tCall sp [] E0 t) := by
  obtain ⟨f, fd, ps, F, hm, kp, b⟩ := c.ex
  exact pe_call F (hr.mono hk) hg hm kp b .nil pass0 ha hdb he hpl
end
/-! ### heaps -/
theorem same_upd {H : Hp} {p : Addr} {o : HO} (h : H p = none) : Same H (upd H p o) := fun b x e => by
  rw [upd_ne (ne_of_none e h)]
  exact e
/-- a new object: what is tracked stays -/
theorem newO {H : Hp} {o : HO} {Q : V → Hp → Prop} (h : ∀ p H', Same H H' → H p = none → H' p = some o → Q (.ref p) H') : ∀ p, H p = none → Q (.ref p) (upd H p o) :=
  fun p hp => h p _ (same_upd hp) hp upd_same
theorem same_of {H H' : Hp} {p : Addr} {o : HO} (h : upd H p o = H') (n : H p = none) : Same H H' := h ▸ same_upd n
theorem at_new {H H' : Hp} {p : Addr} {o : HO} (h : upd H p o = H') : H' p = some o := h ▸ upd_same
theorem same_mut {H H' : Hp} {p : Addr} {o : HO} (s : Same H H') (h : H p = none) : Same H (upd H' p o) := fun b x e => by
  rw [upd_ne (ne_of_none e h)]
  exact s b x e
theorem same_mut_of {H H' H'' : Hp} {p : Addr} {o : HO} (h : upd H' p o = H'') (s : Same H H') (n : H p = none) : Same H H'' := h ▸ same_mut s n
theorem same_t {K : PySem.W.Frag} {H H' : Hp} {a : Addr} {xs : List V} (e : Same H H') (h : SqT K H a xs) : SqT K H' a xs := by
  rcases h with (h | ⟨o, h⟩) | h
  · exact .inl (.inl (e _ _ h))
  · exact .inl (.inr ⟨o, e _ _ h⟩)
  · exact .inr h
theorem sqL {K : PySem.W.Frag} {H : Hp} {a : Addr} {xs : List V} (h : H a = some (.lst xs)) : SqL K H a xs := .inl (.inl h)
theorem sqT {K : PySem.W.Frag} {H : Hp} {a : Addr} {xs : List V} (h : H a = some (.tup xs)) : SqT K H a xs := .inl (.inl h)
/-! ### numbers: of fewer than n bits -/
def Bd (n : Nat) (i : Int) : Prop := i.natAbs < 2 ^ n
theorem Bd.mono {n m : Nat} {i : Int} (h : Bd n i) (k : n ≤ m) : Bd m i := Nat.lt_of_lt_of_le h (Nat.pow_le_pow_right (by decide) k)
theorem Bd.mul {n m : Nat} {i j : Int} (h : Bd n i) (k : Bd m j) : Bd (n + m) (i * j) := by
  unfold Bd at *
  rw [Int.natAbs_mul, Nat.pow_add]
  exact Nat.mul_lt_mul'' h k
theorem Bd.add {n : Nat} {i j : Int} (h : Bd n i) (k : Bd n j) : Bd (n + 1) (i + j) := by
  unfold Bd at *
  rw [Nat.pow_succ]
  omega
theorem Bd.sub {n : Nat} {i j : Int} (h : Bd n i) (k : Bd n j) : Bd (n + 1) (i - j) := by
  unfold Bd at *
  rw [Nat.pow_succ]
  omega
theorem Bd.neg {n : Nat} {i : Int} (h : Bd n i) : Bd n (-i) := by
  unfold Bd at *
  omega
theorem Bd.of_le {n : Nat} {i j : Int} (h0 : 0 ≤ i) (h : i ≤ j) (k : Bd n j) : Bd n i := by
  unfold Bd at *
  omega
theorem Bd.zero {n : Nat} : Bd n 0 := Nat.pow_pos (by decide)
theorem Bd.one {n : Nat} (h : 0 < n) : Bd n 1 := Nat.lt_of_lt_of_le (by decide : 1 < 2 ^ 1) (Nat.pow_le_pow_right (by decide) h)
theorem mulOk {n m : Nat} {i j : Int} (h : Bd n i) (k : Bd m j) (l : n + m ≤ 134217728) : IntMulOk i j := (mulx_ok h k l).ok
theorem mulOk_l {i j : Int} (h : Bd 64 i) : IntMulOk i j := CMul.ok (.inl (by unfold Bd at h; omega))
theorem mulOk_r {i j : Int} (h : Bd 64 j) : IntMulOk i j := CMul.ok (.inr (by unfold Bd at h; omega))
theorem divOk {n : Nat} {i j : Int} (h0 : 0 < j) (h : Bd n j) (l : n ≤ 9000) (n0 : 0 < n) : CDivP i j := ⟨h0, PyProof.noPylong_of_log2 (Nat.lt_of_lt_of_le (PySem.Flt.log2_lt_of n0 h) l)⟩
section
variable {X : Cx}
/-- * of any factors that the model multiplies -/
theorem op_mulX : OpR X (binaryOp .Mult) (rI IntMulOk fun i j => .int (i * j)) := opI fun _ _ _ _ _ _ _ hc q => mul_int q hc
theorem op_fdivP : OpR X (binaryOp .FloorDiv) (rI CDivP fun i j => .int (i / j)) := opI fun i j _ _ _ _ _ hc q => by
  have h1 : (0 : Int) < j := hc.1
  exact floordiv_int (by omega) (by rw [Int.fdiv_eq_ediv_of_nonneg i (by omega)]; exact q) (.inl hc.2)
abbrev call_divmodP := @call_divmodW
end
/-! ### data -/
theorem dpAll_ints {K : PySem.W.Frag} {H : Hp} : ∀ ns : List Int, DpAll K H (ns.map V.int) (ns.map PyData.int)
  | [] => .nil
  | n :: r => .cons (.int n) (dpAll_ints r)
theorem dp_ints {K : PySem.W.Frag} {H : Hp} {a : Addr} {ns : List Int} (h : SqL K H a (ns.map V.int)) : Dp K H (.ref a) (.list (ns.map PyData.int)) := .lst h (dpAll_ints ns)
theorem canLay_ints : ∀ ns : List Int, PyData.canLayAll0 (ns.map PyData.int) = true
  | [] => by simp [PyData.canLayAll0]
  | n :: r => by simp [PyData.canLayAll0, PyData.canLay0, canLay_ints r]
theorem depth_ints : ∀ ns : List Int, PyData.depthAll (ns.map PyData.int) = 0
  | [] => by simp [PyData.depthAll]
  | n :: r => by simp [PyData.depthAll, PyData.depth, depth_ints r]
theorem shaped_ints (ns : List Int) : SeqAt.shaped (.list (ns.map PyData.int)) = true := by
  unfold SeqAt.shaped
  simp [PyData.canLay0, PyData.depth, canLay_ints, depth_ints]
theorem eqvAll_ints : ∀ ns ms : List Int, PyData.eqvAll (ns.map PyData.int) (ms.map PyData.int) = decide (ns = ms)
  | [], [] => by simp [PyData.eqvAll]
  | [], _ :: _ => by simp [PyData.eqvAll]
  | _ :: _, [] => by simp [PyData.eqvAll]
  | n :: r, m :: t => by
    show (PyData.eqv (.int n) (.int m) && PyData.eqvAll (r.map PyData.int) (t.map PyData.int)) = _
    rw [eqvAll_ints r t]
    simp only [PyData.eqv]
    by_cases h : n = m
    · subst h
      simp
    · simp [h]
theorem eqv_ints (ns ms : List Int) : PyData.eqv (.list (ns.map PyData.int)) (.list (ms.map PyData.int)) = decide (ns = ms) := by
  simp only [PyData.eqv]
  exact eqvAll_ints ns ms
/-- == of two lists of ints, != -/
theorem eq_ints {K : PySem.W.Frag} {H : Hp} {a b : Addr} {ns ms : List Int} {Q : VK} (h : SqL K H a (ns.map V.int)) (h' : SqL K H b (ms.map V.int)) (q : Q (.bl (decide (ns = ms))) H) : rEqD K (.ref a) (.ref b) H Q :=
  ⟨_, _, dp_ints h, dp_ints h', shaped_ints _, shaped_ints _, by rw [eqv_ints]; exact q⟩
theorem ne_ints {K : PySem.W.Frag} {H : Hp} {a b : Addr} {ns ms : List Int} {Q : VK} (h : SqL K H a (ns.map V.int)) (h' : SqL K H b (ms.map V.int)) (q : Q (.bl (!decide (ns = ms))) H) : rNeD K (.ref a) (.ref b) H Q :=
  ⟨_, _, dp_ints h, dp_ints h', shaped_ints _, shaped_ints _, by rw [eqv_ints]; exact q⟩
/-! ### isinstance -/
/-- the types that come here -/
def tys : List String := ["int", "bool", "str", "NoneType", "list", "tuple", "dict"]
theorem isi_at {K : PySem.W.Frag} {H : Hp} {x : V} {t T : String} {b : Bool} {Q : VK} (hx : TyX K H x (.type t)) (h : kitB t T = some b) (q : Q (.bl b) H) : rIsi K [x, .ty T] H Q :=
  ⟨x, .ty T, _, _, b, rfl, .ty T, hx, kit_ty h, q⟩
theorem kit_tys {T : String} (hT : T ∈ tys) : ∀ t ∈ tys, kitB t T = some (decide (t = T) || (decide (t = "bool") && decide (T = "int"))) := by
  have h : (tys.all fun T => tys.all fun t => decide (kitB t T = some (decide (t = T) || (decide (t = "bool") && decide (T = "int"))))) = true := by decide +kernel
  intro t ht
  exact of_decide_eq_true (List.all_eq_true.mp (List.all_eq_true.mp h T hT) t ht)
theorem isi_tys {K : PySem.W.Frag} {H : Hp} {x : V} {t T : String} {Q : VK} (hx : TyX K H x (.type t)) (ht : t ∈ tys) (hT : T ∈ tys) (q : Q (.bl (decide (t = T) || (decide (t = "bool") && decide (T = "int")))) H) : rIsi K [x, .ty T] H Q :=
  isi_at hx (kit_tys hT t ht) q
theorem ty_int {K : PySem.W.Frag} {H : Hp} (i : Int) : TyX K H (.int i) (.type "int") := .base (.int i)
theorem ty_bl {K : PySem.W.Frag} {H : Hp} (i : Bool) : TyX K H (.bl i) (.type "bool") := .base (.bl i)
theorem ty_list {K : PySem.W.Frag} {H : Hp} {a : Addr} {xs : List V} (h : SqL K H a xs) : TyX K H (.ref a) (.type "list") := by
  rcases h with (h | ⟨o, h⟩) | ⟨o, its, n, h, c, _⟩
  · exact .base (.lst h)
  · exact .base (.frz h)
  · exact .kList h c
theorem ty_tup {K : PySem.W.Frag} {H : Hp} {a : Addr} {xs : List V} (h : SqT K H a xs) : TyX K H (.ref a) (.type "tuple") := by
  rcases h with (h | ⟨o, h⟩) | ⟨o, its, n, h, c, _⟩
  · exact .base (.tup h)
  · exact .fTuple h
  · exact .kTuple h c
/-- the ints of a list of ints, by place -/
theorem map_int_at {ns : List Int} {i : Nat} {y : V} (h : (ns.map V.int)[i]? = some y) : ∃ z, ns[i]? = some z ∧ y = V.int z := by
  rw [List.getElem?_map] at h
  cases e : ns[i]? with
  | none =>
    rw [e] at h
    cases h
  | some z =>
    rw [e] at h
    exact ⟨z, rfl, (Option.some.inj h).symm⟩
/-- for x in reversed(xs), the list left as it is -/
theorem for_rev {K : PySem.W.Frag} {a : Addr} {xs : List V} {g : TG} {tb : TS} {D : Ends} {σ : L2.St} {H : Hp} (Pv : Nat → L2.St → Hp → Prop) (h0 : Pv 0 σ H) (hl : ∀ i σ H, i ≤ xs.length → Pv i σ H → SqL K H a xs)
    (hs : ∀ i x σ H, i < xs.length → xs[xs.length - 1 - i]? = some x → Pv i σ H → g x σ H fun σ2 H2 => tb { D with nx := Pv (i + 1), ct := Pv (i + 1), bk := D.nx } σ2 H2) (hd : ∀ σ H, Pv xs.length σ H → D.nx σ H) :
    ∃ W : Nat → Nat → L2.St → Hp → Prop, (∃ m, W 0 m σ H) ∧ ∀ i m σ H, W i m σ H →
      ((Itv K a xs.length).stop i H ∧ D.nx σ H) ∨ ((Itv K a xs.length).go i H ∧ ∃ N : L2.St → Hp → Prop, (∀ σ' H', N σ' H' → ∃ m', m' < m ∧ W (i + 1) m' σ' H') ∧ ∀ x H', (Itv K a xs.length).yld i H x H' → g x σ H' fun σ2 H2 => tb { D with nx := N, ct := N, bk := D.nx } σ2 H2) := by
  refine ⟨fun i m σ H => m = xs.length - i ∧ i ≤ xs.length ∧ Pv i σ H, ⟨xs.length, by simp, Nat.zero_le _, h0⟩, ?_⟩
  rintro i m σ H ⟨rfl, hi, p⟩
  have q := hl i σ H hi p
  by_cases hlt : i < xs.length
  · have hx : xs[xs.length - 1 - i]? = some (xs[xs.length - 1 - i]'(by omega)) := List.getElem?_eq_getElem (by omega)
    refine .inr ⟨⟨hlt, xs, _, q, hx⟩, Pv (i + 1), fun σ' H' p' => ⟨xs.length - (i + 1), by omega, rfl, hlt, p'⟩, fun x H' y => ?_⟩
    obtain ⟨e, y⟩ := y
    subst e
    exact hs i x σ _ hlt (y xs q) p
  · have e : i = xs.length := by omega
    subst e
    exact .inl ⟨Nat.le_refl _, hd σ H p⟩
/-! ### slices, items -/
theorem cut_neg1 (xs : List V) : cutV xs none (some (-1)) = xs.dropLast := by
  unfold cutV
  rw [HT.sIx_none]
  show (xs.drop 0).take ((if (-1 : Int) < 0 then ((-1 : Int) + (xs.length : Int)).toNat else min (-1 : Int).toNat xs.length) - 0) = xs.dropLast
  rw [if_pos (by decide), List.drop_zero, List.dropLast_eq_take]
  congr 1
  omega
theorem cut_to (xs : List V) (n : Nat) : cutV xs none (some (n : Int)) = xs.take n := by
  unfold cutV
  rw [HT.sIx_none, HT.sIx_nat, List.drop_zero, Nat.sub_zero, List.take_eq_take_iff]
  omega
theorem cut_from (xs : List V) (n : Nat) : cutV xs (some (n : Int)) none = xs.drop n := by
  unfold cutV
  rw [HT.sIx_none, HT.sIx_nat]
  rcases Nat.le_total n xs.length with h | h
  · rw [Nat.min_eq_left h]
    exact List.take_of_length_le (by rw [List.length_drop]; omega)
  · rw [Nat.min_eq_right h, List.drop_length, List.drop_eq_nil_of_le h]
    exact List.take_nil
theorem atI_neg1 {ns : List Int} (h : ns ≠ []) : atI (ns.map V.int) (-1) = some (.int (ns.getLast h)) := by
  have e : ns.map V.int = ns.dropLast.map V.int ++ [V.int (ns.getLast h)] := by
    rw [← List.map_singleton, ← List.map_append, List.dropLast_concat_getLast]
  rw [e]
  exact atI_last _ _
theorem atI_int {ns : List Int} {i : Nat} {z : Int} (h : ns[i]? = some z) : atI (ns.map V.int) (i : Int) = some (.int z) := atI_nat (by rw [List.getElem?_map, h]; rfl)
/-! ### what quotients tell: how great -/
theorem W_bd {n : Nat} : ∀ {ns : List Int}, (∀ x ∈ ns, Bd n x) → Bd ((n + 1) * ns.length + 1) (Cm.W ns).1 ∧ Bd ((n + 1) * ns.length + 1) (Cm.W ns).2
  | [], _ => ⟨Bd.one (by omega), Bd.zero⟩
  | q :: r, h => by
    obtain ⟨h1, h2⟩ := W_bd (ns := r) fun x hx => h x (List.mem_cons_of_mem _ hx)
    have hq := h q List.mem_cons_self
    have e : (n + 1) * (q :: r).length + 1 = (n + ((n + 1) * r.length + 1)) + 1 := by
      rw [List.length_cons, Nat.mul_add]
      omega
    rw [Cm.W_cons, e]
    exact ⟨(hq.mul h1).add (h2.mono (by omega)), h1.mono (by omega)⟩
theorem W_bd' {n m : Nat} {ns : List Int} (h : ∀ x ∈ ns, Bd n x) (l : ns.length ≤ m) : Bd ((n + 1) * m + 1) (Cm.W ns).1 ∧ Bd ((n + 1) * m + 1) (Cm.W ns).2 := by
  obtain ⟨h1, h2⟩ := W_bd h
  have := Nat.mul_le_mul_left (n + 1) l
  exact ⟨h1.mono (by omega), h2.mono (by omega)⟩
end Cs
namespace Cs
open PySem PySem.Spec PyProof.Rows L2
/-! ### things that may be chains -/
def isI : V → Bool
  | .int _ => true
  | _ => false
def ge1 : V → Bool
  | .int i => decide (1 ≤ i)
  | _ => false
/-- a list (its items), or another thing -/
def Thing (K : PySem.W.Frag) (H : Hp) (x : V) : Option (List V) → Prop
  | some xs => ∃ a, x = .ref a ∧ SqL K H a xs ∧ xs.length ≤ 100000 ∧ ∀ y ∈ xs, ∃ t, t ∈ tys ∧ TyX K H y (.type t) ∧ decide (t = "int") = isI y
  | none => ∃ t, t ∈ tys ∧ t ≠ "list" ∧ TyX K H x (.type t)
def quotsT : Option (List V) → Bool
  | none => false
  | some xs => xs.all isI && (xs.drop 1).all ge1
theorem quotsT_some (xs : List V) : quotsT (some xs) = (xs.all isI && (xs.drop 1).all ge1) := rfl
theorem thing_ints {K : PySem.W.Frag} {H : Hp} {a : Addr} {ns : List Int} (h : SqL K H a (ns.map V.int)) (l : ns.length ≤ 100000) : Thing K H (.ref a) (some (ns.map V.int)) := by
  refine ⟨a, rfl, h, by rw [List.length_map]; exact l, fun y hy => ?_⟩
  obtain ⟨z, _, rfl⟩ := List.mem_map.mp hy
  exact ⟨"int", by decide, ty_int z, rfl⟩
theorem isI_ints : ∀ xs : List V, xs.all isI = true → ∃ ns : List Int, xs = ns.map V.int
  | [], _ => ⟨[], rfl⟩
  | x :: r, h => by
    rw [List.all_cons, Bool.and_eq_true] at h
    obtain ⟨ns, rfl⟩ := isI_ints r h.2
    cases x with
    | int i => exact ⟨i :: ns, rfl⟩
    | _ => exact absurd h.1 (by simp [isI])
theorem all_isI (ns : List Int) : (ns.map V.int).all isI = true := by
  induction ns with
  | nil => rfl
  | cons n r ih => rw [List.map_cons, List.all_cons, ih]; rfl
/-- the list of ints is one of quotients -/
def quots (ns : List Int) : Bool := (ns.drop 1).all fun x => decide (1 ≤ x)
theorem quotsT_ints (ns : List Int) : quotsT (some (ns.map V.int)) = quots ns := by
  unfold quots
  rw [quotsT_some, all_isI, Bool.true_and, ← List.map_drop]
  generalize ns.drop 1 = l
  induction l with
  | nil => rfl
  | cons n r ih => rw [List.map_cons, List.all_cons, List.all_cons, ih]; rfl
def chB (ns : List Int) : Bool := quots ns && (ns != [] && (ns.length == 1 || decide (1 < ns.getLastD 0)))
def begB (ns : List Int) : Bool := quots ns && (ns == [] || decide (0 ≤ ns.headD 0))
def abvB (ns : List Int) : Bool := chB ns && (decide (0 ≤ ns.headD 0) && ns != [0])
def intOf : V → Int
  | .int i => i
  | _ => 0
/-- .. of any thing -/
def onInts (f : List Int → Bool) : Option (List V) → Bool
  | none => false
  | some xs => xs.all isI && f (xs.map intOf)
theorem onInts_some (f : List Int → Bool) (xs : List V) : onInts f (some xs) = (xs.all isI && f (xs.map intOf)) := rfl
theorem onInts_ints (f : List Int → Bool) (ns : List Int) : onInts f (some (ns.map V.int)) = f ns := by
  rw [onInts_some, all_isI, Bool.true_and, List.map_map]
  have e : (intOf ∘ V.int) = (id : Int → Int) := rfl
  rw [e, List.map_id]
theorem onInts_no {f : List Int → Bool} (hf : ∀ ns, f ns = true → quots ns = true) {th : Option (List V)} (h : quotsT th = false) : onInts f th = false := by
  cases th with
  | none => rfl
  | some xs =>
    cases e : xs.all isI with
    | false => rw [onInts_some, e]; rfl
    | true =>
      obtain ⟨ns, rfl⟩ := isI_ints xs e
      rw [quotsT_ints] at h
      rw [onInts_ints]
      cases z : f ns with
      | false => rfl
      | true => rw [hf ns z] at h; cases h
theorem quotsT_yes {th : Option (List V)} (h : quotsT th = true) : ∃ ns : List Int, th = some (ns.map V.int) := by
  cases th with
  | none => cases h
  | some xs =>
    rw [quotsT_some, Bool.and_eq_true] at h
    obtain ⟨ns, rfl⟩ := isI_ints xs h.1
    exact ⟨ns, rfl⟩
theorem chB_quots (ns : List Int) (h : chB ns = true) : quots ns = true := by
  unfold chB at h
  rw [Bool.and_eq_true] at h
  exact h.1
theorem begB_quots (ns : List Int) (h : begB ns = true) : quots ns = true := by
  unfold begB at h
  rw [Bool.and_eq_true] at h
  exact h.1
theorem abvB_chB {ns : List Int} (h : abvB ns = true) : chB ns = true := by
  unfold abvB at h
  rw [Bool.and_eq_true] at h
  exact h.1
/-! ### chains, by the program's rule and by the mathematics' -/
theorem tl_iff : ∀ {l : List Int}, Cm.Tl l ↔ l ≠ [] ∧ (l.all fun x => decide (1 ≤ x)) = true ∧ 1 < l.getLastD 0
  | [] => ⟨fun h => h.elim, fun h => (h.1 rfl).elim⟩
  | [x] => by
    simp only [Cm.Tl, List.all_cons, List.all_nil, Bool.and_true, decide_eq_true_eq, List.getLastD_cons, List.getLastD_nil]
    constructor
    · intro h
      exact ⟨by simp, by omega, by omega⟩
    · rintro ⟨_, _, h⟩
      omega
  | x :: y :: r => by
    have ih := tl_iff (l := y :: r)
    show (1 ≤ x ∧ Cm.Tl (y :: r)) ↔ _
    rw [ih]
    simp only [List.all_cons, Bool.and_eq_true, decide_eq_true_eq, List.getLastD_cons]
    constructor
    · rintro ⟨h1, _, h2, h3⟩
      exact ⟨by simp, ⟨h1, h2⟩, h3⟩
    · rintro ⟨_, ⟨h1, h2⟩, h3⟩
      exact ⟨h1, by simp, h2, h3⟩
theorem chB_iff (ns : List Int) : chB ns = true ↔ Cm.Ch ns := by
  match ns with
  | [] => simp [chB, Cm.Ch]
  | [x] => simp [chB, Cm.Ch, quots]
  | x :: y :: r =>
    show _ ↔ Cm.Tl (y :: r)
    rw [tl_iff]
    unfold chB quots
    simp only [List.drop_succ_cons, List.drop_zero, Bool.and_eq_true, Bool.or_eq_true, decide_eq_true_eq, List.getLastD_cons, List.length_cons, beq_iff_eq]
    constructor
    · rintro ⟨h1, _, h2⟩
      exact ⟨by simp, h1, h2.resolve_left (by omega)⟩
    · rintro ⟨_, h1, h2⟩
      exact ⟨h1, by simp, .inr h2⟩
theorem getLast_D {ns : List Int} (h : ns ≠ []) : ns.getLast h = ns.getLastD 0 := by
  cases ns with
  | nil => exact absurd rfl h
  | cons x r => rw [List.getLastD_cons, List.getLast_eq_getLastD]
end Cs
namespace Cs
open PySem PySem.Spec PyProof.Rows L2
/-! ### menus -/
theorem atI_of {α : Type} {xs : List α} {i : Int} {v : α} (h0 : 0 ≤ i) (h : xs[i.toNat]? = some v) : atI xs i = some v := by
  have e : i = ((i.toNat : Nat) : Int) := by omega
  rw [e]
  exact atI_nat h
theorem atI_menu {ms : List Int} {i : Int} (h0 : 0 ≤ i) (h : i < (ms.length : Int)) : atI (ms.map V.int) i = some (.int (ms.getD i.toNat 0)) := by
  refine atI_of h0 ?_
  have h1 : i.toNat < ms.length := by omega
  rw [List.getElem?_map, List.getElem?_eq_getElem h1, List.getD_eq_getElem?_getD, List.getElem?_eq_getElem h1]
  rfl
theorem getD_mem {ms : List Int} {i : Nat} (h : i < ms.length) : ms.getD i 0 ∈ ms := by
  rw [List.getD_eq_getElem?_getD, List.getElem?_eq_getElem h]
  exact List.getElem_mem h
def mixed (c k : Int) : Int :=
  ((c % 1000000007 + 7919 * k + 11) % 1000003 * ((c % 1000000007 + 7919 * k + 11) % 1000003) % 1000003 * ((c % 1000000007 + 7919 * k + 11) % 1000003)) % 1000003
theorem mixed_range (c k : Int) : 0 ≤ mixed c k ∧ mixed c k < 1000003 := ⟨Int.emod_nonneg _ (by decide), Int.emod_lt_of_pos _ (by decide)⟩
def lqMenu : List Int := [10 ^ (30 : Int).toNat, 2, 9, 10 ^ (6 : Int).toNat]
def lq (c : Int) : Int := 1 + c % lqMenu.getD (c / 5 % 4).toNat 0
theorem lqMenu_ok : ∀ x ∈ lqMenu, 0 < x ∧ x ≤ 10 ^ 30 := by decide
theorem lq_menu (c : Int) : lqMenu.getD (c / 5 % 4).toNat 0 ∈ lqMenu := getD_mem (by
  have h0 := Int.emod_nonneg (c / 5) (show (4 : Int) ≠ 0 by decide)
  have h1 := Int.emod_lt_of_pos (c / 5) (show (0 : Int) < 4 by decide)
  show (c / 5 % 4).toNat < 4
  omega)
theorem lq_ok (c : Int) : 1 ≤ lq c ∧ Bd 100 (lq c) := by
  obtain ⟨h0, h1⟩ := lqMenu_ok _ (lq_menu c)
  unfold lq
  have r0 := Int.emod_nonneg c (show lqMenu.getD (c / 5 % 4).toNat 0 ≠ 0 by omega)
  have r1 := Int.emod_lt_of_pos c h0
  generalize c % lqMenu.getD (c / 5 % 4).toNat 0 = r at *
  refine ⟨by omega, ?_⟩
  unfold Bd
  omega
theorem bdL {n : Nat} {i : Int} (h : i.natAbs < 2 ^ n) : Bd n i := h
/-- // by a written divisor -/
theorem divS {i j : Int} (h0 : 0 < j) (h : j.natAbs < 1073741824) : CDivP i j := ⟨h0, PyProof.noPylong_small h⟩
end Cs
namespace Cs
open PySem PySem.Spec PyProof.Rows L2
/-! ### the law's own def -/
structure LawAt (K : PySem.W.Frag) (mg : Str → Option Value) (x : Str) (st : Stmt) (ps : List Str) : Prop where
  ex : ∃ (f : Addr) (fd : FuncData), L2.Fun K x x st f fd ∧ mg x = some (.ref f) ∧ ∀ (s : Shared) (v : Value), BindsTo s fd ⟨[v], []⟩ (ps.zip [v])
theorem lawAt_mk {K : PySem.W.Frag} {mg : Str → Option Value} {x : Str} {st : Stmt} {ps : List Str} {f : Addr} {oc : Value} {od an : Option Addr} {osl : Array (Option Value)} {kV doc pm cdv ct : Value}
    (l : K.lookup f = some ⟨oc, od, .func (PySem.W.fnOf x x (defArgs st) (defBody st) (defScope st) .none kV doc pm an cdv ct), osl⟩)
    (c : PySem.W.codeIn K cdv x = true) (k : PySem.W.keepIn K (.ref f) = true) (g : mg x = some (.ref f))
    (h : ∀ (s : Shared) (v : Value), BindsTo s (PySem.W.fnOf x x (defArgs st) (defBody st) (defScope st) .none kV doc pm an cdv ct) ⟨[v], []⟩ (ps.zip [v])) : LawAt K mg x st ps :=
  ⟨f, _, fun_mk l c k, g, h⟩
/-- the law's promise: it answers True -/
def spLaw (K : PySem.W.Frag) : Sp := fun vs H Q _ => ∃ (a : Addr) (ns : List Int), vs = [.ref a] ∧ SqL K H a (ns.map V.int) ∧ ns.length ≤ 63 ∧ ∀ H', Q (.bl true) H'
theorem walk {l : PySem.W.OpenLaw} {k : Nat} {q : Program} {loose : List Str} {XP : (Str → Option Value) → Heap → Prop} {YP : World → Heap → Prop} {d : DefRec} {K : Params → PySem.W.Frag} (hn : l.most = some 63) (hdf : d.params.defaults = []) (hr : Room k callerA)
    (hY : ∀ (w : World) (h : Heap), YP w h → (K w.params).In h)
    (F : ∀ (w : World) (mg : Str → Option Value) (fa : Addr) (h : Heap), (K w.params).In h → h.Ns mainGlobals mg → mg d.name = some (.ref fa) →
      ∃ fd : FuncData, (∀ (s : Shared) (u : Value), BindsTo s fd ⟨[u], []⟩ [("_law_script", u)]) ∧ ∀ base : Heap, (K w.params).In base → base.Ns mainGlobals mg → FnOk l.prog w (K w.params) mg base CX0 k fa fd ["_law_script"] (spLaw (K w.params))) :
    PySem.W.WalkO q loose XP YP l.row.toRowW d [] (fun f vs => PySem.call f vs) :=
  L2.walk_of (n := 63) (k := k) (x := "_law_script") (CX := fun _ => CX0) (sp := fun w => spLaw (K w.params)) hn (by decide) hdf hr hY F (fun _ _ a ns hl _ hS => ⟨a, ns, rfl, hS, hl, fun _ => rfl⟩) fun _ _ _ _ _ z => z
end Cs
namespace Cs
open PySem PySem.Spec PyProof.Rows L2
theorem dp_intsT {K : PySem.W.Frag} {H : Hp} {a : Addr} {ns : List Int} (h : SqT K H a (ns.map V.int)) : Dp K H (.ref a) (.tuple (ns.map PyData.int)) := .tup h (dpAll_ints ns)
theorem shaped_intsT (ns : List Int) : SeqAt.shaped (.tuple (ns.map PyData.int)) = true := by
  unfold SeqAt.shaped
  simp [PyData.canLay0, PyData.depth, canLay_ints, depth_ints]
theorem eqv_intsT (ns ms : List Int) : PyData.eqv (.tuple (ns.map PyData.int)) (.tuple (ms.map PyData.int)) = decide (ns = ms) := by
  simp only [PyData.eqv]
  exact eqvAll_ints ns ms
/-! ### a chain whose last quotient may be 1, mended -/
def fixl (l : List Int) : List Int := if 1 < l.length ∧ l.getLastD 0 = 1 then l.dropLast ++ [2] else l
theorem fixl_len (l : List Int) : (fixl l).length = l.length := by
  unfold fixl
  split
  · rename_i h
    rw [List.length_append, List.length_dropLast, List.length_singleton]
    omega
  · rfl
theorem fixl_mem {l : List Int} {x : Int} (h : x ∈ fixl l) : x ∈ l ∨ x = 2 := by
  unfold fixl at h
  split at h
  · rcases List.mem_append.mp h with h | h
    · exact .inl (List.dropLast_subset _ h)
    · exact .inr (List.mem_singleton.mp h)
  · exact .inl h
theorem tl_app : ∀ {r : List Int} {y : Int}, (∀ x ∈ r, 1 ≤ x) → 2 ≤ y → Cm.Tl (r ++ [y])
  | [], y, _, h => h
  | [a], y, h, h2 => ⟨h a (by simp), h2⟩
  | a :: b :: r, y, h, h2 => ⟨h a (by simp), tl_app (r := b :: r) (fun x hx => h x (List.mem_cons_of_mem _ hx)) h2⟩
theorem fixl_ch (z : Int) (r : List Int) (h : ∀ x ∈ r, 1 ≤ x) : Cm.Ch (fixl (z :: r)) := by
  rcases List.eq_nil_or_concat r with rfl | ⟨s, y, rfl⟩
  · have e : fixl [z] = [z] := by simp [fixl]
    rw [e]
    exact trivial
  · rw [List.concat_eq_append] at *
    have hs : ∀ x ∈ s, 1 ≤ x := fun x hx => h x (List.mem_append_left _ hx)
    have hy : 1 ≤ y := h y (by simp)
    have go : ∀ w : Int, 2 ≤ w → Cm.Ch (z :: (s ++ [w])) := fun w hw => by
      have t := tl_app hs hw
      cases e : s ++ [w] with
      | nil => simp at e
      | cons b u =>
        rw [e] at t
        exact t
    unfold fixl
    split
    · have e : (z :: (s ++ [y])).dropLast ++ [2] = z :: (s ++ [2]) := by
        rw [← List.cons_append, List.dropLast_concat]
        rfl
      rw [e]
      exact go 2 (by decide)
    · rename_i hn
      refine go y ?_
      have e : (z :: (s ++ [y])).getLastD 0 = y := by
        rw [List.getLastD_cons, List.getLastD_concat]
      rw [e] at hn
      have : 1 < (z :: (s ++ [y])).length := by simp
      omega
theorem set_last2 {l : List Int} (h : l ≠ []) : (l.map V.int).set (l.length - 1) (.int 2) = (l.dropLast ++ [2]).map V.int := by
  rw [← List.map_set]
  congr 1
  rcases List.eq_nil_or_concat l with rfl | ⟨s, y, rfl⟩
  · exact absurd rfl h
  · rw [List.concat_eq_append, List.dropLast_concat, List.length_append, List.length_singleton, Nat.add_sub_cancel, List.set_append_right _ _ (Nat.le_refl _), Nat.sub_self]
    rfl
theorem ixN_neg1 {n : Nat} (h : 0 < n) : ixN n (-1) = some (n - 1) := by
  unfold ixN
  rw [if_neg (by decide), if_pos (by omega)]
  congr 1
  omega
theorem ixN_0 {n : Nat} (h : 0 < n) : ixN n 0 = some 0 := by
  unfold ixN
  rw [if_pos (by decide), if_pos (by omega)]
  rfl
theorem getLastD_ne {l : List Int} (h : l ≠ []) : atI (l.map V.int) (-1) = some (.int (l.getLastD 0)) := by
  rw [atI_neg1 h, getLast_D h]
end Cs
namespace Cs
open PySem PySem.Spec PyProof.Rows L2
/-! ### quotients whose fraction the model can reckon -/
structure Sz (ns : List Int) : Prop where
  ex : ∃ n, n ≤ 60000000 ∧ (∀ x ∈ ns, Bd n x) ∧ ∀ k, Bd n (Cm.W (ns.drop k)).1 ∧ Bd n (Cm.W (ns.drop k)).2
theorem sz_short {ns : List Int} (hl : ns.length ≤ 100) (h : ∀ x ∈ ns, Bd 100000 x) : Sz ns :=
  ⟨10000101, by decide, fun x hx => (h x hx).mono (by decide), fun k =>
    W_bd' (n := 100000) (m := 100) (fun x hx => h x (List.mem_of_mem_drop hx)) (by rw [List.length_drop]; omega)⟩
theorem tl_drop : ∀ {l : List Int}, Cm.Tl l → ∀ k, 0 ≤ (Cm.W (l.drop k)).1 ∧ (Cm.W (l.drop k)).1 ≤ (Cm.W l).1 ∧ 0 ≤ (Cm.W (l.drop k)).2 ∧ (Cm.W (l.drop k)).2 ≤ (Cm.W l).1
  | [], h, _ => h.elim
  | l@(x :: r), h, 0 => by
    have := Cm.Tl.w h
    rw [List.drop_zero]
    omega
  | [x], h, k + 1 => by
    have h2 : 2 ≤ x := h
    rw [List.drop_succ_cons, List.drop_nil, Cm.W_nil, Cm.W_one]
    show (0 : Int) ≤ 1 ∧ 1 ≤ x ∧ (0 : Int) ≤ 0 ∧ 0 ≤ x
    omega
  | x :: y :: r, h, k + 1 => by
    have ih := tl_drop (l := y :: r) h.2 k
    have w := Cm.Tl.w (l := y :: r) h.2
    have h1 : 1 ≤ x := h.1
    rw [List.drop_succ_cons, Cm.W_cons x]
    have := Int.mul_le_mul_of_nonneg_right h1 (show 0 ≤ (Cm.W (y :: r)).1 by omega)
    show 0 ≤ (Cm.W (List.drop k (y :: r))).1 ∧ (Cm.W (List.drop k (y :: r))).1 ≤ x * (Cm.W (y :: r)).1 + (Cm.W (y :: r)).2 ∧ _ ∧ _ ≤ x * (Cm.W (y :: r)).1 + (Cm.W (y :: r)).2
    omega
theorem tl_mem : ∀ {l : List Int}, Cm.Tl l → ∀ x ∈ l, 1 ≤ x ∧ x ≤ (Cm.W l).1
  | [], h, _, _ => h.elim
  | [a], h, x, hx => by
    rw [List.mem_singleton] at hx
    subst hx
    have h2 : 2 ≤ x := h
    rw [Cm.W_one]
    show 1 ≤ x ∧ x ≤ x
    omega
  | a :: b :: r, h, x, hx => by
    have w := Cm.Tl.w (l := b :: r) h.2
    have h1 : 1 ≤ a := h.1
    rw [Cm.W_cons]
    show 1 ≤ x ∧ x ≤ a * (Cm.W (b :: r)).1 + (Cm.W (b :: r)).2
    rcases List.mem_cons.mp hx with rfl | hx
    · have := Int.mul_le_mul_of_nonneg_left (show 1 ≤ (Cm.W (b :: r)).1 by omega) (show 0 ≤ x by omega)
      omega
    · have ih := tl_mem (l := b :: r) h.2 x hx
      have := Int.mul_le_mul_of_nonneg_right h1 (show 0 ≤ (Cm.W (b :: r)).1 by omega)
      omega
theorem sz_euc {n : Nat} {t b : Int} (h0 : 0 < b) (ht : Bd n t) (hb : Bd n b) (hn : n ≤ 10000000) : Sz (Cm.euc t b) := by
  obtain ⟨c, g, g0, e1, e2⟩ := Cm.euc_ok (t := t) h0
  have w0 := Cm.Ch.bot c
  have one : Bd n 1 := by unfold Bd at *; omega
  have b1 : Bd n (Cm.W (Cm.euc t b)).1 := by
    unfold Bd at *
    refine Nat.lt_of_le_of_lt ?_ ht
    have : t.natAbs = g.natAbs * (Cm.W (Cm.euc t b)).1.natAbs := by rw [← Int.natAbs_mul, ← e1]
    rw [this]
    exact Nat.le_mul_of_pos_left _ (by omega)
  have b2 : Bd n (Cm.W (Cm.euc t b)).2 := by
    unfold Bd at *
    refine Nat.lt_of_le_of_lt ?_ hb
    have : b.natAbs = g.natAbs * (Cm.W (Cm.euc t b)).2.natAbs := by rw [← Int.natAbs_mul, ← e2]
    rw [this]
    exact Nat.le_mul_of_pos_left _ (by omega)
  have q1 : Bd n (t / b) := Nat.lt_of_le_of_lt (Int.natAbs_ediv_le_natAbs t b) ht
  have hl := Cm.euc_pos (t := t) h0
  generalize Cm.euc t b = l at *
  subst hl
  generalize Cm.euc b (t % b) = r at *
  rw [Cm.W_cons] at b1 b2
  refine ⟨n, by omega, fun x hx => ?_, fun k => ?_⟩
  · rcases List.mem_cons.mp hx with rfl | hx
    · exact q1
    · cases r with
      | nil => cases hx
      | cons y r =>
        have := tl_mem (l := y :: r) c x hx
        exact Bd.of_le (by omega) this.2 b2
  · cases k with
    | zero => rw [List.drop_zero, Cm.W_cons]; exact ⟨b1, b2⟩
    | succ k =>
      rw [List.drop_succ_cons]
      cases r with
      | nil => rw [List.drop_nil, Cm.W_nil]; exact ⟨one, Bd.zero⟩
      | cons y r =>
        have := tl_drop (l := y :: r) c k
        exact ⟨Bd.of_le this.1 this.2.1 b2, Bd.of_le this.2.2.1 this.2.2.2 b2⟩
/-! ### enumerate -/
theorem for_enum {K : PySem.W.Frag} {a : Addr} {xs : List V} {g : TG} {tb : TS} {D : Ends} {σ : L2.St} {H : Hp} (Pv : Nat → L2.St → Hp → Prop) (h0 : Pv 0 σ H) (hl : ∀ i σ H, i ≤ xs.length → Pv i σ H → SqL K H a xs)
    (hs : ∀ i x T σ H H', xs[i]? = some x → Pv i σ H → Same H H' → H T = none → H' T = some (.tup [.int (i : Nat), x]) → g (.ref T) σ H' fun σ2 H2 => tb { D with nx := Pv (i + 1), ct := Pv (i + 1), bk := D.nx } σ2 H2) (hd : ∀ σ H, Pv xs.length σ H → D.nx σ H) :
    ∃ W : Nat → Nat → L2.St → Hp → Prop, (∃ m, W 0 m σ H) ∧ ∀ i m σ H, W i m σ H →
      ((Ite K a).stop i H ∧ D.nx σ H) ∨ ((Ite K a).go i H ∧ ∃ N : L2.St → Hp → Prop, (∀ σ' H', N σ' H' → ∃ m', m' < m ∧ W (i + 1) m' σ' H') ∧ ∀ x H', (Ite K a).yld i H x H' → g x σ H' fun σ2 H2 => tb { D with nx := N, ct := N, bk := D.nx } σ2 H2) := by
  refine ⟨fun i m σ H => m = xs.length - i ∧ i ≤ xs.length ∧ Pv i σ H, ⟨xs.length, by simp, Nat.zero_le _, h0⟩, ?_⟩
  rintro i m σ H ⟨rfl, hi, p⟩
  have q := hl i σ H hi p
  by_cases hlt : i < xs.length
  · refine .inr ⟨⟨xs, xs[i], q, by simp [hlt]⟩, Pv (i + 1), fun σ' H' p' => ⟨xs.length - (i + 1), by omega, rfl, hlt, p'⟩, fun v H' y => ?_⟩
    obtain ⟨T, x, rfl, nT, rfl, fx⟩ := y
    exact hs i x T σ H _ (fx xs q) p (same_upd nT) nT upd_same
  · have e : i = xs.length := by omega
    subst e
    exact .inl ⟨⟨xs, q, Nat.le_refl _⟩, hd σ H p⟩
theorem lc_enum {K : PySem.W.Frag} {a : Addr} {xs : List V} {g : TG} {tt : TT} {te : TE} {vs : List Nat} {σ : L2.St} {H1 : Hp} {D : Addr} {Qd : Hp → Prop} (Pv : Nat → Hp → Prop) (h0 : Pv 0 (upd H1 D (.lst []))) (hl : ∀ i H, i ≤ xs.length → Pv i H → SqL K H a xs)
    (hs : ∀ i x T H H', xs[i]? = some x → Pv i H → Same H H' → H T = none → H' T = some (.tup [.int (i : Nat), x]) → g (.ref T) (wipe σ vs) H' fun σ2 H2 => wipe σ2 vs = wipe σ vs ∧ tt σ2 H2 fun b H3 =>
      if b = true then te σ2 H3 fun y H4 => ∃ acc, H4 D = some (.lst acc) ∧ acc.length < sizeLine ∧ Pv (i + 1) (upd H4 D (.lst (acc ++ [y]))) else Pv (i + 1) H3) (hd : ∀ H, Pv xs.length H → Qd H) :
    ∃ W : Nat → Nat → Hp → Prop, (∃ m, W 0 m (upd H1 D (.lst []))) ∧ ∀ i m H, W i m H →
      ((Ite K a).stop i H ∧ Qd H) ∨ ((Ite K a).go i H ∧ ∃ Nx : Hp → Prop, (∀ H', Nx H' → ∃ m', m' < m ∧ W (i + 1) m' H') ∧ ∀ x H', (Ite K a).yld i H x H' → g x (wipe σ vs) H' fun σ2 H2 => wipe σ2 vs = wipe σ vs ∧ tt σ2 H2 fun b H3 =>
        if b = true then te σ2 H3 fun y H4 => ∃ acc, H4 D = some (.lst acc) ∧ acc.length < sizeLine ∧ Nx (upd H4 D (.lst (acc ++ [y]))) else Nx H3) := by
  refine ⟨fun i m H => m = xs.length - i ∧ i ≤ xs.length ∧ Pv i H, ⟨xs.length, by simp, Nat.zero_le _, h0⟩, ?_⟩
  rintro i m H ⟨rfl, hi, p⟩
  have q := hl i H hi p
  by_cases hlt : i < xs.length
  · refine .inr ⟨⟨xs, xs[i], q, by simp [hlt]⟩, Pv (i + 1), fun H' p' => ⟨xs.length - (i + 1), by omega, rfl, hlt, p'⟩, fun v H' y => ?_⟩
    obtain ⟨T, x, rfl, nT, rfl, fx⟩ := y
    exact hs i x T H _ (fx xs q) p (same_upd nT) nT upd_same
  · have e : i = xs.length := by omega
    subst e
    exact .inl ⟨⟨xs, q, Nat.le_refl _⟩, hd H p⟩
end Cs
namespace Cs
open PySem PySem.Spec PyProof.Rows L2
/-! ### a while's test, so that what follows may be weakened -/
def tMonoT (t : TT) : TT := fun σ H Q => ∃ Q0 : Bool → Hp → Prop, t σ H Q0 ∧ ∀ b H', Q0 b H' → Q b H'
theorem pt_mono {X : Cx} {e : Expr} {t : TT} (h : PT X e t) : PT X e (tMonoT t) := by
  refine ⟨fun pins s σ H Q I hq => ?_⟩
  obtain ⟨Q0, h1, h2⟩ := hq
  exact thn (h.run pins s σ H Q0 I h1) fun b s1 ⟨H', I', q⟩ => ⟨H', I', h2 _ _ q⟩
theorem while_m {c : TT} {tb : TS} {D : Ends} {σ : L2.St} {H : Hp} (Pv : L2.St → Hp → Prop) (μ : L2.St → Hp → Nat) (h0 : Pv σ H)
    (hs : ∀ σ H, Pv σ H → c σ H fun b H1 => if b = true then tb { D with nx := fun σ' H' => Pv σ' H' ∧ μ σ' H' < μ σ H, ct := fun σ' H' => Pv σ' H' ∧ μ σ' H' < μ σ H, bk := D.nx } σ H1 else D.nx σ H1) : tWhile (tMonoT c) tb D σ H :=
  while_by Pv μ h0 (fun σ H p => ⟨_, hs σ H p, fun _ _ q => q⟩) fun _ _ _ _ m ⟨Q0, h1, h2⟩ => ⟨Q0, h1, fun b H' q => m _ _ (h2 _ _ q)⟩
end Cs
namespace Cs
open PySem PySem.Spec PyProof.Rows L2
/-! ### the shape of data -/
structure Shp (n : Nat) (d : PyData) : Prop where
  lay : d.canLay0 = true
  dep : d.depth ≤ n
theorem Shp.shaped {n : Nat} {d : PyData} (h : Shp n d) (l : n ≤ 64) : SeqAt.shaped d = true := by
  unfold SeqAt.shaped
  rw [h.lay, Bool.true_and]
  exact decide_eq_true (Nat.le_trans h.dep l)
theorem shp_int (i : Int) : Shp 0 (.int i) := ⟨by simp [PyData.canLay0], by simp [PyData.depth]⟩
theorem shp_bool (i : Bool) : Shp 0 (.bool i) := ⟨by simp [PyData.canLay0], by simp [PyData.depth]⟩
theorem shp_none : Shp 0 .none := ⟨by simp [PyData.canLay0], by simp [PyData.depth]⟩
theorem Shp.mono {n m : Nat} {d : PyData} (h : Shp n d) (l : n ≤ m) : Shp m d := ⟨h.lay, Nat.le_trans h.dep l⟩
theorem shp_all {n : Nat} : ∀ {ds : List PyData}, (∀ d ∈ ds, Shp n d) → PyData.canLayAll0 ds = true ∧ PyData.depthAll ds ≤ n
  | [], _ => ⟨by simp [PyData.canLayAll0], by simp [PyData.depthAll]⟩
  | d :: ds, h => by
    obtain ⟨h1, h2⟩ := shp_all (ds := ds) fun x hx => h x (List.mem_cons_of_mem _ hx)
    have hd := h d List.mem_cons_self
    refine ⟨by simp [PyData.canLayAll0, h1, hd.lay], ?_⟩
    have := hd.dep
    simp only [PyData.depthAll]
    omega
theorem shp_list {n : Nat} {ds : List PyData} (h : ∀ d ∈ ds, Shp n d) : Shp (n + 1) (.list ds) := by
  obtain ⟨h1, h2⟩ := shp_all h
  exact ⟨by simpa [PyData.canLay0] using h1, by simp only [PyData.depth]; omega⟩
theorem shp_tup {n : Nat} {ds : List PyData} (h : ∀ d ∈ ds, Shp n d) : Shp (n + 1) (.tuple ds) := by
  obtain ⟨h1, h2⟩ := shp_all h
  exact ⟨by simpa [PyData.canLay0] using h1, by simp only [PyData.depth]; omega⟩
theorem shp_ints (ns : List Int) : Shp 1 (.list (ns.map PyData.int)) := shp_list fun d hd => by
  obtain ⟨i, _, rfl⟩ := List.mem_map.mp hd
  exact shp_int i
theorem shp_intsT (ns : List Int) : Shp 1 (.tuple (ns.map PyData.int)) := shp_tup fun d hd => by
  obtain ⟨i, _, rfl⟩ := List.mem_map.mp hd
  exact shp_int i
theorem eqv_same {n : Nat} {d : PyData} (h : Shp n d) : PyData.eqv d d = true := SeqAt.eqv_refl d h.lay
/-! ### the chain of quotients of a list, mended -/
theorem fixl_good {l : List Int} (hne : l ≠ []) (h : ∀ x ∈ l.drop 1, 1 ≤ x) : Cm.Ch (fixl l) := by
  cases l with
  | nil => exact absurd rfl hne
  | cons z r => exact fixl_ch z r h
end Cs
namespace Cs
open PySem PySem.Spec PyProof.Rows L2
/-! ### data stays -/
mutual
theorem Dp.same {K : PySem.W.Frag} {H H' : Hp} (s : Same H H') : ∀ {v : V} {d : PyData}, Dp K H v d → Dp K H' v d
  | _, _, .non => .non
  | _, _, .bl b => .bl b
  | _, _, .int i => .int i
  | _, _, .str x => .str x
  | _, _, .lst h a => .lst (s.seq h) (DpAll.same s a)
  | _, _, .tup h a => .tup (same_t s h) (DpAll.same s a)
theorem DpAll.same {K : PySem.W.Frag} {H H' : Hp} (s : Same H H') : ∀ {vs : List V} {ds : List PyData}, DpAll K H vs ds → DpAll K H' vs ds
  | _, _, .nil => .nil
  | _, _, .cons h t => .cons (Dp.same s h) (DpAll.same s t)
end
/-- a pair of whole numbers, as data -/
abbrev prD (f : Int × Int) : PyData := .tuple ([f.1, f.2].map PyData.int)
abbrev HPr (K : PySem.W.Frag) (H : Hp) (a : Addr) (f : Int × Int) : Prop := SqT K H a ([f.1, f.2].map V.int)
theorem pr_at0 {K : PySem.W.Frag} {H : Hp} {a : Addr} {f : Int × Int} (_ : HPr K H a f) : atI ([f.1, f.2].map V.int) 0 = some (.int f.1) := atI_int (ns := [f.1, f.2]) (i := 0) rfl
theorem pr_at1 {K : PySem.W.Frag} {H : Hp} {a : Addr} {f : Int × Int} (_ : HPr K H a f) : atI ([f.1, f.2].map V.int) 1 = some (.int f.2) := atI_int (ns := [f.1, f.2]) (i := 1) rfl
end Cs
namespace Cs
open PySem PySem.Spec PyProof.Rows L2
/-- a tuple stays where a list changes -/
theorem sqT_upd {K : PySem.W.Frag} {H : Hp} {a p : Addr} {xs ys : List V} {o : HO} (h : SqT K H a xs) (hp : H p = some (.lst ys)) : SqT K (upd H p o) a xs := by
  rcases h with (h | ⟨ob, h⟩) | h
  · refine .inl (.inl ?_)
    rw [upd_ne (ne_of h hp (by intro z; cases z))]
    exact h
  · refine .inl (.inr ⟨ob, ?_⟩)
    rw [upd_ne (ne_of h hp (by intro z; cases z))]
    exact h
  · exact .inr h
end Cs

namespace Cs
open PySem PySem.Spec PyProof.Rows L2
/-! ### ends, in the heap -/
/-- an upper end, None or a pair -/
def HHi (K : PySem.W.Frag) (H : Hp) (v : V) : Option (Int × Int) → Prop
  | none => v = .non
  | some f => ∃ q, v = .ref q ∧ HPr K H q f
structure HEn (K : PySem.W.Frag) (H : Hp) (p : Addr) (e : Cm.En) : Prop where
  ex : ∃ (lo : Addr) (hv : V), SqT K H p [.ref lo, .bl e.ml, hv, .bl e.mh] ∧ HPr K H lo e.lo ∧ HHi K H hv e.hi
theorem HHi.same {K : PySem.W.Frag} {H H' : Hp} {v : V} {o : Option (Int × Int)} (s : Same H H') (h : HHi K H v o) : HHi K H' v o := by
  cases o with
  | none => exact h
  | some f =>
    obtain ⟨q, e, h⟩ := h
    exact ⟨q, e, same_t s h⟩
theorem HEn.same {K : PySem.W.Frag} {H H' : Hp} {p : Addr} {e : Cm.En} (s : Same H H') (h : HEn K H p e) : HEn K H' p e := by
  obtain ⟨lo, hv, h1, h2, h3⟩ := h.ex
  exact ⟨lo, hv, same_t s h1, same_t s h2, h3.same s⟩
def hiD : Option (Int × Int) → PyData
  | none => .none
  | some f => prD f
def enD (e : Cm.En) : PyData := .tuple [prD e.lo, .bool e.ml, hiD e.hi, .bool e.mh]
theorem HHi.dp {K : PySem.W.Frag} {H : Hp} {v : V} {o : Option (Int × Int)} (h : HHi K H v o) : Dp K H v (hiD o) := by
  cases o with
  | none =>
    have e : v = .non := h
    rw [e]
    exact .non
  | some f =>
    obtain ⟨q, e, h⟩ := h
    rw [e]
    exact dp_intsT h
theorem HEn.dp {K : PySem.W.Frag} {H : Hp} {p : Addr} {e : Cm.En} (h : HEn K H p e) : Dp K H (.ref p) (enD e) := by
  obtain ⟨lo, hv, h1, h2, h3⟩ := h.ex
  exact .tup h1 (.cons (dp_intsT h2) (.cons (.bl _) (.cons h3.dp (.cons (.bl _) .nil))))
theorem shp_hi (o : Option (Int × Int)) : Shp 1 (hiD o) := by
  cases o with
  | none => exact shp_none.mono (by decide)
  | some f => exact shp_intsT _
theorem shp_en (e : Cm.En) : Shp 2 (enD e) := shp_tup fun d hd => by
  rcases List.mem_cons.mp hd with rfl | hd
  · exact shp_intsT _
  rcases List.mem_cons.mp hd with rfl | hd
  · exact (shp_bool _).mono (by decide)
  rcases List.mem_cons.mp hd with rfl | hd
  · exact shp_hi _
  · rw [List.mem_singleton] at hd
    subst hd
    exact (shp_bool _).mono (by decide)
/-- the ends of a beginning, by the program's rule -/
def ends (ns : List Int) : Cm.En := Cm.endsOf ns (abvB ns)
theorem up_map {ns : List Int} : (ns.dropLast.map V.int) ++ [V.int (ns.getLastD 0 + 1)] = (Cm.up ns).map V.int := by
  unfold Cm.up
  rw [List.map_append]
  rfl
theorem up_len {ns : List Int} (h : ns ≠ []) : (Cm.up ns).length = ns.length := by
  have := List.length_pos_iff.mpr h
  unfold Cm.up
  rw [List.length_append, List.length_dropLast, List.length_singleton]
  omega
theorem up_bd {n : Nat} {ns : List Int} (h : ∀ x ∈ ns, Bd n x) (hn : 0 < n) : ∀ x ∈ Cm.up ns, Bd (n + 1) x := by
  intro x hx
  unfold Cm.up at hx
  rcases List.mem_append.mp hx with hx | hx
  · exact (h x (List.dropLast_subset _ hx)).mono (by omega)
  · rw [List.mem_singleton] at hx
    subst hx
    refine Bd.add ?_ (Bd.one hn)
    cases ns with
    | nil => exact Bd.zero
    | cons y r =>
      rw [← getLast_D (List.cons_ne_nil y r)]
      exact h _ (List.getLast_mem _)
theorem abvB_beg {ns : List Int} (h : begB ns = true) (hne : ns ≠ []) : abvB ns = ((ns != [0]) && (ns.length == 1 || decide (1 < ns.getLastD 0))) := by
  unfold begB at h
  rw [Bool.and_eq_true, Bool.or_eq_true] at h
  have h2 : decide (0 ≤ ns.headD 0) = true := by
    rcases h.2 with z | z
    · exact absurd (eq_of_beq z) hne
    · exact z
  unfold abvB chB
  rw [h.1, h2, Bool.true_and, Bool.true_and]
  have : (ns != []) = true := by simpa using hne
  rw [this, Bool.true_and, Bool.and_comm]
end Cs
namespace Cs
open PySem PySem.Spec PyProof.Rows L2
/-- how great ends are -/
structure EnB (e : Cm.En) : Prop where
  l1 : Bd 1000000 e.lo.1
  l2 : Bd 1000000 e.lo.2
  h : ∀ k, e.hi = some k → Bd 1000000 k.1 ∧ Bd 1000000 k.2
theorem en_bd {l : List Int} (h : ∀ x ∈ l, Bd 9000 x) (hl : l.length ≤ 100) : EnB (ends l) := by
  obtain ⟨w1, w2⟩ := W_bd' (m := 100) h hl
  by_cases hne : l = []
  · subst hne
    exact ⟨Bd.zero, Bd.one (by decide), fun k hk => by cases hk⟩
  · obtain ⟨u1, u2⟩ := W_bd' (m := 100) (up_bd h (by decide)) (by rw [up_len hne]; exact hl)
    have e : ends l = if l.length % 2 = 1 then ⟨Cm.W l, abvB l, some (Cm.W (Cm.up l)), false⟩ else ⟨Cm.W (Cm.up l), false, some (Cm.W l), abvB l⟩ := by
      unfold ends Cm.endsOf
      rw [if_neg hne]
    rw [e]
    split
    · exact ⟨w1.mono (by decide), w2.mono (by decide), fun k hk => by cases hk; exact ⟨u1.mono (by decide), u2.mono (by decide)⟩⟩
    · exact ⟨u1.mono (by decide), u2.mono (by decide), fun k hk => by cases hk; exact ⟨w1.mono (by decide), w2.mono (by decide)⟩⟩
/-- the items of a tuple of ends -/
theorem en_at0 {a b c d : V} : atI [a, b, c, d] 0 = some a := atI_nat (j := 0) rfl
theorem en_at1 {a b c d : V} : atI [a, b, c, d] 1 = some b := atI_nat (j := 1) rfl
theorem en_at2 {a b c d : V} : atI [a, b, c, d] 2 = some c := atI_nat (j := 2) rfl
theorem en_at3 {a b c d : V} : atI [a, b, c, d] 3 = some d := atI_nat (j := 3) rfl
theorem begB_take {l : List Int} (h : begB l = true) (n : Nat) : begB (l.take n) = true := by
  cases l with
  | nil => rw [List.take_nil]; exact h
  | cons x r =>
    cases n with
    | zero => rfl
    | succ n =>
      rw [List.take_succ_cons]
      unfold begB quots at h ⊢
      rw [Bool.and_eq_true] at h ⊢
      refine ⟨?_, h.2⟩
      have h1 := List.all_eq_true.mp h.1
      exact List.all_eq_true.mpr fun y hy => h1 y (List.mem_of_mem_take hy)
theorem begB_mem {l : List Int} (h : begB l = true) {k : Nat} {x : Int} (hx : l[k]? = some x) : if k = 0 then 0 ≤ x else 1 ≤ x := by
  unfold begB quots at h
  rw [Bool.and_eq_true, Bool.or_eq_true] at h
  cases l with
  | nil => simp at hx
  | cons y r =>
    cases k with
    | zero =>
      have : y = x := Option.some.inj hx
      subst this
      rw [if_pos rfl]
      rcases h.2 with z | z
      · cases z
      · exact of_decide_eq_true z
    | succ k =>
      rw [if_neg (by omega)]
      exact of_decide_eq_true (List.all_eq_true.mp h.1 x (List.mem_of_getElem? (i := k) hx))
theorem begB_snoc {p : List Int} {x : Int} (h : begB p = true) (hx : if p = [] then 0 ≤ x else 1 ≤ x) : begB (p ++ [x]) = true := by
  cases p with
  | nil =>
    rw [if_pos rfl] at hx
    unfold begB quots
    simp [hx]
  | cons y r =>
    rw [if_neg (by simp)] at hx
    unfold begB quots at h ⊢
    rw [Bool.and_eq_true] at h ⊢
    refine ⟨?_, h.2⟩
    have h1 := List.all_eq_true.mp h.1
    refine List.all_eq_true.mpr fun z hz => ?_
    rcases List.mem_append.mp (show z ∈ r ++ [x] from hz) with hz | hz
    · exact h1 z hz
    · rw [List.mem_singleton] at hz
      subst hz
      exact decide_eq_true hx
end Cs
namespace Cs
open PySem PySem.Spec PyProof.Rows L2
theorem HEn.upd {K : PySem.W.Frag} {H : Hp} {p l : Addr} {e : Cm.En} {ys : List V} {o : HO} (h : HEn K H p e) (hl : H l = some (.lst ys)) : HEn K (L2.upd H l o) p e := by
  obtain ⟨lo, hv, h1, h2, h3⟩ := h.ex
  refine ⟨lo, hv, sqT_upd h1 hl, sqT_upd h2 hl, ?_⟩
  cases ho : e.hi with
  | none =>
    rw [ho] at h3
    exact h3
  | some f =>
    rw [ho] at h3
    obtain ⟨q, eq, h⟩ := h3
    exact ⟨q, eq, sqT_upd h hl⟩
end Cs

namespace Cs
open PySem PySem.Spec PyProof.Rows L2

def topS (i : Nat) : Stmt := PySem.Challenge.pw_chainsum_k06_whole_within_and_beside.main.body.getD i (.Pass ⟨0, 0, 0, 0⟩)
abbrev s_is_whole : Stmt := topS 4
abbrev N_is_whole : List Str := ["thing"]
theorem sc_is_whole : FnScope N_is_whole ["thing"] (defScope s_is_whole) := ⟨rfl, rfl, rfl, by decide +kernel, rfl, by decide +kernel, by decide +kernel⟩
abbrev s_are_quotients : Stmt := topS 5
abbrev N_are_quotients : List Str := ["thing", "quotient"]
theorem sc_are_quotients : FnScope N_are_quotients ["thing"] (defScope s_are_quotients) := ⟨rfl, rfl, rfl, by decide +kernel, rfl, by decide +kernel, by decide +kernel⟩
abbrev s_is_chain : Stmt := topS 6
abbrev N_is_chain : List Str := ["thing"]
theorem sc_is_chain : FnScope N_is_chain ["thing"] (defScope s_is_chain) := ⟨rfl, rfl, rfl, by decide +kernel, rfl, by decide +kernel, by decide +kernel⟩
abbrev s_is_begun : Stmt := topS 7
abbrev N_is_begun : List Str := ["thing"]
theorem sc_is_begun : FnScope N_is_begun ["thing"] (defScope s_is_begun) := ⟨rfl, rfl, rfl, by decide +kernel, rfl, by decide +kernel, by decide +kernel⟩
abbrev s_is_above : Stmt := topS 8
abbrev N_is_above : List Str := ["thing"]
theorem sc_is_above : FnScope N_is_above ["thing"] (defScope s_is_above) := ⟨rfl, rfl, rfl, by decide +kernel, rfl, by decide +kernel, by decide +kernel⟩
abbrev s_told_by : Stmt := topS 9
abbrev N_told_by : List Str := ["quotients", "top", "bottom", "quotient", "higher"]
theorem sc_told_by : FnScope N_told_by ["quotients"] (defScope s_told_by) := ⟨rfl, rfl, rfl, by decide +kernel, rfl, by decide +kernel, by decide +kernel⟩
abbrev s_ends_of : Stmt := topS 11
abbrev N_ends_of : List Str := ["begun", "here", "there"]
theorem sc_ends_of : FnScope N_ends_of ["begun"] (defScope s_ends_of) := ⟨rfl, rfl, rfl, by decide +kernel, rfl, by decide +kernel, by decide +kernel⟩
abbrev s_l_quotient : Stmt := topS 14
abbrev N_l_quotient : List Str := ["_law_cell"]
theorem sc_l_quotient : FnScope N_l_quotient ["_law_cell"] (defScope s_l_quotient) := ⟨rfl, rfl, rfl, by decide +kernel, rfl, by decide +kernel, by decide +kernel⟩
abbrev s_l_begun : Stmt := topS 17
abbrev N_l_begun : List Str := ["_law_cells", "_law_found", "_law_cell", "_law_k", "_law_quotient_here"]
theorem sc_l_begun : FnScope N_l_begun ["_law_cells"] (defScope s_l_begun) := ⟨rfl, rfl, rfl, by decide +kernel, rfl, by decide +kernel, by decide +kernel⟩
abbrev s_l_order : Stmt := topS 18
abbrev N_l_order : List Str := ["_law_one", "_law_other", "_law_left", "_law_right"]
theorem sc_l_order : FnScope N_l_order ["_law_one", "_law_other"] (defScope s_l_order) := ⟨rfl, rfl, rfl, by decide +kernel, rfl, by decide +kernel, by decide +kernel⟩
abbrev s_l_within : Stmt := topS 19
abbrev N_l_within : List Str := ["_law_inner", "_law_outer", "_law_low", "_law_high"]
theorem sc_l_within : FnScope N_l_within ["_law_inner", "_law_outer"] (defScope s_l_within) := ⟨rfl, rfl, rfl, by decide +kernel, rfl, by decide +kernel, by decide +kernel⟩
abbrev s_l_is_half : Stmt := topS 20
abbrev N_l_is_half : List Str := ["_law_inner", "_law_outer", "_law_wide", "_law_whole_here"]
theorem sc_l_is_half : FnScope N_l_is_half ["_law_inner", "_law_outer"] (defScope s_l_is_half) := ⟨rfl, rfl, rfl, by decide +kernel, rfl, by decide +kernel, by decide +kernel⟩
abbrev s_l_beside : Stmt := topS 21
abbrev N_l_beside : List Str := ["_law_one", "_law_other"]
theorem sc_l_beside : FnScope N_l_beside ["_law_one", "_law_other"] (defScope s_l_beside) := ⟨rfl, rfl, rfl, by decide +kernel, rfl, by decide +kernel, by decide +kernel⟩
abbrev s_law : Stmt := topS 22
abbrev N_law : List Str := ["_law_script", "_law_quotients", "_law_ahead", "_law_k", "_law_here", "_law_beside_here"]
theorem sc_law : FnScope N_law ["_law_script"] (defScope s_law) := ⟨rfl, rfl, rfl, by decide +kernel, rfl, by decide +kernel, by decide +kernel⟩
structure Txt (K : PySem.W.Frag) (mg : Str → Option Value) : Prop where
  d_is_whole : DefAt K mg "is_whole" s_is_whole ["thing"]
  d_are_quotients : DefAt K mg "are_quotients" s_are_quotients ["thing"]
  d_is_chain : DefAt K mg "is_chain" s_is_chain ["thing"]
  d_is_begun : DefAt K mg "is_begun" s_is_begun ["thing"]
  d_is_above : DefAt K mg "is_above" s_is_above ["thing"]
  d_told_by : DefAt K mg "told_by" s_told_by ["quotients"]
  d_ends_of : DefAt K mg "ends_of" s_ends_of ["begun"]
  d_l_quotient : DefAt K mg "_law_quotient" s_l_quotient ["_law_cell"]
  d_l_begun : DefAt K mg "_law_begun" s_l_begun ["_law_cells"]
  d_l_order : DefAt K mg "_law_order" s_l_order ["_law_one", "_law_other"]
  d_l_within : DefAt K mg "_law_within" s_l_within ["_law_inner", "_law_outer"]
  d_l_is_half : DefAt K mg "_law_is_half" s_l_is_half ["_law_inner", "_law_outer"]
  d_l_beside : DefAt K mg "_law_beside" s_l_beside ["_law_one", "_law_other"]
  d_law : LawAt K mg "law" s_law ["_law_script"]
  z_all : mg "all" = none
  z_bool : mg "bool" = none
  z_enumerate : mg "enumerate" = none
  z_int : mg "int" = none
  z_isinstance : mg "isinstance" = none
  z_len : mg "len" = none
  z_list : mg "list" = none
  z_range : mg "range" = none
  z_reversed : mg "reversed" = none
def sp_is_whole (K : PySem.W.Frag) : Sp := fun vs H Q _ => ∃ (x : V) (t : String), vs = [x] ∧ TyX K H x (.type t) ∧ t ∈ tys ∧ Q (.bl (decide (t = "int"))) H
section
variable {P : Program} {w : World} {K : PySem.W.Frag} {mg : Str → Option Value} {base : Heap}
theorem cal_is_whole (T : Txt K mg) : Cal P w K mg base CX0 1 "is_whole" (sp_is_whole K) := by
  refine cal_ok T.d_is_whole sc_is_whole (fun vs H Q E h => ?_) (fun f cdv A outer s H vs Q E hr h => ?_)
  · obtain ⟨x, t, rfl, _⟩ := h
    rfl
  · refine ⟨_, (pss_one (ps_ret (pe_and (pe_callB (r := rIsi K) (id := "isinstance") call_isi (by rfl) T.z_isinstance (by decide +kernel) (pa_cons (pv 0) (pa_cons (pe_bltn (v := .ty "int") (u := .type "int") (by rfl) T.z_int (by decide +kernel) rfl) pa_nil))) (pe_one (pe_not (pe_callB (r := rIsi K) (id := "isinstance") call_isi (by rfl) T.z_isinstance (by decide +kernel) (pa_cons (pv 0) (pa_cons (pe_bltn (v := .ty "bool") (u := .type "bool") (by rfl) T.z_bool (by decide +kernel) rfl) pa_nil)))))))), ?_⟩
    obtain ⟨x, t, rfl, hx, ht, q⟩ := h
    refine ⟨_, rfl, _, _, _, _, _, rfl, .ty _, hx, kit_ty (kit_tys (by decide) _ ht), _, rfl, ?_⟩
    by_cases h1 : t = "int"
    · subst h1
      exact iteT ⟨_, rfl, _, _, _, _, _, rfl, .ty _, hx, kit_ty (kit_tys (by decide) _ ht), _, rfl, q⟩
    · by_cases h2 : t = "bool"
      · subst h2
        exact iteT ⟨_, rfl, _, _, _, _, _, rfl, .ty _, hx, kit_ty (kit_tys (by decide) _ ht), _, rfl, q⟩
      · rw [decide_eq_false h1] at q ⊢
        rw [decide_eq_false h2]
        exact iteF q
end
theorem told_step {ns : List Int} {i : Nat} {z : Int} (hi : i + 1 < ns.length) (h : ns[ns.length - 2 - i]? = some z) :
    Cm.W (ns.drop (ns.length - 1 - (i + 1))) = (z * (Cm.W (ns.drop (ns.length - 1 - i))).1 + (Cm.W (ns.drop (ns.length - 1 - i))).2, (Cm.W (ns.drop (ns.length - 1 - i))).1) := by
  have e : ns.length - 1 - (i + 1) = ns.length - 2 - i := by omega
  have h1 : ns.length - 2 - i < ns.length := by omega
  have e2 : ns.length - 2 - i + 1 = ns.length - 1 - i := by omega
  rw [e, List.drop_eq_getElem_cons h1, e2, Cm.W_cons]
  have : ns[ns.length - 2 - i] = z := by
    rw [List.getElem?_eq_getElem h1] at h
    exact Option.some.inj h
  rw [this]
theorem told_last {ns : List Int} (h : ns ≠ []) : Cm.W (ns.drop (ns.length - 1 - 0)) = (ns.getLast h, 1) := by
  have hl : 0 < ns.length := List.length_pos_iff.mpr h
  rw [Nat.sub_zero, List.drop_eq_getElem_cons (by omega), List.drop_eq_nil_of_le (by omega), Cm.W_one, List.getLast_eq_getElem]
/-- the fraction that quotients tell, as a new tuple -/
def sp_told_by (K : PySem.W.Frag) : Sp := fun vs H Q _ => ∃ (a : Addr) (ns : List Int), vs = [.ref a] ∧ SqL K H a (ns.map V.int) ∧ ns ≠ [] ∧ Sz ns ∧
  ∀ H' p, Same H H' → H p = none → H' p = some (.tup [.int (Cm.W ns).1, .int (Cm.W ns).2]) → Q (.ref p) H'
section
variable {P : Program} {w : World} {K : PySem.W.Frag} {mg : Str → Option Value} {base : Heap}
theorem cal_told_by (T : Txt K mg) : Cal P w K mg base CX0 1 "told_by" (sp_told_by K) := by
  refine cal_ok T.d_told_by sc_told_by (fun vs H Q E h => ?_) (fun f cdv A outer s H vs Q E hr h => ?_)
  · obtain ⟨a, ns, rfl, _⟩ := h
    rfl
  · refine ⟨_, (pss_cons (ps_set (i := 1) sc_told_by.nd rfl (.inl rfl) (pe_ix (r := rIxL K) ix_list (pv 0) (pe_un un_neg pe_int) (fun _ _ => rfl)))
      (pss_cons (ps_set (i := 2) sc_told_by.nd rfl (.inl rfl) pe_int)
      (pss_cons (ps_for PassesOwn.never rfl (pi_reversed (by rfl) T.z_reversed (pa_cons (pe_slice sl_list (pv 0) po_none (po_some (pe_un un_neg pe_int))) pa_nil)) (pg_name (i := 3) sc_told_by.nd rfl (.inl rfl))
      (pss_cons (ps_set (i := 4) sc_told_by.nd rfl (.inl rfl) (pe_op op_add (pe_op op_mulX (pv 3) (pv 1)) (pv 2)))
      (pss_cons (ps_set (i := 2) sc_told_by.nd rfl (.inl rfl) (pv 1))
      (pss_one (ps_set (i := 1) sc_told_by.nd rfl (.inl rfl) (pv 4))))))
      (pss_one (ps_ret (pe_tup (pa_cons (pv 1) (pa_cons (pv 2) pa_nil)))))))), ?_⟩
    obtain ⟨a, ns, rfl, hS, hne, ⟨n, hn, hb, hw⟩, q⟩ := h
    have hl : 0 < ns.length := List.length_pos_iff.mpr hne
    refine ⟨_, rfl, 1, rfl, a, _, _, _, rfl, rfl, hS, atI_neg1 hne, ?_⟩
    refine ⟨_, rfl, 1, rfl, _, rfl, a, _, rfl, hS, fun c nc => ?_⟩
    (generalize hH_ : upd _ c _ = H1; have s1 := same_of hH_ nc; have ec := at_new hH_; clear hH_)
    rw [cut_neg1, ← List.map_dropLast] at ec
    refine ⟨c, _, rfl, sqL ec, for_rev (K := K) (a := c) (xs := ns.dropLast.map V.int) (fun i σ H' => ∃ v3 v4, σ = [some (.ref a), some (.int (Cm.W (ns.drop (ns.length - 1 - i))).1), some (.int (Cm.W (ns.drop (ns.length - 1 - i))).2), v3, v4] ∧ H' = H1)
      ⟨none, none, by rw [told_last hne]; rfl, rfl⟩ (fun i σ H' _ ⟨_, _, _, e⟩ => by rw [e]; exact sqL ec) ?_ ?_⟩
    · rintro i y σ H' hi hy ⟨v3, v4, rfl, rfl⟩
      rw [List.length_map, List.length_dropLast] at hi hy
      obtain ⟨z, hz, rfl⟩ := map_int_at hy
      rw [List.getElem?_dropLast, if_pos (by omega)] at hz
      have hz' : ns[ns.length - 2 - i]? = some z := by rw [← hz]; congr 1
      have hbz : Bd n z := hb z (List.mem_of_getElem? hz')
      have st := told_step (by omega) hz'
      refine ⟨_, rfl, _, rfl, _, _, rfl, rfl, mulOk hbz (hw _).1 (by omega), _, rfl, _, _, rfl, rfl, _, rfl, _, rfl, ?_⟩
      refine ⟨some (.int z), some (.int (z * (Cm.W (ns.drop (ns.length - 1 - i))).1 + (Cm.W (ns.drop (ns.length - 1 - i))).2)), ?_, rfl⟩
      rw [st]
      rfl
    · rintro σ H' ⟨v3, v4, rfl, rfl⟩
      refine ⟨_, rfl, _, rfl, (by show 2 ≤ sizeLine; decide), fun p np => ?_⟩
      (generalize hH_ : upd _ p _ = H2; have s2 := same_of hH_ np; have ep := at_new hH_; clear hH_)
      refine q _ p (s1.trans s2) (s1.free np) ?_
      rw [ep, List.length_map, List.length_dropLast, Nat.sub_self, List.drop_zero]
end
def sp_l_quotient (K : PySem.W.Frag) : Sp := fun vs H Q _ => ∃ (c : Int), vs = [.int c] ∧ ∀ H', Same H H' → Q (.int (lq c)) H'
section
variable {P : Program} {w : World} {K : PySem.W.Frag} {mg : Str → Option Value} {base : Heap}
theorem cal_l_quotient (T : Txt K mg) : Cal P w K mg base CX0 1 "_law_quotient" (sp_l_quotient K) := by
  refine cal_ok T.d_l_quotient sc_l_quotient (fun vs H Q E h => ?_) (fun f cdv A outer s H vs Q E hr h => ?_)
  · obtain ⟨c, rfl, _⟩ := h
    rfl
  · refine ⟨_, (pss_one (ps_ret (pe_op op_add pe_int (pe_op op_mod (pv 0) (pe_ix (r := rIxL K) ix_list (pe_lst (pa_cons (pe_op op_pow pe_int pe_int) (pa_cons pe_int (pa_cons pe_int (pa_cons (pe_op op_pow pe_int pe_int) pa_nil))))) (pe_op op_mod (pe_op op_fdivP (pv 0) pe_int) pe_int) (fun _ _ => rfl)))))), ?_⟩
    obtain ⟨c, rfl, q⟩ := h
    have h0 := Int.emod_nonneg (c / 5) (show (4 : Int) ≠ 0 by decide)
    have h1 := Int.emod_lt_of_pos (c / 5) (show (0 : Int) < 4 by decide)
    refine ⟨_, rfl, _, _, rfl, rfl, ⟨by decide, by decide, by decide⟩, _, _, rfl, rfl, ⟨by decide, by decide, by decide⟩, (by show 4 ≤ sizeLine; decide), fun p np => ?_⟩
    (generalize hH_ : upd _ p _ = H1; have s1 := same_of hH_ np; have ep := at_new hH_; clear hH_)
    have ep' : H1 p = some (.lst (lqMenu.map V.int)) := ep
    refine ⟨_, rfl, _, _, rfl, rfl, divS (by decide) (by decide), _, _, rfl, rfl, (show (0 : Int) < 4 by decide), p, _, _, _, rfl, rfl, sqL ep', atI_menu h0 h1, ?_⟩
    refine ⟨_, _, rfl, rfl, (lqMenu_ok _ (lq_menu c)).1, _, _, rfl, rfl, ?_⟩
    exact q _ s1
end
def sp_l_order (K : PySem.W.Frag) : Sp := fun vs H Q _ => ∃ (u v : V) (o p : Option (Int × Int)), vs = [u, v] ∧ HHi K H u o ∧ HHi K H v p ∧
  (∀ k, o = some k → Bd 1000000 k.1 ∧ Bd 1000000 k.2) ∧ (∀ k, p = some k → Bd 1000000 k.1 ∧ Bd 1000000 k.2) ∧ Q (.int (Cm.ordE o p)) H
section
variable {P : Program} {w : World} {K : PySem.W.Frag} {mg : Str → Option Value} {base : Heap}
theorem cal_l_order (T : Txt K mg) : Cal P w K mg base CX0 1 "_law_order" (sp_l_order K) := by
  refine cal_ok T.d_l_order sc_l_order (fun vs H Q E h => ?_) (fun f cdv A outer s H vs Q E hr h => ?_)
  · obtain ⟨u, v, o, p, rfl, _⟩ := h
    rfl
  · refine ⟨_, (pss_cons (ps_if (PW.pt (pw_or (pt_cmpR op_isN (pv 0) pe_non (nomark _)) (pw_or1 (pt_cmpR op_isN (pv 1) pe_non (nomark _))))) (pss_one (ps_ret (pe_op op_sub (pe_callTy call_int1 (by rfl) T.z_int (by decide +kernel) (pa_cons (pe_cmpR op_isN (pv 0) pe_non (nomark _)) pa_nil)) (pe_callTy call_int1 (by rfl) T.z_int (by decide +kernel) (pa_cons (pe_cmpR op_isN (pv 1) pe_non (nomark _)) pa_nil))))) pss_nil)
      (pss_cons (ps_set (i := 2) sc_l_order.nd rfl (.inl rfl) (pe_op op_mulX (pe_ix (r := rIxT K) ix_tup (pv 0) pe_int (fun _ _ => rfl)) (pe_ix (r := rIxT K) ix_tup (pv 1) pe_int (fun _ _ => rfl))))
      (pss_cons (ps_set (i := 3) sc_l_order.nd rfl (.inl rfl) (pe_op op_mulX (pe_ix (r := rIxT K) ix_tup (pv 1) pe_int (fun _ _ => rfl)) (pe_ix (r := rIxT K) ix_tup (pv 0) pe_int (fun _ _ => rfl))))
      (pss_one (ps_ret (pe_op op_sub (pe_callTy call_int1 (by rfl) T.z_int (by decide +kernel) (pa_cons (pe_cmpR op_gt (pv 2) (pv 3) (nomark _)) pa_nil)) (pe_callTy call_int1 (by rfl) T.z_int (by decide +kernel) (pa_cons (pe_cmpR op_lt (pv 2) (pv 3) (nomark _)) pa_nil)))))))), ?_⟩
    obtain ⟨u, v, o, p, rfl, hu, hv, bo, bp, q⟩ := h
    cases o with
    | none =>
      have e : u = .non := hu
      subst e
      refine ⟨_, rfl, rfl, _, rfl, iteT ?_⟩
      refine ⟨_, rfl, rfl, .inr ⟨_, rfl, _, rfl, rfl, .inr ⟨_, rfl, _, _, rfl, rfl, ?_⟩⟩⟩
      cases p with
      | none =>
        have e : v = .non := hv
        subst e
        exact q
      | some k =>
        obtain ⟨r, rfl, _⟩ := hv
        exact q
    | some j =>
      obtain ⟨r, rfl, hj⟩ := hu
      refine ⟨_, rfl, rfl, _, rfl, iteF ?_⟩
      cases p with
      | none =>
        have e : v = .non := hv
        subst e
        refine ⟨_, rfl, rfl, _, rfl, iteT ?_⟩
        exact ⟨_, rfl, rfl, .inr ⟨_, rfl, _, rfl, rfl, .inr ⟨_, rfl, _, _, rfl, rfl, q⟩⟩⟩
      | some k =>
        obtain ⟨s, rfl, hk⟩ := hv
        obtain ⟨b1, b2⟩ := bo j rfl
        obtain ⟨b3, b4⟩ := bp k rfl
        refine ⟨_, rfl, rfl, _, rfl, iteF ?_⟩
        refine ⟨_, rfl, r, _, 0, _, rfl, rfl, hj, pr_at0 hj, _, rfl, s, _, 1, _, rfl, rfl, hk, pr_at1 hk, _, _, rfl, rfl, mulOk b1 b4 (by decide), ?_⟩
        refine ⟨_, rfl, s, _, 0, _, rfl, rfl, hk, pr_at0 hk, _, rfl, r, _, 1, _, rfl, rfl, hj, pr_at1 hj, _, _, rfl, rfl, mulOk b3 b2 (by decide), ?_⟩
        refine ⟨_, rfl, _, rfl, _, _, rfl, rfl, .inr ⟨_, rfl, _, rfl, _, rfl, _, _, rfl, rfl, .inr ⟨_, rfl, _, _, rfl, rfl, ?_⟩⟩⟩
        have e : (if decide (k.1 * j.2 < j.1 * k.2) = true then (1 : Int) else 0) - (if decide (j.1 * k.2 < k.1 * j.2) = true then 1 else 0) = Cm.ordE (some j) (some k) := by
          show _ = Cm.sgn (j.1 * k.2 - k.1 * j.2)
          unfold Cm.sgn
          generalize k.1 * j.2 = x
          generalize j.1 * k.2 = y
          simp only [decide_eq_true_eq]
          split <;> split <;> (try split) <;> (try split) <;> omega
        dsimp only
        rw [e]
        exact q
end
def sp_l_is_half (K : PySem.W.Frag) : Sp := fun vs H Q _ => ∃ (u v : Addr) (i o : Cm.En), vs = [.ref u, .ref v] ∧ HEn K H u i ∧ HEn K H v o ∧ EnB i ∧ EnB o ∧ i.hi ≠ none ∧ ∀ H', Same H H' → Q (.bl (Cm.halfE i o)) H'
section
variable {P : Program} {w : World} {K : PySem.W.Frag} {mg : Str → Option Value} {base : Heap}
theorem cal_l_is_half (T : Txt K mg) : Cal P w K mg base CX0 1 "_law_is_half" (sp_l_is_half K) := by
  refine cal_ok T.d_l_is_half sc_l_is_half (fun vs H Q E h => ?_) (fun f cdv A outer s H vs Q E hr h => ?_)
  · obtain ⟨u, v, o, p, rfl, _⟩ := h
    rfl
  · refine ⟨_, (pss_cons (ps_if (pt_cmpR op_isN (pe_ix (r := rIxT K) ix_tup (pv 1) pe_int (fun _ _ => rfl)) pe_non (nomark _)) (pss_one (ps_ret (pe_cmpR op_notN (pe_ix (r := rIxT K) ix_tup (pv 0) pe_int (fun _ _ => rfl)) pe_non (nomark _)))) pss_nil)
      (pss_cons (ps_set (i := 2) sc_l_is_half.nd rfl (.inl rfl) (pe_tup (pa_cons (pe_op op_sub (pe_op op_mulX (pe_ix (r := rIxT K) ix_tup (pe_ix (r := rIxT K) ix_tup (pv 0) pe_int (fun _ _ => rfl)) pe_int (fun _ _ => rfl)) (pe_ix (r := rIxT K) ix_tup (pe_ix (r := rIxT K) ix_tup (pv 0) pe_int (fun _ _ => rfl)) pe_int (fun _ _ => rfl))) (pe_op op_mulX (pe_ix (r := rIxT K) ix_tup (pe_ix (r := rIxT K) ix_tup (pv 0) pe_int (fun _ _ => rfl)) pe_int (fun _ _ => rfl)) (pe_ix (r := rIxT K) ix_tup (pe_ix (r := rIxT K) ix_tup (pv 0) pe_int (fun _ _ => rfl)) pe_int (fun _ _ => rfl)))) (pa_cons (pe_op op_mulX (pe_ix (r := rIxT K) ix_tup (pe_ix (r := rIxT K) ix_tup (pv 0) pe_int (fun _ _ => rfl)) pe_int (fun _ _ => rfl)) (pe_ix (r := rIxT K) ix_tup (pe_ix (r := rIxT K) ix_tup (pv 0) pe_int (fun _ _ => rfl)) pe_int (fun _ _ => rfl))) pa_nil))))
      (pss_cons (ps_set (i := 3) sc_l_is_half.nd rfl (.inl rfl) (pe_tup (pa_cons (pe_op op_sub (pe_op op_mulX (pe_ix (r := rIxT K) ix_tup (pe_ix (r := rIxT K) ix_tup (pv 1) pe_int (fun _ _ => rfl)) pe_int (fun _ _ => rfl)) (pe_ix (r := rIxT K) ix_tup (pe_ix (r := rIxT K) ix_tup (pv 1) pe_int (fun _ _ => rfl)) pe_int (fun _ _ => rfl))) (pe_op op_mulX (pe_ix (r := rIxT K) ix_tup (pe_ix (r := rIxT K) ix_tup (pv 1) pe_int (fun _ _ => rfl)) pe_int (fun _ _ => rfl)) (pe_ix (r := rIxT K) ix_tup (pe_ix (r := rIxT K) ix_tup (pv 1) pe_int (fun _ _ => rfl)) pe_int (fun _ _ => rfl)))) (pa_cons (pe_op op_mulX (pe_ix (r := rIxT K) ix_tup (pe_ix (r := rIxT K) ix_tup (pv 1) pe_int (fun _ _ => rfl)) pe_int (fun _ _ => rfl)) (pe_ix (r := rIxT K) ix_tup (pe_ix (r := rIxT K) ix_tup (pv 1) pe_int (fun _ _ => rfl)) pe_int (fun _ _ => rfl))) pa_nil))))
      (pss_one (ps_ret (pe_cmpR op_lt (pe_op op_mulX (pe_op op_mulX pe_int (pe_ix (r := rIxT K) ix_tup (pv 2) pe_int (fun _ _ => rfl))) (pe_ix (r := rIxT K) ix_tup (pv 3) pe_int (fun _ _ => rfl))) (pe_op op_mulX (pe_ix (r := rIxT K) ix_tup (pv 3) pe_int (fun _ _ => rfl)) (pe_ix (r := rIxT K) ix_tup (pv 2) pe_int (fun _ _ => rfl))) (nomark _))))))), ?_⟩
    obtain ⟨u, v, i, o, rfl, hu, hv, bi, bo, hne, q⟩ := h
    obtain ⟨il, ih, i1, i2, i3⟩ := hu.ex
    obtain ⟨ol, oh, o1, o2, o3⟩ := hv.ex
    refine ⟨_, rfl, v, _, 2, _, rfl, rfl, o1, en_at2, rfl, _, rfl, ?_⟩
    unfold Cm.halfE at q
    cases hh : i.hi with
    | none => exact absurd hh hne
    | some h =>
      rw [hh] at i3 q
      obtain ⟨ip, rfl, i4⟩ := i3
      obtain ⟨b5, b6⟩ := bi.h h hh
      cases ho : o.hi with
      | none =>
        rw [ho] at o3 q
        have e : oh = .non := o3
        subst e
        exact iteT ⟨_, rfl, u, _, 2, _, rfl, rfl, i1, en_at2, rfl, q _ (Same.refl _)⟩
      | some k =>
        rw [ho] at o3 q
        obtain ⟨op, rfl, o4⟩ := o3
        obtain ⟨b7, b8⟩ := bo.h k ho
        have b1 := bi.l1
        have b2 := bi.l2
        have b3 := bo.l1
        have b4 := bo.l2
        refine iteF ?_
        refine ⟨_, rfl, u, _, 2, _, rfl, rfl, i1, en_at2, ip, _, 0, _, rfl, rfl, i4, pr_at0 i4, _, rfl, u, _, 0, _, rfl, rfl, i1, en_at0, il, _, 1, _, rfl, rfl, i2, pr_at1 i2, _, _, rfl, rfl, mulOk b5 b2 (by decide), ?_⟩
        refine ⟨_, rfl, u, _, 0, _, rfl, rfl, i1, en_at0, il, _, 0, _, rfl, rfl, i2, pr_at0 i2, _, rfl, u, _, 2, _, rfl, rfl, i1, en_at2, ip, _, 1, _, rfl, rfl, i4, pr_at1 i4, _, _, rfl, rfl, mulOk b1 b6 (by decide), _, _, rfl, rfl, ?_⟩
        refine ⟨_, rfl, u, _, 0, _, rfl, rfl, i1, en_at0, il, _, 1, _, rfl, rfl, i2, pr_at1 i2, _, rfl, u, _, 2, _, rfl, rfl, i1, en_at2, ip, _, 1, _, rfl, rfl, i4, pr_at1 i4, _, _, rfl, rfl, mulOk b2 b6 (by decide), (by show 2 ≤ sizeLine; decide), fun w nw => ?_⟩
        (generalize hH_ : upd _ w _ = H1; have s1 := same_of hH_ nw; have ew := at_new hH_; clear hH_)
        have o1' := same_t s1 o1
        have o2' := same_t s1 o2
        have o4' := same_t s1 o4
        refine ⟨_, rfl, v, _, 2, _, rfl, rfl, o1', en_at2, op, _, 0, _, rfl, rfl, o4', pr_at0 o4', _, rfl, v, _, 0, _, rfl, rfl, o1', en_at0, ol, _, 1, _, rfl, rfl, o2', pr_at1 o2', _, _, rfl, rfl, mulOk b7 b4 (by decide), ?_⟩
        refine ⟨_, rfl, v, _, 0, _, rfl, rfl, o1', en_at0, ol, _, 0, _, rfl, rfl, o2', pr_at0 o2', _, rfl, v, _, 2, _, rfl, rfl, o1', en_at2, op, _, 1, _, rfl, rfl, o4', pr_at1 o4', _, _, rfl, rfl, mulOk b3 b8 (by decide), _, _, rfl, rfl, ?_⟩
        refine ⟨_, rfl, v, _, 0, _, rfl, rfl, o1', en_at0, ol, _, 1, _, rfl, rfl, o2', pr_at1 o2', _, rfl, v, _, 2, _, rfl, rfl, o1', en_at2, op, _, 1, _, rfl, rfl, o4', pr_at1 o4', _, _, rfl, rfl, mulOk b4 b8 (by decide), (by show 2 ≤ sizeLine; decide), fun x nx => ?_⟩
        (generalize hH_ : upd _ x _ = H2; have s2 := same_of hH_ nx; have ex := at_new hH_; clear hH_)
        have hw : HPr K H2 w (Cm.wide i h) := sqT (s2 _ _ ew)
        have hx : HPr K H2 x (Cm.wide o k) := sqT ex
        have c1 : Bd 2000001 (Cm.wide i h).1 := ((b5.mul b2).sub (b1.mul b6)).mono (by decide)
        have c2 : Bd 2000000 (Cm.wide i h).2 := (b2.mul b6).mono (by decide)
        have c3 : Bd 2000001 (Cm.wide o k).1 := ((b7.mul b4).sub (b3.mul b8)).mono (by decide)
        have c4 : Bd 2000000 (Cm.wide o k).2 := (b4.mul b8).mono (by decide)
        have two : Bd 2 2 := bdL (by decide)
        refine ⟨_, rfl, w, _, 0, _, rfl, rfl, hw, pr_at0 hw, _, _, rfl, rfl, mulOk two c1 (by decide), _, rfl, x, _, 1, _, rfl, rfl, hx, pr_at1 hx, _, _, rfl, rfl, mulOk (two.mul c1) c4 (by decide), ?_⟩
        refine ⟨_, rfl, x, _, 0, _, rfl, rfl, hx, pr_at0 hx, _, rfl, w, _, 1, _, rfl, rfl, hw, pr_at1 hw, _, _, rfl, rfl, mulOk c3 c2 (by decide), _, _, rfl, rfl, ?_⟩
        exact q _ (s1.trans s2)
end
def sp_are_quotients (K : PySem.W.Frag) : Sp := fun vs H Q _ => ∃ (x : V) (th : Option (List V)), vs = [x] ∧ Thing K H x th ∧ ∀ H', Same H H' → Q (.bl (quotsT th)) H'
section
variable {P : Program} {w : World} {K : PySem.W.Frag} {mg : Str → Option Value} {base : Heap}
theorem cal_are_quotients (T : Txt K mg) : Cal P w K mg base CX0 2 "are_quotients" (sp_are_quotients K) := by
  have C_is_whole := cal_is_whole (P := P) (w := w) (base := base) T
  refine cal_ok T.d_are_quotients sc_are_quotients (fun vs H Q E h => ?_) (fun f cdv A outer s H vs Q E hr h => ?_)
  · obtain ⟨x, t, rfl, _⟩ := h
    rfl
  · refine ⟨_, (pss_cons (ps_if (pt_not (pt_val (pe_callB (r := rIsi K) (id := "isinstance") call_isi (by rfl) T.z_isinstance (by decide +kernel) (pa_cons (pv 0) (pa_cons (pe_bltn (v := .ty "list") (u := .type "list") (by rfl) T.z_list (by decide +kernel) rfl) pa_nil))))) (pss_one (ps_ret pe_bl)) pss_nil)
      (pss_cons (ps_for PassesOwn.never rfl (pi_list (pv 0)) (pg_name (i := 1) sc_are_quotients.nd rfl (.inl rfl))
      (pss_one (ps_if (pt_not (pt_val (pe_c C_is_whole hr (by decide) (by rfl) (pa_cons (pv 1) pa_nil)))) (pss_one (ps_ret pe_bl)) pss_nil)))
      (pss_one (ps_ret (pe_callB (cr_all rfl) (by rfl) T.z_all (by decide +kernel) (pa_cons (pe_lc (own := [("quotient", 1)]) (g := gName 1) rfl sc_are_quotients.nd (pi_list (pe_slice sl_list (pv 0) (po_some pe_int) po_none)) (blkOk_by (N := N_are_quotients) (sc := defScope s_are_quotients) (own := [("quotient", 1)]) (by decide +kernel)) (fun _ _ _ _ _ => (pg_name (i := 1) sc_are_quotients.nd rfl (.inl rfl))) (fun _ _ _ _ _ => pts_nil) (fun _ _ _ _ _ => (pe_cmpR op_ge (pv 1) pe_int (nomark _)))) pa_nil)))))), ?_⟩
    obtain ⟨x, th, rfl, hx, q⟩ := h
    cases th with
    | none =>
      obtain ⟨t, ht, hn, ty⟩ := hx
      refine ⟨_, rfl, _, _, _, _, _, rfl, .ty _, ty, kit_ty (kit_tys (by decide) _ ht), _, rfl, ?_⟩
      have e : (!(decide (t = "list") || decide (t = "bool") && decide ("list" = "int"))) = true := by simp [hn]
      exact ite2 (fun _ => q _ (Same.refl _)) (fun c => absurd e c)
    | some xs =>
      obtain ⟨a, rfl, hS, hlen, hty⟩ := hx
      refine ⟨_, rfl, _, _, _, _, _, rfl, .ty _, (ty_list hS), kit_ty (kit_tys (by decide) _ (by decide)), _, rfl, iteF ?_⟩
      refine ⟨_, rfl, a, rfl, ⟨_, hS⟩, for_list (K := K) (a := a) (xs := xs) (fun i σ H' => ∃ v1, σ = [some (.ref a), v1] ∧ H' = H ∧ (xs.take i).all isI = true)
        ⟨none, rfl, rfl, rfl⟩ (fun i σ H' _ ⟨_, _, e, _⟩ => by rw [e]; exact hS) ?_ ?_⟩
      · rintro i y σ H' hi ⟨v1, rfl, rfl, hI⟩
        obtain ⟨t, ht, ty, e⟩ := hty y (List.mem_of_getElem? hi)
        refine ⟨_, rfl, _, t, rfl, ty, ht, _, rfl, ?_⟩
        rw [e]
        cases hy : isI y with
        | true =>
          refine iteF ⟨some y, rfl, rfl, ?_⟩
          rw [List.take_add_one, hi, List.all_append, hI]
          simp [hy]
        | false =>
          refine iteT ?_
          have : quotsT (some xs) = false := by
            have : xs.all isI = false := by
              rw [List.all_eq_false]
              exact ⟨y, List.mem_of_getElem? hi, by rw [hy]; exact Bool.false_ne_true⟩
            rw [quotsT_some, this]
            rfl
          rw [← this]
          exact q _ (Same.refl _)
      · rintro σ H' ⟨v1, rfl, rfl, hI⟩
        rw [List.take_length] at hI
        obtain ⟨ns, rfl⟩ := isI_ints xs hI
        refine ⟨_, rfl, 1, rfl, a, _, rfl, hS, fun c nc => ?_⟩
        (generalize hH_ : upd _ c _ = H1; have s1 := same_of hH_ nc; have ec := at_new hH_; clear hH_)
        rw [show cutV (ns.map V.int) (some 1) none = (ns.drop 1).map V.int by rw [show (1 : Int) = ((1 : Nat) : Int) from rfl, cut_from, List.map_drop]] at ec
        refine ⟨c, rfl, ⟨_, sqL ec⟩, fun D hD => lc_list (K := K) (a := c) (xs := (ns.drop 1).map V.int) (fun i H2 => Same H1 H2 ∧ H2 D = some (.lst ((((ns.drop 1).take i).map fun z => decide (1 ≤ z)).map V.bl)))
          ⟨same_upd hD, upd_same⟩ (fun i H2 _ ⟨s, _⟩ => s.seq (sqL ec)) ?_ ?_⟩
        · rintro i y H2 hi ⟨s, eD⟩
          obtain ⟨z, hz, rfl⟩ := map_int_at hi
          have hl : i < ns.length := by
            have := (List.getElem?_eq_some_iff.mp hz).1
            rw [List.length_drop] at this
            omega
          rw [List.length_map] at hlen
          refine ⟨rfl, _, rfl, _, 1, rfl, rfl, _, eD, ?_, same_mut s hD, ?_⟩
          · rw [List.length_map, List.length_map, List.length_take]
            exact Nat.lt_of_le_of_lt (show _ ≤ 100000 by omega) (by decide)
          · rw [upd_same, List.take_add_one, hz, List.map_append, List.map_append]
            rfl
        · rintro H2 ⟨s, eD⟩
          rw [List.length_map, List.take_length] at eD
          refine ⟨D, _, rfl, sqL eD, ?_⟩
          have e : (((ns.drop 1).map fun z => decide (1 ≤ z)).all id) = quotsT (some (ns.map V.int)) := by
            rw [quotsT_ints, List.all_map]
            rfl
          rw [e]
          exact q _ (s1.trans s)
end
/-- a beginning by cells -/
def begun (cs : List Int) : List Int := match cs.map lq with
  | [] => []
  | x :: r => (x - 1) :: r
theorem begun_at {cs : List Int} {i : Nat} {z : Int} (h : (cs.map lq)[i]? = some z) : (begun cs)[i]? = some (z - (if i = 0 then 1 else 0)) := by
  unfold begun
  cases e : cs.map lq with
  | nil =>
    rw [e] at h
    simp at h
  | cons x r =>
    rw [e] at h
    cases i with
    | zero =>
      have := Option.some.inj h
      subst this
      rfl
    | succ i => simpa using h
theorem begun_len (cs : List Int) : (begun cs).length = cs.length := by
  have e : (cs.map lq).length = cs.length := List.length_map _
  unfold begun
  cases c : cs.map lq with
  | nil => rw [← e, c]
  | cons x r => rw [← e, c]; rfl
theorem begun_bd {cs : List Int} : ∀ x ∈ begun cs, Bd 101 x := by
  intro x hx
  obtain ⟨i, hi⟩ := List.mem_iff_getElem?.mp hx
  have hl := (List.getElem?_eq_some_iff.mp hi).1
  rw [begun_len] at hl
  have h1 : (cs.map lq)[i]? = some (lq cs[i]) := by rw [List.getElem?_map, List.getElem?_eq_getElem hl]; rfl
  have := begun_at h1
  rw [hi] at this
  rw [Option.some.inj this]
  exact Bd.sub (lq_ok _).2 (by split <;> exact bdL (by decide))
theorem begun_ok (cs : List Int) : begB (begun cs) = true := by
  cases cs with
  | nil => rfl
  | cons c r =>
    have e : begun (c :: r) = (lq c - 1) :: r.map lq := rfl
    rw [e]
    unfold begB quots
    have h1 : (((lq c - 1) :: r.map lq).drop 1).all (fun x => decide (1 ≤ x)) = true := by
      rw [List.all_eq_true]
      intro x hx
      obtain ⟨z, _, rfl⟩ := List.mem_map.mp hx
      exact decide_eq_true (lq_ok z).1
    have h2 : decide (0 ≤ ((lq c - 1) :: r.map lq).headD 0) = true := decide_eq_true (by have := (lq_ok c).1; show 0 ≤ lq c - 1; omega)
    rw [h1, h2]
    simp
def sp_l_begun (K : PySem.W.Frag) : Sp := fun vs H Q _ => ∃ (a : Addr) (cs : List Int), vs = [.ref a] ∧ SqL K H a (cs.map V.int) ∧ cs.length ≤ 63 ∧
  ∀ H' p, Same H H' → H p = none → H' p = some (.lst ((begun cs).map V.int)) → Q (.ref p) H'
section
variable {P : Program} {w : World} {K : PySem.W.Frag} {mg : Str → Option Value} {base : Heap}
theorem cal_l_begun (T : Txt K mg) : Cal P w K mg base CX0 2 "_law_begun" (sp_l_begun K) := by
  have C_l_quotient := cal_l_quotient (P := P) (w := w) (base := base) T
  refine cal_ok T.d_l_begun sc_l_begun (fun vs H Q E h => ?_) (fun f cdv A outer s H vs Q E hr h => ?_)
  · obtain ⟨x, t, rfl, _⟩ := h
    rfl
  · refine ⟨_, (pss_cons (ps_setLc (i := 1) (own := [("_law_cell", 2)]) (g := gName 2) rfl sc_l_begun.nd rfl rfl (sw_true rfl rfl rfl (by decide +kernel)) (pi_list (pv 0)) (blkOk_by (N := N_l_begun) (sc := defScope s_l_begun) (own := [("_law_cell", 2)]) (by decide +kernel)) (fun _ _ _ _ _ => (pg_name (i := 2) sc_l_begun.nd rfl (.inl rfl))) (fun _ _ _ _ _ => pts_nil) (fun _ _ _ _ _ => (pe_c C_l_quotient hr (by decide) (by rfl) (pa_cons (pv 2) pa_nil))))
      (pss_one (ps_ret (pe_lc (own := [("_law_k", 3), ("_law_quotient_here", 4)]) (g := gTup K 2 (gCons (gName 3) (gCons (gName 4) (gNil)))) rfl sc_l_begun.nd (pi_enum (by rfl) T.z_enumerate (pa_cons (pv 1) pa_nil)) (blkOk_by (N := N_l_begun) (sc := defScope s_l_begun) (own := [("_law_k", 3), ("_law_quotient_here", 4)]) (by decide +kernel)) (fun _ _ _ _ _ => (pg_tup rfl (pgs_cons (pg_name (i := 3) sc_l_begun.nd rfl (.inl rfl)) (pgs_cons (pg_name (i := 4) sc_l_begun.nd rfl (.inl rfl)) pgs_nil)))) (fun _ _ _ _ _ => pts_nil) (fun _ _ _ _ _ => (pe_op op_sub (pv 4) (pe_callTy call_int1 (by rfl) T.z_int (by decide +kernel) (pa_cons (pe_cmpR op_eq (pv 3) pe_int (nomark _)) pa_nil)))))))), ?_⟩
    obtain ⟨a, cs, rfl, hS, hl, q⟩ := h
    refine ⟨_, rfl, a, rfl, ⟨_, hS⟩, fun D hD => lc_list (K := K) (a := a) (xs := cs.map V.int) (fun i H2 => Same H H2 ∧ H2 D = some (.lst (((cs.take i).map lq).map V.int)))
      ⟨same_upd hD, upd_same⟩ (fun i H2 _ ⟨s, _⟩ => s.seq hS) ?_ ?_⟩
    · rintro i y H2 hi ⟨s2, eD⟩
      obtain ⟨z, hz, rfl⟩ := map_int_at hi
      refine ⟨rfl, _, rfl, z, rfl, fun H3 s3 => ⟨_, s3 _ _ eD, ?_, same_mut (s2.trans s3) hD, ?_⟩⟩
      · rw [List.length_map, List.length_map, List.length_take]
        exact small1000 (by omega)
      · rw [upd_same, List.take_add_one, hz, List.map_append, List.map_append]
        rfl
    rintro H1 ⟨s1, eD⟩
    rw [List.length_map, List.take_length] at eD
    refine ⟨_, rfl, D, _, rfl, sqL eD, fun E nE => lc_enum (K := K) (a := D) (xs := (cs.map lq).map V.int) (fun i H2 => Same H1 H2 ∧ H2 E = some (.lst (((begun cs).take i).map V.int)))
      ⟨same_upd nE, upd_same⟩ (fun i H2 _ ⟨s, _⟩ => s.seq (sqL eD)) ?_ ?_⟩
    · rintro i y T0 H2 H3 hi ⟨s2, eE⟩ s3 nT eT
      obtain ⟨z, hz, rfl⟩ := map_int_at hi
      refine ⟨T0, _, rfl, sqT eT, rfl, _, _, rfl, _, _, rfl, rfl, rfl, ?_⟩
      refine ⟨_, rfl, _, rfl, rfl, .inr ⟨_, rfl, _, _, rfl, rfl, _, s3 _ _ eE, ?_, same_mut (s2.trans s3) nE, ?_⟩⟩
      · rw [List.length_map, List.length_take, begun_len]
        exact small1000 (by omega)
      · rw [upd_same, List.take_add_one, begun_at hz, List.map_append]
        have : (if decide (V.int ((i : Nat) : Int) = V.int 0) = true then (1 : Int) else 0) = if i = 0 then 1 else 0 := by
          by_cases z : i = 0
          · subst z
            rfl
          · rw [if_neg z, if_neg (fun k => z (by have := V.int.inj (of_decide_eq_true k); omega))]
        show some (HO.lst (_ ++ [V.int (z - (if decide (V.int ((i : Nat) : Int) = V.int 0) = true then (1 : Int) else 0))])) = _
        rw [this]
        rfl
    · rintro H2 ⟨s2, eE⟩
      rw [List.length_map, List.length_map, ← begun_len cs, List.take_length] at eE
      exact q _ E (s1.trans s2) (s1.free nE) eE
end
def sp_l_within (K : PySem.W.Frag) : Sp := fun vs H Q _ => ∃ (u v : Addr) (i o : Cm.En), vs = [.ref u, .ref v] ∧ HEn K H u i ∧ HEn K H v o ∧ EnB i ∧ EnB o ∧ Q (.bl (Cm.withinE i o)) H
section
variable {P : Program} {w : World} {K : PySem.W.Frag} {mg : Str → Option Value} {base : Heap}
theorem cal_l_within (T : Txt K mg) : Cal P w K mg base CX0 2 "_law_within" (sp_l_within K) := by
  have C_l_order := cal_l_order (P := P) (w := w) (base := base) T
  refine cal_ok T.d_l_within sc_l_within (fun vs H Q E h => ?_) (fun f cdv A outer s H vs Q E hr h => ?_)
  · obtain ⟨u, v, o, p, rfl, _⟩ := h
    rfl
  · refine ⟨_, (pss_cons (ps_set (i := 2) sc_l_within.nd rfl (.inl rfl) (pe_c C_l_order hr (by decide) (by rfl) (pa_cons (pe_ix (r := rIxT K) ix_tup (pv 0) pe_int (fun _ _ => rfl)) (pa_cons (pe_ix (r := rIxT K) ix_tup (pv 1) pe_int (fun _ _ => rfl)) pa_nil))))
      (pss_cons (ps_set (i := 3) sc_l_within.nd rfl (.inl rfl) (pe_c C_l_order hr (by decide) (by rfl) (pa_cons (pe_ix (r := rIxT K) ix_tup (pv 1) pe_int (fun _ _ => rfl)) (pa_cons (pe_ix (r := rIxT K) ix_tup (pv 0) pe_int (fun _ _ => rfl)) pa_nil))))
      (Evl.pss_cut (ps_if (PW.pt (pw_or (pt_cmpR op_lt (pv 2) pe_int (nomark _)) (pw_or1 (pt_cmpR op_lt (pv 3) pe_int (nomark _))))) (pss_one (ps_ret pe_bl)) pss_nil)
      (pss_one (ps_ret (pe_and (pe_not (pe_and (pe_cmpR op_eq (pv 2) pe_int (nomark _)) (pe_and (pe_ix (r := rIxT K) ix_tup (pv 0) pe_int (fun _ _ => rfl)) (pe_one (pe_not (pe_ix (r := rIxT K) ix_tup (pv 1) pe_int (fun _ _ => rfl))))))) (pe_one (pe_not (pe_and (pe_cmpR op_eq (pv 3) pe_int (nomark _)) (pe_and (pe_ix (r := rIxT K) ix_tup (pv 0) pe_int (fun _ _ => rfl)) (pe_one (pe_not (pe_ix (r := rIxT K) ix_tup (pv 1) pe_int (fun _ _ => rfl)))))))))))))), ?_⟩
    obtain ⟨u, v, i, o, rfl, hu, hv, bi, bo, q⟩ := h
    obtain ⟨il, ih, i1, i2, i3⟩ := hu.ex
    obtain ⟨ol, oh, o1, o2, o3⟩ := hv.ex
    have hil : HHi K H (.ref il) (some i.lo) := ⟨il, rfl, i2⟩
    have hol : HHi K H (.ref ol) (some o.lo) := ⟨ol, rfl, o2⟩
    refine ⟨_, rfl, u, _, 0, _, rfl, rfl, i1, en_at0, _, rfl, v, _, 0, _, rfl, rfl, o1, en_at0, _, _, _, _, rfl, hil, hol, fun k hk => by cases hk; exact ⟨bi.l1, bi.l2⟩, fun k hk => by cases hk; exact ⟨bo.l1, bo.l2⟩, ?_⟩
    refine ⟨_, rfl, v, _, 2, _, rfl, rfl, o1, en_at2, _, rfl, u, _, 2, _, rfl, rfl, i1, en_at2, _, _, _, _, rfl, o3, i3, bo.h, bi.h, ?_⟩
    unfold Cm.withinE Cm.wB at q
    generalize Cm.ordE (some i.lo) (some o.lo) = x at *
    generalize Cm.ordE o.hi i.hi = y at *
    refine ⟨fun σ H' => σ = [some (.ref u), some (.ref v), some (.int x), some (.int y)] ∧ H = H' ∧ ¬ (x < 0 ∨ y < 0), ?_, ?_⟩
    · refine ⟨_, rfl, _, _, rfl, rfl, _, rfl, ite2 (fun c1 => ?_) (fun c1 => ?_)⟩
      · rw [if_pos (.inl (of_decide_eq_true c1))] at q
        exact q
      · refine ⟨_, rfl, _, _, rfl, rfl, _, rfl, ite2 (fun c2 => ?_) (fun c2 => ?_)⟩
        · rw [if_pos (.inr (of_decide_eq_true c2))] at q
          exact q
        · exact ⟨rfl, rfl, fun z => z.elim (fun z => c1 (decide_eq_true z)) fun z => c2 (decide_eq_true z)⟩
    rintro σ H' ⟨rfl, rfl, hn⟩
    rw [if_neg hn] at q
    have dx : decide (V.int x = V.int 0) = decide (x = 0) := decide_eq_decide.mpr ⟨fun z => V.int.inj z, fun z => by rw [z]⟩
    have dy : decide (V.int y = V.int 0) = decide (y = 0) := decide_eq_decide.mpr ⟨fun z => V.int.inj z, fun z => by rw [z]⟩
    have snd : ∀ b : Bool, Q (.bl (b && !(decide (y = 0) && (i.mh && !o.mh)))) H → b = true → ∃ c, V.bl true = V.bl c ∧ (if c = true then tNotV (tAndV (tOp rEq (tVar 3) (tC (.int 0))) (tAndV (tOp (rIxT K) (tVar 0) (tC (.int 3))) (tNotV (tOp (rIxT K) (tVar 1) (tC (.int 3)))))) [some (.ref u), some (.ref v), some (.int x), some (.int y)] H Q else Q (.bl false) H) := by
      intro b hq hb
      subst hb
      rw [Bool.true_and] at hq
      refine ⟨true, rfl, iteT ⟨_, rfl, rfl, _, rfl, ?_⟩⟩
      rw [dy]
      generalize decide (y = 0) = by_ at hq ⊢
      cases by_ with
      | false => exact ⟨_, rfl, hq⟩
      | true =>
        refine iteT ⟨_, rfl, u, _, 3, _, rfl, rfl, i1, en_at3, _, rfl, ?_⟩
        cases hm : i.mh with
        | false =>
          rw [hm] at hq
          exact ⟨_, rfl, hq⟩
        | true =>
          rw [hm] at hq
          exact ⟨_, rfl, v, _, 3, _, rfl, rfl, o1, en_at3, _, rfl, _, rfl, hq⟩
    refine ⟨_, rfl, rfl, _, rfl, ?_⟩
    rw [dx]
    generalize decide (x = 0) = bx at q ⊢
    cases bx with
    | false => exact ⟨_, rfl, snd _ q rfl⟩
    | true =>
      refine iteT ⟨_, rfl, u, _, 1, _, rfl, rfl, i1, en_at1, _, rfl, ?_⟩
      cases hm : i.ml with
      | false =>
        rw [hm] at q
        exact ⟨_, rfl, snd _ q rfl⟩
      | true =>
        rw [hm] at q
        refine ⟨_, rfl, v, _, 1, _, rfl, rfl, o1, en_at1, _, rfl, _, rfl, ?_⟩
        cases ho : o.ml with
        | true =>
          rw [ho] at q
          exact snd _ q rfl
        | false =>
          rw [ho] at q
          exact ⟨_, rfl, q⟩
end
def sp_l_beside (K : PySem.W.Frag) : Sp := fun vs H Q _ => ∃ (u v : Addr) (i o : Cm.En), vs = [.ref u, .ref v] ∧ HEn K H u i ∧ HEn K H v o ∧ EnB i ∧ EnB o ∧ Q (.bl (Cm.besideE i o)) H
section
variable {P : Program} {w : World} {K : PySem.W.Frag} {mg : Str → Option Value} {base : Heap}
theorem cal_l_beside (T : Txt K mg) : Cal P w K mg base CX0 2 "_law_beside" (sp_l_beside K) := by
  have C_l_order := cal_l_order (P := P) (w := w) (base := base) T
  refine cal_ok T.d_l_beside sc_l_beside (fun vs H Q E h => ?_) (fun f cdv A outer s H vs Q E hr h => ?_)
  · obtain ⟨u, v, o, p, rfl, _⟩ := h
    rfl
  · refine ⟨_, (pss_cons (ps_if (pt_cmpR op_eq (pe_c C_l_order hr (by decide) (by rfl) (pa_cons (pe_ix (r := rIxT K) ix_tup (pv 0) pe_int (fun _ _ => rfl)) (pa_cons (pe_ix (r := rIxT K) ix_tup (pv 1) pe_int (fun _ _ => rfl)) pa_nil))) pe_int (nomark _)) (pss_one (ps_ret (pe_cmpR op_ne (pe_ix (r := rIxT K) ix_tup (pv 0) pe_int (fun _ _ => rfl)) (pe_ix (r := rIxT K) ix_tup (pv 1) pe_int (fun _ _ => rfl)) (nomark _)))) pss_nil)
      (pss_one (ps_ret (pe_and (pe_cmpR op_eq (pe_c C_l_order hr (by decide) (by rfl) (pa_cons (pe_ix (r := rIxT K) ix_tup (pv 1) pe_int (fun _ _ => rfl)) (pa_cons (pe_ix (r := rIxT K) ix_tup (pv 0) pe_int (fun _ _ => rfl)) pa_nil))) pe_int (nomark _)) (pe_one (pe_cmpR op_ne (pe_ix (r := rIxT K) ix_tup (pv 1) pe_int (fun _ _ => rfl)) (pe_ix (r := rIxT K) ix_tup (pv 0) pe_int (fun _ _ => rfl)) (nomark _))))))), ?_⟩
    obtain ⟨u, v, i, o, rfl, hu, hv, bi, bo, q⟩ := h
    obtain ⟨il, ih, i1, i2, i3⟩ := hu.ex
    obtain ⟨ol, oh, o1, o2, o3⟩ := hv.ex
    have hil : HHi K H (.ref il) (some i.lo) := ⟨il, rfl, i2⟩
    have hol : HHi K H (.ref ol) (some o.lo) := ⟨ol, rfl, o2⟩
    unfold Cm.besideE Cm.bB at q
    have db : ∀ a b : Bool, (!decide (V.bl a = V.bl b)) = (a != b) := by decide
    refine ⟨_, rfl, u, _, 2, _, rfl, rfl, i1, en_at2, _, rfl, v, _, 0, _, rfl, rfl, o1, en_at0, _, _, _, _, rfl, i3, hol, bi.h, fun k hk => by cases hk; exact ⟨bo.l1, bo.l2⟩, rfl, _, rfl, ite2 (fun c1 => ?_) (fun c1 => ?_)⟩
    · rw [if_pos (V.int.inj (of_decide_eq_true c1))] at q
      refine ⟨_, rfl, u, _, 3, _, rfl, rfl, i1, en_at3, _, rfl, v, _, 1, _, rfl, rfl, o1, en_at1, rfl, ?_⟩
      rw [db]
      exact q
    · rw [if_neg (fun z => c1 (decide_eq_true (congrArg V.int z)))] at q
      refine ⟨_, rfl, v, _, 2, _, rfl, rfl, o1, en_at2, _, rfl, u, _, 0, _, rfl, rfl, i1, en_at0, _, _, _, _, rfl, o3, hil, bo.h, fun k hk => by cases hk; exact ⟨bi.l1, bi.l2⟩, rfl, _, rfl, ite2 (fun c2 => ?_) (fun c2 => ?_)⟩
      · rw [decide_eq_true (V.int.inj (of_decide_eq_true c2)), Bool.true_and] at q
        refine ⟨_, rfl, v, _, 3, _, rfl, rfl, o1, en_at3, _, rfl, u, _, 1, _, rfl, rfl, i1, en_at1, rfl, ?_⟩
        rw [db]
        exact q
      · rw [decide_eq_false (fun z => c2 (decide_eq_true (congrArg V.int z))), Bool.false_and] at q
        exact q
end
def sp_is_chain (K : PySem.W.Frag) : Sp := fun vs H Q _ => ∃ (x : V) (th : Option (List V)), vs = [x] ∧ Thing K H x th ∧ ∀ H', Same H H' → Q (.bl (onInts chB th)) H'
section
variable {P : Program} {w : World} {K : PySem.W.Frag} {mg : Str → Option Value} {base : Heap}
theorem cal_is_chain (T : Txt K mg) : Cal P w K mg base CX0 3 "is_chain" (sp_is_chain K) := by
  have C_are_quotients := cal_are_quotients (P := P) (w := w) (base := base) T
  refine cal_ok T.d_is_chain sc_is_chain (fun vs H Q E h => ?_) (fun f cdv A outer s H vs Q E hr h => ?_)
  · obtain ⟨x, t, rfl, _⟩ := h
    rfl
  · refine ⟨_, (pss_one (ps_ret (pe_and (pe_c C_are_quotients hr (by decide) (by rfl) (pa_cons (pv 0) pa_nil)) (pe_and (pe_cmpR (r := rNeD K) (op_neD hr.units) (pv 0) (pe_lst pa_nil) (nomark _)) (pe_one (pe_or (pe_cmpR op_eq (pe_callB call_len_seq (by rfl) T.z_len PySem.boot_len (pa_cons (pv 0) pa_nil)) pe_int (nomark _)) (pe_one (pe_cmpR op_gt (pe_ix (r := rIxL K) ix_list (pv 0) (pe_un un_neg pe_int) (fun _ _ => rfl)) pe_int (nomark _))))))))), ?_⟩
    obtain ⟨x, th, rfl, hx, q⟩ := h
    refine ⟨_, rfl, _, th, rfl, hx, fun H1 s1 => ⟨_, rfl, ?_⟩⟩
    cases e : quotsT th with
    | false =>
      have e2 := onInts_no chB_quots e
      rw [e2] at q
      exact iteF (q _ s1)
    | true =>
      obtain ⟨ns, rfl⟩ := quotsT_yes e
      obtain ⟨a, rfl, hS, hlen, _⟩ := hx
      rw [quotsT_ints] at e
      rw [onInts_ints] at q
      unfold chB at q
      rw [e, Bool.true_and] at q
      refine iteT ⟨_, rfl, Nat.zero_le _, fun c nc => ?_⟩
      (generalize hH_ : upd _ c _ = H2; have s2 := same_of hH_ nc; have ec := at_new hH_; clear hH_)
      have hA : SqL K H2 a (ns.map V.int) := s2.seq (s1.seq hS)
      refine ⟨_, _, dp_ints hA, dp_ints (ns := []) (sqL ec), shaped_ints _, shaped_ints _, ?_⟩
      rw [eqv_ints]
      refine ⟨_, rfl, ?_⟩
      by_cases h0 : ns = []
      · subst h0
        exact iteF (q _ (s1.trans s2))
      · rw [decide_eq_false h0]
        have e0 : (ns != []) = true := by simpa using h0
        rw [e0, Bool.true_and] at q
        refine iteT ⟨_, rfl, a, _, rfl, .inl hA, rfl, _, rfl, ?_⟩
        rw [List.length_map]
        by_cases h1 : ns.length = 1
        · have z : decide (V.int (ns.length : Int) = V.int 1) = true := decide_eq_true (by rw [h1]; rfl)
          rw [z]
          rw [h1] at q
          exact iteT (q _ (s1.trans s2))
        · have z : decide (V.int (ns.length : Int) = V.int 1) = false := decide_eq_false fun k => h1 (by have := V.int.inj k; omega)
          have z2 : (ns.length == 1) = false := by simpa using h1
          rw [z]
          rw [z2, Bool.false_or] at q
          refine iteF ⟨_, rfl, 1, rfl, a, _, _, _, rfl, rfl, hA, atI_neg1 h0, _, 1, rfl, rfl, ?_⟩
          rw [getLast_D h0]
          exact q _ (s1.trans s2)
end
def sp_is_begun (K : PySem.W.Frag) : Sp := fun vs H Q _ => ∃ (x : V) (th : Option (List V)), vs = [x] ∧ Thing K H x th ∧ ∀ H', Same H H' → Q (.bl (onInts begB th)) H'
section
variable {P : Program} {w : World} {K : PySem.W.Frag} {mg : Str → Option Value} {base : Heap}
theorem cal_is_begun (T : Txt K mg) : Cal P w K mg base CX0 3 "is_begun" (sp_is_begun K) := by
  have C_are_quotients := cal_are_quotients (P := P) (w := w) (base := base) T
  refine cal_ok T.d_is_begun sc_is_begun (fun vs H Q E h => ?_) (fun f cdv A outer s H vs Q E hr h => ?_)
  · obtain ⟨x, t, rfl, _⟩ := h
    rfl
  · refine ⟨_, (pss_one (ps_ret (pe_and (pe_c C_are_quotients hr (by decide) (by rfl) (pa_cons (pv 0) pa_nil)) (pe_one (pe_or (pe_cmpR (r := rEqD K) (op_eqD hr.units) (pv 0) (pe_lst pa_nil) (nomark _)) (pe_one (pe_cmpR op_ge (pe_ix (r := rIxL K) ix_list (pv 0) pe_int (fun _ _ => rfl)) pe_int (nomark _)))))))), ?_⟩
    obtain ⟨x, th, rfl, hx, q⟩ := h
    refine ⟨_, rfl, _, th, rfl, hx, fun H1 s1 => ⟨_, rfl, ?_⟩⟩
    cases e : quotsT th with
    | false =>
      have e2 := onInts_no begB_quots e
      rw [e2] at q
      exact iteF (q _ s1)
    | true =>
      obtain ⟨ns, rfl⟩ := quotsT_yes e
      obtain ⟨a, rfl, hS, hlen, _⟩ := hx
      rw [quotsT_ints] at e
      rw [onInts_ints] at q
      unfold begB at q
      rw [e, Bool.true_and] at q
      refine iteT ⟨_, rfl, Nat.zero_le _, fun c nc => ?_⟩
      (generalize hH_ : upd _ c _ = H2; have s2 := same_of hH_ nc; have ec := at_new hH_; clear hH_)
      have hA : SqL K H2 a (ns.map V.int) := s2.seq (s1.seq hS)
      refine ⟨_, _, dp_ints hA, dp_ints (ns := []) (sqL ec), shaped_ints _, shaped_ints _, ?_⟩
      rw [eqv_ints]
      refine ⟨_, rfl, ?_⟩
      cases ns with
      | nil => exact iteT (q _ (s1.trans s2))
      | cons n r =>
        refine iteF ⟨_, rfl, a, _, 0, _, rfl, rfl, hA, atI_int (ns := n :: r) (i := 0) rfl, _, _, rfl, rfl, ?_⟩
        exact q _ (s1.trans s2)
end
def sp_is_above (K : PySem.W.Frag) : Sp := fun vs H Q _ => ∃ (x : V) (th : Option (List V)), vs = [x] ∧ Thing K H x th ∧ ∀ H', Same H H' → Q (.bl (onInts abvB th)) H'
section
variable {P : Program} {w : World} {K : PySem.W.Frag} {mg : Str → Option Value} {base : Heap}
theorem cal_is_above (T : Txt K mg) : Cal P w K mg base CX0 4 "is_above" (sp_is_above K) := by
  have C_is_chain := cal_is_chain (P := P) (w := w) (base := base) T
  refine cal_ok T.d_is_above sc_is_above (fun vs H Q E h => ?_) (fun f cdv A outer s H vs Q E hr h => ?_)
  · obtain ⟨x, t, rfl, _⟩ := h
    rfl
  · refine ⟨_, (pss_one (ps_ret (pe_and (pe_c C_is_chain hr (by decide) (by rfl) (pa_cons (pv 0) pa_nil)) (pe_and (pe_cmpR op_ge (pe_ix (r := rIxL K) ix_list (pv 0) pe_int (fun _ _ => rfl)) pe_int (nomark _)) (pe_one (pe_cmpR (r := rNeD K) (op_neD hr.units) (pv 0) (pe_lst (pa_cons pe_int pa_nil)) (nomark _))))))), ?_⟩
    obtain ⟨x, th, rfl, hx, q⟩ := h
    refine ⟨_, rfl, _, th, rfl, hx, fun H1 s1 => ⟨_, rfl, ?_⟩⟩
    cases e : quotsT th with
    | false =>
      rw [onInts_no chB_quots e]
      rw [onInts_no (fun ns h => chB_quots ns (abvB_chB h)) e] at q
      exact iteF (q _ s1)
    | true =>
      obtain ⟨ns, rfl⟩ := quotsT_yes e
      obtain ⟨a, rfl, hS, hlen, _⟩ := hx
      rw [onInts_ints]
      rw [onInts_ints] at q
      unfold abvB at q
      cases hc : chB ns with
      | false =>
        rw [hc] at q
        exact iteF (q _ s1)
      | true =>
        rw [hc, Bool.true_and] at q
        cases ns with
        | nil => exact absurd hc (by decide)
        | cons n r =>
          refine iteT ⟨_, rfl, a, _, 0, _, rfl, rfl, s1.seq hS, atI_int (ns := n :: r) (i := 0) rfl, _, _, rfl, rfl, _, rfl, ite2 (fun c1 => ?_) (fun c1 => ?_)⟩
          · have c1' : decide (0 ≤ (n :: r).headD 0) = true := c1
            rw [c1', Bool.true_and] at q
            refine ⟨_, rfl, (by show 1 ≤ sizeLine; decide), fun c nc => ?_⟩
            (generalize hH_ : upd _ c _ = H2; have s2 := same_of hH_ nc; have ec := at_new hH_; clear hH_)
            replace ec : H2 c = some (.lst (([0] : List Int).map V.int)) := ec
            refine ⟨_, _, dp_ints (s2.seq (s1.seq hS)), dp_ints (sqL ec), shaped_ints _, shaped_ints _, ?_⟩
            rw [eqv_ints]
            have e2 : ((n :: r) != [0]) = !decide ((n :: r) = [0]) := by
              cases z : decide ((n :: r) = [0]) with
              | true => rw [of_decide_eq_true z]; rfl
              | false => simpa using of_decide_eq_false z
            rw [e2] at q
            exact q _ (s1.trans s2)
          · have c1' : decide (0 ≤ (n :: r).headD 0) = false := Bool.eq_false_iff.mpr c1
            rw [c1'] at q
            exact q _ s1
end
def sp_ends_of (K : PySem.W.Frag) : Sp := fun vs H Q _ => ∃ (a : Addr) (ns : List Int), vs = [.ref a] ∧ SqL K H a (ns.map V.int) ∧ ns.length ≤ 100 ∧ begB ns = true ∧ (∀ x ∈ ns, Bd 9000 x) ∧
  ∀ H' p, Same H H' → H p = none → HEn K H' p (ends ns) → Q (.ref p) H'
section
variable {P : Program} {w : World} {K : PySem.W.Frag} {mg : Str → Option Value} {base : Heap}
theorem cal_ends_of (T : Txt K mg) : Cal P w K mg base CX0 5 "ends_of" (sp_ends_of K) := by
  have C_is_begun := cal_is_begun (P := P) (w := w) (base := base) T
  have C_told_by := cal_told_by (P := P) (w := w) (base := base) T
  have C_is_above := cal_is_above (P := P) (w := w) (base := base) T
  refine cal_ok T.d_ends_of sc_ends_of (fun vs H Q E h => ?_) (fun f cdv A outer s H vs Q E hr h => ?_)
  · obtain ⟨x, t, rfl, _⟩ := h
    rfl
  · refine ⟨_, (pss_cons (ps_if (pt_not (pt_val (pe_c C_is_begun hr (by decide) (by rfl) (pa_cons (pv 0) pa_nil)))) (pss_one ps_never) pss_nil)
      (pss_cons (ps_if (pt_cmpR (r := rEqD K) (op_eqD hr.units) (pv 0) (pe_lst pa_nil) (nomark _)) (pss_one (ps_ret (pe_tup (pa_cons (pe_tup (pa_cons pe_int (pa_cons pe_int pa_nil))) (pa_cons pe_bl (pa_cons pe_non (pa_cons pe_bl pa_nil))))))) pss_nil)
      (pss_cons (ps_set (i := 1) sc_ends_of.nd rfl (.inl rfl) (pe_c C_told_by hr (by decide) (by rfl) (pa_cons (pv 0) pa_nil)))
      (pss_cons (ps_set (i := 2) sc_ends_of.nd rfl (.inl rfl) (pe_c C_told_by hr (by decide) (by rfl) (pa_cons (pe_op op_cat (pe_slice sl_list (pv 0) po_none (po_some (pe_un un_neg pe_int))) (pe_lst (pa_cons (pe_op op_add (pe_ix (r := rIxL K) ix_list (pv 0) (pe_un un_neg pe_int) (fun _ _ => rfl)) pe_int) pa_nil))) pa_nil)))
      (pss_cons (ps_if (pt_cmpR op_eq (pe_op op_mod (pe_callB call_len_seq (by rfl) T.z_len PySem.boot_len (pa_cons (pv 0) pa_nil)) pe_int) pe_int (nomark _)) (pss_one (ps_ret (pe_tup (pa_cons (pv 1) (pa_cons (pe_c C_is_above hr (by decide) (by rfl) (pa_cons (pv 0) pa_nil)) (pa_cons (pv 2) (pa_cons pe_bl pa_nil))))))) pss_nil)
      (pss_one (ps_ret (pe_tup (pa_cons (pv 2) (pa_cons pe_bl (pa_cons (pv 1) (pa_cons (pe_c C_is_above hr (by decide) (by rfl) (pa_cons (pv 0) pa_nil)) pa_nil)))))))))))), ?_⟩
    obtain ⟨a, ns, rfl, hS, hl, hb, hbd, q⟩ := h
    refine ⟨_, rfl, _, _, rfl, thing_ints hS (by omega), fun H1 s1 => ⟨_, rfl, ?_⟩⟩
    rw [onInts_ints, hb]
    refine iteF ⟨_, rfl, Nat.zero_le _, fun c nc => ?_⟩
    (generalize hH_ : upd _ c _ = H2; have s2 := same_of hH_ nc; have ec := at_new hH_; clear hH_)
    have hA := s2.seq (s1.seq hS)
    refine ⟨_, _, dp_ints hA, dp_ints (ns := []) (sqL ec), shaped_ints _, shaped_ints _, ?_⟩
    rw [eqv_ints]
    refine ⟨_, rfl, ite2 (fun c1 => ?_) (fun c1 => ?_)⟩
    · have e0 : ns = [] := of_decide_eq_true c1
      subst e0
      refine ⟨(by show 2 ≤ sizeLine; decide), fun d nd => ?_⟩
      (generalize hH_ : upd _ d _ = H3; have s3 := same_of hH_ nd; have ed := at_new hH_; clear hH_)
      refine ⟨(by show 4 ≤ sizeLine; decide), fun e ne => ?_⟩
      (generalize hH_ : upd _ e _ = H4; have s4 := same_of hH_ ne; have ee := at_new hH_; clear hH_)
      refine q _ e (((s1.trans s2).trans s3).trans s4) (((s1.trans s2).trans s3).free ne) ?_
      unfold ends
      rw [Cm.endsOf_nil]
      exact ⟨d, .non, sqT ee, sqT (s4 _ _ ed), rfl⟩
    · have hne : ns ≠ [] := fun z => c1 (decide_eq_true z)
      obtain ⟨i, x, rfl⟩ := Cm.snoc_of hne
      have sz1 : Sz (i ++ [x]) := sz_short hl fun y hy => (hbd y hy).mono (by decide)
      have sz2 : Sz (Cm.up (i ++ [x])) := sz_short (by rw [up_len hne]; exact hl) fun y hy => (up_bd hbd (by decide) y hy).mono (by decide)
      refine ⟨_, rfl, a, _, rfl, hA, hne, sz1, fun H3 u s3 nu eu => ?_⟩
      have hA3 := s3.seq hA
      refine ⟨_, rfl, 1, rfl, _, rfl, a, _, rfl, hA3, fun d nd => ?_⟩
      (generalize hH_ : upd _ d _ = H4; have s4 := same_of hH_ nd; have ed := at_new hH_; clear hH_)
      rw [cut_neg1, ← List.map_dropLast] at ed
      have hA4 := s4.seq hA3
      refine ⟨_, rfl, 1, rfl, a, _, _, _, rfl, rfl, hA4, getLastD_ne hne, _, _, rfl, rfl, (by show 1 ≤ sizeLine; decide), fun e ne => ?_⟩
      (generalize hH_ : upd _ e _ = H5; have s5 := same_of hH_ ne; have ee := at_new hH_; clear hH_)
      refine ⟨d, e, _, _, rfl, rfl, s5 _ _ ed, ee, ?_, fun g ng => ?_⟩
      · rw [List.length_map, List.length_dropLast]
        exact Nat.le_of_lt (small1000 (by show _ + 1 ≤ 1000; omega))
      (generalize hH_ : upd _ g _ = H6; have s6 := same_of hH_ ng; have eg := at_new hH_; clear hH_)
      replace eg : H6 g = some (.lst ((Cm.up (i ++ [x])).map V.int)) := by
        rw [eg]
        exact congrArg (fun z => some (HO.lst z)) up_map
      have une : Cm.up (i ++ [x]) ≠ [] := fun z => by
        have := up_len hne
        rw [z] at this
        simp at this
      refine ⟨g, _, rfl, sqL eg, une, sz2, fun H7 v s7 nv ev => ?_⟩
      have all7 : Same H2 H7 := ((((s3.trans s4).trans s5).trans s6).trans s7)
      have hA7 := all7.seq hA
      have eu7 : HPr K H7 u (Cm.W (i ++ [x])) := same_t (((s4.trans s5).trans s6).trans s7) (sqT eu)
      have ev7 : HPr K H7 v (Cm.W (Cm.up (i ++ [x]))) := sqT ev
      refine ⟨_, rfl, a, _, rfl, .inl hA7, _, _, rfl, rfl, (show (0 : Int) < 2 by decide), rfl, _, rfl, ite2 (fun c2 => ?_) (fun c2 => ?_)⟩
      · have c2' : i.length % 2 = 0 := by
          have := V.int.inj (of_decide_eq_true c2)
          rw [List.length_map, List.length_append, List.length_singleton] at this
          omega
        refine ⟨_, rfl, _, rfl, _, _, rfl, thing_ints hA7 (by omega), fun H8 s8 => ⟨_, rfl, (by show 4 ≤ sizeLine; decide), fun r nr => ?_⟩⟩
        (generalize hH_ : upd _ r _ = H9; have s9 := same_of hH_ nr; have er := at_new hH_; clear hH_)
        rw [onInts_ints] at er
        refine q _ r (((s1.trans s2).trans all7).trans (s8.trans s9)) ((((s1.trans s2).trans all7).trans s8).free nr) ?_
        unfold ends
        rw [Cm.endsOf_odd i x _ c2']
        exact ⟨u, .ref v, sqT er, same_t (s8.trans s9) eu7, v, rfl, same_t (s8.trans s9) ev7⟩
      · have c2' : i.length % 2 = 1 := by
          have : ¬ ((((i ++ [x]).map V.int).length : Nat) : Int) % 2 = 1 := fun z => c2 (decide_eq_true (congrArg V.int z))
          rw [List.length_map, List.length_append, List.length_singleton] at this
          omega
        refine ⟨_, rfl, _, rfl, _, rfl, _, _, rfl, thing_ints hA7 (by omega), fun H8 s8 => ⟨(by show 4 ≤ sizeLine; decide), fun r nr => ?_⟩⟩
        (generalize hH_ : upd _ r _ = H9; have s9 := same_of hH_ nr; have er := at_new hH_; clear hH_)
        rw [onInts_ints] at er
        refine q _ r (((s1.trans s2).trans all7).trans (s8.trans s9)) ((((s1.trans s2).trans all7).trans s8).free nr) ?_
        unfold ends
        rw [Cm.endsOf_even i x _ c2']
        exact ⟨v, .ref u, sqT er, same_t (s8.trans s9) ev7, u, rfl, same_t (s8.trans s9) eu7⟩
end
theorem atI_neg {α : Type} {xs : List α} {j : Nat} {v : α} (h1 : 0 < j) (h2 : j ≤ xs.length) (h : xs[xs.length - j]? = some v) : atI xs (-(j : Int)) = some v := by
  have e : ixN xs.length (-(j : Int)) = some (xs.length - j) := by
    unfold ixN
    rw [if_neg (by omega), if_pos (by omega)]
    congr 1
    omega
  unfold atI
  rw [e]
  exact h
theorem abv_one {p : List Int} (h : p ≠ []) : abvB (p ++ [1]) = false := by
  have : chB (p ++ [1]) = false := by
    have h1 : ¬ (p ++ [1]).length = 1 := by
      have := List.length_pos_iff.mpr h
      rw [List.length_append, List.length_singleton]
      omega
    unfold chB
    rw [List.getLastD_concat]
    simp [h1, h]
  unfold abvB
  rw [this]
  rfl
theorem abv_more {p : List Int} {x : Int} (hb : begB p = true) (hx : if p = [] then 0 ≤ x else 1 ≤ x) : abvB (p ++ [x + 1]) = true := by
  have hb2 : begB (p ++ [x + 1]) = true := begB_snoc hb (by split at hx <;> (rename_i h; simp only [h, if_true, if_false]; omega))
  rw [abvB_beg hb2 (by simp), List.getLastD_concat]
  by_cases hp : p = []
  · subst hp
    rw [if_pos rfl] at hx
    have : ([x + 1] != [0]) = true := by
      simp
      try omega
    simp [this]
    try omega
  · rw [if_neg hp] at hx
    have h2 := List.length_pos_iff.mpr hp
    have : ((p ++ [x + 1]) != [0]) = true := by
      simp
      intro z
      have e := congrArg List.length z
      simp at e
      exact absurd e hp
    rw [this]
    simp
    try omega
theorem k06_within {p : List Int} {x : Int} (hx : if p = [] then 0 ≤ x else 1 ≤ x) : Cm.withinE (ends (p ++ [x])) (ends p) = true := by
  refine Cm.within_ok (fun h => ?_) (fun h => ?_)
  · subst h
    rw [if_pos rfl] at hx
    exact ⟨hx, fun z => by subst z; rfl⟩
  · rw [if_neg h] at hx
    exact ⟨hx, fun z => by subst z; exact abv_one h⟩
theorem k06_beside {p : List Int} {x : Int} (hb : begB p = true) (hx : if p = [] then 0 ≤ x else 1 ≤ x) : Cm.besideE (ends (p ++ [x])) (ends (p ++ [x + 1])) = true := by
  unfold ends
  rw [abv_more hb hx]
  exact Cm.beside_ok
section
variable {P : Program} {w : World} {K : PySem.W.Frag} {mg : Str → Option Value} {base : Heap}
theorem ok_law {f : Addr} {fd : FuncData} (T : Txt K mg) (F : L2.Fun K "law" "law" s_law f fd) : FnOk P w K mg base CX0 6 f fd ["_law_script"] (spLaw K) := by
  have C_l_begun := cal_l_begun (P := P) (w := w) (base := base) T
  have C_ends_of := cal_ends_of (P := P) (w := w) (base := base) T
  have C_l_beside := cal_l_beside (P := P) (w := w) (base := base) T
  have C_l_within := cal_l_within (P := P) (w := w) (base := base) T
  have C_l_is_half := cal_l_is_half (P := P) (w := w) (base := base) T
  refine F.ok sc_law (fun vs H Q E h => ?_) (fun cdv A outer s H vs Q E hr h => ?_)
  · obtain ⟨a, ns, rfl, _⟩ := h
    rfl
  · refine ⟨_, (pss_cons (ps_set (i := 1) sc_law.nd rfl (.inl rfl) (pe_c C_l_begun hr (by decide) (by rfl) (pa_cons (pe_slice sl_list (pv 0) po_none (po_some pe_int)) pa_nil)))
      (pss_cons (ps_set (i := 2) sc_law.nd rfl (.inl rfl) (pe_lst (pa_cons (pe_c C_ends_of hr (by decide) (by rfl) (pa_cons (pe_lst pa_nil) pa_nil)) pa_nil)))
      (pss_cons (ps_for PassesOwn.never rfl (pi_range1 (by rfl) T.z_range (pa_cons (pe_callB call_len_seq (by rfl) T.z_len PySem.boot_len (pa_cons (pv 1) pa_nil)) pa_nil)) (pg_name (i := 3) sc_law.nd rfl (.inl rfl))
      (pss_cons (ps_set (i := 4) sc_law.nd rfl (.inl rfl) (pe_c C_ends_of hr (by decide) (by rfl) (pa_cons (pe_slice sl_list (pv 1) po_none (po_some (pe_op op_add (pv 3) pe_int))) pa_nil)))
      (pss_cons (ps_set (i := 5) sc_law.nd rfl (.inl rfl) (pe_c C_ends_of hr (by decide) (by rfl) (pa_cons (pe_op op_cat (pe_slice sl_list (pv 1) po_none (po_some (pv 3))) (pe_lst (pa_cons (pe_op op_add (pe_ix (r := rIxL K) ix_list (pv 1) (pv 3) (fun _ _ => rfl)) pe_int) pa_nil))) pa_nil)))
      (pss_cons (ps_if (PW.pt (pw_or (pt_not (pt_val (pe_c C_l_within hr (by decide) (by rfl) (pa_cons (pv 4) (pa_cons (pe_ix (r := rIxL K) ix_list (pv 2) (pe_un un_neg pe_int) (fun _ _ => rfl)) pa_nil))))) (pw_or (pt_not (pt_val (pe_c C_l_within hr (by decide) (by rfl) (pa_cons (pv 5) (pa_cons (pe_ix (r := rIxL K) ix_list (pv 2) (pe_un un_neg pe_int) (fun _ _ => rfl)) pa_nil))))) (pw_or1 (pt_not (pt_val (pe_c C_l_beside hr (by decide) (by rfl) (pa_cons (pv 4) (pa_cons (pv 5) pa_nil))))))))) (pss_one (ps_ret pe_bl)) pss_nil)
      (Evl.pss_cut (ps_if (PW.pt (pw_and (pt_cmpR op_gt (pe_callB call_len_seq (by rfl) T.z_len PySem.boot_len (pa_cons (pv 2) pa_nil)) pe_int (nomark _)) (pw_and1 (pt_not (pt_val (pe_c C_l_is_half hr (by decide) (by rfl) (pa_cons (pv 4) (pa_cons (pe_ix (r := rIxL K) ix_list (pv 2) (pe_un un_neg pe_int) (fun _ _ => rfl)) pa_nil)))))))) (pss_one (ps_ret pe_bl)) pss_nil)
      (pss_one (ps_expr (pe_bm PySem.F.plainAttrs_list PySem.F.slot_list_append PySem.F.type_list_append mt_append (pv 2) (pa_cons (pv 4) pa_nil)))))))))
      (pss_one (ps_ret pe_bl))))), ?_⟩
    obtain ⟨a, ns, rfl, hS, hlen, q⟩ := h
    refine ⟨_, rfl, 60, rfl, a, _, rfl, hS, fun c nc => ?_⟩
    (generalize hH_ : upd _ c _ = H1; have s1 := same_of hH_ nc; have ec := at_new hH_; clear hH_)
    rw [show cutV (ns.map V.int) none (some 60) = (ns.take 60).map V.int by rw [show (60 : Int) = ((60 : Nat) : Int) from rfl, cut_to, List.map_take]] at ec
    have hcl : (ns.take 60).length ≤ 60 := by rw [List.length_take]; omega
    generalize ns.take 60 = cs at *
    refine ⟨c, cs, rfl, sqL ec, by omega, fun H2 b s2 nb eb => ?_⟩
    have hbeg := begun_ok cs
    have hbd : ∀ x ∈ begun cs, Bd 101 x := begun_bd
    have hbl : (begun cs).length ≤ 60 := by rw [begun_len]; exact hcl
    generalize begun cs = l at *
    have hbd9 : ∀ x ∈ l, Bd 9000 x := fun x hx => (hbd x hx).mono (by decide)
    have bdT : ∀ n, ∀ x ∈ l.take n, Bd 9000 x := fun n x hx => hbd9 x (List.mem_of_mem_take hx)
    have ltT : ∀ n, (l.take n).length ≤ 100 := fun n => by rw [List.length_take]; omega
    -- _law_ahead
    refine ⟨Nat.zero_le _, fun e0 ne0 => ?_⟩
    (generalize hH_ : upd _ e0 _ = H3; have s3 := same_of hH_ ne0; have ee0 := at_new hH_; clear hH_)
    refine ⟨e0, [], rfl, sqL ee0, by decide, rfl, by simp, fun H4 p0 s4 np0 hE0 => ?_⟩
    refine ⟨(by show 1 ≤ sizeLine; decide), fun ah nah => ?_⟩
    (generalize hH_ : upd _ ah _ = H5; have s5 := same_of hH_ nah; have eah := at_new hH_; clear hH_)
    have eb4 := s4 _ _ (s3 _ _ eb)
    have eb5 := s5 _ _ eb4
    -- the loop
    refine ⟨_, rfl, b, _, rfl, .inl (sqL eb5), _, rfl, by omega, by rw [List.length_map]; omega, for_range (n := (((l.map V.int).length : Nat) : Int).toNat) (fun k σ H' => ∃ (v3 v4 v5 : Option V) (ads : List Addr), σ = [some (.ref a), some (.ref b), some (.ref ah), v3, v4, v5] ∧ Same H4 H' ∧ H' ah = some (.lst (ads.map V.ref)) ∧ ads.length = k + 1 ∧ ∀ j, j ≤ k → ∃ p, ads[j]? = some p ∧ HEn K H' p (ends (l.take j)))
      ⟨none, none, none, [p0], rfl, s5, eah, rfl, fun j hj => by obtain rfl : j = 0 := by omega
                                                                 exact ⟨p0, rfl, hE0.same s5⟩⟩ ?_ ?_⟩
    rotate_left
    · rintro σ H' ⟨v3, v4, v5, ads, rfl, _⟩
      exact q _
    rintro k σ H6 hk ⟨v3, v4, v5, ads, rfl, s6, eads, lads, hads⟩
    rw [List.length_map, Int.toNat_natCast] at hk
    rw [Int.zero_add]
    have eb6 := s6 _ _ eb4
    have hxk : l[k]? = some l[k] := List.getElem?_eq_getElem hk
    have hx0 := begB_mem hbeg hxk
    generalize hx : l[k] = x at *
    have tk : l.take (k + 1) = l.take k ++ [x] := by rw [List.take_add_one, hxk]; rfl
    have hxp : if l.take k = [] then 0 ≤ x else 1 ≤ x := by
      by_cases z : k = 0
      · subst z
        rw [if_pos rfl] at hx0
        rw [List.take_zero, if_pos rfl]
        exact hx0
      · rw [if_neg z] at hx0
        rw [if_neg (fun w => by rw [List.take_eq_nil_iff] at w; rcases w with w | w; exact z w; rw [w] at hk; simp at hk)]
        exact hx0
    have hbx : Bd 9000 x := hbd9 x (List.mem_of_getElem? hxk)
    -- here
    refine ⟨_, rfl, _, rfl, _, _, rfl, rfl, _, rfl, b, _, rfl, sqL eb6, fun c1 nc1 => ?_⟩
    (generalize hH_ : upd _ c1 _ = H7; have s7 := same_of hH_ nc1; have ec1 := at_new hH_; clear hH_)
    replace ec1 : H7 c1 = some (.lst ((l.take (k + 1)).map V.int)) := by
      rw [ec1]
      show some (HO.lst (cutV (l.map V.int) none (some ((k + 1 : Nat) : Int)))) = _
      rw [cut_to, List.map_take]
    refine ⟨c1, _, rfl, sqL ec1, ltT _, begB_take hbeg _, bdT _, fun H8 he s8 nhe hEh => ?_⟩
    have eb8 := s8 _ _ (s7 _ _ eb6)
    -- beside
    refine ⟨_, rfl, _, rfl, _, rfl, b, _, rfl, sqL eb8, fun c2 nc2 => ?_⟩
    (generalize hH_ : upd _ c2 _ = H9; have s9 := same_of hH_ nc2; have ec2 := at_new hH_; clear hH_)
    rw [cut_to, ← List.map_take] at ec2
    refine ⟨_, rfl, _, rfl, b, _, _, _, rfl, rfl, sqL (s9 _ _ eb8), atI_int hxk, _, _, rfl, rfl, (by show 1 ≤ sizeLine; decide), fun c3 nc3 => ?_⟩
    (generalize hH_ : upd _ c3 _ = H10; have s10 := same_of hH_ nc3; have ec3 := at_new hH_; clear hH_)
    refine ⟨c2, c3, _, _, rfl, rfl, s10 _ _ ec2, ec3, ?_, fun c4 nc4 => ?_⟩
    · rw [List.length_map]
      have := ltT k
      exact Nat.le_of_lt (small1000 (by show _ + 1 ≤ 1000; omega))
    (generalize hH_ : upd _ c4 _ = H11; have s11 := same_of hH_ nc4; have ec4 := at_new hH_; clear hH_)
    replace ec4 : H11 c4 = some (.lst ((l.take k ++ [x + 1]).map V.int)) := by
      rw [ec4, List.map_append]
      rfl
    have bdB : ∀ y ∈ l.take k ++ [x + 1], Bd 9000 y := fun y hy => by
      rcases List.mem_append.mp hy with hy | hy
      · exact bdT k y hy
      · rw [List.mem_singleton] at hy
        subst hy
        exact ((hbd x (List.mem_of_getElem? hxk)).add (Bd.one (by decide))).mono (by decide)
    have ltB : (l.take k ++ [x + 1]).length ≤ 100 := by
      rw [List.length_append, List.length_take, List.length_singleton]
      omega
    refine ⟨c4, _, rfl, sqL ec4, ltB, begB_snoc (begB_take hbeg k) (by split <;> (rename_i z; simp only [z, if_true, if_false] at hxp; omega)), bdB, fun H12 hbs s12 nhb hEb => ?_⟩
    have all12 : Same H8 H12 := ((s9.trans s10).trans s11).trans s12
    have all6 : Same H6 H12 := (s7.trans s8).trans all12
    have eads12 := all6 _ _ eads
    have hEh12 := hEh.same all12
    obtain ⟨pk, hpk, hEk⟩ := hads k (Nat.le_refl k)
    have hEk12 := hEk.same all6
    have lm : (ads.map V.ref).length = k + 1 := by rw [List.length_map, lads]
    have at1 : atI (ads.map V.ref) (-1) = some (.ref pk) := atI_neg (j := 1) (by decide) (by omega) (by rw [lm]; show (ads.map V.ref)[k]? = _; rw [List.getElem?_map, hpk]; rfl)
    have bh : EnB (ends (l.take (k + 1))) := en_bd (bdT _) (ltT _)
    have bb : EnB (ends (l.take k ++ [x + 1])) := en_bd bdB ltB
    have bk : EnB (ends (l.take k)) := en_bd (bdT _) (ltT _)
    have w1 : Cm.withinE (ends (l.take (k + 1))) (ends (l.take k)) = true := by rw [tk]; exact k06_within hxp
    have w2 : Cm.withinE (ends (l.take k ++ [x + 1])) (ends (l.take k)) = true := k06_within (by split <;> (rename_i z; simp only [z, if_true, if_false] at hxp; omega))
    have w3 : Cm.besideE (ends (l.take (k + 1))) (ends (l.take k ++ [x + 1])) = true := by rw [tk]; exact k06_beside (begB_take hbeg k) hxp
    refine ⟨_, rfl, _, rfl, 1, rfl, ah, _, _, _, rfl, rfl, sqL eads12, at1, he, pk, _, _, rfl, hEh12, hEk12, bh, bk, _, rfl, ?_⟩
    rw [w1]
    refine iteF ⟨_, rfl, _, rfl, 1, rfl, ah, _, _, _, rfl, rfl, sqL eads12, at1, hbs, pk, _, _, rfl, hEb, hEk12, bb, bk, _, rfl, ?_⟩
    rw [w2]
    refine iteF ⟨_, rfl, _, rfl, he, hbs, _, _, rfl, hEh12, hEb, bh, bb, _, rfl, ?_⟩
    rw [w3]
    refine iteF ?_
    -- half
    refine ⟨fun σ H' => ∃ v3 : Option V, σ = [some (.ref a), some (.ref b), some (.ref ah), v3, some (.ref he), some (.ref hbs)] ∧ Same H12 H', ?_, ?_⟩
    · refine ⟨_, rfl, ah, _, rfl, .inl (sqL eads12), _, _, rfl, rfl, _, rfl, ite2 (fun c5 => ?_) (fun c5 => ?_)⟩
      · have k1 : 1 ≤ k := by
          have := of_decide_eq_true c5
          rw [lm] at this
          omega
        obtain ⟨pj, hpj, hEj⟩ := hads (k - 1) (by omega)
        have at2 : atI (ads.map V.ref) (-2) = some (.ref pj) := atI_neg (j := 2) (by decide) (by omega) (by rw [lm, show k + 1 - 2 = k - 1 by omega, List.getElem?_map, hpj]; rfl)
        have hq : l[k - 1]? = some (l[k - 1]'(by omega)) := List.getElem?_eq_getElem (by omega)
        have hq0 := begB_mem hbeg hq
        have tk2 : l.take k = l.take (k - 1) ++ [l[k - 1]'(by omega)] := by
          have := List.take_add_one (l := l) (i := k - 1)
          rw [show k - 1 + 1 = k by omega, hq] at this
          exact this
        have hne : (ends (l.take (k + 1))).hi ≠ none := fun z => by
          obtain ⟨kk, ek⟩ := Cm.endsOf_hi (l := l.take (k + 1)) (abvB (l.take (k + 1))) (by rw [tk]; simp)
          unfold ends at z
          rw [z] at ek
          cases ek
        have w4 : Cm.halfE (ends (l.take (k + 1))) (ends (l.take (k - 1))) = true := by
          rw [tk, tk2]
          refine Cm.half_ok (fun y hy => ?_) (fun hi => ?_) ?_
          · have h1 := begB_take hbeg (k - 1)
            unfold begB quots at h1
            rw [Bool.and_eq_true] at h1
            exact of_decide_eq_true (List.all_eq_true.mp h1.1 y hy)
          · rw [if_neg (fun z => hi (by rw [z, List.take_zero]))] at hq0
            exact hq0
          · rw [if_neg (show ¬ k = 0 by omega)] at hx0
            exact hx0
        refine ⟨_, rfl, _, rfl, 2, rfl, ah, _, _, _, rfl, rfl, sqL eads12, at2, he, pj, _, _, rfl, hEh12, hEj.same all6, bh, en_bd (bdT _) (ltT _), hne, fun H13 s13 => ⟨_, rfl, ?_⟩⟩
        rw [w4]
        exact iteF ⟨_, rfl, s13⟩
      · exact iteF ⟨_, rfl, Same.refl _⟩
    rintro σ H13 ⟨v3', rfl, s13⟩
    have eads13 := s13 _ _ eads12
    refine ⟨_, rfl, .inl ⟨rfl, _, sqL eads13⟩, _, rfl, ah, _, _, rfl, rfl, eads13, by rw [lm]; exact small1000 (by omega), ?_⟩
    have big := (s6.trans all6).trans s13
    refine ⟨_, _, _, ads ++ [he], rfl, same_mut big nah, ?_, by rw [List.length_append, lads]; rfl, fun j hj => ?_⟩
    · rw [upd_same, List.map_append]
      rfl
    · have neE : ∀ {p : Addr} {e : Cm.En}, HEn K H13 p e → HEn K (upd H13 ah (.lst (ads.map V.ref ++ [.ref he]))) p e := by
        intro p e hE
        exact hE.upd eads13
      by_cases z : j = k + 1
      · subst z
        exact ⟨he, by rw [List.getElem?_append_right (by omega), lads, Nat.sub_self]; rfl, neE (hEh12.same s13)⟩
      · obtain ⟨p, hp, hE⟩ := hads j (by omega)
        exact ⟨p, by rw [List.getElem?_append_left (by omega)]; exact hp, neE (hE.same (all6.trans s13))⟩
end
theorem txt_mk {K : PySem.W.Frag} {h : Heap} {mg : Str → Option Value} {f1 f2 f3 f4 f5 f6 f7 f8 f9 f10 f11 f12 f13 f14 : Addr} (X : K.In h) (G : h.Ns mainGlobals mg)
    {od1 od2 od3 od4 od5 od6 od7 od8 od9 od10 od11 od12 od13 od14 an1 an2 an3 an4 an5 an6 an7 an8 an9 an10 an11 an12 an13 an14 : Option Addr} {sl1 sl2 sl3 sl4 sl5 sl6 sl7 sl8 sl9 sl10 sl11 sl12 sl13 sl14 : Array (Option Value)} {oc1 oc2 oc3 oc4 oc5 oc6 oc7 oc8 oc9 oc10 oc11 oc12 oc13 oc14 kV1 kV2 kV3 kV4 kV5 kV6 kV7 kV8 kV9 kV10 kV11 kV12 kV13 kV14 dc1 dc2 dc3 dc4 dc5 dc6 dc7 dc8 dc9 dc10 dc11 dc12 dc13 dc14 pm1 pm2 pm3 pm4 pm5 pm6 pm7 pm8 pm9 pm10 pm11 pm12 pm13 pm14 cd1 cd2 cd3 cd4 cd5 cd6 cd7 cd8 cd9 cd10 cd11 cd12 cd13 cd14 ct1 ct2 ct3 ct4 ct5 ct6 ct7 ct8 ct9 ct10 ct11 ct12 ct13 ct14 : Value}
    (a1 : PySem.W.nsIn K mainGlobals "is_whole" = some (some (.ref f1))) (l1 : K.lookup f1 = some ⟨oc1, od1, .func (PySem.W.fnOf "is_whole" "is_whole" (defArgs s_is_whole) (defBody s_is_whole) (defScope s_is_whole) .none kV1 dc1 pm1 an1 cd1 ct1), sl1⟩) (c1 : PySem.W.codeIn K cd1 "is_whole" = true) (k1 : PySem.W.keepIn K (.ref f1) = true)
    (a2 : PySem.W.nsIn K mainGlobals "are_quotients" = some (some (.ref f2))) (l2 : K.lookup f2 = some ⟨oc2, od2, .func (PySem.W.fnOf "are_quotients" "are_quotients" (defArgs s_are_quotients) (defBody s_are_quotients) (defScope s_are_quotients) .none kV2 dc2 pm2 an2 cd2 ct2), sl2⟩) (c2 : PySem.W.codeIn K cd2 "are_quotients" = true) (k2 : PySem.W.keepIn K (.ref f2) = true)
    (a3 : PySem.W.nsIn K mainGlobals "is_chain" = some (some (.ref f3))) (l3 : K.lookup f3 = some ⟨oc3, od3, .func (PySem.W.fnOf "is_chain" "is_chain" (defArgs s_is_chain) (defBody s_is_chain) (defScope s_is_chain) .none kV3 dc3 pm3 an3 cd3 ct3), sl3⟩) (c3 : PySem.W.codeIn K cd3 "is_chain" = true) (k3 : PySem.W.keepIn K (.ref f3) = true)
    (a4 : PySem.W.nsIn K mainGlobals "is_begun" = some (some (.ref f4))) (l4 : K.lookup f4 = some ⟨oc4, od4, .func (PySem.W.fnOf "is_begun" "is_begun" (defArgs s_is_begun) (defBody s_is_begun) (defScope s_is_begun) .none kV4 dc4 pm4 an4 cd4 ct4), sl4⟩) (c4 : PySem.W.codeIn K cd4 "is_begun" = true) (k4 : PySem.W.keepIn K (.ref f4) = true)
    (a5 : PySem.W.nsIn K mainGlobals "is_above" = some (some (.ref f5))) (l5 : K.lookup f5 = some ⟨oc5, od5, .func (PySem.W.fnOf "is_above" "is_above" (defArgs s_is_above) (defBody s_is_above) (defScope s_is_above) .none kV5 dc5 pm5 an5 cd5 ct5), sl5⟩) (c5 : PySem.W.codeIn K cd5 "is_above" = true) (k5 : PySem.W.keepIn K (.ref f5) = true)
    (a6 : PySem.W.nsIn K mainGlobals "told_by" = some (some (.ref f6))) (l6 : K.lookup f6 = some ⟨oc6, od6, .func (PySem.W.fnOf "told_by" "told_by" (defArgs s_told_by) (defBody s_told_by) (defScope s_told_by) .none kV6 dc6 pm6 an6 cd6 ct6), sl6⟩) (c6 : PySem.W.codeIn K cd6 "told_by" = true) (k6 : PySem.W.keepIn K (.ref f6) = true)
    (a7 : PySem.W.nsIn K mainGlobals "ends_of" = some (some (.ref f7))) (l7 : K.lookup f7 = some ⟨oc7, od7, .func (PySem.W.fnOf "ends_of" "ends_of" (defArgs s_ends_of) (defBody s_ends_of) (defScope s_ends_of) .none kV7 dc7 pm7 an7 cd7 ct7), sl7⟩) (c7 : PySem.W.codeIn K cd7 "ends_of" = true) (k7 : PySem.W.keepIn K (.ref f7) = true)
    (a8 : PySem.W.nsIn K mainGlobals "_law_quotient" = some (some (.ref f8))) (l8 : K.lookup f8 = some ⟨oc8, od8, .func (PySem.W.fnOf "_law_quotient" "_law_quotient" (defArgs s_l_quotient) (defBody s_l_quotient) (defScope s_l_quotient) .none kV8 dc8 pm8 an8 cd8 ct8), sl8⟩) (c8 : PySem.W.codeIn K cd8 "_law_quotient" = true) (k8 : PySem.W.keepIn K (.ref f8) = true)
    (a9 : PySem.W.nsIn K mainGlobals "_law_begun" = some (some (.ref f9))) (l9 : K.lookup f9 = some ⟨oc9, od9, .func (PySem.W.fnOf "_law_begun" "_law_begun" (defArgs s_l_begun) (defBody s_l_begun) (defScope s_l_begun) .none kV9 dc9 pm9 an9 cd9 ct9), sl9⟩) (c9 : PySem.W.codeIn K cd9 "_law_begun" = true) (k9 : PySem.W.keepIn K (.ref f9) = true)
    (a10 : PySem.W.nsIn K mainGlobals "_law_order" = some (some (.ref f10))) (l10 : K.lookup f10 = some ⟨oc10, od10, .func (PySem.W.fnOf "_law_order" "_law_order" (defArgs s_l_order) (defBody s_l_order) (defScope s_l_order) .none kV10 dc10 pm10 an10 cd10 ct10), sl10⟩) (c10 : PySem.W.codeIn K cd10 "_law_order" = true) (k10 : PySem.W.keepIn K (.ref f10) = true)
    (a11 : PySem.W.nsIn K mainGlobals "_law_within" = some (some (.ref f11))) (l11 : K.lookup f11 = some ⟨oc11, od11, .func (PySem.W.fnOf "_law_within" "_law_within" (defArgs s_l_within) (defBody s_l_within) (defScope s_l_within) .none kV11 dc11 pm11 an11 cd11 ct11), sl11⟩) (c11 : PySem.W.codeIn K cd11 "_law_within" = true) (k11 : PySem.W.keepIn K (.ref f11) = true)
    (a12 : PySem.W.nsIn K mainGlobals "_law_is_half" = some (some (.ref f12))) (l12 : K.lookup f12 = some ⟨oc12, od12, .func (PySem.W.fnOf "_law_is_half" "_law_is_half" (defArgs s_l_is_half) (defBody s_l_is_half) (defScope s_l_is_half) .none kV12 dc12 pm12 an12 cd12 ct12), sl12⟩) (c12 : PySem.W.codeIn K cd12 "_law_is_half" = true) (k12 : PySem.W.keepIn K (.ref f12) = true)
    (a13 : PySem.W.nsIn K mainGlobals "_law_beside" = some (some (.ref f13))) (l13 : K.lookup f13 = some ⟨oc13, od13, .func (PySem.W.fnOf "_law_beside" "_law_beside" (defArgs s_l_beside) (defBody s_l_beside) (defScope s_l_beside) .none kV13 dc13 pm13 an13 cd13 ct13), sl13⟩) (c13 : PySem.W.codeIn K cd13 "_law_beside" = true) (k13 : PySem.W.keepIn K (.ref f13) = true)
    (a14 : PySem.W.nsIn K mainGlobals "law" = some (some (.ref f14))) (l14 : K.lookup f14 = some ⟨oc14, od14, .func (PySem.W.fnOf "law" "law" (defArgs s_law) (defBody s_law) (defScope s_law) .none kV14 dc14 pm14 an14 cd14 ct14), sl14⟩) (c14 : PySem.W.codeIn K cd14 "law" = true) (k14 : PySem.W.keepIn K (.ref f14) = true)
    (z1 : PySem.W.nsIn K mainGlobals "all" = some none)
    (z2 : PySem.W.nsIn K mainGlobals "bool" = some none)
    (z3 : PySem.W.nsIn K mainGlobals "enumerate" = some none)
    (z4 : PySem.W.nsIn K mainGlobals "int" = some none)
    (z5 : PySem.W.nsIn K mainGlobals "isinstance" = some none)
    (z6 : PySem.W.nsIn K mainGlobals "len" = some none)
    (z7 : PySem.W.nsIn K mainGlobals "list" = some none)
    (z8 : PySem.W.nsIn K mainGlobals "range" = some none)
    (z9 : PySem.W.nsIn K mainGlobals "reversed" = some none)
    : Txt K mg :=
  ⟨defAt_mk (ps := ["thing"]) l1 c1 k1 (PySem.W.mg_of X G a1) (fun _ _ _ _ _ _ us hl => match us, hl with | [_], _ => rfl),
    defAt_mk (ps := ["thing"]) l2 c2 k2 (PySem.W.mg_of X G a2) (fun _ _ _ _ _ _ us hl => match us, hl with | [_], _ => rfl),
    defAt_mk (ps := ["thing"]) l3 c3 k3 (PySem.W.mg_of X G a3) (fun _ _ _ _ _ _ us hl => match us, hl with | [_], _ => rfl),
    defAt_mk (ps := ["thing"]) l4 c4 k4 (PySem.W.mg_of X G a4) (fun _ _ _ _ _ _ us hl => match us, hl with | [_], _ => rfl),
    defAt_mk (ps := ["thing"]) l5 c5 k5 (PySem.W.mg_of X G a5) (fun _ _ _ _ _ _ us hl => match us, hl with | [_], _ => rfl),
    defAt_mk (ps := ["quotients"]) l6 c6 k6 (PySem.W.mg_of X G a6) (fun _ _ _ _ _ _ us hl => match us, hl with | [_], _ => rfl),
    defAt_mk (ps := ["begun"]) l7 c7 k7 (PySem.W.mg_of X G a7) (fun _ _ _ _ _ _ us hl => match us, hl with | [_], _ => rfl),
    defAt_mk (ps := ["_law_cell"]) l8 c8 k8 (PySem.W.mg_of X G a8) (fun _ _ _ _ _ _ us hl => match us, hl with | [_], _ => rfl),
    defAt_mk (ps := ["_law_cells"]) l9 c9 k9 (PySem.W.mg_of X G a9) (fun _ _ _ _ _ _ us hl => match us, hl with | [_], _ => rfl),
    defAt_mk (ps := ["_law_one", "_law_other"]) l10 c10 k10 (PySem.W.mg_of X G a10) (fun _ _ _ _ _ _ us hl => match us, hl with | [_, _], _ => rfl),
    defAt_mk (ps := ["_law_inner", "_law_outer"]) l11 c11 k11 (PySem.W.mg_of X G a11) (fun _ _ _ _ _ _ us hl => match us, hl with | [_, _], _ => rfl),
    defAt_mk (ps := ["_law_inner", "_law_outer"]) l12 c12 k12 (PySem.W.mg_of X G a12) (fun _ _ _ _ _ _ us hl => match us, hl with | [_, _], _ => rfl),
    defAt_mk (ps := ["_law_one", "_law_other"]) l13 c13 k13 (PySem.W.mg_of X G a13) (fun _ _ _ _ _ _ us hl => match us, hl with | [_, _], _ => rfl),
    lawAt_mk (ps := ["_law_script"]) l14 c14 k14 (PySem.W.mg_of X G a14) (fun _ _ => .of_eq rfl),
    PySem.W.mg_none_of X G z1,
    PySem.W.mg_none_of X G z2,
    PySem.W.mg_none_of X G z3,
    PySem.W.mg_none_of X G z4,
    PySem.W.mg_none_of X G z5,
    PySem.W.mg_none_of X G z6,
    PySem.W.mg_none_of X G z7,
    PySem.W.mg_none_of X G z8,
    PySem.W.mg_none_of X G z9⟩
theorem law_mk {P : Program} {w : World} {K : PySem.W.Frag} {mg : Str → Option Value} {fa : Addr} (hfa : mg "law" = some (.ref fa)) (T : Txt K mg) :
    ∃ fd : FuncData, (∀ (s : Shared) (v : Value), BindsTo s fd ⟨[v], []⟩ [("_law_script", v)]) ∧ ∀ base : Heap, K.In base → base.Ns mainGlobals mg → FnOk P w K mg base CX0 6 fa fd ["_law_script"] (spLaw K) := by
  obtain ⟨f, fd, F, m, b⟩ := T.d_law.ex
  cases hfa.symm.trans m
  exact ⟨fd, b, fun base _ _ => ok_law T F⟩

end Cs
open PySem PySem.W PyProof.Rows
set_option maxHeartbeats 0 in
theorem PySem.Challenge.cw_chainsum_k06_whole_within_and_beside_holds : PySem.Challenge.rw_chainsum_k06_whole_within_and_beside.Holds := by
  w_on; o_law; k_head; (case hw => w_witness2)
  k_fill
  refine Cs.walk (l := PySem.Challenge.rw_chainsum_k06_whole_within_and_beside) (k := 6) rfl rfl ⟨rfl, by decide, by decide⟩ (fun w h Y => PySem.W.kIn_of Y) ?F
  case F =>
    intro w mg fa h KX G hmg
    refine Cs.law_mk hmg ?T
    refine' Cs.txt_mk KX G ?a1 ?l1 ?c1 ?k1 ?a2 ?l2 ?c2 ?k2 ?a3 ?l3 ?c3 ?k3 ?a4 ?l4 ?c4 ?k4 ?a5 ?l5 ?c5 ?k5 ?a6 ?l6 ?c6 ?k6 ?a7 ?l7 ?c7 ?k7 ?a8 ?l8 ?c8 ?k8 ?a9 ?l9 ?c9 ?k9 ?a10 ?l10 ?c10 ?k10 ?a11 ?l11 ?c11 ?k11 ?a12 ?l12 ?c12 ?k12 ?a13 ?l13 ?c13 ?k13 ?a14 ?l14 ?c14 ?k14 ?z1 ?z2 ?z3 ?z4 ?z5 ?z6 ?z7 ?z8 ?z9
    (case a1 => k_is)
    (case l1 => k_is)
    (case c1 => k_is)
    (case k1 => k_is)
    (case a2 => k_is)
    (case l2 => k_is)
    (case c2 => k_is)
    (case k2 => k_is)
    (case a3 => k_is)
    (case l3 => k_is)
    (case c3 => k_is)
    (case k3 => k_is)
    (case a4 => k_is)
    (case l4 => k_is)
    (case c4 => k_is)
    (case k4 => k_is)
    (case a5 => k_is)
    (case l5 => k_is)
    (case c5 => k_is)
    (case k5 => k_is)
    (case a6 => k_is)
    (case l6 => k_is)
    (case c6 => k_is)
    (case k6 => k_is)
    (case a7 => k_is)
    (case l7 => k_is)
    (case c7 => k_is)
    (case k7 => k_is)
    (case a8 => k_is)
    (case l8 => k_is)
    (case c8 => k_is)
    (case k8 => k_is)
    (case a9 => k_is)
    (case l9 => k_is)
    (case c9 => k_is)
    (case k9 => k_is)
    (case a10 => k_is)
    (case l10 => k_is)
    (case c10 => k_is)
    (case k10 => k_is)
    (case a11 => k_is)
    (case l11 => k_is)
    (case c11 => k_is)
    (case k11 => k_is)
    (case a12 => k_is)
    (case l12 => k_is)
    (case c12 => k_is)
    (case k12 => k_is)
    (case a13 => k_is)
    (case l13 => k_is)
    (case c13 => k_is)
    (case k13 => k_is)
    (case a14 => k_is)
    (case l14 => k_is)
    (case c14 => k_is)
    (case k14 => k_is)
    (case z1 => k_is)
    (case z2 => k_is)
    (case z3 => k_is)
    (case z4 => k_is)
    (case z5 => k_is)
    (case z6 => k_is)
    (case z7 => k_is)
    (case z8 => k_is)
    (case z9 => k_is)
