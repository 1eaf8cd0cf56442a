import PyProof.Rows.All
import Wide.All
import OpenK.AllK
import Wide.FinOn
import HandS.ForMost
import HandS.ForExc
import HandS.Wide
import HandS.WideBits
import HandS.Flow
import HandS.Style
import HandS.IsInst
import HandS.TupAny
import HandS.Evl
import PySem.Challenge.RW_chainsum_k08_whole_numbers_go_together
set_option Elab.async false
set_option linter.all false
set_option maxRecDepth 100000
set_option maxHeartbeats 2000000

namespace Cm
/-! ### chains: what quotients tell, and Euclid's quotients -/
def W : List Int → Int × Int
  | [] => (1, 0)
  | q :: r => (q * (W r).1 + (W r).2, (W r).1)
theorem W_nil : W [] = (1, 0) := rfl
theorem W_cons (q : Int) (r : List Int) : W (q :: r) = (q * (W r).1 + (W r).2, (W r).1) := rfl
theorem W_one (q : Int) : W [q] = (q, 1) := by rw [W_cons, W_nil]; simp
def euc (t b : Int) : List Int := if h : 0 < b then t / b :: euc b (t % b) else []
  termination_by b.toNat
  decreasing_by
    have h1 := Int.emod_lt_of_pos t h
    have h2 := Int.emod_nonneg t (show b ≠ 0 by omega)
    omega
theorem euc_pos {t b : Int} (h : 0 < b) : euc t b = t / b :: euc b (t % b) := by rw [euc]; rw [dif_pos h]
theorem euc_zero {t b : Int} (h : ¬ 0 < b) : euc t b = [] := by rw [euc]; rw [dif_neg h]
/-- behind the first quotient of a chain of several -/
def Tl : List Int → Prop
  | [] => False
  | [x] => 2 ≤ x
  | x :: y :: r => 1 ≤ x ∧ Tl (y :: r)
def Ch : List Int → Prop
  | [] => False
  | [_] => True
  | _ :: y :: r => Tl (y :: r)
theorem Tl.ch : ∀ {l : List Int}, Tl l → Ch l
  | [], h => h
  | [_], _ => trivial
  | _ :: _ :: _, h => h.2
theorem Tl.pos1 : ∀ {l : List Int}, Tl l → ∀ x ∈ l, 1 ≤ x
  | [], h, _, _ => h.elim
  | [a], h, x, hx => by
    rw [List.mem_singleton] at hx
    subst hx
    have : 2 ≤ x := h
    omega
  | a :: b :: r, h, x, hx => by
    rcases List.mem_cons.mp hx with rfl | hx
    · exact h.1
    · exact Tl.pos1 h.2 x hx
theorem Tl.w : ∀ {l : List Int}, Tl l → 1 ≤ (W l).2 ∧ (W l).2 < (W l).1
  | [], h => h.elim
  | [x], h => by
    have h2 : 2 ≤ x := h
    rw [W_one]
    show (1 : Int) ≤ 1 ∧ 1 < x
    omega
  | x :: y :: r, h => by
    have ih := Tl.w (l := y :: r) h.2
    have h1 : 1 ≤ x := h.1
    rw [W_cons]
    show 1 ≤ (W (y :: r)).1 ∧ (W (y :: r)).1 < x * (W (y :: r)).1 + (W (y :: r)).2
    have := Int.mul_le_mul_of_nonneg_right h1 (show 0 ≤ (W (y :: r)).1 by omega)
    omega
theorem Ch.bot {l : List Int} (h : Ch l) : 1 ≤ (W l).2 := by
  cases l with
  | nil => exact h.elim
  | cons x r =>
    cases r with
    | nil => rw [W_one]; exact Int.le_refl 1
    | cons y r =>
      have := Tl.w (l := y :: r) h
      rw [W_cons]
      show 1 ≤ (W (y :: r)).1
      omega
theorem div_of {t b q r : Int} (e : t = q * b + r) (h0 : 0 ≤ r) (h1 : r < b) : t / b = q ∧ t % b = r := by
  have hb : b ≠ 0 := by omega
  subst e
  rw [Int.add_comm, Int.add_mul_ediv_right _ _ hb, Int.add_mul_emod_self_right, Int.ediv_eq_zero_of_lt h0 h1, Int.emod_eq_of_lt h0 h1]
  simp
/-- the chain of a fraction that a chain tells is this chain -/
theorem euc_W : ∀ {l : List Int} {k : Int}, Ch l → 0 < k → euc (k * (W l).1) (k * (W l).2) = l
  | [], k, h, _ => h.elim
  | [x], k, _, hk => by
    rw [W_one]
    show euc (k * x) (k * 1) = [x]
    obtain ⟨e1, e2⟩ := div_of (t := k * x) (b := k * 1) (q := x) (r := 0) (by grind) (by omega) (by omega)
    rw [euc_pos (by omega), e1, e2, euc_zero (by omega)]
  | x :: y :: r, k, h, hk => by
    have ih := euc_W (l := y :: r) (k := k) (Tl.ch h) hk
    obtain ⟨w1, w2⟩ := Tl.w (l := y :: r) h
    rw [W_cons]
    show euc (k * (x * (W (y :: r)).1 + (W (y :: r)).2)) (k * (W (y :: r)).1) = x :: y :: r
    generalize W (y :: r) = z at *
    obtain ⟨a, b⟩ := z
    have p1 : 0 < k * b := Int.mul_pos hk (by show 0 < b; exact w1)
    have p2 : k * b < k * a := Int.mul_lt_mul_of_pos_left w2 hk
    obtain ⟨e1, e2⟩ := div_of (t := k * (x * a + b)) (b := k * a) (q := x) (r := k * b) (by grind) (by omega) p2
    show euc (k * (x * a + b)) (k * a) = x :: y :: r
    rw [euc_pos (Int.lt_trans p1 p2), e1, e2]
    show x :: euc (k * a) (k * b) = x :: y :: r
    rw [ih]
theorem euc_W1 {l : List Int} (h : Ch l) : euc (W l).1 (W l).2 = l := by
  have := euc_W (k := 1) h (by omega)
  rwa [Int.one_mul, Int.one_mul] at this
/-- Euclid's quotients of a fraction above 1 -/
theorem euc_big : ∀ (n : Nat) {t b : Int}, b.toNat ≤ n → 0 < b → b < t → Tl (euc t b) ∧ ∃ g, 0 < g ∧ t = g * (W (euc t b)).1 ∧ b = g * (W (euc t b)).2
  | n, t, b, hn, hb, hlt => by
    have r0 := Int.emod_nonneg t (show b ≠ 0 by omega)
    have r1 := Int.emod_lt_of_pos t hb
    have et := Int.mul_ediv_add_emod t b
    rw [euc_pos hb]
    generalize hq : t / b = q at *
    generalize hr : t % b = r at *
    by_cases h : 0 < r
    · obtain ⟨m, rfl⟩ : ∃ m, n = m + 1 := ⟨n - 1, by omega⟩
      obtain ⟨i1, g, i2, i3, i4⟩ := euc_big m (t := b) (b := r) (by omega) h r1
      have q1 : 1 ≤ q := by
        rcases Int.lt_or_le 0 q with z | z
        · exact z
        · have := Int.mul_le_mul_of_nonneg_left z (show 0 ≤ b by omega)
          omega
      generalize hl : euc b r = l at *
      cases l with
      | nil => exact i1.elim
      | cons y s =>
        refine ⟨⟨q1, i1⟩, g, i2, ?_, ?_⟩
        · rw [W_cons]; show t = g * (q * (W (y :: s)).1 + (W (y :: s)).2); grind
        · rw [W_cons]; exact i3
    · have e0 : r = 0 := by omega
      subst e0
      rw [euc_zero (by omega)]
      have q2 : 2 ≤ q := by
        rcases Int.lt_or_le 1 q with z | z
        · exact z
        · have := Int.mul_le_mul_of_nonneg_left z (show 0 ≤ b by omega)
          omega
      refine ⟨q2, b, hb, ?_, ?_⟩
      · rw [W_one]; show t = b * q; omega
      · rw [W_one]; show b = b * 1; omega
theorem euc_ok {t b : Int} (hb : 0 < b) : Ch (euc t b) ∧ ∃ g, 0 < g ∧ t = g * (W (euc t b)).1 ∧ b = g * (W (euc t b)).2 := by
  have r0 := Int.emod_nonneg t (show b ≠ 0 by omega)
  have r1 := Int.emod_lt_of_pos t hb
  have et := Int.mul_ediv_add_emod t b
  rw [euc_pos hb]
  generalize hq : t / b = q at *
  generalize hr : t % b = r at *
  by_cases h : 0 < r
  · obtain ⟨i1, g, i2, i3, i4⟩ := euc_big _ (t := b) (b := r) (Nat.le_refl _) h r1
    generalize hl : euc b r = l at *
    cases l with
    | nil => exact i1.elim
    | cons y s =>
      refine ⟨i1, g, i2, ?_, ?_⟩
      · rw [W_cons]; show t = g * (q * (W (y :: s)).1 + (W (y :: s)).2); grind
      · rw [W_cons]; exact i3
  · have e0 : r = 0 := by omega
    subst e0
    rw [euc_zero (by omega)]
    refine ⟨trivial, b, hb, ?_, ?_⟩
    · rw [W_one]; show t = b * q; omega
    · rw [W_one]; show b = b * 1; omega
/-- the same fraction, the same chain -/
theorem euc_same {t b t' b' : Int} (hb : 0 < b) (hb' : 0 < b') (e : t * b' = t' * b) : euc t b = euc t' b' := by
  obtain ⟨c1, g1, p1, a1, d1⟩ := euc_ok (t := t) hb
  obtain ⟨c2, g2, p2, a2, d2⟩ := euc_ok (t := t') hb'
  have x1 := euc_W (k := g1 * b') c1 (Int.mul_pos p1 hb')
  have x2 := euc_W (k := g2 * b) c2 (Int.mul_pos p2 hb)
  have k1 : g1 * b' * (W (euc t b)).1 = g2 * b * (W (euc t' b')).1 := by grind
  have k2 : g1 * b' * (W (euc t b)).2 = g2 * b * (W (euc t' b')).2 := by grind
  rw [k1, k2, x2] at x1
  exact x1.symm
/-- a chain is that of its fraction, in any terms -/
theorem euc_of {t b : Int} {l : List Int} (hb : 0 < b) (c : Ch l) (e : t * (W l).2 = (W l).1 * b) : euc t b = l := by
  rw [euc_same hb (show 0 < (W l).2 from Ch.bot c) e, euc_W1 c]
theorem euc_len : ∀ (n : Nat) {t b : Int}, 0 < b → b < 2 ^ n → (euc t b).length ≤ 2 * n
  | 0, t, b, h0, h => by
    simp at h
    omega
  | n + 1, t, b, h0, h => by
    have r0 := Int.emod_nonneg t (show b ≠ 0 by omega)
    have r1 := Int.emod_lt_of_pos t h0
    rw [euc_pos h0]
    generalize t % b = r at *
    by_cases hr : 0 < r
    · rw [euc_pos hr]
      have s0 := Int.emod_nonneg b (show r ≠ 0 by omega)
      have s1 := Int.emod_lt_of_pos b hr
      have es := Int.mul_ediv_add_emod b r
      have q1 : 1 ≤ b / r := by
        have := Int.le_ediv_of_mul_le hr (show 1 * r ≤ b by omega)
        exact this
      have q2 := Int.mul_le_mul_of_nonneg_left q1 (show 0 ≤ r by omega)
      generalize b / r = q at *
      generalize b % r = s at *
      rw [Int.pow_succ] at h
      by_cases hs : 0 < s
      · have ih := euc_len n (t := r) (b := s) hs (by omega)
        simp only [List.length_cons]
        omega
      · rw [euc_zero hs]
        simp only [List.length_cons, List.length_nil]
        omega
    · rw [euc_zero hr]
      simp only [List.length_cons, List.length_nil]
      omega
def sg (p : Nat) : Int := if p % 2 = 0 then 1 else -1
theorem sg_succ (p : Nat) : sg (p + 1) = - sg p := by
  unfold sg
  split <;> split <;> omega
def sgn (i : Int) : Int := if 0 < i then 1 else if i < 0 then -1 else 0
theorem sgn_neg (i : Int) : sgn (-i) = - sgn i := by
  unfold sgn
  split <;> split <;> (try split) <;> omega
theorem sgn_pos {i : Int} (h : 0 < i) : sgn i = 1 := if_pos h
theorem sgn_lt {i : Int} (h : i < 0) : sgn i = -1 := by
  unfold sgn
  rw [if_neg (by omega), if_pos h]
end Cm

namespace Cm
/-! ### the order of chains -/
def cmpC : List Int → List Int → Int
  | [], [] => 0
  | [], _ :: _ => 1
  | _ :: _, [] => -1
  | x :: xs, y :: ys => if x = y then - cmpC xs ys else if y < x then 1 else -1
def cross (l m : List Int) : Int := (W l).1 * (W m).2 - (W m).1 * (W l).2
/-- behind a place of a chain: nothing, or a tail -/
def T0 (l : List Int) : Prop := l = [] ∨ Tl l
theorem T0.w {l : List Int} (h : T0 l) : 0 ≤ (W l).2 ∧ (W l).2 < (W l).1 := by
  rcases h with rfl | h
  · exact ⟨Int.le_refl 0, by decide⟩
  · have := h.w
    omega
theorem T0.tl {x : Int} {l : List Int} (h : T0 (x :: l)) : T0 l := by
  rcases h with h | h
  · cases h
  · cases l with
    | nil => exact .inl rfl
    | cons y r => exact .inr h.2
theorem Ch.tl {x : Int} {l : List Int} (h : Ch (x :: l)) : T0 l := by
  cases l with
  | nil => exact .inl rfl
  | cons y r => exact .inr h
theorem cross_gt {x y a b c d : Int} (h : y < x) (b0 : 0 ≤ b) (ab : b < a) (d0 : 0 ≤ d) (cd : d < c) : 0 < (x * a + b) * c - (y * c + d) * a := by
  have e : (x * a + b) * c - (y * c + d) * a = (x - y - 1) * (a * c) + a * (c - d) + b * c := by grind
  rw [e]
  have h1 : 0 ≤ (x - y - 1) * (a * c) := Int.mul_nonneg (by omega) (Int.mul_nonneg (by omega) (by omega))
  have h2 : 0 < a * (c - d) := Int.mul_pos (by omega) (by omega)
  have h3 : 0 ≤ b * c := Int.mul_nonneg b0 (by omega)
  omega
theorem cmp_step {x y : Int} {xs ys : List Int} (hx : T0 xs) (hy : T0 ys) (ih : cmpC xs ys = sgn (cross xs ys)) : cmpC (x :: xs) (y :: ys) = sgn (cross (x :: xs) (y :: ys)) := by
  obtain ⟨a1, a2⟩ := hx.w
  obtain ⟨c1, c2⟩ := hy.w
  show (if x = y then - cmpC xs ys else if y < x then 1 else -1) = sgn (cross (x :: xs) (y :: ys))
  unfold cross at *
  rw [W_cons, W_cons]
  dsimp only
  generalize W xs = z at *
  generalize W ys = u at *
  obtain ⟨a, b⟩ := z
  obtain ⟨c, d⟩ := u
  dsimp only at *
  by_cases e : x = y
  · subst e
    rw [if_pos rfl, ih, ← sgn_neg]
    congr 1
    grind
  · rw [if_neg e]
    by_cases g : y < x
    · rw [if_pos g, sgn_pos (cross_gt g a1 a2 c1 c2)]
    · rw [if_neg g]
      have := cross_gt (show x < y by omega) c1 c2 a1 a2
      rw [sgn_lt]
      omega
theorem cmp_T0 : ∀ {l m : List Int}, T0 l → T0 m → cmpC l m = sgn (cross l m)
  | [], [], _, _ => rfl
  | [], y :: m, _, h => by
    rcases h with h | h
    · cases h
    · have := h.w
      show 1 = sgn (1 * (W (y :: m)).2 - (W (y :: m)).1 * 0)
      rw [sgn_pos (by omega)]
  | x :: l, [], h, _ => by
    rcases h with h | h
    · cases h
    · have := h.w
      show -1 = sgn ((W (x :: l)).1 * 0 - 1 * (W (x :: l)).2)
      rw [sgn_lt (by omega)]
  | x :: l, y :: m, hl, hm => cmp_step hl.tl hm.tl (cmp_T0 hl.tl hm.tl)
theorem cmp_ok {l m : List Int} (hl : Ch l) (hm : Ch m) : cmpC l m = sgn (cross l m) := by
  cases l with
  | nil => exact hl.elim
  | cons x l =>
    cases m with
    | nil => exact hm.elim
    | cons y m => exact cmp_step hl.tl hm.tl (cmp_T0 hl.tl hm.tl)
/-- the walk along both: alike so far -/
theorem cmp_drop {l m : List Int} {p : Nat} (h1 : p < l.length) (h2 : p < m.length) (e : l[p] = m[p]) : sg p * cmpC (l.drop p) (m.drop p) = sg (p + 1) * cmpC (l.drop (p + 1)) (m.drop (p + 1)) := by
  rw [List.drop_eq_getElem_cons h1, List.drop_eq_getElem_cons h2, sg_succ]
  show sg p * (if l[p] = m[p] then _ else _) = _
  rw [if_pos e, Int.mul_neg, Int.neg_mul]
theorem cmp_self : ∀ l : List Int, cmpC l l = 0
  | [] => rfl
  | x :: l => by
    show (if x = x then - cmpC l l else _) = 0
    rw [if_pos rfl, cmp_self l]
    rfl
theorem cmp_anti : ∀ l m : List Int, cmpC m l = - cmpC l m
  | [], [] => rfl
  | [], _ :: _ => rfl
  | _ :: _, [] => rfl
  | x :: l, y :: m => by
    show (if y = x then - cmpC m l else if x < y then 1 else -1) = - (if x = y then - cmpC l m else if y < x then 1 else -1)
    rw [cmp_anti l m]
    by_cases e : x = y
    · rw [if_pos e, if_pos e.symm]
    · rw [if_neg e, if_neg (fun z => e z.symm)]
      split <;> split <;> omega
end Cm

namespace Cm
/-! ### numbers by their chains -/
theorem euc_scale {k t b : Int} (k0 : 0 < k) (b0 : 0 < b) : euc (k * t) (k * b) = euc t b := euc_same (Int.mul_pos k0 b0) b0 (by grind)
theorem sgn_mul {k i : Int} (k0 : 0 < k) : sgn (k * i) = sgn i := by
  unfold sgn
  rcases Int.lt_trichotomy i 0 with h | h | h
  · have : k * i < 0 := Int.mul_neg_of_pos_of_neg k0 h
    rw [if_neg (by omega), if_pos this, if_neg (by omega), if_pos h]
  · subst h
    rw [Int.mul_zero]
  · rw [if_pos (Int.mul_pos k0 h), if_pos h]
theorem euc_self {t : Int} (h : 0 < t) : euc t t = [1] := euc_of h (show Ch [1] from trivial) (by rw [W_one]; show t * 1 = 1 * t; omega)
theorem euc_0 {b : Int} (h : 0 < b) : euc 0 b = [0] := euc_of h (show Ch [0] from trivial) (by rw [W_one]; show (0 : Int) * 1 = 0 * b; omega)
theorem cmp_by {l m : List Int} {k j a b c d : Int} (hl : Ch l) (hm : Ch m) (k0 : 0 < k) (j0 : 0 < j) (ea : a = k * (W l).1) (eb : b = k * (W l).2) (ec : c = j * (W m).1) (ed : d = j * (W m).2) : cmpC l m = sgn (a * d - c * b) := by
  rw [cmp_ok hl hm, ← sgn_mul (i := cross l m) (Int.mul_pos k0 j0)]
  unfold cross
  congr 1
  rw [ea, eb, ec, ed]
  grind
end Cm

namespace Cs
open PySem PySem.Spec PyProof.Rows L2
/-! ### defs of the text, by name -/
structure DefAt (K : PySem.W.Frag) (mg : Str → Option Value) (x : Str) (st : Stmt) (ps : List Str) : Prop where
  ex : ∃ (f : Addr) (fd : FuncData), L2.Fun K x x st f fd ∧ mg x = some (.ref f) ∧ Binds K fd ps []
structure Cal (P : Program) (w : World) (K : PySem.W.Frag) (mg : Str → Option Value) (base : Heap) (CX : CXT) (k : Nat) (x : Str) (sp : Sp) : Prop where
  ex : ∃ (f : Addr) (fd : FuncData) (ps : List Str), FnOk P w K mg base CX k f fd ps sp ∧ mg x = some (.ref f) ∧ PySem.W.keepIn K (.ref f) = true ∧ Binds K fd ps []
theorem defAt_mk {K : PySem.W.Frag} {mg : Str → Option Value} {x : Str} {st : Stmt} {ps : List Str} {f : Addr} {oc : Value} {od an : Option Addr} {osl : Array (Option Value)} {kV doc pm cdv ct : Value}
    (l : K.lookup f = some ⟨oc, od, .func (PySem.W.fnOf x x (defArgs st) (defBody st) (defScope st) .none kV doc pm an cdv ct), osl⟩)
    (c : PySem.W.codeIn K cdv x = true) (k : PySem.W.keepIn K (.ref f) = true) (g : mg x = some (.ref f))
    (h : ∀ (kV doc pm : Value) (an : Option Addr) (cdv ct : Value) (us : List Value), us.length = ps.length → bindArgs (PySem.W.fnOf x x (defArgs st) (defBody st) (defScope st) .none kV doc pm an cdv ct) ⟨us, []⟩ = pure (ps.zip us)) : DefAt K mg x st ps :=
  ⟨f, _, fun_mk l c k, g, (fun_mk l c k).binds h⟩
section
variable {P : Program} {w : World} {K : PySem.W.Frag} {mg : Str → Option Value} {base : Heap}
theorem cal_ok {x : Str} {st : Stmt} {N ps : List Str} {k : Nat} {sp : Sp} (D : DefAt K mg x st ps) (S : FnScope N ps (defScope st)) (len : ∀ vs H Q E, sp vs H Q E → vs.length = ps.length)
    (hbody : ∀ (f : Addr) (cdv : Value) (A : Around) (outer : List Env) (s : Shared) (H : Hp) (vs : List V) (Q : VK) (E : XK), Room k (A.deeper (envOfC x (defScope st) s.heap.objs.size f cdv)) → sp vs H Q E →
      ∃ t, PSs (cxOf CX0 P w K mg base N x (defScope st) f cdv A outer s H E).nox (defBody st) t ∧ t { nx := fun _ H' => Q .non H', rt := Q } (start N vs) H) : Cal P w K mg base CX0 (k + 1) x sp := by
  obtain ⟨f, fd, F, m, b⟩ := D.ex
  exact ⟨f, fd, ps, F.ok S len (hbody f), m, F.kp, b⟩
end
section
variable {X : Cx} {x : Str} {sp : Sp} {e : Expr} {es : List Expr} {t : TA} {p pos : Pos} {k j : Nat}
theorem pe_c (c : Cal X.prog X.w X.K X.mg X.base CX0 k x sp) (hr : Room j X.A) (hk : k ≤ j) (hg : Gl X x) (ha : PA X (e :: es) t)
    (hdb : (x == ("__debug__" : Str)) = false := by decide) (he : starEach (e :: es) X.env = (false, eval e X.env) :: starEach es X.env := by rfl) (hpl : (backTo pos (starEach es X.env)).any (·.1) = false := by rfl) :
    PE X (.Call (.Name x p) (e :: es) [] pos) (tCall sp [] E0 t) := by
  obtain ⟨f, fd, ps, F, hm, kp, b⟩ := c.ex
  exact pe_call F (hr.mono hk) hg hm kp b .nil pass0 ha hdb he hpl
end
/-! ### heaps -/
theorem same_upd {H : Hp} {p : Addr} {o : HO} (h : H p = none) : Same H (upd H p o) := fun b x e => by
  rw [upd_ne (ne_of_none e h)]
  exact e
/-- a new object: what is tracked stays -/
theorem newO {H : Hp} {o : HO} {Q : V → Hp → Prop} (h : ∀ p H', Same H H' → H p = none → H' p = some o → Q (.ref p) H') : ∀ p, H p = none → Q (.ref p) (upd H p o) :=
  fun p hp => h p _ (same_upd hp) hp upd_same
theorem same_of {H H' : Hp} {p : Addr} {o : HO} (h : upd H p o = H') (n : H p = none) : Same H H' := h ▸ same_upd n
theorem at_new {H H' : Hp} {p : Addr} {o : HO} (h : upd H p o = H') : H' p = some o := h ▸ upd_same
theorem same_mut {H H' : Hp} {p : Addr} {o : HO} (s : Same H H') (h : H p = none) : Same H (upd H' p o) := fun b x e => by
  rw [upd_ne (ne_of_none e h)]
  exact s b x e
theorem same_mut_of {H H' H'' : Hp} {p : Addr} {o : HO} (h : upd H' p o = H'') (s : Same H H') (n : H p = none) : Same H H'' := h ▸ same_mut s n
theorem same_t {K : PySem.W.Frag} {H H' : Hp} {a : Addr} {xs : List V} (e : Same H H') (h : SqT K H a xs) : SqT K H' a xs := by
  rcases h with (h | ⟨o, h⟩) | h
  · exact .inl (.inl (e _ _ h))
  · exact .inl (.inr ⟨o, e _ _ h⟩)
  · exact .inr h
theorem sqL {K : PySem.W.Frag} {H : Hp} {a : Addr} {xs : List V} (h : H a = some (.lst xs)) : SqL K H a xs := .inl (.inl h)
theorem sqT {K : PySem.W.Frag} {H : Hp} {a : Addr} {xs : List V} (h : H a = some (.tup xs)) : SqT K H a xs := .inl (.inl h)
/-! ### numbers: of fewer than n bits -/
def Bd (n : Nat) (i : Int) : Prop := i.natAbs < 2 ^ n
theorem Bd.mono {n m : Nat} {i : Int} (h : Bd n i) (k : n ≤ m) : Bd m i := Nat.lt_of_lt_of_le h (Nat.pow_le_pow_right (by decide) k)
theorem Bd.mul {n m : Nat} {i j : Int} (h : Bd n i) (k : Bd m j) : Bd (n + m) (i * j) := by
  unfold Bd at *
  rw [Int.natAbs_mul, Nat.pow_add]
  exact Nat.mul_lt_mul'' h k
theorem Bd.add {n : Nat} {i j : Int} (h : Bd n i) (k : Bd n j) : Bd (n + 1) (i + j) := by
  unfold Bd at *
  rw [Nat.pow_succ]
  omega
theorem Bd.sub {n : Nat} {i j : Int} (h : Bd n i) (k : Bd n j) : Bd (n + 1) (i - j) := by
  unfold Bd at *
  rw [Nat.pow_succ]
  omega
theorem Bd.neg {n : Nat} {i : Int} (h : Bd n i) : Bd n (-i) := by
  unfold Bd at *
  omega
theorem Bd.of_le {n : Nat} {i j : Int} (h0 : 0 ≤ i) (h : i ≤ j) (k : Bd n j) : Bd n i := by
  unfold Bd at *
  omega
theorem Bd.zero {n : Nat} : Bd n 0 := Nat.pow_pos (by decide)
theorem Bd.one {n : Nat} (h : 0 < n) : Bd n 1 := Nat.lt_of_lt_of_le (by decide : 1 < 2 ^ 1) (Nat.pow_le_pow_right (by decide) h)
theorem mulOk {n m : Nat} {i j : Int} (h : Bd n i) (k : Bd m j) (l : n + m ≤ 134217728) : IntMulOk i j := (mulx_ok h k l).ok
theorem mulOk_l {i j : Int} (h : Bd 64 i) : IntMulOk i j := CMul.ok (.inl (by unfold Bd at h; omega))
theorem mulOk_r {i j : Int} (h : Bd 64 j) : IntMulOk i j := CMul.ok (.inr (by unfold Bd at h; omega))
theorem divOk {n : Nat} {i j : Int} (h0 : 0 < j) (h : Bd n j) (l : n ≤ 9000) (n0 : 0 < n) : CDivP i j := ⟨h0, PyProof.noPylong_of_log2 (Nat.lt_of_lt_of_le (PySem.Flt.log2_lt_of n0 h) l)⟩
section
variable {X : Cx}
/-- * of any factors that the model multiplies -/
theorem op_mulX : OpR X (binaryOp .Mult) (rI IntMulOk fun i j => .int (i * j)) := opI fun _ _ _ _ _ _ _ hc q => mul_int q hc
theorem op_fdivP : OpR X (binaryOp .FloorDiv) (rI CDivP fun i j => .int (i / j)) := opI fun i j _ _ _ _ _ hc q => by
  have h1 : (0 : Int) < j := hc.1
  exact floordiv_int (by omega) (by rw [Int.fdiv_eq_ediv_of_nonneg i (by omega)]; exact q) (.inl hc.2)
abbrev call_divmodP := @call_divmodW
end
/-! ### data -/
theorem dpAll_ints {K : PySem.W.Frag} {H : Hp} : ∀ ns : List Int, DpAll K H (ns.map V.int) (ns.map PyData.int)
  | [] => .nil
  | n :: r => .cons (.int n) (dpAll_ints r)
theorem dp_ints {K : PySem.W.Frag} {H : Hp} {a : Addr} {ns : List Int} (h : SqL K H a (ns.map V.int)) : Dp K H (.ref a) (.list (ns.map PyData.int)) := .lst h (dpAll_ints ns)
theorem canLay_ints : ∀ ns : List Int, PyData.canLayAll0 (ns.map PyData.int) = true
  | [] => by simp [PyData.canLayAll0]
  | n :: r => by simp [PyData.canLayAll0, PyData.canLay0, canLay_ints r]
theorem depth_ints : ∀ ns : List Int, PyData.depthAll (ns.map PyData.int) = 0
  | [] => by simp [PyData.depthAll]
  | n :: r => by simp [PyData.depthAll, PyData.depth, depth_ints r]
theorem shaped_ints (ns : List Int) : SeqAt.shaped (.list (ns.map PyData.int)) = true := by
  unfold SeqAt.shaped
  simp [PyData.canLay0, PyData.depth, canLay_ints, depth_ints]
theorem eqvAll_ints : ∀ ns ms : List Int, PyData.eqvAll (ns.map PyData.int) (ms.map PyData.int) = decide (ns = ms)
  | [], [] => by simp [PyData.eqvAll]
  | [], _ :: _ => by simp [PyData.eqvAll]
  | _ :: _, [] => by simp [PyData.eqvAll]
  | n :: r, m :: t => by
    show (PyData.eqv (.int n) (.int m) && PyData.eqvAll (r.map PyData.int) (t.map PyData.int)) = _
    rw [eqvAll_ints r t]
    simp only [PyData.eqv]
    by_cases h : n = m
    · subst h
      simp
    · simp [h]
theorem eqv_ints (ns ms : List Int) : PyData.eqv (.list (ns.map PyData.int)) (.list (ms.map PyData.int)) = decide (ns = ms) := by
  simp only [PyData.eqv]
  exact eqvAll_ints ns ms
/-- == of two lists of ints, != -/
theorem eq_ints {K : PySem.W.Frag} {H : Hp} {a b : Addr} {ns ms : List Int} {Q : VK} (h : SqL K H a (ns.map V.int)) (h' : SqL K H b (ms.map V.int)) (q : Q (.bl (decide (ns = ms))) H) : rEqD K (.ref a) (.ref b) H Q :=
  ⟨_, _, dp_ints h, dp_ints h', shaped_ints _, shaped_ints _, by rw [eqv_ints]; exact q⟩
theorem ne_ints {K : PySem.W.Frag} {H : Hp} {a b : Addr} {ns ms : List Int} {Q : VK} (h : SqL K H a (ns.map V.int)) (h' : SqL K H b (ms.map V.int)) (q : Q (.bl (!decide (ns = ms))) H) : rNeD K (.ref a) (.ref b) H Q :=
  ⟨_, _, dp_ints h, dp_ints h', shaped_ints _, shaped_ints _, by rw [eqv_ints]; exact q⟩
/-! ### isinstance -/
/-- the types that come here -/
def tys : List String := ["int", "bool", "str", "NoneType", "list", "tuple", "dict"]
theorem isi_at {K : PySem.W.Frag} {H : Hp} {x : V} {t T : String} {b : Bool} {Q : VK} (hx : TyX K H x (.type t)) (h : kitB t T = some b) (q : Q (.bl b) H) : rIsi K [x, .ty T] H Q :=
  ⟨x, .ty T, _, _, b, rfl, .ty T, hx, kit_ty h, q⟩
theorem kit_tys {T : String} (hT : T ∈ tys) : ∀ t ∈ tys, kitB t T = some (decide (t = T) || (decide (t = "bool") && decide (T = "int"))) := by
  have h : (tys.all fun T => tys.all fun t => decide (kitB t T = some (decide (t = T) || (decide (t = "bool") && decide (T = "int"))))) = true := by decide +kernel
  intro t ht
  exact of_decide_eq_true (List.all_eq_true.mp (List.all_eq_true.mp h T hT) t ht)
theorem isi_tys {K : PySem.W.Frag} {H : Hp} {x : V} {t T : String} {Q : VK} (hx : TyX K H x (.type t)) (ht : t ∈ tys) (hT : T ∈ tys) (q : Q (.bl (decide (t = T) || (decide (t = "bool") && decide (T = "int")))) H) : rIsi K [x, .ty T] H Q :=
  isi_at hx (kit_tys hT t ht) q
theorem ty_int {K : PySem.W.Frag} {H : Hp} (i : Int) : TyX K H (.int i) (.type "int") := .base (.int i)
theorem ty_bl {K : PySem.W.Frag} {H : Hp} (i : Bool) : TyX K H (.bl i) (.type "bool") := .base (.bl i)
theorem ty_list {K : PySem.W.Frag} {H : Hp} {a : Addr} {xs : List V} (h : SqL K H a xs) : TyX K H (.ref a) (.type "list") := by
  rcases h with (h | ⟨o, h⟩) | ⟨o, its, n, h, c, _⟩
  · exact .base (.lst h)
  · exact .base (.frz h)
  · exact .kList h c
theorem ty_tup {K : PySem.W.Frag} {H : Hp} {a : Addr} {xs : List V} (h : SqT K H a xs) : TyX K H (.ref a) (.type "tuple") := by
  rcases h with (h | ⟨o, h⟩) | ⟨o, its, n, h, c, _⟩
  · exact .base (.tup h)
  · exact .fTuple h
  · exact .kTuple h c
/-- the ints of a list of ints, by place -/
theorem map_int_at {ns : List Int} {i : Nat} {y : V} (h : (ns.map V.int)[i]? = some y) : ∃ z, ns[i]? = some z ∧ y = V.int z := by
  rw [List.getElem?_map] at h
  cases e : ns[i]? with
  | none =>
    rw [e] at h
    cases h
  | some z =>
    rw [e] at h
    exact ⟨z, rfl, (Option.some.inj h).symm⟩
/-- for x in reversed(xs), the list left as it is -/
theorem for_rev {K : PySem.W.Frag} {a : Addr} {xs : List V} {g : TG} {tb : TS} {D : Ends} {σ : L2.St} {H : Hp} (Pv : Nat → L2.St → Hp → Prop) (h0 : Pv 0 σ H) (hl : ∀ i σ H, i ≤ xs.length → Pv i σ H → SqL K H a xs)
    (hs : ∀ i x σ H, i < xs.length → xs[xs.length - 1 - i]? = some x → Pv i σ H → g x σ H fun σ2 H2 => tb { D with nx := Pv (i + 1), ct := Pv (i + 1), bk := D.nx } σ2 H2) (hd : ∀ σ H, Pv xs.length σ H → D.nx σ H) :
    ∃ W : Nat → Nat → L2.St → Hp → Prop, (∃ m, W 0 m σ H) ∧ ∀ i m σ H, W i m σ H →
      ((Itv K a xs.length).stop i H ∧ D.nx σ H) ∨ ((Itv K a xs.length).go i H ∧ ∃ N : L2.St → Hp → Prop, (∀ σ' H', N σ' H' → ∃ m', m' < m ∧ W (i + 1) m' σ' H') ∧ ∀ x H', (Itv K a xs.length).yld i H x H' → g x σ H' fun σ2 H2 => tb { D with nx := N, ct := N, bk := D.nx } σ2 H2) := by
  refine ⟨fun i m σ H => m = xs.length - i ∧ i ≤ xs.length ∧ Pv i σ H, ⟨xs.length, by simp, Nat.zero_le _, h0⟩, ?_⟩
  rintro i m σ H ⟨rfl, hi, p⟩
  have q := hl i σ H hi p
  by_cases hlt : i < xs.length
  · have hx : xs[xs.length - 1 - i]? = some (xs[xs.length - 1 - i]'(by omega)) := List.getElem?_eq_getElem (by omega)
    refine .inr ⟨⟨hlt, xs, _, q, hx⟩, Pv (i + 1), fun σ' H' p' => ⟨xs.length - (i + 1), by omega, rfl, hlt, p'⟩, fun x H' y => ?_⟩
    obtain ⟨e, y⟩ := y
    subst e
    exact hs i x σ _ hlt (y xs q) p
  · have e : i = xs.length := by omega
    subst e
    exact .inl ⟨Nat.le_refl _, hd σ H p⟩
/-! ### slices, items -/
theorem cut_neg1 (xs : List V) : cutV xs none (some (-1)) = xs.dropLast := by
  unfold cutV
  rw [HT.sIx_none]
  show (xs.drop 0).take ((if (-1 : Int) < 0 then ((-1 : Int) + (xs.length : Int)).toNat else min (-1 : Int).toNat xs.length) - 0) = xs.dropLast
  rw [if_pos (by decide), List.drop_zero, List.dropLast_eq_take]
  congr 1
  omega
theorem cut_to (xs : List V) (n : Nat) : cutV xs none (some (n : Int)) = xs.take n := by
  unfold cutV
  rw [HT.sIx_none, HT.sIx_nat, List.drop_zero, Nat.sub_zero, List.take_eq_take_iff]
  omega
theorem cut_from (xs : List V) (n : Nat) : cutV xs (some (n : Int)) none = xs.drop n := by
  unfold cutV
  rw [HT.sIx_none, HT.sIx_nat]
  rcases Nat.le_total n xs.length with h | h
  · rw [Nat.min_eq_left h]
    exact List.take_of_length_le (by rw [List.length_drop]; omega)
  · rw [Nat.min_eq_right h, List.drop_length, List.drop_eq_nil_of_le h]
    exact List.take_nil
theorem atI_neg1 {ns : List Int} (h : ns ≠ []) : atI (ns.map V.int) (-1) = some (.int (ns.getLast h)) := by
  have e : ns.map V.int = ns.dropLast.map V.int ++ [V.int (ns.getLast h)] := by
    rw [← List.map_singleton, ← List.map_append, List.dropLast_concat_getLast]
  rw [e]
  exact atI_last _ _
theorem atI_int {ns : List Int} {i : Nat} {z : Int} (h : ns[i]? = some z) : atI (ns.map V.int) (i : Int) = some (.int z) := atI_nat (by rw [List.getElem?_map, h]; rfl)
/-! ### what quotients tell: how great -/
theorem W_bd {n : Nat} : ∀ {ns : List Int}, (∀ x ∈ ns, Bd n x) → Bd ((n + 1) * ns.length + 1) (Cm.W ns).1 ∧ Bd ((n + 1) * ns.length + 1) (Cm.W ns).2
  | [], _ => ⟨Bd.one (by omega), Bd.zero⟩
  | q :: r, h => by
    obtain ⟨h1, h2⟩ := W_bd (ns := r) fun x hx => h x (List.mem_cons_of_mem _ hx)
    have hq := h q List.mem_cons_self
    have e : (n + 1) * (q :: r).length + 1 = (n + ((n + 1) * r.length + 1)) + 1 := by
      rw [List.length_cons, Nat.mul_add]
      omega
    rw [Cm.W_cons, e]
    exact ⟨(hq.mul h1).add (h2.mono (by omega)), h1.mono (by omega)⟩
theorem W_bd' {n m : Nat} {ns : List Int} (h : ∀ x ∈ ns, Bd n x) (l : ns.length ≤ m) : Bd ((n + 1) * m + 1) (Cm.W ns).1 ∧ Bd ((n + 1) * m + 1) (Cm.W ns).2 := by
  obtain ⟨h1, h2⟩ := W_bd h
  have := Nat.mul_le_mul_left (n + 1) l
  exact ⟨h1.mono (by omega), h2.mono (by omega)⟩
end Cs
namespace Cs
open PySem PySem.Spec PyProof.Rows L2
/-! ### things that may be chains -/
def isI : V → Bool
  | .int _ => true
  | _ => false
def ge1 : V → Bool
  | .int i => decide (1 ≤ i)
  | _ => false
/-- a list (its items), or another thing -/
def Thing (K : PySem.W.Frag) (H : Hp) (x : V) : Option (List V) → Prop
  | some xs => ∃ a, x = .ref a ∧ SqL K H a xs ∧ xs.length ≤ 100000 ∧ ∀ y ∈ xs, ∃ t, t ∈ tys ∧ TyX K H y (.type t) ∧ decide (t = "int") = isI y
  | none => ∃ t, t ∈ tys ∧ t ≠ "list" ∧ TyX K H x (.type t)
def quotsT : Option (List V) → Bool
  | none => false
  | some xs => xs.all isI && (xs.drop 1).all ge1
theorem quotsT_some (xs : List V) : quotsT (some xs) = (xs.all isI && (xs.drop 1).all ge1) := rfl
theorem thing_ints {K : PySem.W.Frag} {H : Hp} {a : Addr} {ns : List Int} (h : SqL K H a (ns.map V.int)) (l : ns.length ≤ 100000) : Thing K H (.ref a) (some (ns.map V.int)) := by
  refine ⟨a, rfl, h, by rw [List.length_map]; exact l, fun y hy => ?_⟩
  obtain ⟨z, _, rfl⟩ := List.mem_map.mp hy
  exact ⟨"int", by decide, ty_int z, rfl⟩
theorem isI_ints : ∀ xs : List V, xs.all isI = true → ∃ ns : List Int, xs = ns.map V.int
  | [], _ => ⟨[], rfl⟩
  | x :: r, h => by
    rw [List.all_cons, Bool.and_eq_true] at h
    obtain ⟨ns, rfl⟩ := isI_ints r h.2
    cases x with
    | int i => exact ⟨i :: ns, rfl⟩
    | _ => exact absurd h.1 (by simp [isI])
theorem all_isI (ns : List Int) : (ns.map V.int).all isI = true := by
  induction ns with
  | nil => rfl
  | cons n r ih => rw [List.map_cons, List.all_cons, ih]; rfl
/-- the list of ints is one of quotients -/
def quots (ns : List Int) : Bool := (ns.drop 1).all fun x => decide (1 ≤ x)
theorem quotsT_ints (ns : List Int) : quotsT (some (ns.map V.int)) = quots ns := by
  unfold quots
  rw [quotsT_some, all_isI, Bool.true_and, ← List.map_drop]
  generalize ns.drop 1 = l
  induction l with
  | nil => rfl
  | cons n r ih => rw [List.map_cons, List.all_cons, List.all_cons, ih]; rfl
def chB (ns : List Int) : Bool := quots ns && (ns != [] && (ns.length == 1 || decide (1 < ns.getLastD 0)))
def begB (ns : List Int) : Bool := quots ns && (ns == [] || decide (0 ≤ ns.headD 0))
def abvB (ns : List Int) : Bool := chB ns && (decide (0 ≤ ns.headD 0) && ns != [0])
def intOf : V → Int
  | .int i => i
  | _ => 0
/-- .. of any thing -/
def onInts (f : List Int → Bool) : Option (List V) → Bool
  | none => false
  | some xs => xs.all isI && f (xs.map intOf)
theorem onInts_some (f : List Int → Bool) (xs : List V) : onInts f (some xs) = (xs.all isI && f (xs.map intOf)) := rfl
theorem onInts_ints (f : List Int → Bool) (ns : List Int) : onInts f (some (ns.map V.int)) = f ns := by
  rw [onInts_some, all_isI, Bool.true_and, List.map_map]
  have e : (intOf ∘ V.int) = (id : Int → Int) := rfl
  rw [e, List.map_id]
theorem onInts_no {f : List Int → Bool} (hf : ∀ ns, f ns = true → quots ns = true) {th : Option (List V)} (h : quotsT th = false) : onInts f th = false := by
  cases th with
  | none => rfl
  | some xs =>
    cases e : xs.all isI with
    | false => rw [onInts_some, e]; rfl
    | true =>
      obtain ⟨ns, rfl⟩ := isI_ints xs e
      rw [quotsT_ints] at h
      rw [onInts_ints]
      cases z : f ns with
      | false => rfl
      | true => rw [hf ns z] at h; cases h
theorem quotsT_yes {th : Option (List V)} (h : quotsT th = true) : ∃ ns : List Int, th = some (ns.map V.int) := by
  cases th with
  | none => cases h
  | some xs =>
    rw [quotsT_some, Bool.and_eq_true] at h
    obtain ⟨ns, rfl⟩ := isI_ints xs h.1
    exact ⟨ns, rfl⟩
theorem chB_quots (ns : List Int) (h : chB ns = true) : quots ns = true := by
  unfold chB at h
  rw [Bool.and_eq_true] at h
  exact h.1
theorem begB_quots (ns : List Int) (h : begB ns = true) : quots ns = true := by
  unfold begB at h
  rw [Bool.and_eq_true] at h
  exact h.1
theorem abvB_chB {ns : List Int} (h : abvB ns = true) : chB ns = true := by
  unfold abvB at h
  rw [Bool.and_eq_true] at h
  exact h.1
/-! ### chains, by the program's rule and by the mathematics' -/
theorem tl_iff : ∀ {l : List Int}, Cm.Tl l ↔ l ≠ [] ∧ (l.all fun x => decide (1 ≤ x)) = true ∧ 1 < l.getLastD 0
  | [] => ⟨fun h => h.elim, fun h => (h.1 rfl).elim⟩
  | [x] => by
    simp only [Cm.Tl, List.all_cons, List.all_nil, Bool.and_true, decide_eq_true_eq, List.getLastD_cons, List.getLastD_nil]
    constructor
    · intro h
      exact ⟨by simp, by omega, by omega⟩
    · rintro ⟨_, _, h⟩
      omega
  | x :: y :: r => by
    have ih := tl_iff (l := y :: r)
    show (1 ≤ x ∧ Cm.Tl (y :: r)) ↔ _
    rw [ih]
    simp only [List.all_cons, Bool.and_eq_true, decide_eq_true_eq, List.getLastD_cons]
    constructor
    · rintro ⟨h1, _, h2, h3⟩
      exact ⟨by simp, ⟨h1, h2⟩, h3⟩
    · rintro ⟨_, ⟨h1, h2⟩, h3⟩
      exact ⟨h1, by simp, h2, h3⟩
theorem chB_iff (ns : List Int) : chB ns = true ↔ Cm.Ch ns := by
  match ns with
  | [] => simp [chB, Cm.Ch]
  | [x] => simp [chB, Cm.Ch, quots]
  | x :: y :: r =>
    show _ ↔ Cm.Tl (y :: r)
    rw [tl_iff]
    unfold chB quots
    simp only [List.drop_succ_cons, List.drop_zero, Bool.and_eq_true, Bool.or_eq_true, decide_eq_true_eq, List.getLastD_cons, List.length_cons, beq_iff_eq]
    constructor
    · rintro ⟨h1, _, h2⟩
      exact ⟨by simp, h1, h2.resolve_left (by omega)⟩
    · rintro ⟨_, h1, h2⟩
      exact ⟨h1, by simp, .inr h2⟩
theorem getLast_D {ns : List Int} (h : ns ≠ []) : ns.getLast h = ns.getLastD 0 := by
  cases ns with
  | nil => exact absurd rfl h
  | cons x r => rw [List.getLastD_cons, List.getLast_eq_getLastD]
end Cs
namespace Cs
open PySem PySem.Spec PyProof.Rows L2
/-! ### menus -/
theorem atI_of {α : Type} {xs : List α} {i : Int} {v : α} (h0 : 0 ≤ i) (h : xs[i.toNat]? = some v) : atI xs i = some v := by
  have e : i = ((i.toNat : Nat) : Int) := by omega
  rw [e]
  exact atI_nat h
theorem atI_menu {ms : List Int} {i : Int} (h0 : 0 ≤ i) (h : i < (ms.length : Int)) : atI (ms.map V.int) i = some (.int (ms.getD i.toNat 0)) := by
  refine atI_of h0 ?_
  have h1 : i.toNat < ms.length := by omega
  rw [List.getElem?_map, List.getElem?_eq_getElem h1, List.getD_eq_getElem?_getD, List.getElem?_eq_getElem h1]
  rfl
theorem getD_mem {ms : List Int} {i : Nat} (h : i < ms.length) : ms.getD i 0 ∈ ms := by
  rw [List.getD_eq_getElem?_getD, List.getElem?_eq_getElem h]
  exact List.getElem_mem h
def mixed (c k : Int) : Int :=
  ((c % 1000000007 + 7919 * k + 11) % 1000003 * ((c % 1000000007 + 7919 * k + 11) % 1000003) % 1000003 * ((c % 1000000007 + 7919 * k + 11) % 1000003)) % 1000003
theorem mixed_range (c k : Int) : 0 ≤ mixed c k ∧ mixed c k < 1000003 := ⟨Int.emod_nonneg _ (by decide), Int.emod_lt_of_pos _ (by decide)⟩
def lqMenu : List Int := [10 ^ (30 : Int).toNat, 2, 9, 10 ^ (6 : Int).toNat]
def lq (c : Int) : Int := 1 + c % lqMenu.getD (c / 5 % 4).toNat 0
theorem lqMenu_ok : ∀ x ∈ lqMenu, 0 < x ∧ x ≤ 10 ^ 30 := by decide
theorem lq_menu (c : Int) : lqMenu.getD (c / 5 % 4).toNat 0 ∈ lqMenu := getD_mem (by
  have h0 := Int.emod_nonneg (c / 5) (show (4 : Int) ≠ 0 by decide)
  have h1 := Int.emod_lt_of_pos (c / 5) (show (0 : Int) < 4 by decide)
  show (c / 5 % 4).toNat < 4
  omega)
theorem lq_ok (c : Int) : 1 ≤ lq c ∧ Bd 100 (lq c) := by
  obtain ⟨h0, h1⟩ := lqMenu_ok _ (lq_menu c)
  unfold lq
  have r0 := Int.emod_nonneg c (show lqMenu.getD (c / 5 % 4).toNat 0 ≠ 0 by omega)
  have r1 := Int.emod_lt_of_pos c h0
  generalize c % lqMenu.getD (c / 5 % 4).toNat 0 = r at *
  refine ⟨by omega, ?_⟩
  unfold Bd
  omega
theorem bdL {n : Nat} {i : Int} (h : i.natAbs < 2 ^ n) : Bd n i := h
/-- // by a written divisor -/
theorem divS {i j : Int} (h0 : 0 < j) (h : j.natAbs < 1073741824) : CDivP i j := ⟨h0, PyProof.noPylong_small h⟩
end Cs
namespace Cs
open PySem PySem.Spec PyProof.Rows L2
/-! ### the law's own def -/
structure LawAt (K : PySem.W.Frag) (mg : Str → Option Value) (x : Str) (st : Stmt) (ps : List Str) : Prop where
  ex : ∃ (f : Addr) (fd : FuncData), L2.Fun K x x st f fd ∧ mg x = some (.ref f) ∧ ∀ (s : Shared) (v : Value), BindsTo s fd ⟨[v], []⟩ (ps.zip [v])
theorem lawAt_mk {K : PySem.W.Frag} {mg : Str → Option Value} {x : Str} {st : Stmt} {ps : List Str} {f : Addr} {oc : Value} {od an : Option Addr} {osl : Array (Option Value)} {kV doc pm cdv ct : Value}
    (l : K.lookup f = some ⟨oc, od, .func (PySem.W.fnOf x x (defArgs st) (defBody st) (defScope st) .none kV doc pm an cdv ct), osl⟩)
    (c : PySem.W.codeIn K cdv x = true) (k : PySem.W.keepIn K (.ref f) = true) (g : mg x = some (.ref f))
    (h : ∀ (s : Shared) (v : Value), BindsTo s (PySem.W.fnOf x x (defArgs st) (defBody st) (defScope st) .none kV doc pm an cdv ct) ⟨[v], []⟩ (ps.zip [v])) : LawAt K mg x st ps :=
  ⟨f, _, fun_mk l c k, g, h⟩
/-- the law's promise: it answers True -/
def spLaw (K : PySem.W.Frag) : Sp := fun vs H Q _ => ∃ (a : Addr) (ns : List Int), vs = [.ref a] ∧ SqL K H a (ns.map V.int) ∧ ns.length ≤ 63 ∧ ∀ H', Q (.bl true) H'
theorem walk {l : PySem.W.OpenLaw} {k : Nat} {q : Program} {loose : List Str} {XP : (Str → Option Value) → Heap → Prop} {YP : World → Heap → Prop} {d : DefRec} {K : Params → PySem.W.Frag} (hn : l.most = some 63) (hdf : d.params.defaults = []) (hr : Room k callerA)
    (hY : ∀ (w : World) (h : Heap), YP w h → (K w.params).In h)
    (F : ∀ (w : World) (mg : Str → Option Value) (fa : Addr) (h : Heap), (K w.params).In h → h.Ns mainGlobals mg → mg d.name = some (.ref fa) →
      ∃ fd : FuncData, (∀ (s : Shared) (u : Value), BindsTo s fd ⟨[u], []⟩ [("_law_script", u)]) ∧ ∀ base : Heap, (K w.params).In base → base.Ns mainGlobals mg → FnOk l.prog w (K w.params) mg base CX0 k fa fd ["_law_script"] (spLaw (K w.params))) :
    PySem.W.WalkO q loose XP YP l.row.toRowW d [] (fun f vs => PySem.call f vs) :=
  L2.walk_of (n := 63) (k := k) (x := "_law_script") (CX := fun _ => CX0) (sp := fun w => spLaw (K w.params)) hn (by decide) hdf hr hY F (fun _ _ a ns hl _ hS => ⟨a, ns, rfl, hS, hl, fun _ => rfl⟩) fun _ _ _ _ _ z => z
end Cs
namespace Cs
open PySem PySem.Spec PyProof.Rows L2
theorem dp_intsT {K : PySem.W.Frag} {H : Hp} {a : Addr} {ns : List Int} (h : SqT K H a (ns.map V.int)) : Dp K H (.ref a) (.tuple (ns.map PyData.int)) := .tup h (dpAll_ints ns)
theorem shaped_intsT (ns : List Int) : SeqAt.shaped (.tuple (ns.map PyData.int)) = true := by
  unfold SeqAt.shaped
  simp [PyData.canLay0, PyData.depth, canLay_ints, depth_ints]
theorem eqv_intsT (ns ms : List Int) : PyData.eqv (.tuple (ns.map PyData.int)) (.tuple (ms.map PyData.int)) = decide (ns = ms) := by
  simp only [PyData.eqv]
  exact eqvAll_ints ns ms
/-! ### a chain whose last quotient may be 1, mended -/
def fixl (l : List Int) : List Int := if 1 < l.length ∧ l.getLastD 0 = 1 then l.dropLast ++ [2] else l
theorem fixl_len (l : List Int) : (fixl l).length = l.length := by
  unfold fixl
  split
  · rename_i h
    rw [List.length_append, List.length_dropLast, List.length_singleton]
    omega
  · rfl
theorem fixl_mem {l : List Int} {x : Int} (h : x ∈ fixl l) : x ∈ l ∨ x = 2 := by
  unfold fixl at h
  split at h
  · rcases List.mem_append.mp h with h | h
    · exact .inl (List.dropLast_subset _ h)
    · exact .inr (List.mem_singleton.mp h)
  · exact .inl h
theorem tl_app : ∀ {r : List Int} {y : Int}, (∀ x ∈ r, 1 ≤ x) → 2 ≤ y → Cm.Tl (r ++ [y])
  | [], y, _, h => h
  | [a], y, h, h2 => ⟨h a (by simp), h2⟩
  | a :: b :: r, y, h, h2 => ⟨h a (by simp), tl_app (r := b :: r) (fun x hx => h x (List.mem_cons_of_mem _ hx)) h2⟩
theorem fixl_ch (z : Int) (r : List Int) (h : ∀ x ∈ r, 1 ≤ x) : Cm.Ch (fixl (z :: r)) := by
  rcases List.eq_nil_or_concat r with rfl | ⟨s, y, rfl⟩
  · have e : fixl [z] = [z] := by simp [fixl]
    rw [e]
    exact trivial
  · rw [List.concat_eq_append] at *
    have hs : ∀ x ∈ s, 1 ≤ x := fun x hx => h x (List.mem_append_left _ hx)
    have hy : 1 ≤ y := h y (by simp)
    have go : ∀ w : Int, 2 ≤ w → Cm.Ch (z :: (s ++ [w])) := fun w hw => by
      have t := tl_app hs hw
      cases e : s ++ [w] with
      | nil => simp at e
      | cons b u =>
        rw [e] at t
        exact t
    unfold fixl
    split
    · have e : (z :: (s ++ [y])).dropLast ++ [2] = z :: (s ++ [2]) := by
        rw [← List.cons_append, List.dropLast_concat]
        rfl
      rw [e]
      exact go 2 (by decide)
    · rename_i hn
      refine go y ?_
      have e : (z :: (s ++ [y])).getLastD 0 = y := by
        rw [List.getLastD_cons, List.getLastD_concat]
      rw [e] at hn
      have : 1 < (z :: (s ++ [y])).length := by simp
      omega
theorem set_last2 {l : List Int} (h : l ≠ []) : (l.map V.int).set (l.length - 1) (.int 2) = (l.dropLast ++ [2]).map V.int := by
  rw [← List.map_set]
  congr 1
  rcases List.eq_nil_or_concat l with rfl | ⟨s, y, rfl⟩
  · exact absurd rfl h
  · rw [List.concat_eq_append, List.dropLast_concat, List.length_append, List.length_singleton, Nat.add_sub_cancel, List.set_append_right _ _ (Nat.le_refl _), Nat.sub_self]
    rfl
theorem ixN_neg1 {n : Nat} (h : 0 < n) : ixN n (-1) = some (n - 1) := by
  unfold ixN
  rw [if_neg (by decide), if_pos (by omega)]
  congr 1
  omega
theorem ixN_0 {n : Nat} (h : 0 < n) : ixN n 0 = some 0 := by
  unfold ixN
  rw [if_pos (by decide), if_pos (by omega)]
  rfl
theorem getLastD_ne {l : List Int} (h : l ≠ []) : atI (l.map V.int) (-1) = some (.int (l.getLastD 0)) := by
  rw [atI_neg1 h, getLast_D h]
end Cs
namespace Cs
open PySem PySem.Spec PyProof.Rows L2
/-! ### quotients whose fraction the model can reckon -/
structure Sz (ns : List Int) : Prop where
  ex : ∃ n, n ≤ 60000000 ∧ (∀ x ∈ ns, Bd n x) ∧ ∀ k, Bd n (Cm.W (ns.drop k)).1 ∧ Bd n (Cm.W (ns.drop k)).2
theorem sz_short {ns : List Int} (hl : ns.length ≤ 100) (h : ∀ x ∈ ns, Bd 100000 x) : Sz ns :=
  ⟨10000101, by decide, fun x hx => (h x hx).mono (by decide), fun k =>
    W_bd' (n := 100000) (m := 100) (fun x hx => h x (List.mem_of_mem_drop hx)) (by rw [List.length_drop]; omega)⟩
theorem tl_drop : ∀ {l : List Int}, Cm.Tl l → ∀ k, 0 ≤ (Cm.W (l.drop k)).1 ∧ (Cm.W (l.drop k)).1 ≤ (Cm.W l).1 ∧ 0 ≤ (Cm.W (l.drop k)).2 ∧ (Cm.W (l.drop k)).2 ≤ (Cm.W l).1
  | [], h, _ => h.elim
  | l@(x :: r), h, 0 => by
    have := Cm.Tl.w h
    rw [List.drop_zero]
    omega
  | [x], h, k + 1 => by
    have h2 : 2 ≤ x := h
    rw [List.drop_succ_cons, List.drop_nil, Cm.W_nil, Cm.W_one]
    show (0 : Int) ≤ 1 ∧ 1 ≤ x ∧ (0 : Int) ≤ 0 ∧ 0 ≤ x
    omega
  | x :: y :: r, h, k + 1 => by
    have ih := tl_drop (l := y :: r) h.2 k
    have w := Cm.Tl.w (l := y :: r) h.2
    have h1 : 1 ≤ x := h.1
    rw [List.drop_succ_cons, Cm.W_cons x]
    have := Int.mul_le_mul_of_nonneg_right h1 (show 0 ≤ (Cm.W (y :: r)).1 by omega)
    show 0 ≤ (Cm.W (List.drop k (y :: r))).1 ∧ (Cm.W (List.drop k (y :: r))).1 ≤ x * (Cm.W (y :: r)).1 + (Cm.W (y :: r)).2 ∧ _ ∧ _ ≤ x * (Cm.W (y :: r)).1 + (Cm.W (y :: r)).2
    omega
theorem tl_mem : ∀ {l : List Int}, Cm.Tl l → ∀ x ∈ l, 1 ≤ x ∧ x ≤ (Cm.W l).1
  | [], h, _, _ => h.elim
  | [a], h, x, hx => by
    rw [List.mem_singleton] at hx
    subst hx
    have h2 : 2 ≤ x := h
    rw [Cm.W_one]
    show 1 ≤ x ∧ x ≤ x
    omega
  | a :: b :: r, h, x, hx => by
    have w := Cm.Tl.w (l := b :: r) h.2
    have h1 : 1 ≤ a := h.1
    rw [Cm.W_cons]
    show 1 ≤ x ∧ x ≤ a * (Cm.W (b :: r)).1 + (Cm.W (b :: r)).2
    rcases List.mem_cons.mp hx with rfl | hx
    · have := Int.mul_le_mul_of_nonneg_left (show 1 ≤ (Cm.W (b :: r)).1 by omega) (show 0 ≤ x by omega)
      omega
    · have ih := tl_mem (l := b :: r) h.2 x hx
      have := Int.mul_le_mul_of_nonneg_right h1 (show 0 ≤ (Cm.W (b :: r)).1 by omega)
      omega
theorem sz_euc {n : Nat} {t b : Int} (h0 : 0 < b) (ht : Bd n t) (hb : Bd n b) (hn : n ≤ 10000000) : Sz (Cm.euc t b) := by
  obtain ⟨c, g, g0, e1, e2⟩ := Cm.euc_ok (t := t) h0
  have w0 := Cm.Ch.bot c
  have one : Bd n 1 := by unfold Bd at *; omega
  have b1 : Bd n (Cm.W (Cm.euc t b)).1 := by
    unfold Bd at *
    refine Nat.lt_of_le_of_lt ?_ ht
    have : t.natAbs = g.natAbs * (Cm.W (Cm.euc t b)).1.natAbs := by rw [← Int.natAbs_mul, ← e1]
    rw [this]
    exact Nat.le_mul_of_pos_left _ (by omega)
  have b2 : Bd n (Cm.W (Cm.euc t b)).2 := by
    unfold Bd at *
    refine Nat.lt_of_le_of_lt ?_ hb
    have : b.natAbs = g.natAbs * (Cm.W (Cm.euc t b)).2.natAbs := by rw [← Int.natAbs_mul, ← e2]
    rw [this]
    exact Nat.le_mul_of_pos_left _ (by omega)
  have q1 : Bd n (t / b) := Nat.lt_of_le_of_lt (Int.natAbs_ediv_le_natAbs t b) ht
  have hl := Cm.euc_pos (t := t) h0
  generalize Cm.euc t b = l at *
  subst hl
  generalize Cm.euc b (t % b) = r at *
  rw [Cm.W_cons] at b1 b2
  refine ⟨n, by omega, fun x hx => ?_, fun k => ?_⟩
  · rcases List.mem_cons.mp hx with rfl | hx
    · exact q1
    · cases r with
      | nil => cases hx
      | cons y r =>
        have := tl_mem (l := y :: r) c x hx
        exact Bd.of_le (by omega) this.2 b2
  · cases k with
    | zero => rw [List.drop_zero, Cm.W_cons]; exact ⟨b1, b2⟩
    | succ k =>
      rw [List.drop_succ_cons]
      cases r with
      | nil => rw [List.drop_nil, Cm.W_nil]; exact ⟨one, Bd.zero⟩
      | cons y r =>
        have := tl_drop (l := y :: r) c k
        exact ⟨Bd.of_le this.1 this.2.1 b2, Bd.of_le this.2.2.1 this.2.2.2 b2⟩
/-! ### enumerate -/
theorem for_enum {K : PySem.W.Frag} {a : Addr} {xs : List V} {g : TG} {tb : TS} {D : Ends} {σ : L2.St} {H : Hp} (Pv : Nat → L2.St → Hp → Prop) (h0 : Pv 0 σ H) (hl : ∀ i σ H, i ≤ xs.length → Pv i σ H → SqL K H a xs)
    (hs : ∀ i x T σ H H', xs[i]? = some x → Pv i σ H → Same H H' → H T = none → H' T = some (.tup [.int (i : Nat), x]) → g (.ref T) σ H' fun σ2 H2 => tb { D with nx := Pv (i + 1), ct := Pv (i + 1), bk := D.nx } σ2 H2) (hd : ∀ σ H, Pv xs.length σ H → D.nx σ H) :
    ∃ W : Nat → Nat → L2.St → Hp → Prop, (∃ m, W 0 m σ H) ∧ ∀ i m σ H, W i m σ H →
      ((Ite K a).stop i H ∧ D.nx σ H) ∨ ((Ite K a).go i H ∧ ∃ N : L2.St → Hp → Prop, (∀ σ' H', N σ' H' → ∃ m', m' < m ∧ W (i + 1) m' σ' H') ∧ ∀ x H', (Ite K a).yld i H x H' → g x σ H' fun σ2 H2 => tb { D with nx := N, ct := N, bk := D.nx } σ2 H2) := by
  refine ⟨fun i m σ H => m = xs.length - i ∧ i ≤ xs.length ∧ Pv i σ H, ⟨xs.length, by simp, Nat.zero_le _, h0⟩, ?_⟩
  rintro i m σ H ⟨rfl, hi, p⟩
  have q := hl i σ H hi p
  by_cases hlt : i < xs.length
  · refine .inr ⟨⟨xs, xs[i], q, by simp [hlt]⟩, Pv (i + 1), fun σ' H' p' => ⟨xs.length - (i + 1), by omega, rfl, hlt, p'⟩, fun v H' y => ?_⟩
    obtain ⟨T, x, rfl, nT, rfl, fx⟩ := y
    exact hs i x T σ H _ (fx xs q) p (same_upd nT) nT upd_same
  · have e : i = xs.length := by omega
    subst e
    exact .inl ⟨⟨xs, q, Nat.le_refl _⟩, hd σ H p⟩
theorem lc_enum {K : PySem.W.Frag} {a : Addr} {xs : List V} {g : TG} {tt : TT} {te : TE} {vs : List Nat} {σ : L2.St} {H1 : Hp} {D : Addr} {Qd : Hp → Prop} (Pv : Nat → Hp → Prop) (h0 : Pv 0 (upd H1 D (.lst []))) (hl : ∀ i H, i ≤ xs.length → Pv i H → SqL K H a xs)
    (hs : ∀ i x T H H', xs[i]? = some x → Pv i H → Same H H' → H T = none → H' T = some (.tup [.int (i : Nat), x]) → g (.ref T) (wipe σ vs) H' fun σ2 H2 => wipe σ2 vs = wipe σ vs ∧ tt σ2 H2 fun b H3 =>
      if b = true then te σ2 H3 fun y H4 => ∃ acc, H4 D = some (.lst acc) ∧ acc.length < sizeLine ∧ Pv (i + 1) (upd H4 D (.lst (acc ++ [y]))) else Pv (i + 1) H3) (hd : ∀ H, Pv xs.length H → Qd H) :
    ∃ W : Nat → Nat → Hp → Prop, (∃ m, W 0 m (upd H1 D (.lst []))) ∧ ∀ i m H, W i m H →
      ((Ite K a).stop i H ∧ Qd H) ∨ ((Ite K a).go i H ∧ ∃ Nx : Hp → Prop, (∀ H', Nx H' → ∃ m', m' < m ∧ W (i + 1) m' H') ∧ ∀ x H', (Ite K a).yld i H x H' → g x (wipe σ vs) H' fun σ2 H2 => wipe σ2 vs = wipe σ vs ∧ tt σ2 H2 fun b H3 =>
        if b = true then te σ2 H3 fun y H4 => ∃ acc, H4 D = some (.lst acc) ∧ acc.length < sizeLine ∧ Nx (upd H4 D (.lst (acc ++ [y]))) else Nx H3) := by
  refine ⟨fun i m H => m = xs.length - i ∧ i ≤ xs.length ∧ Pv i H, ⟨xs.length, by simp, Nat.zero_le _, h0⟩, ?_⟩
  rintro i m H ⟨rfl, hi, p⟩
  have q := hl i H hi p
  by_cases hlt : i < xs.length
  · refine .inr ⟨⟨xs, xs[i], q, by simp [hlt]⟩, Pv (i + 1), fun H' p' => ⟨xs.length - (i + 1), by omega, rfl, hlt, p'⟩, fun v H' y => ?_⟩
    obtain ⟨T, x, rfl, nT, rfl, fx⟩ := y
    exact hs i x T H _ (fx xs q) p (same_upd nT) nT upd_same
  · have e : i = xs.length := by omega
    subst e
    exact .inl ⟨⟨xs, q, Nat.le_refl _⟩, hd H p⟩
end Cs
namespace Cs
open PySem PySem.Spec PyProof.Rows L2
/-! ### a while's test, so that what follows may be weakened -/
def tMonoT (t : TT) : TT := fun σ H Q => ∃ Q0 : Bool → Hp → Prop, t σ H Q0 ∧ ∀ b H', Q0 b H' → Q b H'
theorem pt_mono {X : Cx} {e : Expr} {t : TT} (h : PT X e t) : PT X e (tMonoT t) := by
  refine ⟨fun pins s σ H Q I hq => ?_⟩
  obtain ⟨Q0, h1, h2⟩ := hq
  exact thn (h.run pins s σ H Q0 I h1) fun b s1 ⟨H', I', q⟩ => ⟨H', I', h2 _ _ q⟩
theorem while_m {c : TT} {tb : TS} {D : Ends} {σ : L2.St} {H : Hp} (Pv : L2.St → Hp → Prop) (μ : L2.St → Hp → Nat) (h0 : Pv σ H)
    (hs : ∀ σ H, Pv σ H → c σ H fun b H1 => if b = true then tb { D with nx := fun σ' H' => Pv σ' H' ∧ μ σ' H' < μ σ H, ct := fun σ' H' => Pv σ' H' ∧ μ σ' H' < μ σ H, bk := D.nx } σ H1 else D.nx σ H1) : tWhile (tMonoT c) tb D σ H :=
  while_by Pv μ h0 (fun σ H p => ⟨_, hs σ H p, fun _ _ q => q⟩) fun _ _ _ _ m ⟨Q0, h1, h2⟩ => ⟨Q0, h1, fun b H' q => m _ _ (h2 _ _ q)⟩
end Cs
namespace Cs
open PySem PySem.Spec PyProof.Rows L2
/-! ### the shape of data -/
structure Shp (n : Nat) (d : PyData) : Prop where
  lay : d.canLay0 = true
  dep : d.depth ≤ n
theorem Shp.shaped {n : Nat} {d : PyData} (h : Shp n d) (l : n ≤ 64) : SeqAt.shaped d = true := by
  unfold SeqAt.shaped
  rw [h.lay, Bool.true_and]
  exact decide_eq_true (Nat.le_trans h.dep l)
theorem shp_int (i : Int) : Shp 0 (.int i) := ⟨by simp [PyData.canLay0], by simp [PyData.depth]⟩
theorem shp_bool (i : Bool) : Shp 0 (.bool i) := ⟨by simp [PyData.canLay0], by simp [PyData.depth]⟩
theorem shp_none : Shp 0 .none := ⟨by simp [PyData.canLay0], by simp [PyData.depth]⟩
theorem Shp.mono {n m : Nat} {d : PyData} (h : Shp n d) (l : n ≤ m) : Shp m d := ⟨h.lay, Nat.le_trans h.dep l⟩
theorem shp_all {n : Nat} : ∀ {ds : List PyData}, (∀ d ∈ ds, Shp n d) → PyData.canLayAll0 ds = true ∧ PyData.depthAll ds ≤ n
  | [], _ => ⟨by simp [PyData.canLayAll0], by simp [PyData.depthAll]⟩
  | d :: ds, h => by
    obtain ⟨h1, h2⟩ := shp_all (ds := ds) fun x hx => h x (List.mem_cons_of_mem _ hx)
    have hd := h d List.mem_cons_self
    refine ⟨by simp [PyData.canLayAll0, h1, hd.lay], ?_⟩
    have := hd.dep
    simp only [PyData.depthAll]
    omega
theorem shp_list {n : Nat} {ds : List PyData} (h : ∀ d ∈ ds, Shp n d) : Shp (n + 1) (.list ds) := by
  obtain ⟨h1, h2⟩ := shp_all h
  exact ⟨by simpa [PyData.canLay0] using h1, by simp only [PyData.depth]; omega⟩
theorem shp_tup {n : Nat} {ds : List PyData} (h : ∀ d ∈ ds, Shp n d) : Shp (n + 1) (.tuple ds) := by
  obtain ⟨h1, h2⟩ := shp_all h
  exact ⟨by simpa [PyData.canLay0] using h1, by simp only [PyData.depth]; omega⟩
theorem shp_ints (ns : List Int) : Shp 1 (.list (ns.map PyData.int)) := shp_list fun d hd => by
  obtain ⟨i, _, rfl⟩ := List.mem_map.mp hd
  exact shp_int i
theorem shp_intsT (ns : List Int) : Shp 1 (.tuple (ns.map PyData.int)) := shp_tup fun d hd => by
  obtain ⟨i, _, rfl⟩ := List.mem_map.mp hd
  exact shp_int i
theorem eqv_same {n : Nat} {d : PyData} (h : Shp n d) : PyData.eqv d d = true := SeqAt.eqv_refl d h.lay
/-! ### the chain of quotients of a list, mended -/
theorem fixl_good {l : List Int} (hne : l ≠ []) (h : ∀ x ∈ l.drop 1, 1 ≤ x) : Cm.Ch (fixl l) := by
  cases l with
  | nil => exact absurd rfl hne
  | cons z r => exact fixl_ch z r h
end Cs
namespace Cs
open PySem PySem.Spec PyProof.Rows L2
/-! ### data stays -/
mutual
theorem Dp.same {K : PySem.W.Frag} {H H' : Hp} (s : Same H H') : ∀ {v : V} {d : PyData}, Dp K H v d → Dp K H' v d
  | _, _, .non => .non
  | _, _, .bl b => .bl b
  | _, _, .int i => .int i
  | _, _, .str x => .str x
  | _, _, .lst h a => .lst (s.seq h) (DpAll.same s a)
  | _, _, .tup h a => .tup (same_t s h) (DpAll.same s a)
theorem DpAll.same {K : PySem.W.Frag} {H H' : Hp} (s : Same H H') : ∀ {vs : List V} {ds : List PyData}, DpAll K H vs ds → DpAll K H' vs ds
  | _, _, .nil => .nil
  | _, _, .cons h t => .cons (Dp.same s h) (DpAll.same s t)
end
/-- a pair of whole numbers, as data -/
abbrev prD (f : Int × Int) : PyData := .tuple ([f.1, f.2].map PyData.int)
abbrev HPr (K : PySem.W.Frag) (H : Hp) (a : Addr) (f : Int × Int) : Prop := SqT K H a ([f.1, f.2].map V.int)
theorem pr_at0 {K : PySem.W.Frag} {H : Hp} {a : Addr} {f : Int × Int} (_ : HPr K H a f) : atI ([f.1, f.2].map V.int) 0 = some (.int f.1) := atI_int (ns := [f.1, f.2]) (i := 0) rfl
theorem pr_at1 {K : PySem.W.Frag} {H : Hp} {a : Addr} {f : Int × Int} (_ : HPr K H a f) : atI ([f.1, f.2].map V.int) 1 = some (.int f.2) := atI_int (ns := [f.1, f.2]) (i := 1) rfl
end Cs
namespace Cs
open PySem PySem.Spec PyProof.Rows L2
/-- a tuple stays where a list changes -/
theorem sqT_upd {K : PySem.W.Frag} {H : Hp} {a p : Addr} {xs ys : List V} {o : HO} (h : SqT K H a xs) (hp : H p = some (.lst ys)) : SqT K (upd H p o) a xs := by
  rcases h with (h | ⟨ob, h⟩) | h
  · refine .inl (.inl ?_)
    rw [upd_ne (ne_of h hp (by intro z; cases z))]
    exact h
  · refine .inl (.inr ⟨ob, ?_⟩)
    rw [upd_ne (ne_of h hp (by intro z; cases z))]
    exact h
  · exact .inr h
theorem euc_len' {t b : Int} (hb : Bd 8999 b) : (Cm.euc t b).length ≤ 18000 := by
  by_cases h : 0 < b
  · refine Nat.le_trans (Cm.euc_len 8999 h ?_) (by decide)
    unfold Bd at hb
    have : (b.natAbs : Int) < ((2 ^ 8999 : Nat) : Int) := Int.ofNat_lt.mpr hb
    rw [Int.natCast_pow] at this
    have e : (b.natAbs : Int) = b := by omega
    rw [e] at this
    exact this
  · rw [Cm.euc_zero h]
    exact Nat.zero_le _
end Cs

namespace Cs
open PySem PySem.Spec PyProof.Rows L2
/-! ### slices with a step -/
def pickV {α : Type} (xs : List α) (lo hi : Option Int) (st : Int) : List α :=
  (sliceRange (sliceBounds lo hi (some st) xs.length).1 (sliceBounds lo hi (some st) xs.length).2.1 (sliceBounds lo hi (some st) xs.length).2.2).filterMap (xs[·]?)
theorem vals_pick {xs : List V} {us : List Value} (r : Vals xs us) : ∀ l : List Nat, Vals (l.filterMap (xs[·]?)) (l.filterMap (us[·]?))
  | [] => .nil
  | i :: l => by
    cases e : xs[i]? with
    | none =>
      have e2 : us[i]? = none := Vals.none_of r e
      rw [List.filterMap_cons_none e, List.filterMap_cons_none e2]
      exact vals_pick r l
    | some x =>
      obtain ⟨u, e2, rx⟩ := Vals.get r e
      rw [List.filterMap_cons_some e, List.filterMap_cons_some e2]
      exact .cons rx (vals_pick r l)
theorem pickV_map {α β : Type} (f : α → β) (xs : List α) (lo hi : Option Int) (st : Int) : pickV (xs.map f) lo hi st = (pickV xs lo hi st).map f := by
  unfold pickV
  rw [List.length_map, List.map_filterMap]
  congr 1
  funext i
  rw [List.getElem?_map]
theorem pickV_mem {α : Type} {xs : List α} {lo hi : Option Int} {st : Int} {x : α} (h : x ∈ pickV xs lo hi st) : x ∈ xs := by
  unfold pickV at h
  obtain ⟨i, _, e⟩ := List.mem_filterMap.mp h
  exact List.mem_of_getElem? e
theorem pickV_len {α : Type} (xs : List α) (lo : Option Int) (n k : Nat) (h0 : 0 < k) (hlo : ∀ i, lo = some i → 0 ≤ i) : (pickV xs lo (some (n : Int)) (k : Int)).length ≤ (n + k - 1) / k := by
  unfold pickV
  refine Nat.le_trans (List.length_filterMap_le _ _) ?_
  unfold sliceRange
  rw [List.length_map, List.length_range]
  have hk : (k : Int) > 0 := by omega
  have e3 : (sliceBounds lo (some (n : Int)) (some (k : Int)) xs.length).2.2 = (k : Int) := rfl
  have e1 : 0 ≤ (sliceBounds lo (some (n : Int)) (some (k : Int)) xs.length).1 := by
    simp only [sliceBounds, Option.getD_some, if_pos hk]
    cases lo with
    | none => simp
    | some i =>
      have := hlo i rfl
      dsimp only
      omega
  have e2 : (sliceBounds lo (some (n : Int)) (some (k : Int)) xs.length).2.1 ≤ (n : Int) := by
    simp only [sliceBounds, Option.getD_some, if_pos hk]
    rw [if_neg (show ¬ (n : Int) < 0 by omega)]
    omega
  rw [e3]
  generalize (sliceBounds lo (some (n : Int)) (some (k : Int)) xs.length).1 = a at *
  generalize (sliceBounds lo (some (n : Int)) (some (k : Int)) xs.length).2.1 = b at *
  rw [if_pos hk]
  split
  · have : (b - a + k - 1) / (k : Int) ≤ ((n : Int) + k - 1) / (k : Int) := Int.ediv_le_ediv hk (by omega)
    have e : (((n + k - 1) / k : Nat) : Int) = ((n : Int) + k - 1) / (k : Int) := by
      rw [Int.natCast_ediv]
      congr 1
      omega
    rw [← e] at this
    exact Int.toNat_le.mpr this
  · exact Nat.zero_le _
def tSlK (K : PySem.W.Frag) (te : TE) (tl th : TO) (st : Int) : TE := fun σ H Q => te σ H fun x H1 => tl σ H1 fun l H2 => th σ H2 fun u H3 => ∃ a xs, x = .ref a ∧ SqL K H3 a xs ∧ ∀ p, H3 p = none → Q (.ref p) (upd H3 p (.lst (pickV xs l u st)))
section
variable {X : Cx}
theorem pe_sliceK {e : Expr} {te : TE} {lo hi : Option Expr} {tl th : TO} {st : Int} {k : Nat} {p1 p3 pos : Pos} (he : PE X e te) (hl : PO X lo tl) (hu : PO X hi th) (h0 : st ≠ 0 := by decide) : PE X (.Subscript e (.Slice lo hi (some (.Constant (.int st) k p1)) p3) pos) (tSlK X.K te tl th st) := by
  refine ⟨fun pins s σ H Q I h => ?_⟩
  refine Subscript_ (thn (he.run pins s σ H _ I h) fun v s1 ⟨x, H1, I1, r1, q1⟩ => ?_)
  have hst : PO X (some (.Constant (.int st) k p1)) (tPart (tC (.int st))) := po_some pe_int
  refine wpAny_Slice (thn (hl.run pins s1 σ H1 _ I1 q1) fun vl s2 ⟨l, H2, I2, pl, q2⟩ => thn (hu.run pins s2 σ H2 _ I2 q2) fun vu s3 ⟨u, H3, I3, pu, q3⟩ => ?_)
  refine thn (hst.run pins s3 σ H3 (fun o H4 => o = some st ∧ H4 = H3) I3 ⟨st, rfl, rfl, rfl⟩) fun vs s4 ⟨o, H4, I4, ps, eo, e4⟩ => ?_
  subst eo e4
  obtain ⟨a, xs, ex, hx, q⟩ := q3
  subst ex
  cases r1
  have I5 : Inv X pins σ H4 { s4 with heap := s4.heap.push { cls := .type "slice", data := .fields #[vl, vu, vs] } } := I4.kept (t' := s4.toks) fun b ob q => Heap.get?_push_of_some _ q
  obtain ⟨its, r, ht, hz⟩ := I5.list hx
  have hlen := r.length
  show wpAny (model X.prog X.w) X.A (subscriptTail e (.Slice lo hi (some (.Constant (.int st) k p1)) p3) (.ref a) (.ref s4.heap.objs.size)) (EP X pins σ Q) X.xe { s4 with heap := s4.heap.push { cls := .type "slice", data := .fields #[vl, vu, vs] } }
  refine tail_any (ops := [.ref a, .ref s4.heap.objs.size]) ht.isList.typeIs (PySem.slot_list_getitem.lookup) ?_ (by with_unfolding_all rfl)
  refine wpAny_getItem_list_slice ht.isList (Heap.IsSliceOf.new _ vl vu vs) pl pu ps (fun z => h0 (Option.some.inj z)) ?_ (by rw [List.size_toArray]; omega)
  have hv : Vals (pickV xs l u st) (slicePick its.toArray l u (some st)).toList := by
    have e : (slicePick its.toArray l u (some st)).toList = (sliceRange (sliceBounds l u (some st) xs.length).1 (sliceBounds l u (some st) xs.length).2.1 (sliceBounds l u (some st) xs.length).2.2).filterMap (its[·]?) := by
      simp [slicePick, hlen]
    rw [e]
    exact vals_pick r _
  have hl2 : (pickV xs l u st).length ≤ sizeLine := by
    rw [hv.length, Array.length_toList]
    exact Nat.le_trans (slicePick_size_le _ _ _ _) (by rw [List.size_toArray, ← hlen]; exact hz)
  refine ⟨.ref _, _, I5.laid (t' := s4.toks) (o := .lst (pickV xs l u st)) (fun b ob q => Heap.get?_push_of_some _ q) (Nat.le_refl _) ?_, rfl, q _ (I5.hok.fresh (Nat.le_refl _))⟩
  exact ⟨hl2, _, 0, hv, Heap.get?_push_size _ rfl⟩
end
/-- a tuple that the top has bound -/
structure TupAt (K : PySem.W.Frag) (mg : Str → Option Value) (x : Str) (xs : List V) : Prop where
  ex : ∃ p, mg x = some (.ref p) ∧ ∀ H, SqT K H p xs
end Cs

namespace Cs
open PySem PySem.Spec PyProof.Rows L2
theorem ty_str {K : PySem.W.Frag} {H : Hp} (x : Str) : TyX K H (.str x) (.type "str") := .base (.str x)
def words : List Str := ["plus", "less", "times", "over"]
/-- what a word makes of two fractions -/
def doneV (x : Str) (f g : Int × Int) : Int × Int :=
  if x = "plus" then (f.1 * g.2 + g.1 * f.2, f.2 * g.2) else if x = "less" then (f.1 * g.2 - g.1 * f.2, f.2 * g.2) else if x = "times" then (f.1 * g.1, f.2 * g.2) else (f.1 * g.2, f.2 * g.1)
structure BdF (n : Nat) (f : Int × Int) : Prop where
  top : Bd n f.1
  bot : Bd n f.2
theorem BdF.mono {n m : Nat} {f : Int × Int} (h : BdF n f) (l : n ≤ m) : BdF m f := ⟨h.top.mono l, h.bot.mono l⟩
theorem done_bd {n m : Nat} {x : Str} {f g : Int × Int} (hf : BdF n f) (hg : BdF m g) : BdF (n + m + 1) (doneV x f g) := by
  have a := hf.top.mul hg.bot
  have b := (hg.top.mul hf.bot).mono (show m + n ≤ n + m by omega)
  have c := (hf.bot.mul hg.bot).mono (show n + m ≤ n + m + 1 by omega)
  have d := (hf.top.mul hg.top).mono (show n + m ≤ n + m + 1 by omega)
  have e := (hf.bot.mul hg.top).mono (show n + m ≤ n + m + 1 by omega)
  unfold doneV
  split
  · exact ⟨a.add b, c⟩
  · split
    · exact ⟨a.sub b, c⟩
    · split
      · exact ⟨d, c⟩
      · exact ⟨a.mono (by omega), e⟩
theorem done_pos {x : Str} {f g : Int × Int} (f2 : 0 < f.2) (g1 : 0 < g.1) (g2 : 0 < g.2) : 0 < (doneV x f g).2 := by
  unfold doneV
  split
  · exact Int.mul_pos f2 g2
  · split
    · exact Int.mul_pos f2 g2
    · split
      · exact Int.mul_pos f2 g2
      · exact Int.mul_pos f2 g1
/-- a chain of a number above 0 -/
theorem abv_pos {ns : List Int} (h : abvB ns = true) : 0 < (Cm.W ns).1 ∧ 0 < (Cm.W ns).2 := by
  have c := (chB_iff ns).mp (abvB_chB h)
  have w0 := Cm.Ch.bot c
  refine ⟨?_, by omega⟩
  unfold abvB at h
  rw [Bool.and_eq_true, Bool.and_eq_true] at h
  obtain ⟨_, h1, h2⟩ := h
  have h1' := of_decide_eq_true h1
  match ns, c, h1', h2 with
  | [x], _, h1, h2 =>
    rw [Cm.W_one]
    have : x ≠ 0 := by
      rintro rfl
      exact absurd h2 (by decide)
    have h1 : 0 ≤ x := h1
    show 0 < x
    omega
  | x :: y :: r, c, h1, _ =>
    obtain ⟨a, b⟩ := Cm.Tl.w (l := y :: r) c
    rw [Cm.W_cons]
    show 0 < x * (Cm.W (y :: r)).1 + (Cm.W (y :: r)).2
    have h1 : 0 ≤ x := h1
    have := Int.mul_nonneg h1 (show 0 ≤ (Cm.W (y :: r)).1 by omega)
    omega
theorem Sz.bdF {ns : List Int} (h : Sz ns) : BdF 60000000 (Cm.W ns) := by
  obtain ⟨n, hn, _, hb⟩ := h.ex
  exact ⟨(hb 0).1.mono hn, (hb 0).2.mono hn⟩
end Cs

namespace Cs
open PySem PySem.Spec PyProof.Rows L2
theorem done_plus (f g : Int × Int) : doneV "plus" f g = (f.1 * g.2 + g.1 * f.2, f.2 * g.2) := rfl
theorem done_less (f g : Int × Int) : doneV "less" f g = (f.1 * g.2 - g.1 * f.2, f.2 * g.2) := rfl
theorem done_times (f g : Int × Int) : doneV "times" f g = (f.1 * g.1, f.2 * g.2) := rfl
theorem done_over (f g : Int × Int) : doneV "over" f g = (f.1 * g.2, f.2 * g.1) := rfl
theorem done_scale {x : Str} {k j : Int} (u v : Int × Int) : doneV x (k * u.1, k * u.2) (j * v.1, j * v.2) = (k * j * (doneV x u v).1, k * j * (doneV x u v).2) := by
  unfold doneV
  split
  · exact Prod.ext (by grind) (by grind)
  · split
    · exact Prod.ext (by grind) (by grind)
    · split
      · exact Prod.ext (by grind) (by grind)
      · exact Prod.ext (by grind) (by grind)
theorem euc_bd {n : Nat} {t b : Int} (h0 : 0 < b) (ht : Bd n t) (hb : Bd n b) : BdF n (Cm.W (Cm.euc t b)) := by
  obtain ⟨c, g, g0, e1, e2⟩ := Cm.euc_ok (t := t) h0
  refine ⟨?_, ?_⟩
  · unfold Bd at *
    refine Nat.lt_of_le_of_lt ?_ ht
    have : t.natAbs = g.natAbs * (Cm.W (Cm.euc t b)).1.natAbs := by rw [← Int.natAbs_mul, ← e1]
    rw [this]
    exact Nat.le_mul_of_pos_left _ (by omega)
  · unfold Bd at *
    refine Nat.lt_of_le_of_lt ?_ hb
    have : b.natAbs = g.natAbs * (Cm.W (Cm.euc t b)).2.natAbs := by rw [← Int.natAbs_mul, ← e2]
    rw [this]
    exact Nat.le_mul_of_pos_left _ (by omega)
/-- the chain of a number above 0, of a fraction in any terms; how great it is in lowest terms -/
structure Num (n : Nat) (l : List Int) (f : Int × Int) : Prop where
  is : l = Cm.euc f.1 f.2
  top : 0 < f.1
  bot : 0 < f.2
  bd : BdF n (Cm.W l)
theorem Num.sc {n : Nat} {l : List Int} {f : Int × Int} (h : Num n l f) : Cm.Ch l ∧ ∃ k, 0 < k ∧ f = (k * (Cm.W l).1, k * (Cm.W l).2) := by
  obtain ⟨c, g, g0, e1, e2⟩ := Cm.euc_ok (t := f.1) h.bot
  rw [← h.is] at c e1 e2
  exact ⟨c, g, g0, Prod.ext e1 e2⟩
theorem Num.pos {n : Nat} {l : List Int} {f : Int × Int} (h : Num n l f) : 0 < (Cm.W l).1 ∧ 0 < (Cm.W l).2 := by
  obtain ⟨c, k, k0, e⟩ := h.sc
  have t := h.top
  have b := h.bot
  rw [e] at t b
  exact ⟨Int.pos_of_mul_pos_right t (by omega), Int.pos_of_mul_pos_right b (by omega)⟩
theorem Num.is1 {n : Nat} {l : List Int} {f : Int × Int} (h : Num n l f) : l = Cm.euc (Cm.W l).1 (Cm.W l).2 := (Cm.euc_W1 h.sc.1).symm
theorem Num.sz {n : Nat} {l : List Int} {f : Int × Int} (h : Num n l f) (hn : n ≤ 8999) : Sz l := by
  have := sz_euc (t := (Cm.W l).1) h.pos.2 h.bd.top h.bd.bot (by omega)
  rwa [← h.is1] at this
theorem Num.len {n : Nat} {l : List Int} {f : Int × Int} (h : Num n l f) (hn : n ≤ 8999) : l.length ≤ 18000 := by
  have := euc_len' (t := (Cm.W l).1) (h.bd.bot.mono hn)
  rwa [← h.is1] at this
theorem Num.chB {n : Nat} {l : List Int} {f : Int × Int} (h : Num n l f) : chB l = true := (chB_iff l).mpr h.sc.1
theorem Num.abv {n : Nat} {l : List Int} {f : Int × Int} (h : Num n l f) : abvB l = true := by
  unfold abvB
  rw [h.chB, Bool.true_and, Bool.and_eq_true]
  refine ⟨?_, ?_⟩
  · have e := h.is
    rw [Cm.euc_pos h.bot] at e
    rw [e]
    exact decide_eq_true (Int.ediv_nonneg (by have := h.top; omega) (by have := h.bot; omega))
  · have : l ≠ [0] := by
      rintro rfl
      have p := h.pos.1
      rw [Cm.W_one] at p
      exact absurd p (by decide)
    simpa using this
theorem Num.same {n m : Nat} {l r : List Int} {f g : Int × Int} (h : Num n l f) (h' : Num m r g) (e : f.1 * g.2 = g.1 * f.2) : l = r := by
  rw [h.is, h'.is]
  exact Cm.euc_same h.bot h'.bot e
theorem Num.eq {n : Nat} {l : List Int} {f : Int × Int} (h : Num n l f) {t b : Int} (h0 : 0 < b) (e : t * f.2 = f.1 * b) : Cm.euc t b = l := by
  rw [h.is]
  exact Cm.euc_same h0 h.bot e
theorem Num.at {n : Nat} {l : List Int} {f : Int × Int} (h : Num n l f) {H : Hp} {p : Addr} {t b : Int} (e : H p = some (.lst ((Cm.euc t b).map V.int))) (h0 : 0 < b) (c : t * f.2 = f.1 * b) : H p = some (.lst (l.map V.int)) := by
  rw [h.eq h0 c] at e
  exact e
theorem num_of {n : Nat} {l : List Int} (h : abvB l = true) (b : BdF n (Cm.W l)) : Num n l (Cm.W l) := by
  obtain ⟨p1, p2⟩ := abv_pos h
  exact ⟨(Cm.euc_W1 ((chB_iff l).mp (abvB_chB h))).symm, p1, p2, b⟩
theorem Num.done {n m : Nat} {l r : List Int} {f g : Int × Int} (h : Num n l f) (h' : Num m r g) (x : Str) :
    0 < (doneV x f g).2 ∧ Cm.euc (doneV x (Cm.W l) (Cm.W r)).1 (doneV x (Cm.W l) (Cm.W r)).2 = Cm.euc (doneV x f g).1 (doneV x f g).2 ∧ BdF (n + m + 1) (Cm.W (Cm.euc (doneV x f g).1 (doneV x f g).2)) := by
  obtain ⟨_, k, k0, e⟩ := h.sc
  obtain ⟨_, j, j0, e'⟩ := h'.sc
  have p := done_pos (x := x) h.pos.2 h'.pos.1 h'.pos.2
  have s : Cm.euc (doneV x (Cm.W l) (Cm.W r)).1 (doneV x (Cm.W l) (Cm.W r)).2 = Cm.euc (doneV x f g).1 (doneV x f g).2 := by
    have e2 := done_scale (x := x) (k := k) (j := j) (Cm.W l) (Cm.W r)
    rw [← e, ← e'] at e2
    rw [e2]
    exact (Cm.euc_scale (Int.mul_pos k0 j0) p).symm
  have d := done_bd (x := x) h.bd h'.bd
  refine ⟨done_pos h.bot h'.top h'.bot, s, ?_⟩
  rw [← s]
  exact euc_bd p d.top d.bot
theorem Num.res {n m : Nat} {l r : List Int} {f g : Int × Int} (h : Num n l f) (h' : Num m r g) (x : Str) (p : 0 < (doneV x f g).1) : Num (n + m + 1) (Cm.euc (doneV x f g).1 (doneV x f g).2) (doneV x f g) :=
  ⟨rfl, p, (h.done h' x).1, (h.done h' x).2.2⟩
theorem Num.l5 {n : Nat} {l : List Int} {f : Int × Int} (h : Num n l f) (hn : n ≤ 8999) : l.length ≤ 100000 := Nat.le_trans (h.len hn) (by decide)
theorem Num.rbd {n m : Nat} {l r : List Int} {f g : Int × Int} {x : Str} (h : Num n l f) (h' : Num m r g) (hk : n + m + 1 ≤ 8999) : Bd 8999 (doneV x (Cm.W l) (Cm.W r)).2 := (done_bd (x := x) h.bd h'.bd).bot.mono hk
end Cs

namespace Cs
open PySem PySem.Spec PyProof.Rows L2

def topS (i : Nat) : Stmt := PySem.Challenge.pw_chainsum_k08_whole_numbers_go_together.main.body.getD i (.Pass ⟨0, 0, 0, 0⟩)
abbrev s_is_whole : Stmt := topS 5
abbrev N_is_whole : List Str := ["thing"]
theorem sc_is_whole : FnScope N_is_whole ["thing"] (defScope s_is_whole) := ⟨rfl, rfl, rfl, by decide +kernel, rfl, by decide +kernel, by decide +kernel⟩
abbrev s_are_quotients : Stmt := topS 6
abbrev N_are_quotients : List Str := ["thing", "quotient"]
theorem sc_are_quotients : FnScope N_are_quotients ["thing"] (defScope s_are_quotients) := ⟨rfl, rfl, rfl, by decide +kernel, rfl, by decide +kernel, by decide +kernel⟩
abbrev s_is_chain : Stmt := topS 7
abbrev N_is_chain : List Str := ["thing"]
theorem sc_is_chain : FnScope N_is_chain ["thing"] (defScope s_is_chain) := ⟨rfl, rfl, rfl, by decide +kernel, rfl, by decide +kernel, by decide +kernel⟩
abbrev s_is_above : Stmt := topS 8
abbrev N_is_above : List Str := ["thing"]
theorem sc_is_above : FnScope N_is_above ["thing"] (defScope s_is_above) := ⟨rfl, rfl, rfl, by decide +kernel, rfl, by decide +kernel, by decide +kernel⟩
abbrev s_need_chain : Stmt := topS 9
abbrev N_need_chain : List Str := ["thing"]
theorem sc_need_chain : FnScope N_need_chain ["thing"] (defScope s_need_chain) := ⟨rfl, rfl, rfl, by decide +kernel, rfl, by decide +kernel, by decide +kernel⟩
abbrev s_told_by : Stmt := topS 10
abbrev N_told_by : List Str := ["quotients", "top", "bottom", "quotient", "higher"]
theorem sc_told_by : FnScope N_told_by ["quotients"] (defScope s_told_by) := ⟨rfl, rfl, rfl, by decide +kernel, rfl, by decide +kernel, by decide +kernel⟩
abbrev s_fraction_of : Stmt := topS 11
abbrev N_fraction_of : List Str := ["chain"]
theorem sc_fraction_of : FnScope N_fraction_of ["chain"] (defScope s_fraction_of) := ⟨rfl, rfl, rfl, by decide +kernel, rfl, by decide +kernel, by decide +kernel⟩
abbrev s_quotients_of : Stmt := topS 12
abbrev N_quotients_of : List Str := ["top", "bottom", "found", "quotient", "rest"]
theorem sc_quotients_of : FnScope N_quotients_of ["top", "bottom"] (defScope s_quotients_of) := ⟨rfl, rfl, rfl, by decide +kernel, rfl, by decide +kernel, by decide +kernel⟩
abbrev s_compared : Stmt := topS 13
abbrev N_compared : List Str := ["one", "other", "place", "is_greater"]
theorem sc_compared : FnScope N_compared ["one", "other"] (defScope s_compared) := ⟨rfl, rfl, rfl, by decide +kernel, rfl, by decide +kernel, by decide +kernel⟩
abbrev s_need_word : Stmt := topS 16
abbrev N_need_word : List Str := ["word"]
theorem sc_need_word : FnScope N_need_word ["word"] (defScope s_need_word) := ⟨rfl, rfl, rfl, by decide +kernel, rfl, by decide +kernel, by decide +kernel⟩
abbrev s_worth : Stmt := topS 17
abbrev N_worth : List Str := ["word", "one", "other"]
theorem sc_worth : FnScope N_worth ["word", "one", "other"] (defScope s_worth) := ⟨rfl, rfl, rfl, by decide +kernel, rfl, by decide +kernel, by decide +kernel⟩
abbrev s_reckoned : Stmt := topS 18
abbrev N_reckoned : List Str := ["word", "one", "other", "top", "bottom"]
theorem sc_reckoned : FnScope N_reckoned ["word", "one", "other"] (defScope s_reckoned) := ⟨rfl, rfl, rfl, by decide +kernel, rfl, by decide +kernel, by decide +kernel⟩
abbrev s_l_quotient : Stmt := topS 21
abbrev N_l_quotient : List Str := ["_law_cell"]
theorem sc_l_quotient : FnScope N_l_quotient ["_law_cell"] (defScope s_l_quotient) := ⟨rfl, rfl, rfl, by decide +kernel, rfl, by decide +kernel, by decide +kernel⟩
abbrev s_l_chain : Stmt := topS 24
abbrev N_l_chain : List Str := ["_law_cells", "_law_found", "_law_cell"]
theorem sc_l_chain : FnScope N_l_chain ["_law_cells"] (defScope s_l_chain) := ⟨rfl, rfl, rfl, by decide +kernel, rfl, by decide +kernel, by decide +kernel⟩
abbrev s_law : Stmt := topS 25
abbrev N_law : List Str := ["_law_script", "_law_one", "_law_other", "_law_third", "_law_total", "_law_product", "_law_both", "_law_rest"]
theorem sc_law : FnScope N_law ["_law_script"] (defScope s_law) := ⟨rfl, rfl, rfl, by decide +kernel, rfl, by decide +kernel, by decide +kernel⟩
structure Txt (K : PySem.W.Frag) (mg : Str → Option Value) : Prop where
  d_is_whole : DefAt K mg "is_whole" s_is_whole ["thing"]
  d_are_quotients : DefAt K mg "are_quotients" s_are_quotients ["thing"]
  d_is_chain : DefAt K mg "is_chain" s_is_chain ["thing"]
  d_is_above : DefAt K mg "is_above" s_is_above ["thing"]
  d_need_chain : DefAt K mg "need_chain" s_need_chain ["thing"]
  d_told_by : DefAt K mg "told_by" s_told_by ["quotients"]
  d_fraction_of : DefAt K mg "fraction_of" s_fraction_of ["chain"]
  d_quotients_of : DefAt K mg "quotients_of" s_quotients_of ["top", "bottom"]
  d_compared : DefAt K mg "compared" s_compared ["one", "other"]
  d_need_word : DefAt K mg "need_word" s_need_word ["word"]
  d_worth : DefAt K mg "worth" s_worth ["word", "one", "other"]
  d_reckoned : DefAt K mg "reckoned" s_reckoned ["word", "one", "other"]
  d_l_quotient : DefAt K mg "_law_quotient" s_l_quotient ["_law_cell"]
  d_l_chain : DefAt K mg "_law_chain" s_l_chain ["_law_cells"]
  d_law : LawAt K mg "law" s_law ["_law_script"]
  z_all : mg "all" = none
  z_bool : mg "bool" = none
  z_divmod : mg "divmod" = none
  z_int : mg "int" = none
  z_isinstance : mg "isinstance" = none
  z_len : mg "len" = none
  z_list : mg "list" = none
  z_reversed : mg "reversed" = none
  z_str : mg "str" = none
  c_WORDS : TupAt K mg "WORDS" [.str "plus", .str "less", .str "times", .str "over"]
def sp_is_whole (K : PySem.W.Frag) : Sp := fun vs H Q _ => ∃ (x : V) (t : String), vs = [x] ∧ TyX K H x (.type t) ∧ t ∈ tys ∧ Q (.bl (decide (t = "int"))) H
section
variable {P : Program} {w : World} {K : PySem.W.Frag} {mg : Str → Option Value} {base : Heap}
theorem cal_is_whole (T : Txt K mg) : Cal P w K mg base CX0 1 "is_whole" (sp_is_whole K) := by
  refine cal_ok T.d_is_whole sc_is_whole (fun vs H Q E h => ?_) (fun f cdv A outer s H vs Q E hr h => ?_)
  · obtain ⟨x, t, rfl, _⟩ := h
    rfl
  · refine ⟨_, (pss_one (ps_ret (pe_and (pe_callB (r := rIsi K) (id := "isinstance") call_isi (by rfl) T.z_isinstance (by decide +kernel) (pa_cons (pv 0) (pa_cons (pe_bltn (v := .ty "int") (u := .type "int") (by rfl) T.z_int (by decide +kernel) rfl) pa_nil))) (pe_one (pe_not (pe_callB (r := rIsi K) (id := "isinstance") call_isi (by rfl) T.z_isinstance (by decide +kernel) (pa_cons (pv 0) (pa_cons (pe_bltn (v := .ty "bool") (u := .type "bool") (by rfl) T.z_bool (by decide +kernel) rfl) pa_nil)))))))), ?_⟩
    obtain ⟨x, t, rfl, hx, ht, q⟩ := h
    refine ⟨_, rfl, _, _, _, _, _, rfl, .ty _, hx, kit_ty (kit_tys (by decide) _ ht), _, rfl, ?_⟩
    by_cases h1 : t = "int"
    · subst h1
      exact iteT ⟨_, rfl, _, _, _, _, _, rfl, .ty _, hx, kit_ty (kit_tys (by decide) _ ht), _, rfl, q⟩
    · by_cases h2 : t = "bool"
      · subst h2
        exact iteT ⟨_, rfl, _, _, _, _, _, rfl, .ty _, hx, kit_ty (kit_tys (by decide) _ ht), _, rfl, q⟩
      · rw [decide_eq_false h1] at q ⊢
        rw [decide_eq_false h2]
        exact iteF q
end
theorem told_step {ns : List Int} {i : Nat} {z : Int} (hi : i + 1 < ns.length) (h : ns[ns.length - 2 - i]? = some z) :
    Cm.W (ns.drop (ns.length - 1 - (i + 1))) = (z * (Cm.W (ns.drop (ns.length - 1 - i))).1 + (Cm.W (ns.drop (ns.length - 1 - i))).2, (Cm.W (ns.drop (ns.length - 1 - i))).1) := by
  have e : ns.length - 1 - (i + 1) = ns.length - 2 - i := by omega
  have h1 : ns.length - 2 - i < ns.length := by omega
  have e2 : ns.length - 2 - i + 1 = ns.length - 1 - i := by omega
  rw [e, List.drop_eq_getElem_cons h1, e2, Cm.W_cons]
  have : ns[ns.length - 2 - i] = z := by
    rw [List.getElem?_eq_getElem h1] at h
    exact Option.some.inj h
  rw [this]
theorem told_last {ns : List Int} (h : ns ≠ []) : Cm.W (ns.drop (ns.length - 1 - 0)) = (ns.getLast h, 1) := by
  have hl : 0 < ns.length := List.length_pos_iff.mpr h
  rw [Nat.sub_zero, List.drop_eq_getElem_cons (by omega), List.drop_eq_nil_of_le (by omega), Cm.W_one, List.getLast_eq_getElem]
/-- the fraction that quotients tell, as a new tuple -/
def sp_told_by (K : PySem.W.Frag) : Sp := fun vs H Q _ => ∃ (a : Addr) (ns : List Int), vs = [.ref a] ∧ SqL K H a (ns.map V.int) ∧ ns ≠ [] ∧ Sz ns ∧
  ∀ H' p, Same H H' → H p = none → H' p = some (.tup [.int (Cm.W ns).1, .int (Cm.W ns).2]) → Q (.ref p) H'
section
variable {P : Program} {w : World} {K : PySem.W.Frag} {mg : Str → Option Value} {base : Heap}
theorem cal_told_by (T : Txt K mg) : Cal P w K mg base CX0 1 "told_by" (sp_told_by K) := by
  refine cal_ok T.d_told_by sc_told_by (fun vs H Q E h => ?_) (fun f cdv A outer s H vs Q E hr h => ?_)
  · obtain ⟨a, ns, rfl, _⟩ := h
    rfl
  · refine ⟨_, (pss_cons (ps_set (i := 1) sc_told_by.nd rfl (.inl rfl) (pe_ix (r := rIxL K) ix_list (pv 0) (pe_un un_neg pe_int) (fun _ _ => rfl)))
      (pss_cons (ps_set (i := 2) sc_told_by.nd rfl (.inl rfl) pe_int)
      (pss_cons (ps_for PassesOwn.never rfl (pi_reversed (by rfl) T.z_reversed (pa_cons (pe_slice sl_list (pv 0) po_none (po_some (pe_un un_neg pe_int))) pa_nil)) (pg_name (i := 3) sc_told_by.nd rfl (.inl rfl))
      (pss_cons (ps_set (i := 4) sc_told_by.nd rfl (.inl rfl) (pe_op op_add (pe_op op_mulX (pv 3) (pv 1)) (pv 2)))
      (pss_cons (ps_set (i := 2) sc_told_by.nd rfl (.inl rfl) (pv 1))
      (pss_one (ps_set (i := 1) sc_told_by.nd rfl (.inl rfl) (pv 4))))))
      (pss_one (ps_ret (pe_tup (pa_cons (pv 1) (pa_cons (pv 2) pa_nil)))))))), ?_⟩
    obtain ⟨a, ns, rfl, hS, hne, ⟨n, hn, hb, hw⟩, q⟩ := h
    have hl : 0 < ns.length := List.length_pos_iff.mpr hne
    refine ⟨_, rfl, 1, rfl, a, _, _, _, rfl, rfl, hS, atI_neg1 hne, ?_⟩
    refine ⟨_, rfl, 1, rfl, _, rfl, a, _, rfl, hS, fun c nc => ?_⟩
    (generalize hH_ : upd _ c _ = H1; have s1 := same_of hH_ nc; have ec := at_new hH_; clear hH_)
    rw [cut_neg1, ← List.map_dropLast] at ec
    refine ⟨c, _, rfl, sqL ec, for_rev (K := K) (a := c) (xs := ns.dropLast.map V.int) (fun i σ H' => ∃ v3 v4, σ = [some (.ref a), some (.int (Cm.W (ns.drop (ns.length - 1 - i))).1), some (.int (Cm.W (ns.drop (ns.length - 1 - i))).2), v3, v4] ∧ H' = H1)
      ⟨none, none, by rw [told_last hne]; rfl, rfl⟩ (fun i σ H' _ ⟨_, _, _, e⟩ => by rw [e]; exact sqL ec) ?_ ?_⟩
    · rintro i y σ H' hi hy ⟨v3, v4, rfl, rfl⟩
      rw [List.length_map, List.length_dropLast] at hi hy
      obtain ⟨z, hz, rfl⟩ := map_int_at hy
      rw [List.getElem?_dropLast, if_pos (by omega)] at hz
      have hz' : ns[ns.length - 2 - i]? = some z := by rw [← hz]; congr 1
      have hbz : Bd n z := hb z (List.mem_of_getElem? hz')
      have st := told_step (by omega) hz'
      refine ⟨_, rfl, _, rfl, _, _, rfl, rfl, mulOk hbz (hw _).1 (by omega), _, rfl, _, _, rfl, rfl, _, rfl, _, rfl, ?_⟩
      refine ⟨some (.int z), some (.int (z * (Cm.W (ns.drop (ns.length - 1 - i))).1 + (Cm.W (ns.drop (ns.length - 1 - i))).2)), ?_, rfl⟩
      rw [st]
      rfl
    · rintro σ H' ⟨v3, v4, rfl, rfl⟩
      refine ⟨_, rfl, _, rfl, (by show 2 ≤ sizeLine; decide), fun p np => ?_⟩
      (generalize hH_ : upd _ p _ = H2; have s2 := same_of hH_ np; have ep := at_new hH_; clear hH_)
      refine q _ p (s1.trans s2) (s1.free np) ?_
      rw [ep, List.length_map, List.length_dropLast, Nat.sub_self, List.drop_zero]
end
/-- Euclid's quotients, as a new list -/
def sp_quotients_of (K : PySem.W.Frag) : Sp := fun vs H Q _ => ∃ (t b : Int), vs = [.int t, .int b] ∧ 0 < b ∧ Bd 8999 b ∧
  ∀ H' p, Same H H' → H p = none → H' p = some (.lst ((Cm.euc t b).map V.int)) → Q (.ref p) H'
section
variable {P : Program} {w : World} {K : PySem.W.Frag} {mg : Str → Option Value} {base : Heap}
theorem cal_quotients_of (T : Txt K mg) : Cal P w K mg base CX0 1 "quotients_of" (sp_quotients_of K) := by
  refine cal_ok T.d_quotients_of sc_quotients_of (fun vs H Q E h => ?_) (fun f cdv A outer s H vs Q E hr h => ?_)
  · obtain ⟨x, t, rfl, _⟩ := h
    rfl
  · refine ⟨_, (pss_cons (ps_set (i := 2) sc_quotients_of.nd rfl (.inl rfl) (pe_lst pa_nil))
      (pss_cons (ps_while PassesOwn.never (pt_mono (pt_cmpR op_gt (pv 1) pe_int (nomark _)))
      (pss_cons (ps_asg (pe_callB call_divmodP (by rfl) T.z_divmod (by decide +kernel) (pa_cons (pv 0) (pa_cons (pv 1) pa_nil))) (pg_tup rfl (pgs_cons (pg_name (i := 3) sc_quotients_of.nd rfl (.inl rfl)) (pgs_cons (pg_name (i := 4) sc_quotients_of.nd rfl (.inl rfl)) pgs_nil))))
      (pss_cons (ps_expr (pe_bm PySem.F.plainAttrs_list PySem.F.slot_list_append PySem.F.type_list_append mt_append (pv 2) (pa_cons (pv 3) pa_nil)))
      (pss_cons (ps_set (i := 0) sc_quotients_of.nd rfl (.inl rfl) (pv 1))
      (pss_one (ps_set (i := 1) sc_quotients_of.nd rfl (.inl rfl) (pv 4)))))))
      (pss_one (ps_ret (pv 2))))), ?_⟩
    obtain ⟨t, b, rfl, hb0, hb, q⟩ := h
    refine ⟨Nat.zero_le _, fun c nc => ?_⟩
    (generalize hH_ : upd _ c _ = H1; have s1 := same_of hH_ nc; have ec := at_new hH_; clear hH_)
    refine while_m (fun σ H' => ∃ (t' b' : Int) (done : List Int) (v3 v4 : Option V), σ = [some (.int t'), some (.int b'), some (.ref c), v3, v4] ∧ Same H H' ∧ H' c = some (.lst (done.map V.int)) ∧ Cm.euc t b = done ++ Cm.euc t' b' ∧ Bd 8999 b' ∧ 0 ≤ b')
      (fun σ _ => match σ with | [_, some (.int b'), _, _, _] => b'.toNat | _ => 0) ⟨t, b, [], none, none, rfl, s1, ec, rfl, hb, by omega⟩ ?_
    · rintro σ H' ⟨t', b', done, v3, v4, rfl, sH, eD, ee, hb', h0⟩
      refine ⟨_, rfl, _, _, rfl, rfl, _, rfl, ite2 (fun c1 => ?_) (fun c1 => ?_)⟩
      · have hp : 0 < b' := of_decide_eq_true c1
        have r0 := Int.emod_nonneg t' (show b' ≠ 0 by omega)
        have r1 := Int.emod_lt_of_pos t' hp
        have hlen := euc_len' (t := t) hb
        rw [ee, List.length_append, Cm.euc_pos hp, List.length_cons] at hlen
        refine ⟨_, rfl, _, rfl, _, _, rfl, divOk hp hb' (by decide) (by decide), fun p np => ?_⟩
        (generalize hH_ : upd _ p _ = H2; have s2 := same_of hH_ np; have ep := at_new hH_; clear hH_)
        have ec2 : H2 c = some (.lst (done.map V.int)) := s2 _ _ eD
        refine ⟨p, _, rfl, sqT ep, rfl, _, _, rfl, _, _, rfl, rfl, ?_⟩
        refine ⟨_, rfl, .inl ⟨rfl, _, sqL ec2⟩, _, rfl, c, _, _, rfl, rfl, ec2, ?_, ?_⟩
        · rw [List.length_map]
          exact Nat.lt_of_le_of_lt (show done.length ≤ 18000 by omega) (by decide)
        · refine ⟨_, rfl, _, rfl, ⟨b', t' % b', done ++ [t' / b'], _, _, rfl, same_mut (sH.trans s2) nc, ?_, ?_, Bd.of_le r0 (Int.le_of_lt r1) hb', r0⟩, ?_⟩
          · rw [upd_same, List.map_append]
            rfl
          · rw [ee, Cm.euc_pos hp, List.append_assoc]
            rfl
          · show (t' % b').toNat < b'.toNat
            omega
      · have hp : ¬ 0 < b' := fun z => c1 (decide_eq_true z)
        rw [Cm.euc_zero hp, List.append_nil] at ee
        rw [← ee] at eD
        exact ⟨_, rfl, q _ c sH nc eD⟩
end
def sp_need_word (K : PySem.W.Frag) : Sp := fun vs H Q _ => ∃ (x : Str), vs = [.str x] ∧ x ∈ words ∧ ∀ H', Same H H' → Q .non H'
section
variable {P : Program} {w : World} {K : PySem.W.Frag} {mg : Str → Option Value} {base : Heap}
theorem cal_need_word (T : Txt K mg) : Cal P w K mg base CX0 1 "need_word" (sp_need_word K) := by
  obtain ⟨pWORDS, gWORDS, tWORDS⟩ := T.c_WORDS.ex
  refine cal_ok T.d_need_word sc_need_word (fun vs H Q E h => ?_) (fun f cdv A outer s H vs Q E hr h => ?_)
  · obtain ⟨x, rfl, _⟩ := h
    rfl
  · refine ⟨_, (pss_one (ps_if (PW.pt (pw_or (pt_not (pt_val (pe_callB (r := rIsi K) (id := "isinstance") call_isi (by rfl) T.z_isinstance (by decide +kernel) (pa_cons (pv 0) (pa_cons (pe_bltn (v := .ty "str") (u := .type "str") (by rfl) T.z_str (by decide +kernel) rfl) pa_nil))))) (pw_or1 (pt_cmpR op_notIn_seq (pv 0) (pe_glob (v := .ref pWORDS) (by rfl) gWORDS rfl) (by rfl))))) (pss_one ps_never) pss_nil)), ?_⟩
    obtain ⟨x, rfl, hx, q⟩ := h
    have hi : inV (.str x) [.str "plus", .str "less", .str "times", .str "over"] = true := by
      unfold words at hx
      rcases List.mem_cons.mp hx with rfl | hx
      · decide
      rcases List.mem_cons.mp hx with rfl | hx
      · decide
      rcases List.mem_cons.mp hx with rfl | hx
      · decide
      rcases List.mem_cons.mp hx with rfl | hx
      · decide
      cases hx
    refine ⟨_, rfl, _, _, _, _, _, rfl, .ty _, (ty_str x), kit_ty (kit_tys (by decide) _ (by decide)), _, rfl, iteF ⟨_, rfl, pWORDS, _, rfl, .inr (tWORDS _), rfl, by decide, _, rfl, ?_⟩⟩
    rw [hi]
    exact iteF (q _ (Same.refl _))
end
/-- the word's fraction of two, as a new tuple -/
def sp_worth (K : PySem.W.Frag) : Sp := fun vs H Q _ => ∃ (x : Str) (a b : Addr) (f g : Int × Int), vs = [.str x, .ref a, .ref b] ∧ HPr K H a f ∧ HPr K H b g ∧ BdF 60000000 f ∧ BdF 60000000 g ∧
  ∀ H' p, Same H H' → H p = none → H' p = some (.tup [.int (doneV x f g).1, .int (doneV x f g).2]) → Q (.ref p) H'
section
variable {P : Program} {w : World} {K : PySem.W.Frag} {mg : Str → Option Value} {base : Heap}
theorem cal_worth (T : Txt K mg) : Cal P w K mg base CX0 1 "worth" (sp_worth K) := by
  refine cal_ok T.d_worth sc_worth (fun vs H Q E h => ?_) (fun f cdv A outer s H vs Q E hr h => ?_)
  · obtain ⟨x, a, b, f, g, rfl, _⟩ := h
    rfl
  · refine ⟨_, (pss_cons (ps_if (pt_cmpR op_eq (pv 0) pe_str (nomark _)) (pss_one (ps_ret (pe_tup (pa_cons (pe_op op_add (pe_op op_mulX (pe_ix (r := rIxT K) ix_tup (pv 1) pe_int (fun _ _ => rfl)) (pe_ix (r := rIxT K) ix_tup (pv 2) pe_int (fun _ _ => rfl))) (pe_op op_mulX (pe_ix (r := rIxT K) ix_tup (pv 2) pe_int (fun _ _ => rfl)) (pe_ix (r := rIxT K) ix_tup (pv 1) pe_int (fun _ _ => rfl)))) (pa_cons (pe_op op_mulX (pe_ix (r := rIxT K) ix_tup (pv 1) pe_int (fun _ _ => rfl)) (pe_ix (r := rIxT K) ix_tup (pv 2) pe_int (fun _ _ => rfl))) pa_nil))))) pss_nil)
      (pss_cons (ps_if (pt_cmpR op_eq (pv 0) pe_str (nomark _)) (pss_one (ps_ret (pe_tup (pa_cons (pe_op op_sub (pe_op op_mulX (pe_ix (r := rIxT K) ix_tup (pv 1) pe_int (fun _ _ => rfl)) (pe_ix (r := rIxT K) ix_tup (pv 2) pe_int (fun _ _ => rfl))) (pe_op op_mulX (pe_ix (r := rIxT K) ix_tup (pv 2) pe_int (fun _ _ => rfl)) (pe_ix (r := rIxT K) ix_tup (pv 1) pe_int (fun _ _ => rfl)))) (pa_cons (pe_op op_mulX (pe_ix (r := rIxT K) ix_tup (pv 1) pe_int (fun _ _ => rfl)) (pe_ix (r := rIxT K) ix_tup (pv 2) pe_int (fun _ _ => rfl))) pa_nil))))) pss_nil)
      (pss_cons (ps_if (pt_cmpR op_eq (pv 0) pe_str (nomark _)) (pss_one (ps_ret (pe_tup (pa_cons (pe_op op_mulX (pe_ix (r := rIxT K) ix_tup (pv 1) pe_int (fun _ _ => rfl)) (pe_ix (r := rIxT K) ix_tup (pv 2) pe_int (fun _ _ => rfl))) (pa_cons (pe_op op_mulX (pe_ix (r := rIxT K) ix_tup (pv 1) pe_int (fun _ _ => rfl)) (pe_ix (r := rIxT K) ix_tup (pv 2) pe_int (fun _ _ => rfl))) pa_nil))))) pss_nil)
      (pss_one (ps_ret (pe_tup (pa_cons (pe_op op_mulX (pe_ix (r := rIxT K) ix_tup (pv 1) pe_int (fun _ _ => rfl)) (pe_ix (r := rIxT K) ix_tup (pv 2) pe_int (fun _ _ => rfl))) (pa_cons (pe_op op_mulX (pe_ix (r := rIxT K) ix_tup (pv 1) pe_int (fun _ _ => rfl)) (pe_ix (r := rIxT K) ix_tup (pv 2) pe_int (fun _ _ => rfl))) pa_nil)))))))), ?_⟩
    obtain ⟨x, a, b, f, g, rfl, hA, hB, bf, bg, q⟩ := h
    have a0 := pr_at0 hA
    have a1 := pr_at1 hA
    have b0 := pr_at0 hB
    have b1 := pr_at1 hB
    have m12 : IntMulOk f.1 g.2 := mulOk bf.top bg.bot (by decide)
    have m21 : IntMulOk g.1 f.2 := mulOk bg.top bf.bot (by decide)
    have m22 : IntMulOk f.2 g.2 := mulOk bf.bot bg.bot (by decide)
    have m11 : IntMulOk f.1 g.1 := mulOk bf.top bg.top (by decide)
    have m2t : IntMulOk f.2 g.1 := mulOk bf.bot bg.top (by decide)
    refine ⟨_, rfl, rfl, _, rfl, ite2 (fun c => ?_) (fun c => ?_)⟩
    · have c' : x = "plus" := V.str.inj (of_decide_eq_true c)
      have e : doneV x f g = (f.1 * g.2 + g.1 * f.2, f.2 * g.2) := by unfold doneV; rw [if_pos c']
      rw [e] at q
      refine ⟨_, rfl, a, _, _, _, rfl, rfl, hA, a0, _, rfl, b, _, _, _, rfl, rfl, hB, b1, _, _, rfl, rfl, m12, _, rfl, b, _, _, _, rfl, rfl, hB, b0, _, rfl, a, _, _, _, rfl, rfl, hA, a1, _, _, rfl, rfl, m21, _, _, rfl, rfl, ?_⟩
      refine ⟨_, rfl, a, _, _, _, rfl, rfl, hA, a1, _, rfl, b, _, _, _, rfl, rfl, hB, b1, _, _, rfl, rfl, m22, by show 2 ≤ sizeLine; decide, fun p np => ?_⟩
      (generalize hH_ : upd _ p _ = H2; have s2 := same_of hH_ np; have ep := at_new hH_; clear hH_)
      exact q _ p s2 np ep
    refine ⟨_, rfl, rfl, _, rfl, ite2 (fun c2 => ?_) (fun c2 => ?_)⟩
    · have c' : x = "less" := V.str.inj (of_decide_eq_true c2)
      have e : doneV x f g = (f.1 * g.2 - g.1 * f.2, f.2 * g.2) := by unfold doneV; rw [if_neg (fun z => c (decide_eq_true (by rw [z]))), if_pos c']
      rw [e] at q
      refine ⟨_, rfl, a, _, _, _, rfl, rfl, hA, a0, _, rfl, b, _, _, _, rfl, rfl, hB, b1, _, _, rfl, rfl, m12, _, rfl, b, _, _, _, rfl, rfl, hB, b0, _, rfl, a, _, _, _, rfl, rfl, hA, a1, _, _, rfl, rfl, m21, _, _, rfl, rfl, ?_⟩
      refine ⟨_, rfl, a, _, _, _, rfl, rfl, hA, a1, _, rfl, b, _, _, _, rfl, rfl, hB, b1, _, _, rfl, rfl, m22, by show 2 ≤ sizeLine; decide, fun p np => ?_⟩
      (generalize hH_ : upd _ p _ = H2; have s2 := same_of hH_ np; have ep := at_new hH_; clear hH_)
      exact q _ p s2 np ep
    refine ⟨_, rfl, rfl, _, rfl, ite2 (fun c3 => ?_) (fun c3 => ?_)⟩
    · have c' : x = "times" := V.str.inj (of_decide_eq_true c3)
      have e : doneV x f g = (f.1 * g.1, f.2 * g.2) := by unfold doneV; rw [if_neg (fun z => c (decide_eq_true (by rw [z]))), if_neg (fun z => c2 (decide_eq_true (by rw [z]))), if_pos c']
      rw [e] at q
      refine ⟨_, rfl, a, _, _, _, rfl, rfl, hA, a0, _, rfl, b, _, _, _, rfl, rfl, hB, b0, _, _, rfl, rfl, m11, ?_⟩
      refine ⟨_, rfl, a, _, _, _, rfl, rfl, hA, a1, _, rfl, b, _, _, _, rfl, rfl, hB, b1, _, _, rfl, rfl, m22, by show 2 ≤ sizeLine; decide, fun p np => ?_⟩
      (generalize hH_ : upd _ p _ = H2; have s2 := same_of hH_ np; have ep := at_new hH_; clear hH_)
      exact q _ p s2 np ep
    · have e : doneV x f g = (f.1 * g.2, f.2 * g.1) := by unfold doneV; rw [if_neg (fun z => c (decide_eq_true (by rw [z]))), if_neg (fun z => c2 (decide_eq_true (by rw [z]))), if_neg (fun z => c3 (decide_eq_true (by rw [z])))]
      rw [e] at q
      refine ⟨_, rfl, a, _, _, _, rfl, rfl, hA, a0, _, rfl, b, _, _, _, rfl, rfl, hB, b1, _, _, rfl, rfl, m12, ?_⟩
      refine ⟨_, rfl, a, _, _, _, rfl, rfl, hA, a1, _, rfl, b, _, _, _, rfl, rfl, hB, b0, _, _, rfl, rfl, m2t, by show 2 ≤ sizeLine; decide, fun p np => ?_⟩
      (generalize hH_ : upd _ p _ = H2; have s2 := same_of hH_ np; have ep := at_new hH_; clear hH_)
      exact q _ p s2 np ep
end
def sp_l_quotient (K : PySem.W.Frag) : Sp := fun vs H Q _ => ∃ (c : Int), vs = [.int c] ∧ ∀ H', Same H H' → Q (.int (lq c)) H'
section
variable {P : Program} {w : World} {K : PySem.W.Frag} {mg : Str → Option Value} {base : Heap}
theorem cal_l_quotient (T : Txt K mg) : Cal P w K mg base CX0 1 "_law_quotient" (sp_l_quotient K) := by
  refine cal_ok T.d_l_quotient sc_l_quotient (fun vs H Q E h => ?_) (fun f cdv A outer s H vs Q E hr h => ?_)
  · obtain ⟨c, rfl, _⟩ := h
    rfl
  · refine ⟨_, (pss_one (ps_ret (pe_op op_add pe_int (pe_op op_mod (pv 0) (pe_ix (r := rIxL K) ix_list (pe_lst (pa_cons (pe_op op_pow pe_int pe_int) (pa_cons pe_int (pa_cons pe_int (pa_cons (pe_op op_pow pe_int pe_int) pa_nil))))) (pe_op op_mod (pe_op op_fdivP (pv 0) pe_int) pe_int) (fun _ _ => rfl)))))), ?_⟩
    obtain ⟨c, rfl, q⟩ := h
    have h0 := Int.emod_nonneg (c / 5) (show (4 : Int) ≠ 0 by decide)
    have h1 := Int.emod_lt_of_pos (c / 5) (show (0 : Int) < 4 by decide)
    refine ⟨_, rfl, _, _, rfl, rfl, ⟨by decide, by decide, by decide⟩, _, _, rfl, rfl, ⟨by decide, by decide, by decide⟩, (by show 4 ≤ sizeLine; decide), fun p np => ?_⟩
    (generalize hH_ : upd _ p _ = H1; have s1 := same_of hH_ np; have ep := at_new hH_; clear hH_)
    have ep' : H1 p = some (.lst (lqMenu.map V.int)) := ep
    refine ⟨_, rfl, _, _, rfl, rfl, divS (by decide) (by decide), _, _, rfl, rfl, (show (0 : Int) < 4 by decide), p, _, _, _, rfl, rfl, sqL ep', atI_menu h0 h1, ?_⟩
    refine ⟨_, _, rfl, rfl, (lqMenu_ok _ (lq_menu c)).1, _, _, rfl, rfl, ?_⟩
    exact q _ s1
end
def sp_are_quotients (K : PySem.W.Frag) : Sp := fun vs H Q _ => ∃ (x : V) (th : Option (List V)), vs = [x] ∧ Thing K H x th ∧ ∀ H', Same H H' → Q (.bl (quotsT th)) H'
section
variable {P : Program} {w : World} {K : PySem.W.Frag} {mg : Str → Option Value} {base : Heap}
theorem cal_are_quotients (T : Txt K mg) : Cal P w K mg base CX0 2 "are_quotients" (sp_are_quotients K) := by
  have C_is_whole := cal_is_whole (P := P) (w := w) (base := base) T
  refine cal_ok T.d_are_quotients sc_are_quotients (fun vs H Q E h => ?_) (fun f cdv A outer s H vs Q E hr h => ?_)
  · obtain ⟨x, t, rfl, _⟩ := h
    rfl
  · refine ⟨_, (pss_cons (ps_if (pt_not (pt_val (pe_callB (r := rIsi K) (id := "isinstance") call_isi (by rfl) T.z_isinstance (by decide +kernel) (pa_cons (pv 0) (pa_cons (pe_bltn (v := .ty "list") (u := .type "list") (by rfl) T.z_list (by decide +kernel) rfl) pa_nil))))) (pss_one (ps_ret pe_bl)) pss_nil)
      (pss_cons (ps_for PassesOwn.never rfl (pi_list (pv 0)) (pg_name (i := 1) sc_are_quotients.nd rfl (.inl rfl))
      (pss_one (ps_if (pt_not (pt_val (pe_c C_is_whole hr (by decide) (by rfl) (pa_cons (pv 1) pa_nil)))) (pss_one (ps_ret pe_bl)) pss_nil)))
      (pss_one (ps_ret (pe_callB (cr_all rfl) (by rfl) T.z_all (by decide +kernel) (pa_cons (pe_lc (own := [("quotient", 1)]) (g := gName 1) rfl sc_are_quotients.nd (pi_list (pe_slice sl_list (pv 0) (po_some pe_int) po_none)) (blkOk_by (N := N_are_quotients) (sc := defScope s_are_quotients) (own := [("quotient", 1)]) (by decide +kernel)) (fun _ _ _ _ _ => (pg_name (i := 1) sc_are_quotients.nd rfl (.inl rfl))) (fun _ _ _ _ _ => pts_nil) (fun _ _ _ _ _ => (pe_cmpR op_ge (pv 1) pe_int (nomark _)))) pa_nil)))))), ?_⟩
    obtain ⟨x, th, rfl, hx, q⟩ := h
    cases th with
    | none =>
      obtain ⟨t, ht, hn, ty⟩ := hx
      refine ⟨_, rfl, _, _, _, _, _, rfl, .ty _, ty, kit_ty (kit_tys (by decide) _ ht), _, rfl, ?_⟩
      have e : (!(decide (t = "list") || decide (t = "bool") && decide ("list" = "int"))) = true := by simp [hn]
      exact ite2 (fun _ => q _ (Same.refl _)) (fun c => absurd e c)
    | some xs =>
      obtain ⟨a, rfl, hS, hlen, hty⟩ := hx
      refine ⟨_, rfl, _, _, _, _, _, rfl, .ty _, (ty_list hS), kit_ty (kit_tys (by decide) _ (by decide)), _, rfl, iteF ?_⟩
      refine ⟨_, rfl, a, rfl, ⟨_, hS⟩, for_list (K := K) (a := a) (xs := xs) (fun i σ H' => ∃ v1, σ = [some (.ref a), v1] ∧ H' = H ∧ (xs.take i).all isI = true)
        ⟨none, rfl, rfl, rfl⟩ (fun i σ H' _ ⟨_, _, e, _⟩ => by rw [e]; exact hS) ?_ ?_⟩
      · rintro i y σ H' hi ⟨v1, rfl, rfl, hI⟩
        obtain ⟨t, ht, ty, e⟩ := hty y (List.mem_of_getElem? hi)
        refine ⟨_, rfl, _, t, rfl, ty, ht, _, rfl, ?_⟩
        rw [e]
        cases hy : isI y with
        | true =>
          refine iteF ⟨some y, rfl, rfl, ?_⟩
          rw [List.take_add_one, hi, List.all_append, hI]
          simp [hy]
        | false =>
          refine iteT ?_
          have : quotsT (some xs) = false := by
            have : xs.all isI = false := by
              rw [List.all_eq_false]
              exact ⟨y, List.mem_of_getElem? hi, by rw [hy]; exact Bool.false_ne_true⟩
            rw [quotsT_some, this]
            rfl
          rw [← this]
          exact q _ (Same.refl _)
      · rintro σ H' ⟨v1, rfl, rfl, hI⟩
        rw [List.take_length] at hI
        obtain ⟨ns, rfl⟩ := isI_ints xs hI
        refine ⟨_, rfl, 1, rfl, a, _, rfl, hS, fun c nc => ?_⟩
        (generalize hH_ : upd _ c _ = H1; have s1 := same_of hH_ nc; have ec := at_new hH_; clear hH_)
        rw [show cutV (ns.map V.int) (some 1) none = (ns.drop 1).map V.int by rw [show (1 : Int) = ((1 : Nat) : Int) from rfl, cut_from, List.map_drop]] at ec
        refine ⟨c, rfl, ⟨_, sqL ec⟩, fun D hD => lc_list (K := K) (a := c) (xs := (ns.drop 1).map V.int) (fun i H2 => Same H1 H2 ∧ H2 D = some (.lst ((((ns.drop 1).take i).map fun z => decide (1 ≤ z)).map V.bl)))
          ⟨same_upd hD, upd_same⟩ (fun i H2 _ ⟨s, _⟩ => s.seq (sqL ec)) ?_ ?_⟩
        · rintro i y H2 hi ⟨s, eD⟩
          obtain ⟨z, hz, rfl⟩ := map_int_at hi
          have hl : i < ns.length := by
            have := (List.getElem?_eq_some_iff.mp hz).1
            rw [List.length_drop] at this
            omega
          rw [List.length_map] at hlen
          refine ⟨rfl, _, rfl, _, 1, rfl, rfl, _, eD, ?_, same_mut s hD, ?_⟩
          · rw [List.length_map, List.length_map, List.length_take]
            exact Nat.lt_of_le_of_lt (show _ ≤ 100000 by omega) (by decide)
          · rw [upd_same, List.take_add_one, hz, List.map_append, List.map_append]
            rfl
        · rintro H2 ⟨s, eD⟩
          rw [List.length_map, List.take_length] at eD
          refine ⟨D, _, rfl, sqL eD, ?_⟩
          have e : (((ns.drop 1).map fun z => decide (1 ≤ z)).all id) = quotsT (some (ns.map V.int)) := by
            rw [quotsT_ints, List.all_map]
            rfl
          rw [e]
          exact q _ (s1.trans s)
end
/-- a chain of a number above 0, as a new list -/
def sp_l_chain (K : PySem.W.Frag) : Sp := fun vs H Q _ => ∃ (a : Addr) (cs : List Int) (n : Nat), vs = [.ref a] ∧ SqL K H a (cs.map V.int) ∧ cs.length ≤ n ∧ 0 < n ∧ n ≤ 63 ∧
  ∀ H' p l, Same H H' → H p = none → H' p = some (.lst (l.map V.int)) → abvB l = true → l.length ≤ n → (∀ y ∈ l, Bd 100 y) → Q (.ref p) H'
section
variable {P : Program} {w : World} {K : PySem.W.Frag} {mg : Str → Option Value} {base : Heap}
theorem cal_l_chain (T : Txt K mg) : Cal P w K mg base CX0 2 "_law_chain" (sp_l_chain K) := by
  have C_l_quotient := cal_l_quotient (P := P) (w := w) (base := base) T
  refine cal_ok T.d_l_chain sc_l_chain (fun vs H Q E h => ?_) (fun f cdv A outer s H vs Q E hr h => ?_)
  · obtain ⟨a, cs, n, rfl, _⟩ := h
    rfl
  · refine ⟨_, (Evl.pss_cut (ps_set (i := 1) sc_l_chain.nd rfl (.inl rfl) (pe_orT (pe_lc (own := [("_law_cell", 2)]) (g := gName 2) rfl sc_l_chain.nd (pi_list (pv 0)) (blkOk_by (N := N_l_chain) (sc := defScope s_l_chain) (own := [("_law_cell", 2)]) (by decide +kernel)) (fun _ _ _ _ _ => (pg_name (i := 2) sc_l_chain.nd rfl (.inl rfl))) (fun _ _ _ _ _ => pts_nil) (fun _ _ _ _ _ => (pe_c C_l_quotient hr (by decide) (by rfl) (pa_cons (pv 2) pa_nil)))) (pe_one (pe_lst (pa_cons pe_int pa_nil)))))
      (pss_cons (ps_asg (pe_op op_sub (pe_ix (r := rIxL K) ix_list (pv 1) pe_int (fun _ _ => rfl)) pe_int) (pg_sub (pv 1) pe_int set_list))
      (Evl.pss_cut (ps_if (PW.pt (pw_and (pt_cmpR op_gt (pe_callB call_len_seq (by rfl) T.z_len PySem.boot_len (pa_cons (pv 1) pa_nil)) pe_int (nomark _)) (pw_and1 (pt_cmpR op_eq (pe_ix (r := rIxL K) ix_list (pv 1) (pe_un un_neg pe_int) (fun _ _ => rfl)) pe_int (nomark _))))) (pss_one (ps_asg pe_int (pg_sub (pv 1) (pe_un un_neg pe_int) set_list))) pss_nil)
      (pss_one (ps_ret (pe_ifExp (pt_cmpR (r := rEqD K) (op_eqD hr.units) (pv 1) (pe_lst (pa_cons pe_int pa_nil)) (nomark _)) (pe_lst (pa_cons pe_int pa_nil)) (pv 1))))))), ?_⟩
    obtain ⟨c, cs, n, rfl, hS, hcl, n0, n63, q⟩ := h
    -- [..] or [1]
    refine ⟨fun σ H' => ∃ (p : Addr) (x : Int) (r : List Int), σ = [some (.ref c), some (.ref p), none] ∧ Same H H' ∧ H p = none ∧ H' p = some (.lst ((x :: r).map V.int)) ∧ r.length + 1 ≤ n ∧ (∀ y ∈ x :: r, 1 ≤ y ∧ Bd 100 y), ?_, ?_⟩
    · refine ⟨_, rfl, c, rfl, ⟨_, hS⟩, fun D hD => lc_list (K := K) (a := c) (xs := cs.map V.int) (fun i H2 => Same H H2 ∧ H2 D = some (.lst (((cs.take i).map lq).map V.int)))
        ⟨same_upd hD, upd_same⟩ (fun i H2 _ ⟨s, _⟩ => s.seq hS) ?_ ?_⟩
      · rintro i y H2 hi ⟨s2, eD⟩
        obtain ⟨z, hz, rfl⟩ := map_int_at hi
        refine ⟨rfl, _, rfl, z, rfl, fun H3 s3 => ⟨_, s3 _ _ eD, ?_, same_mut (s2.trans s3) hD, ?_⟩⟩
        · rw [List.length_map, List.length_map, List.length_take]
          exact Nat.lt_of_le_of_lt (show min i cs.length ≤ 63 by omega) (by decide)
        · rw [upd_same, List.take_add_one, hz, List.map_append, List.map_append]
          rfl
      · rintro H2 ⟨s2, eD⟩
        rw [List.length_map, List.take_length] at eD
        refine ⟨_, .inl ⟨_, sqL eD, rfl⟩, ?_⟩
        cases cs with
        | nil =>
          refine ⟨by decide, fun p np => ?_⟩
          (generalize hH_ : upd _ p _ = H3; have s3 := same_of hH_ np; have ep := at_new hH_; clear hH_)
          refine ⟨p, 1, [], rfl, s2.trans s3, s2.free np, ep, n0, ?_⟩
          intro y hy
          rw [List.mem_singleton] at hy
          subst hy
          exact ⟨by decide, Bd.one (by decide)⟩
        | cons x r =>
          refine ⟨D, lq x, r.map lq, rfl, s2, hD, eD, ?_, ?_⟩
          · rw [List.length_map]
            exact hcl
          · intro y hy
            rw [← List.map_cons] at hy
            obtain ⟨z, _, rfl⟩ := List.mem_map.mp hy
            exact lq_ok z
    rintro σ H2 ⟨p, x, r, rfl, s2, np1, ep, hL, hall⟩
    -- _law_found[0] = _law_found[0] - 1
    refine ⟨_, rfl, p, _, 0, _, rfl, rfl, sqL ep, atI_int (ns := x :: r) (i := 0) rfl, _, _, rfl, rfl, ?_⟩
    refine ⟨_, rfl, p, _, _, 0, rfl, rfl, ep, ixN_0 (by simp), ?_⟩
    have hx := hall x (by simp)
    have bz : Bd 100 (x - 1) := Bd.of_le (by omega) (by omega) hx.2
    have z0 : 0 ≤ x - 1 := by omega
    have hr1 : ∀ y ∈ r, 1 ≤ y := fun y hy => (hall y (List.mem_cons_of_mem _ hy)).1
    (generalize hH_ : upd _ p _ = H4; have s4 := same_mut_of hH_ s2 np1; have e4 := at_new hH_; clear hH_)
    replace e4 : H4 p = some (.lst (((x - 1) :: r).map V.int)) := e4
    generalize x - 1 = z at *
    have hne : (z :: r) ≠ [] := by simp
    refine ⟨fun σ H' => σ = [some (.ref c), some (.ref p), none] ∧ Same H H' ∧ H' p = some (.lst ((fixl (z :: r)).map V.int)), ?_, ?_⟩
    · refine ⟨_, rfl, p, _, rfl, .inl (sqL e4), _, _, rfl, rfl, _, rfl, ite2 (fun c1 => ?_) (fun c1 => ?_)⟩
      · have c1' : 1 < (z :: r).length := by
          have := of_decide_eq_true c1
          rw [List.length_map] at this
          omega
        refine ⟨_, rfl, 1, rfl, p, _, _, _, rfl, rfl, sqL e4, getLastD_ne hne, rfl, _, rfl, ite2 (fun c2 => ?_) (fun c2 => ?_)⟩
        · have c2' : (z :: r).getLastD 0 = 1 := V.int.inj (of_decide_eq_true c2)
          refine ⟨_, rfl, 1, rfl, p, _, _, _, rfl, rfl, e4, ixN_neg1 (by simp), rfl, same_mut s4 np1, ?_⟩
          rw [upd_same, List.length_map, set_last2 hne]
          unfold fixl
          rw [if_pos ⟨c1', c2'⟩]
        · refine ⟨rfl, s4, ?_⟩
          unfold fixl
          rw [if_neg (fun k => c2 (decide_eq_true (by rw [k.2])))]
          exact e4
      · refine iteF ⟨rfl, s4, ?_⟩
        unfold fixl
        rw [if_neg (fun k => c1 (decide_eq_true (by have := k.1; rw [List.length_map]; omega)))]
        exact e4
    rintro σ H5 ⟨rfl, s5, e5⟩
    have hCh : Cm.Ch (fixl (z :: r)) := fixl_ch z r hr1
    have hlen2 : (fixl (z :: r)).length ≤ n := by rw [fixl_len]; exact hL
    have hb2 : ∀ y ∈ fixl (z :: r), Bd 100 y := fun y hy => by
      rcases fixl_mem hy with h | rfl
      · rcases List.mem_cons.mp h with rfl | h
        · exact bz
        · exact (hall y (List.mem_cons_of_mem _ h)).2
      · exact bdL (by decide)
    have h0 : 0 ≤ (fixl (z :: r)).headD 0 := by
      unfold fixl
      split
      · cases r with
        | nil => rename_i h; exact absurd h.1 (by simp)
        | cons w r => exact z0
      · exact z0
    have hcB := (chB_iff _).mpr hCh
    generalize fixl (z :: r) = l at *
    refine ⟨_, rfl, by decide, fun t nt => ?_⟩
    (generalize hH_ : upd _ t _ = H6; have s6 := same_of hH_ nt; have e6 := at_new hH_; clear hH_)
    replace e6 : H6 t = some (.lst (([0] : List Int).map V.int)) := e6
    refine ⟨_, _, dp_ints (s6.seq (sqL e5)), dp_ints (sqL e6), shaped_ints _, shaped_ints _, ?_⟩
    rw [eqv_ints]
    refine ⟨_, rfl, ite2 (fun c1 => ?_) (fun c1 => ?_)⟩
    · refine ⟨by decide, fun u nu => ?_⟩
      (generalize hH_ : upd _ u _ = H7; have s7 := same_of hH_ nu; have e7 := at_new hH_; clear hH_)
      exact q _ u [1] ((s5.trans s6).trans s7) ((s5.trans s6).free nu) e7 (by decide) n0 (fun y hy => by rw [List.mem_singleton] at hy; subst hy; exact Bd.one (by decide))
    · refine ⟨_, rfl, q _ p l (s5.trans s6) np1 (s6 _ _ e5) ?_ hlen2 hb2⟩
      unfold abvB
      rw [hcB, decide_eq_true h0]
      have : l ≠ [0] := fun e => c1 (decide_eq_true e)
      simpa using this
end
def sp_is_chain (K : PySem.W.Frag) : Sp := fun vs H Q _ => ∃ (x : V) (th : Option (List V)), vs = [x] ∧ Thing K H x th ∧ ∀ H', Same H H' → Q (.bl (onInts chB th)) H'
section
variable {P : Program} {w : World} {K : PySem.W.Frag} {mg : Str → Option Value} {base : Heap}
theorem cal_is_chain (T : Txt K mg) : Cal P w K mg base CX0 3 "is_chain" (sp_is_chain K) := by
  have C_are_quotients := cal_are_quotients (P := P) (w := w) (base := base) T
  refine cal_ok T.d_is_chain sc_is_chain (fun vs H Q E h => ?_) (fun f cdv A outer s H vs Q E hr h => ?_)
  · obtain ⟨x, t, rfl, _⟩ := h
    rfl
  · refine ⟨_, (pss_one (ps_ret (pe_and (pe_c C_are_quotients hr (by decide) (by rfl) (pa_cons (pv 0) pa_nil)) (pe_and (pe_cmpR (r := rNeD K) (op_neD hr.units) (pv 0) (pe_lst pa_nil) (nomark _)) (pe_one (pe_or (pe_cmpR op_eq (pe_callB call_len_seq (by rfl) T.z_len PySem.boot_len (pa_cons (pv 0) pa_nil)) pe_int (nomark _)) (pe_one (pe_cmpR op_gt (pe_ix (r := rIxL K) ix_list (pv 0) (pe_un un_neg pe_int) (fun _ _ => rfl)) pe_int (nomark _))))))))), ?_⟩
    obtain ⟨x, th, rfl, hx, q⟩ := h
    refine ⟨_, rfl, _, th, rfl, hx, fun H1 s1 => ⟨_, rfl, ?_⟩⟩
    cases e : quotsT th with
    | false =>
      have e2 := onInts_no chB_quots e
      rw [e2] at q
      exact iteF (q _ s1)
    | true =>
      obtain ⟨ns, rfl⟩ := quotsT_yes e
      obtain ⟨a, rfl, hS, hlen, _⟩ := hx
      rw [quotsT_ints] at e
      rw [onInts_ints] at q
      unfold chB at q
      rw [e, Bool.true_and] at q
      refine iteT ⟨_, rfl, Nat.zero_le _, fun c nc => ?_⟩
      (generalize hH_ : upd _ c _ = H2; have s2 := same_of hH_ nc; have ec := at_new hH_; clear hH_)
      have hA : SqL K H2 a (ns.map V.int) := s2.seq (s1.seq hS)
      refine ⟨_, _, dp_ints hA, dp_ints (ns := []) (sqL ec), shaped_ints _, shaped_ints _, ?_⟩
      rw [eqv_ints]
      refine ⟨_, rfl, ?_⟩
      by_cases h0 : ns = []
      · subst h0
        exact iteF (q _ (s1.trans s2))
      · rw [decide_eq_false h0]
        have e0 : (ns != []) = true := by simpa using h0
        rw [e0, Bool.true_and] at q
        refine iteT ⟨_, rfl, a, _, rfl, .inl hA, rfl, _, rfl, ?_⟩
        rw [List.length_map]
        by_cases h1 : ns.length = 1
        · have z : decide (V.int (ns.length : Int) = V.int 1) = true := decide_eq_true (by rw [h1]; rfl)
          rw [z]
          rw [h1] at q
          exact iteT (q _ (s1.trans s2))
        · have z : decide (V.int (ns.length : Int) = V.int 1) = false := decide_eq_false fun k => h1 (by have := V.int.inj k; omega)
          have z2 : (ns.length == 1) = false := by simpa using h1
          rw [z]
          rw [z2, Bool.false_or] at q
          refine iteF ⟨_, rfl, 1, rfl, a, _, _, _, rfl, rfl, hA, atI_neg1 h0, _, 1, rfl, rfl, ?_⟩
          rw [getLast_D h0]
          exact q _ (s1.trans s2)
end
def sp_is_above (K : PySem.W.Frag) : Sp := fun vs H Q _ => ∃ (x : V) (th : Option (List V)), vs = [x] ∧ Thing K H x th ∧ ∀ H', Same H H' → Q (.bl (onInts abvB th)) H'
section
variable {P : Program} {w : World} {K : PySem.W.Frag} {mg : Str → Option Value} {base : Heap}
theorem cal_is_above (T : Txt K mg) : Cal P w K mg base CX0 4 "is_above" (sp_is_above K) := by
  have C_is_chain := cal_is_chain (P := P) (w := w) (base := base) T
  refine cal_ok T.d_is_above sc_is_above (fun vs H Q E h => ?_) (fun f cdv A outer s H vs Q E hr h => ?_)
  · obtain ⟨x, t, rfl, _⟩ := h
    rfl
  · refine ⟨_, (pss_one (ps_ret (pe_and (pe_c C_is_chain hr (by decide) (by rfl) (pa_cons (pv 0) pa_nil)) (pe_and (pe_cmpR op_ge (pe_ix (r := rIxL K) ix_list (pv 0) pe_int (fun _ _ => rfl)) pe_int (nomark _)) (pe_one (pe_cmpR (r := rNeD K) (op_neD hr.units) (pv 0) (pe_lst (pa_cons pe_int pa_nil)) (nomark _))))))), ?_⟩
    obtain ⟨x, th, rfl, hx, q⟩ := h
    refine ⟨_, rfl, _, th, rfl, hx, fun H1 s1 => ⟨_, rfl, ?_⟩⟩
    cases e : quotsT th with
    | false =>
      rw [onInts_no chB_quots e]
      rw [onInts_no (fun ns h => chB_quots ns (abvB_chB h)) e] at q
      exact iteF (q _ s1)
    | true =>
      obtain ⟨ns, rfl⟩ := quotsT_yes e
      obtain ⟨a, rfl, hS, hlen, _⟩ := hx
      rw [onInts_ints]
      rw [onInts_ints] at q
      unfold abvB at q
      cases hc : chB ns with
      | false =>
        rw [hc] at q
        exact iteF (q _ s1)
      | true =>
        rw [hc, Bool.true_and] at q
        cases ns with
        | nil => exact absurd hc (by decide)
        | cons n r =>
          refine iteT ⟨_, rfl, a, _, 0, _, rfl, rfl, s1.seq hS, atI_int (ns := n :: r) (i := 0) rfl, _, _, rfl, rfl, _, rfl, ite2 (fun c1 => ?_) (fun c1 => ?_)⟩
          · have c1' : decide (0 ≤ (n :: r).headD 0) = true := c1
            rw [c1', Bool.true_and] at q
            refine ⟨_, rfl, (by show 1 ≤ sizeLine; decide), fun c nc => ?_⟩
            (generalize hH_ : upd _ c _ = H2; have s2 := same_of hH_ nc; have ec := at_new hH_; clear hH_)
            replace ec : H2 c = some (.lst (([0] : List Int).map V.int)) := ec
            refine ⟨_, _, dp_ints (s2.seq (s1.seq hS)), dp_ints (sqL ec), shaped_ints _, shaped_ints _, ?_⟩
            rw [eqv_ints]
            have e2 : ((n :: r) != [0]) = !decide ((n :: r) = [0]) := by
              cases z : decide ((n :: r) = [0]) with
              | true => rw [of_decide_eq_true z]; rfl
              | false => simpa using of_decide_eq_false z
            rw [e2] at q
            exact q _ (s1.trans s2)
          · have c1' : decide (0 ≤ (n :: r).headD 0) = false := Bool.eq_false_iff.mpr c1
            rw [c1'] at q
            exact q _ s1
end
def sp_need_chain (K : PySem.W.Frag) : Sp := fun vs H Q _ => ∃ (a : Addr) (ns : List Int), vs = [.ref a] ∧ SqL K H a (ns.map V.int) ∧ ns.length ≤ 100000 ∧ chB ns = true ∧ ∀ H', Same H H' → Q .non H'
section
variable {P : Program} {w : World} {K : PySem.W.Frag} {mg : Str → Option Value} {base : Heap}
theorem cal_need_chain (T : Txt K mg) : Cal P w K mg base CX0 4 "need_chain" (sp_need_chain K) := by
  have C_is_chain := cal_is_chain (P := P) (w := w) (base := base) T
  refine cal_ok T.d_need_chain sc_need_chain (fun vs H Q E h => ?_) (fun f cdv A outer s H vs Q E hr h => ?_)
  · obtain ⟨x, t, rfl, _⟩ := h
    rfl
  · refine ⟨_, (pss_one (ps_if (pt_not (pt_val (pe_c C_is_chain hr (by decide) (by rfl) (pa_cons (pv 0) pa_nil)))) (pss_one ps_never) pss_nil)), ?_⟩
    obtain ⟨a, ns, rfl, hS, hl, hc, q⟩ := h
    refine ⟨_, rfl, _, _, rfl, thing_ints hS hl, fun H1 s1 => ⟨_, rfl, ?_⟩⟩
    rw [onInts_ints, hc]
    exact iteF (q _ s1)
end
def sp_fraction_of (K : PySem.W.Frag) : Sp := fun vs H Q _ => ∃ (a : Addr) (ns : List Int), vs = [.ref a] ∧ SqL K H a (ns.map V.int) ∧ ns.length ≤ 100000 ∧ chB ns = true ∧ Sz ns ∧
  ∀ H' p, Same H H' → H p = none → H' p = some (.tup [.int (Cm.W ns).1, .int (Cm.W ns).2]) → Q (.ref p) H'
section
variable {P : Program} {w : World} {K : PySem.W.Frag} {mg : Str → Option Value} {base : Heap}
theorem cal_fraction_of (T : Txt K mg) : Cal P w K mg base CX0 5 "fraction_of" (sp_fraction_of K) := by
  have C_need_chain := cal_need_chain (P := P) (w := w) (base := base) T
  have C_told_by := cal_told_by (P := P) (w := w) (base := base) T
  refine cal_ok T.d_fraction_of sc_fraction_of (fun vs H Q E h => ?_) (fun f cdv A outer s H vs Q E hr h => ?_)
  · obtain ⟨x, t, rfl, _⟩ := h
    rfl
  · refine ⟨_, (pss_cons (ps_expr (pe_c C_need_chain hr (by decide) (by rfl) (pa_cons (pv 0) pa_nil)))
      (pss_one (ps_ret (pe_c C_told_by hr (by decide) (by rfl) (pa_cons (pv 0) pa_nil))))), ?_⟩
    obtain ⟨a, ns, rfl, hS, hl, hc, hb, q⟩ := h
    refine ⟨_, rfl, _, _, rfl, hS, hl, hc, fun H1 s1 => ?_⟩
    refine ⟨_, rfl, a, ns, rfl, s1.seq hS, ?_, hb, fun H2 p s2 np ep => q _ _ (s1.trans s2) (s1.free np) ep⟩
    rintro rfl
    exact absurd hc (by decide)
end
theorem cmp_end {ns ms : List Int} {p : Nat} (pn : p ≤ ns.length) (pm : p ≤ ms.length) (e : Cm.cmpC ns ms = Cm.sg p * Cm.cmpC (ns.drop p) (ms.drop p)) (h1 : p = ns.length) (h2 : p = ms.length) : Cm.cmpC ns ms = 0 := by
  rw [e, h1]
  rw [List.drop_length]
  rw [← h1, h2, List.drop_length]
  show _ * 0 = 0
  omega
theorem cmp_gr {ns ms : List Int} {p : Nat} (e : Cm.cmpC ns ms = Cm.sg p * Cm.cmpC (ns.drop p) (ms.drop p)) (g : Bool) (h : Cm.cmpC (ns.drop p) (ms.drop p) = if g = true then 1 else -1) :
    Cm.cmpC ns ms = if (decide (V.bl g = V.bl (decide (V.int ((p : Int) % 2) = V.int 0)))) = true then 1 else -1 := by
  rw [e, h]
  have e2 : decide (V.int ((p : Int) % 2) = V.int 0) = decide (p % 2 = 0) := decide_eq_decide.mpr ⟨fun z => by have := V.int.inj z; omega, fun z => by congr 1; omega⟩
  rw [e2]
  unfold Cm.sg
  by_cases c : p % 2 = 0
  · rw [decide_eq_true c, if_pos c]
    cases g <;> rfl
  · rw [decide_eq_false c, if_neg c]
    cases g <;> rfl
def sp_compared (K : PySem.W.Frag) : Sp := fun vs H Q _ => ∃ (a b : Addr) (ns ms : List Int), vs = [.ref a, .ref b] ∧ SqL K H a (ns.map V.int) ∧ SqL K H b (ms.map V.int) ∧ ns.length ≤ 100000 ∧ ms.length ≤ 100000 ∧ chB ns = true ∧ chB ms = true ∧
  ∀ H', Same H H' → Q (.int (Cm.cmpC ns ms)) H'
section
variable {P : Program} {w : World} {K : PySem.W.Frag} {mg : Str → Option Value} {base : Heap}
theorem cal_compared (T : Txt K mg) : Cal P w K mg base CX0 5 "compared" (sp_compared K) := by
  have C_need_chain := cal_need_chain (P := P) (w := w) (base := base) T
  refine cal_ok T.d_compared sc_compared (fun vs H Q E h => ?_) (fun f cdv A outer s H vs Q E hr h => ?_)
  · obtain ⟨a, b, ns, ms, rfl, _⟩ := h
    rfl
  · refine ⟨_, (pss_cons (ps_expr (pe_c C_need_chain hr (by decide) (by rfl) (pa_cons (pv 0) pa_nil)))
      (pss_cons (ps_expr (pe_c C_need_chain hr (by decide) (by rfl) (pa_cons (pv 1) pa_nil)))
      (pss_cons (ps_set (i := 2) sc_compared.nd rfl (.inl rfl) pe_int)
      (Evl.pss_cut (ps_while PassesOwn.never (pt_mono (PW.pt (pw_and (pt_cmpR op_lt (pv 2) (pe_callB call_len_seq (by rfl) T.z_len PySem.boot_len (pa_cons (pv 0) pa_nil)) (nomark _)) (pw_and (pt_cmpR op_lt (pv 2) (pe_callB call_len_seq (by rfl) T.z_len PySem.boot_len (pa_cons (pv 1) pa_nil)) (nomark _)) (pw_and1 (pt_cmpR op_eq (pe_ix (r := rIxL K) ix_list (pv 0) (pv 2) (fun _ _ => rfl)) (pe_ix (r := rIxL K) ix_list (pv 1) (pv 2) (fun _ _ => rfl)) (nomark _)))))))
      (pss_one (ps_set (i := 2) sc_compared.nd rfl (.inl rfl) (pe_op op_add (pv 2) pe_int))))
      (Evl.pss_cut (ps_if (PW.pt (pw_and (pt_cmpR op_eq (pv 2) (pe_callB call_len_seq (by rfl) T.z_len PySem.boot_len (pa_cons (pv 0) pa_nil)) (nomark _)) (pw_and1 (pt_cmpR op_eq (pv 2) (pe_callB call_len_seq (by rfl) T.z_len PySem.boot_len (pa_cons (pv 1) pa_nil)) (nomark _))))) (pss_one (ps_ret pe_int)) pss_nil)
      (Evl.pss_cut (ps_set (i := 3) sc_compared.nd rfl (.inl rfl) (pe_and (pe_cmpR op_lt (pv 2) (pe_callB call_len_seq (by rfl) T.z_len PySem.boot_len (pa_cons (pv 1) pa_nil)) (nomark _)) (pe_one (pe_or (pe_cmpR op_eq (pv 2) (pe_callB call_len_seq (by rfl) T.z_len PySem.boot_len (pa_cons (pv 0) pa_nil)) (nomark _)) (pe_one (pe_cmpR op_gt (pe_ix (r := rIxL K) ix_list (pv 0) (pv 2) (fun _ _ => rfl)) (pe_ix (r := rIxL K) ix_list (pv 1) (pv 2) (fun _ _ => rfl)) (nomark _)))))))
      (pss_one (ps_ret (pe_ifExp (pt_cmpR op_eq (pv 3) (pe_cmpR op_eq (pe_op op_mod (pv 2) pe_int) pe_int (nomark _)) (nomark _)) pe_int (pe_un un_neg pe_int)))))))))), ?_⟩
    obtain ⟨a, b, ns, ms, rfl, hA, hB, ln, lm, cn, cm, q⟩ := h
    refine ⟨_, rfl, a, ns, rfl, hA, ln, cn, fun H1 s1 => ?_⟩
    refine ⟨_, rfl, b, ms, rfl, s1.seq hB, lm, cm, fun H2 s2 => ?_⟩
    have hA2 := (s1.trans s2).seq hA
    have hB2 := (s1.trans s2).seq hB
    replace q := q _ (s1.trans s2)
    clear cn cm ln lm hA hB s1 s2
    refine ⟨fun σ H' => ∃ p : Nat, σ = [some (.ref a), some (.ref b), some (.int (p : Int)), none] ∧ H2 = H' ∧ p ≤ ns.length ∧ p ≤ ms.length ∧ Cm.cmpC ns ms = Cm.sg p * Cm.cmpC (ns.drop p) (ms.drop p) ∧ (p = ns.length ∨ p = ms.length ∨ ∃ (h1 : p < ns.length) (h2 : p < ms.length), ns[p] ≠ ms[p]), ?_, ?_⟩
    · refine while_m (fun σ H' => ∃ p : Nat, σ = [some (.ref a), some (.ref b), some (.int (p : Int)), none] ∧ H2 = H' ∧ p ≤ ns.length ∧ p ≤ ms.length ∧ Cm.cmpC ns ms = Cm.sg p * Cm.cmpC (ns.drop p) (ms.drop p))
        (fun σ _ => match σ with | [_, _, some (.int p), _] => ns.length - p.toNat | _ => 0) ⟨0, rfl, rfl, Nat.zero_le _, Nat.zero_le _, by rw [List.drop_zero, List.drop_zero]; show _ = 1 * _; omega⟩ ?_
      rintro σ H' ⟨p, rfl, rfl, pn, pm, e⟩
      refine ⟨_, rfl, _, rfl, a, _, rfl, .inl hA2, _, _, rfl, rfl, _, rfl, ite2 (fun c1 => ?_) (fun c1 => ?_)⟩
      · have c1' : p < ns.length := by
          have := of_decide_eq_true c1
          rw [List.length_map] at this
          omega
        refine ⟨_, rfl, _, rfl, b, _, rfl, .inl hB2, _, _, rfl, rfl, _, rfl, ite2 (fun c2 => ?_) (fun c2 => ?_)⟩
        · have c2' : p < ms.length := by
            have := of_decide_eq_true c2
            rw [List.length_map] at this
            omega
          refine ⟨_, rfl, _, rfl, a, _, _, _, rfl, rfl, hA2, atI_int (List.getElem?_eq_getElem c1'), _, rfl, _, rfl, b, _, _, _, rfl, rfl, hB2, atI_int (List.getElem?_eq_getElem c2'), rfl, _, rfl, ite2 (fun c3 => ?_) (fun c3 => ?_)⟩
          · have c3' : ns[p] = ms[p] := V.int.inj (of_decide_eq_true c3)
            refine ⟨_, rfl, _, _, rfl, rfl, ⟨p + 1, rfl, rfl, c1', c2', by rw [e, Cm.cmp_drop c1' c2' c3']⟩, ?_⟩
            show ns.length - ((p : Int) + 1).toNat < ns.length - (p : Int).toNat
            omega
          · exact ⟨p, rfl, rfl, pn, pm, e, .inr (.inr ⟨c1', c2', fun z => c3 (decide_eq_true (by rw [z]))⟩)⟩
        · refine iteF ⟨p, rfl, rfl, pn, pm, e, .inr (.inl ?_)⟩
          have : ¬ p < ms.length := fun z => c2 (decide_eq_true (by rw [List.length_map]; omega))
          omega
      · refine iteF ⟨p, rfl, rfl, pn, pm, e, .inl ?_⟩
        have : ¬ p < ns.length := fun z => c1 (decide_eq_true (by rw [List.length_map]; omega))
        omega
    rintro σ H' ⟨p, rfl, rfl, pn, pm, e, hend⟩
    refine ⟨fun σ H' => σ = [some (.ref a), some (.ref b), some (.int (p : Int)), none] ∧ H2 = H' ∧ ¬ (p = ns.length ∧ p = ms.length), ?_, ?_⟩
    · refine ⟨_, rfl, _, rfl, a, _, rfl, .inl hA2, rfl, _, rfl, ite2 (fun c1 => ?_) (fun c1 => ?_)⟩
      · have c1' : p = ns.length := by
          have := V.int.inj (of_decide_eq_true c1)
          rw [List.length_map] at this
          omega
        refine ⟨_, rfl, _, rfl, b, _, rfl, .inl hB2, rfl, _, rfl, ite2 (fun c2 => ?_) (fun c2 => ?_)⟩
        · have c2' : p = ms.length := by
            have := V.int.inj (of_decide_eq_true c2)
            rw [List.length_map] at this
            omega
          rw [cmp_end pn pm e c1' c2'] at q
          exact q
        · exact ⟨rfl, rfl, fun z => c2 (decide_eq_true (by rw [List.length_map, z.2]))⟩
      · exact iteF ⟨rfl, rfl, fun z => c1 (decide_eq_true (by rw [List.length_map, z.1]))⟩
    rintro σ H' ⟨rfl, rfl, hno⟩
    refine ⟨fun σ H' => ∃ g : Bool, σ = [some (.ref a), some (.ref b), some (.int (p : Int)), some (.bl g)] ∧ H2 = H' ∧ Cm.cmpC (ns.drop p) (ms.drop p) = if g = true then 1 else -1, ?_, ?_⟩
    · refine ⟨_, rfl, _, rfl, b, _, rfl, .inl hB2, _, _, rfl, rfl, _, rfl, ite2 (fun c1 => ?_) (fun c1 => ?_)⟩
      · have c1' : p < ms.length := by
          have := of_decide_eq_true c1
          rw [List.length_map] at this
          omega
        refine ⟨_, rfl, _, rfl, a, _, rfl, .inl hA2, rfl, _, rfl, ite2 (fun c2 => ?_) (fun c2 => ?_)⟩
        · have c2' : p = ns.length := by
            have := V.int.inj (of_decide_eq_true c2)
            rw [List.length_map] at this
            omega
          refine ⟨true, rfl, rfl, ?_⟩
          rw [c2', List.drop_length, ← c2', List.drop_eq_getElem_cons c1']
          rfl
        · have c2' : p < ns.length := by
            have : ¬ p = ns.length := fun z => c2 (decide_eq_true (by rw [List.length_map, ← z]))
            omega
          refine ⟨_, rfl, _, rfl, a, _, _, _, rfl, rfl, hA2, atI_int (List.getElem?_eq_getElem c2'), _, rfl, _, rfl, b, _, _, _, rfl, rfl, hB2, atI_int (List.getElem?_eq_getElem c1'), _, _, rfl, rfl, decide (ms[p] < ns[p]), rfl, rfl, ?_⟩
          have ne : ns[p] ≠ ms[p] := by
            rcases hend with z | z | ⟨_, _, z⟩
            · omega
            · omega
            · exact z
          rw [List.drop_eq_getElem_cons c1', List.drop_eq_getElem_cons c2']
          show (if ns[p] = ms[p] then _ else if ms[p] < ns[p] then (1 : Int) else -1) = _
          rw [if_neg ne]
          by_cases z : ms[p] < ns[p]
          · rw [if_pos z, decide_eq_true z, if_pos rfl]
          · rw [if_neg z, decide_eq_false z, if_neg Bool.false_ne_true]
      · have c1' : p = ms.length := by
          have : ¬ p < ms.length := fun z => c1 (decide_eq_true (by rw [List.length_map]; omega))
          omega
        have c2' : p < ns.length := by
          have : ¬ p = ns.length := fun z => hno ⟨z, c1'⟩
          omega
        refine ⟨false, rfl, rfl, ?_⟩
        rw [c1', List.drop_length, ← c1', List.drop_eq_getElem_cons c2']
        rfl
    rintro σ H' ⟨g, rfl, rfl, eg⟩
    rw [cmp_gr e g eg] at q
    refine ⟨_, rfl, _, rfl, _, _, rfl, rfl, (show (0 : Int) < 2 by decide), rfl, rfl, _, rfl, ite2 (fun c1 => ?_) (fun c1 => ?_)⟩
    · rw [if_pos c1] at q
      exact q
    · rw [if_neg c1] at q
      exact ⟨_, rfl, q⟩
end
/-- what a word makes of two chains of numbers above 0: its chain, as a new list -/
def sp_reckoned (K : PySem.W.Frag) : Sp := fun vs H Q _ => ∃ (x : Str) (a b : Addr) (ns ms : List Int), vs = [.str x, .ref a, .ref b] ∧ SqL K H a (ns.map V.int) ∧ SqL K H b (ms.map V.int) ∧ ns.length ≤ 100000 ∧ ms.length ≤ 100000 ∧ x ∈ words ∧
  abvB ns = true ∧ abvB ms = true ∧ Sz ns ∧ Sz ms ∧ Bd 8999 (doneV x (Cm.W ns) (Cm.W ms)).2 ∧
  ∀ H' p, Same H H' → H p = none → H' p = some (.lst ((Cm.euc (doneV x (Cm.W ns) (Cm.W ms)).1 (doneV x (Cm.W ns) (Cm.W ms)).2).map V.int)) → Q (.ref p) H'
section
variable {P : Program} {w : World} {K : PySem.W.Frag} {mg : Str → Option Value} {base : Heap}
theorem cal_reckoned (T : Txt K mg) : Cal P w K mg base CX0 6 "reckoned" (sp_reckoned K) := by
  have C_need_word := cal_need_word (P := P) (w := w) (base := base) T
  have C_is_above := cal_is_above (P := P) (w := w) (base := base) T
  have C_worth := cal_worth (P := P) (w := w) (base := base) T
  have C_fraction_of := cal_fraction_of (P := P) (w := w) (base := base) T
  have C_quotients_of := cal_quotients_of (P := P) (w := w) (base := base) T
  refine cal_ok T.d_reckoned sc_reckoned (fun vs H Q E h => ?_) (fun f cdv A outer s H vs Q E hr h => ?_)
  · obtain ⟨x, a, b, ns, ms, rfl, _⟩ := h
    rfl
  · refine ⟨_, (pss_cons (ps_expr (pe_c C_need_word hr (by decide) (by rfl) (pa_cons (pv 0) pa_nil)))
      (pss_cons (ps_if (PW.pt (pw_or (pt_not (pt_val (pe_c C_is_above hr (by decide) (by rfl) (pa_cons (pv 1) pa_nil)))) (pw_or1 (pt_not (pt_val (pe_c C_is_above hr (by decide) (by rfl) (pa_cons (pv 2) pa_nil))))))) (pss_one ps_never) pss_nil)
      (pss_cons (ps_asg (pe_c C_worth hr (by decide) (by rfl) (pa_cons (pv 0) (pa_cons (pe_c C_fraction_of hr (by decide) (by rfl) (pa_cons (pv 1) pa_nil)) (pa_cons (pe_c C_fraction_of hr (by decide) (by rfl) (pa_cons (pv 2) pa_nil)) pa_nil)))) (pg_tup rfl (pgs_cons (pg_name (i := 3) sc_reckoned.nd rfl (.inl rfl)) (pgs_cons (pg_name (i := 4) sc_reckoned.nd rfl (.inl rfl)) pgs_nil))))
      (pss_one (ps_ret (pe_c C_quotients_of hr (by decide) (by rfl) (pa_cons (pv 3) (pa_cons (pv 4) pa_nil)))))))), ?_⟩
    obtain ⟨x, a, b, ns, ms, rfl, hA, hB, ln, lm, hx, an, am, zn, zm, hb, q⟩ := h
    refine ⟨_, rfl, x, rfl, hx, fun H1 s1 => ?_⟩
    refine ⟨_, rfl, _, _, rfl, thing_ints (s1.seq hA) ln, fun H2 s2 => ⟨_, rfl, ?_⟩⟩
    rw [onInts_ints, an]
    refine iteF ⟨_, rfl, _, _, rfl, thing_ints ((s1.trans s2).seq hB) lm, fun H3 s3 => ⟨_, rfl, ?_⟩⟩
    rw [onInts_ints, am]
    have s13 := (s1.trans s2).trans s3
    refine iteF ⟨_, rfl, _, rfl, a, ns, rfl, s13.seq hA, ln, abvB_chB an, zn, fun H4 f s4 nf ef => ?_⟩
    refine ⟨_, rfl, b, ms, rfl, (s13.trans s4).seq hB, lm, abvB_chB am, zm, fun H5 g s5 ng eg => ?_⟩
    have hf : HPr K H5 f (Cm.W ns) := sqT (s5 _ _ ef)
    have hg : HPr K H5 g (Cm.W ms) := sqT eg
    refine ⟨x, f, g, _, _, rfl, hf, hg, zn.bdF, zm.bdF, fun H6 p s6 np ep => ?_⟩
    refine ⟨p, _, rfl, sqT ep, rfl, _, _, rfl, _, _, rfl, rfl, ?_⟩
    obtain ⟨p1, p2⟩ := abv_pos an
    obtain ⟨p3, p4⟩ := abv_pos am
    have s16 := ((s13.trans s4).trans s5).trans s6
    refine ⟨_, rfl, _, rfl, _, _, rfl, done_pos p2 p3 p4, hb, fun H7 r s7 nr er => q _ r (s16.trans s7) (s16.free nr) er⟩
end
section
variable {P : Program} {w : World} {K : PySem.W.Frag} {mg : Str → Option Value} {base : Heap}
theorem ok_law {f : Addr} {fd : FuncData} (T : Txt K mg) (F : L2.Fun K "law" "law" s_law f fd) : FnOk P w K mg base CX0 7 f fd ["_law_script"] (spLaw K) := by
  have C_l_chain := cal_l_chain (P := P) (w := w) (base := base) T
  have C_reckoned := cal_reckoned (P := P) (w := w) (base := base) T
  have C_compared := cal_compared (P := P) (w := w) (base := base) T
  refine F.ok sc_law (fun vs H Q E h => ?_) (fun cdv A outer s H vs Q E hr h => ?_)
  · obtain ⟨a, ns, rfl, _⟩ := h
    rfl
  · refine ⟨_, (pss_cons (ps_set (i := 1) sc_law.nd rfl (.inl rfl) (pe_c C_l_chain hr (by decide) (by rfl) (pa_cons (pe_sliceK (pv 0) po_none (po_some pe_int)) pa_nil)))
      (pss_cons (ps_set (i := 2) sc_law.nd rfl (.inl rfl) (pe_c C_l_chain hr (by decide) (by rfl) (pa_cons (pe_sliceK (pv 0) (po_some pe_int) (po_some pe_int)) pa_nil)))
      (pss_cons (ps_set (i := 3) sc_law.nd rfl (.inl rfl) (pe_c C_l_chain hr (by decide) (by rfl) (pa_cons (pe_sliceK (pv 0) (po_some pe_int) (po_some pe_int)) pa_nil)))
      (pss_cons (ps_set (i := 4) sc_law.nd rfl (.inl rfl) (pe_c C_reckoned hr (by decide) (by rfl) (pa_cons pe_str (pa_cons (pv 1) (pa_cons (pv 2) pa_nil)))))
      (pss_cons (ps_set (i := 5) sc_law.nd rfl (.inl rfl) (pe_c C_reckoned hr (by decide) (by rfl) (pa_cons pe_str (pa_cons (pv 1) (pa_cons (pv 2) pa_nil)))))
      (pss_cons (ps_if (PW.pt (pw_or (pt_cmpR (r := rNeD K) (op_neD hr.units) (pv 4) (pe_c C_reckoned hr (by decide) (by rfl) (pa_cons pe_str (pa_cons (pv 2) (pa_cons (pv 1) pa_nil)))) (nomark _)) (pw_or1 (pt_cmpR (r := rNeD K) (op_neD hr.units) (pv 5) (pe_c C_reckoned hr (by decide) (by rfl) (pa_cons pe_str (pa_cons (pv 2) (pa_cons (pv 1) pa_nil)))) (nomark _))))) (pss_one (ps_ret pe_bl)) pss_nil)
      (pss_cons (ps_if (PW.pt (pw_or (pt_cmpR (r := rNeD K) (op_neD hr.units) (pe_c C_reckoned hr (by decide) (by rfl) (pa_cons pe_str (pa_cons (pv 4) (pa_cons (pv 2) pa_nil)))) (pv 1) (nomark _)) (pw_or1 (pt_cmpR (r := rNeD K) (op_neD hr.units) (pe_c C_reckoned hr (by decide) (by rfl) (pa_cons pe_str (pa_cons (pv 5) (pa_cons (pv 2) pa_nil)))) (pv 1) (nomark _))))) (pss_one (ps_ret pe_bl)) pss_nil)
      (pss_cons (ps_if (pt_cmpR (r := rNeD K) (op_neD hr.units) (pe_c C_reckoned hr (by decide) (by rfl) (pa_cons pe_str (pa_cons (pv 4) (pa_cons (pv 3) pa_nil)))) (pe_c C_reckoned hr (by decide) (by rfl) (pa_cons pe_str (pa_cons (pv 1) (pa_cons (pe_c C_reckoned hr (by decide) (by rfl) (pa_cons pe_str (pa_cons (pv 2) (pa_cons (pv 3) pa_nil)))) pa_nil)))) (nomark _)) (pss_one (ps_ret pe_bl)) pss_nil)
      (pss_cons (ps_if (pt_cmpR (r := rNeD K) (op_neD hr.units) (pe_c C_reckoned hr (by decide) (by rfl) (pa_cons pe_str (pa_cons (pv 5) (pa_cons (pv 3) pa_nil)))) (pe_c C_reckoned hr (by decide) (by rfl) (pa_cons pe_str (pa_cons (pv 1) (pa_cons (pe_c C_reckoned hr (by decide) (by rfl) (pa_cons pe_str (pa_cons (pv 2) (pa_cons (pv 3) pa_nil)))) pa_nil)))) (nomark _)) (pss_one (ps_ret pe_bl)) pss_nil)
      (pss_cons (ps_set (i := 6) sc_law.nd rfl (.inl rfl) (pe_c C_reckoned hr (by decide) (by rfl) (pa_cons pe_str (pa_cons (pe_c C_reckoned hr (by decide) (by rfl) (pa_cons pe_str (pa_cons (pv 1) (pa_cons (pv 3) pa_nil)))) (pa_cons (pe_c C_reckoned hr (by decide) (by rfl) (pa_cons pe_str (pa_cons (pv 2) (pa_cons (pv 3) pa_nil)))) pa_nil)))))
      (pss_cons (ps_if (PW.pt (pw_or (pt_cmpR (r := rNeD K) (op_neD hr.units) (pe_c C_reckoned hr (by decide) (by rfl) (pa_cons pe_str (pa_cons (pv 4) (pa_cons (pv 3) pa_nil)))) (pv 6) (nomark _)) (pw_or1 (pt_cmpR (r := rNeD K) (op_neD hr.units) (pe_c C_reckoned hr (by decide) (by rfl) (pa_cons pe_str (pa_cons (pv 6) (pa_cons (pv 3) pa_nil)))) (pv 4) (nomark _))))) (pss_one (ps_ret pe_bl)) pss_nil)
      (pss_cons (ps_if (PW.pt (pw_or (pt_cmpR (r := rNeD K) (op_neD hr.units) (pe_c C_reckoned hr (by decide) (by rfl) (pa_cons pe_str (pa_cons (pv 3) (pa_cons (pv 3) pa_nil)))) (pe_lst (pa_cons pe_int pa_nil)) (nomark _)) (pw_or1 (pt_cmpR (r := rNeD K) (op_neD hr.units) (pe_c C_reckoned hr (by decide) (by rfl) (pa_cons pe_str (pa_cons (pv 3) (pa_cons (pv 3) pa_nil)))) (pe_lst (pa_cons pe_int pa_nil)) (nomark _))))) (pss_one (ps_ret pe_bl)) pss_nil)
      (pss_cons (ps_set (i := 7) sc_law.nd rfl (.inl rfl) (pe_c C_reckoned hr (by decide) (by rfl) (pa_cons pe_str (pa_cons (pv 1) (pa_cons (pv 2) pa_nil)))))
      (pss_one (ps_ret (pe_and (pe_cmpR op_eq (pe_c C_compared hr (by decide) (by rfl) (pa_cons (pv 7) (pa_cons (pe_lst (pa_cons pe_int pa_nil)) pa_nil))) (pe_c C_compared hr (by decide) (by rfl) (pa_cons (pv 1) (pa_cons (pv 2) pa_nil))) (nomark _)) (pe_one (pe_cmpR op_eq (pe_c C_compared hr (by decide) (by rfl) (pa_cons (pv 4) (pa_cons (pv 1) pa_nil))) pe_int (nomark _))))))))))))))))))), ?_⟩
    obtain ⟨a, ns, rfl, hS, hlen, q⟩ := h
    refine ⟨_, rfl, _, rfl, a, _, rfl, hS, fun c nc => ?_⟩
    (generalize hH_ : upd _ c _ = H1; have s1 := same_of hH_ nc; have ec := at_new hH_; clear hH_)
    rw [pickV_map] at ec
    have hl1 : (pickV ns none (some 60) 3).length ≤ 20 := pickV_len ns none 60 3 (by decide) (by simp)
    refine ⟨c, _, 20, rfl, sqL ec, hl1, by decide, by decide, fun H2 p1 l1 s2 np1 ep1 a1 ln1 b1 => ?_⟩
    have s02 := s1.trans s2
    refine ⟨_, rfl, 1, rfl, _, rfl, a, _, rfl, s02.seq hS, fun c2 nc2 => ?_⟩
    (generalize hH_ : upd _ c2 _ = H3; have s3 := same_of hH_ nc2; have ec2 := at_new hH_; clear hH_)
    rw [pickV_map] at ec2
    have hl2 : (pickV ns (some 1) (some 60) 3).length ≤ 20 := pickV_len ns (some 1) 60 3 (by decide) (by intro i h; cases h; decide)
    refine ⟨c2, _, 20, rfl, sqL ec2, hl2, by decide, by decide, fun H4 p2 l2 s4 np2 ep2 a2 ln2 b2 => ?_⟩
    have s04 := (s02.trans s3).trans s4
    refine ⟨_, rfl, 2, rfl, _, rfl, a, _, rfl, s04.seq hS, fun c3 nc3 => ?_⟩
    (generalize hH_ : upd _ c3 _ = H5; have s5 := same_of hH_ nc3; have ec3 := at_new hH_; clear hH_)
    rw [pickV_map] at ec3
    have hl3 : (pickV ns (some 2) (some 60) 3).length ≤ 20 := pickV_len ns (some 2) 60 3 (by decide) (by intro i h; cases h; decide)
    refine ⟨c3, _, 20, rfl, sqL ec3, hl3, by decide, by decide, fun H6 p3 l3 s6 np3 ep3 a3 ln3 b3 => ?_⟩
    have ep1' := s6 _ _ (s5 _ _ (s4 _ _ (s3 _ _ ep1)))
    have ep2' := s6 _ _ (s5 _ _ ep2)
    clear hl1 hl2 hl3 ec ec2 ec3 s1 s2 s3 s4 s5 s6 nc nc2 nc3 s02 s04 np1 np2 np3 ep1 ep2
    have N1 : Num 2021 l1 (Cm.W l1) := num_of a1 ⟨(W_bd' (m := 20) b1 ln1).1, (W_bd' (m := 20) b1 ln1).2⟩
    have N2 : Num 2021 l2 (Cm.W l2) := num_of a2 ⟨(W_bd' (m := 20) b2 ln2).1, (W_bd' (m := 20) b2 ln2).2⟩
    have N3 : Num 2021 l3 (Cm.W l3) := num_of a3 ⟨(W_bd' (m := 20) b3 ln3).1, (W_bd' (m := 20) b3 ln3).2⟩
    clear a1 a2 a3 b1 b2 b3 ln1 ln2 ln3
    have x1 : ("plus" : Str) ∈ words := by decide
    have x2 : ("less" : Str) ∈ words := by decide
    have x3 : ("times" : Str) ∈ words := by decide
    have x4 : ("over" : Str) ∈ words := by decide
    -- _law_total, _law_product
    refine ⟨_, rfl, _, rfl, ?_⟩
    refine ⟨_, _, _, _, _, rfl, sqL ep1', sqL ep2', N1.l5 (by decide), N2.l5 (by decide), x1, N1.abv, N2.abv, N1.sz (by decide), N2.sz (by decide), N1.rbd N2 (by decide), fun H7 pt s7 _ et => ?_⟩
    rw [(N1.done N2 _).2.1] at et
    refine ⟨_, rfl, _, rfl, ?_⟩
    refine ⟨_, _, _, _, _, rfl, sqL (s7 _ _ ep1'), sqL (s7 _ _ ep2'), N1.l5 (by decide), N2.l5 (by decide), x3, N1.abv, N2.abv, N1.sz (by decide), N2.sz (by decide), N1.rbd N2 (by decide), fun H8 pp s8 _ ep => ?_⟩
    rw [(N1.done N2 _).2.1] at ep
    replace et := s8 _ _ et
    have g1 := s8 _ _ (s7 _ _ ep1')
    have g2 := s8 _ _ (s7 _ _ ep2')
    have g3 := s8 _ _ (s7 _ _ ep3)
    clear ep1' ep2' ep3 s7 s8
    generalize Cm.W l1 = u at *
    generalize Cm.W l2 = v at *
    generalize Cm.W l3 = z at *
    have u1 := N1.top
    have u2 := N1.bot
    have v1 := N2.top
    have v2 := N2.bot
    have z1 := N3.top
    have z2 := N3.bot
    have p11 := Int.mul_pos u1 v1
    have p12 := Int.mul_pos u1 v2
    have p21 := Int.mul_pos v1 u2
    have p22 := Int.mul_pos u2 v2
    have NT := N1.res N2 "plus" (by rw [done_plus]; show 0 < u.1 * v.2 + v.1 * u.2; omega)
    have NP := N1.res N2 "times" (by rw [done_times]; exact p11)
    rw [done_plus] at et NT
    rw [done_times] at ep NP
    generalize Cm.euc (u.1 * v.2 + v.1 * u.2, u.2 * v.2).1 (u.1 * v.2 + v.1 * u.2, u.2 * v.2).2 = lt at *
    generalize Cm.euc (u.1 * v.1, u.2 * v.2).1 (u.1 * v.1, u.2 * v.2).2 = lp at *
    -- either way about
    refine ⟨_, rfl, _, rfl, _, rfl, ?_⟩
    refine ⟨_, _, _, _, _, rfl, sqL g2, sqL g1, N2.l5 (by decide), N1.l5 (by decide), x1, N2.abv, N1.abv, N2.sz (by decide), N1.sz (by decide), N2.rbd N1 (by decide), fun H9 r1 s9 _ e1 => ?_⟩
    rw [(N2.done N1 _).2.1] at e1
    rw [done_plus, show Cm.euc (v.1 * u.2 + u.1 * v.2, v.2 * u.2).1 (v.1 * u.2 + u.1 * v.2, v.2 * u.2).2 = lt from NT.eq (Int.mul_pos v2 u2) (by dsimp only; grind)] at e1
    refine ⟨_, _, dp_ints (sqL (s9 _ _ et)), dp_ints (sqL e1), shaped_ints _, shaped_ints _, ?_⟩
    rw [eqv_ints, decide_eq_true rfl]
    refine ⟨_, rfl, iteF ⟨_, rfl, _, rfl, _, rfl, ?_⟩⟩
    refine ⟨_, _, _, _, _, rfl, sqL (s9 _ _ g2), sqL (s9 _ _ g1), N2.l5 (by decide), N1.l5 (by decide), x3, N2.abv, N1.abv, N2.sz (by decide), N1.sz (by decide), N2.rbd N1 (by decide), fun H10 r2 s10 _ e2 => ?_⟩
    rw [(N2.done N1 _).2.1] at e2
    rw [done_times, show Cm.euc (v.1 * u.1, v.2 * u.2).1 (v.1 * u.1, v.2 * u.2).2 = lp from NP.eq (Int.mul_pos v2 u2) (by dsimp only; grind)] at e2
    have s810 := s9.trans s10
    refine ⟨_, _, dp_ints (sqL (s810 _ _ ep)), dp_ints (sqL e2), shaped_ints _, shaped_ints _, ?_⟩
    rw [eqv_ints, decide_eq_true rfl]
    refine ⟨_, rfl, iteF ?_⟩
    -- less total other, over product other
    refine ⟨_, rfl, _, rfl, ?_⟩
    refine ⟨_, _, _, _, _, rfl, sqL (s810 _ _ et), sqL (s810 _ _ g2), NT.l5 (by decide), N2.l5 (by decide), x2, NT.abv, N2.abv, NT.sz (by decide), N2.sz (by decide), NT.rbd N2 (by decide), fun H11 r3 s11 _ e3 => ?_⟩
    rw [(NT.done N2 _).2.1] at e3
    replace e3 := N1.at e3 (NT.done N2 _).1 (by simp only [done_less]; grind)
    have s811 := s810.trans s11
    refine ⟨_, rfl, _, _, dp_ints (sqL e3), dp_ints (sqL (s811 _ _ g1)), shaped_ints _, shaped_ints _, ?_⟩
    rw [eqv_ints, decide_eq_true rfl]
    refine ⟨_, rfl, iteF ⟨_, rfl, _, rfl, ?_⟩⟩
    refine ⟨_, _, _, _, _, rfl, sqL (s811 _ _ ep), sqL (s811 _ _ g2), NP.l5 (by decide), N2.l5 (by decide), x4, NP.abv, N2.abv, NP.sz (by decide), N2.sz (by decide), NP.rbd N2 (by decide), fun H12 r4 s12 _ e4 => ?_⟩
    rw [(NP.done N2 _).2.1] at e4
    replace e4 := N1.at e4 (NP.done N2 _).1 (by simp only [done_over]; grind)
    have s812 := s811.trans s12
    refine ⟨_, rfl, _, _, dp_ints (sqL e4), dp_ints (sqL (s812 _ _ g1)), shaped_ints _, shaped_ints _, ?_⟩
    rw [eqv_ints, decide_eq_true rfl]
    refine ⟨_, rfl, iteF ?_⟩
    -- sums of sums
    have q13 := Int.mul_pos u1 z2
    have q23 := Int.mul_pos v1 z2
    have q31 := Int.mul_pos z1 u2
    have q32 := Int.mul_pos z1 v2
    refine ⟨_, rfl, _, rfl, ?_⟩
    refine ⟨_, _, _, _, _, rfl, sqL (s812 _ _ et), sqL (s812 _ _ g3), NT.l5 (by decide), N3.l5 (by decide), x1, NT.abv, N3.abv, NT.sz (by decide), N3.sz (by decide), NT.rbd N3 (by decide), fun H13 r5 s13 _ e5 => ?_⟩
    rw [(NT.done N3 _).2.1] at e5
    have NA := NT.res N3 "plus" (by
      have a1 := Int.mul_pos NT.top z2
      have a2 := Int.mul_pos z1 NT.bot
      simp only [done_plus] at a1 a2 ⊢
      omega)
    have s813 := s812.trans s13
    refine ⟨_, rfl, _, rfl, _, rfl, ?_⟩
    refine ⟨_, _, _, _, _, rfl, sqL (s813 _ _ g2), sqL (s813 _ _ g3), N2.l5 (by decide), N3.l5 (by decide), x1, N2.abv, N3.abv, N2.sz (by decide), N3.sz (by decide), N2.rbd N3 (by decide), fun H14 r6 s14 _ e6 => ?_⟩
    rw [(N2.done N3 _).2.1] at e6
    have NB := N2.res N3 "plus" (by simp only [done_plus]; omega)
    have s814 := s813.trans s14
    refine ⟨_, _, _, _, _, rfl, sqL (s814 _ _ g1), sqL e6, N1.l5 (by decide), NB.l5 (by decide), x1, N1.abv, NB.abv, N1.sz (by decide), NB.sz (by decide), N1.rbd NB (by decide), fun H15 r7 s15 _ e7 => ?_⟩
    rw [(N1.done NB _).2.1] at e7
    replace e7 := NA.at e7 (N1.done NB _).1 (by simp only [done_plus]; grind)
    have s815 := s814.trans s15
    refine ⟨_, _, dp_ints (sqL (s15 _ _ (s14 _ _ e5))), dp_ints (sqL e7), shaped_ints _, shaped_ints _, ?_⟩
    rw [eqv_ints, decide_eq_true rfl]
    refine ⟨_, rfl, iteF ?_⟩
    clear NA NB e1 e2 e3 e4 e5 e6 e7
    -- products of products
    refine ⟨_, rfl, _, rfl, ?_⟩
    refine ⟨_, _, _, _, _, rfl, sqL (s815 _ _ ep), sqL (s815 _ _ g3), NP.l5 (by decide), N3.l5 (by decide), x3, NP.abv, N3.abv, NP.sz (by decide), N3.sz (by decide), NP.rbd N3 (by decide), fun H16 r8 s16 _ e8 => ?_⟩
    rw [(NP.done N3 _).2.1] at e8
    have NC := NP.res N3 "times" (by simp only [done_times]; exact Int.mul_pos p11 z1)
    have s816 := s815.trans s16
    refine ⟨_, rfl, _, rfl, _, rfl, ?_⟩
    refine ⟨_, _, _, _, _, rfl, sqL (s816 _ _ g2), sqL (s816 _ _ g3), N2.l5 (by decide), N3.l5 (by decide), x3, N2.abv, N3.abv, N2.sz (by decide), N3.sz (by decide), N2.rbd N3 (by decide), fun H17 r9 s17 _ e9 => ?_⟩
    rw [(N2.done N3 _).2.1] at e9
    have ND := N2.res N3 "times" (by simp only [done_times]; exact Int.mul_pos v1 z1)
    have s817 := s816.trans s17
    refine ⟨_, _, _, _, _, rfl, sqL (s817 _ _ g1), sqL e9, N1.l5 (by decide), ND.l5 (by decide), x3, N1.abv, ND.abv, N1.sz (by decide), ND.sz (by decide), N1.rbd ND (by decide), fun H18 ra s18 _ ea => ?_⟩
    rw [(N1.done ND _).2.1] at ea
    replace ea := NC.at ea (N1.done ND _).1 (by simp only [done_times]; grind)
    have s818 := s817.trans s18
    refine ⟨_, _, dp_ints (sqL (s18 _ _ (s17 _ _ e8))), dp_ints (sqL ea), shaped_ints _, shaped_ints _, ?_⟩
    rw [eqv_ints, decide_eq_true rfl]
    refine ⟨_, rfl, iteF ?_⟩
    clear NC ND e8 e9 ea
    -- a product of a sum
    refine ⟨_, rfl, _, rfl, ?_⟩
    refine ⟨_, _, _, _, _, rfl, sqL (s818 _ _ g1), sqL (s818 _ _ g3), N1.l5 (by decide), N3.l5 (by decide), x3, N1.abv, N3.abv, N1.sz (by decide), N3.sz (by decide), N1.rbd N3 (by decide), fun H19 rb s19 _ eb => ?_⟩
    rw [(N1.done N3 _).2.1] at eb
    have NE := N1.res N3 "times" (by simp only [done_times]; exact Int.mul_pos u1 z1)
    have s819 := s818.trans s19
    refine ⟨_, rfl, _, rfl, ?_⟩
    refine ⟨_, _, _, _, _, rfl, sqL (s819 _ _ g2), sqL (s819 _ _ g3), N2.l5 (by decide), N3.l5 (by decide), x3, N2.abv, N3.abv, N2.sz (by decide), N3.sz (by decide), N2.rbd N3 (by decide), fun H20 rc s20 _ ec => ?_⟩
    rw [(N2.done N3 _).2.1] at ec
    have NF := N2.res N3 "times" (by simp only [done_times]; exact Int.mul_pos v1 z1)
    have s820 := s819.trans s20
    refine ⟨_, _, _, _, _, rfl, sqL (s20 _ _ eb), sqL ec, NE.l5 (by decide), NF.l5 (by decide), x1, NE.abv, NF.abv, NE.sz (by decide), NF.sz (by decide), NE.rbd NF (by decide), fun H21 pb s21 _ ebo => ?_⟩
    rw [(NE.done NF _).2.1] at ebo
    have s821 := s820.trans s21
    have NG0 := NE.res NF "plus" (by
      have a1 := Int.mul_pos NE.top NF.bot
      have a2 := Int.mul_pos NF.top NE.bot
      simp only [done_plus] at a1 a2 ⊢
      omega)
    have NG := NT.res N3 "times" (by simp only [done_times]; exact Int.mul_pos NT.top z1)
    replace ebo := NG.at ebo (NE.done NF _).1 (by simp only [done_plus, done_times]; grind)
    clear NE NF NG0 eb ec
    refine ⟨_, rfl, _, rfl, ?_⟩
    refine ⟨_, _, _, _, _, rfl, sqL (s821 _ _ et), sqL (s821 _ _ g3), NT.l5 (by decide), N3.l5 (by decide), x3, NT.abv, N3.abv, NT.sz (by decide), N3.sz (by decide), NT.rbd N3 (by decide), fun H22 rd s22 _ ed => ?_⟩
    rw [(NT.done N3 _).2.1] at ed
    have s822 := s821.trans s22
    refine ⟨_, rfl, _, _, dp_ints (sqL ed), dp_ints (sqL (s22 _ _ ebo)), shaped_ints _, shaped_ints _, ?_⟩
    rw [eqv_ints, decide_eq_true rfl]
    refine ⟨_, rfl, iteF ⟨_, rfl, _, rfl, ?_⟩⟩
    refine ⟨_, _, _, _, _, rfl, sqL (s22 _ _ ebo), sqL (s822 _ _ g3), NG.l5 (by decide), N3.l5 (by decide), x4, NG.abv, N3.abv, NG.sz (by decide), N3.sz (by decide), NG.rbd N3 (by decide), fun H23 re s23 _ ee => ?_⟩
    rw [(NG.done N3 _).2.1] at ee
    replace ee := NT.at ee (NG.done N3 _).1 (by simp only [done_over, done_times]; grind)
    have s823 := s822.trans s23
    refine ⟨_, rfl, _, _, dp_ints (sqL ee), dp_ints (sqL (s823 _ _ et)), shaped_ints _, shaped_ints _, ?_⟩
    rw [eqv_ints, decide_eq_true rfl]
    refine ⟨_, rfl, iteF ?_⟩
    clear NG ebo ed ee
    -- a number over itself, less itself
    have w1 : Cm.W [1] = (1, 1) := Cm.W_one 1
    have w0 : Cm.W [0] = (0, 1) := Cm.W_one 0
    refine ⟨_, rfl, _, rfl, ?_⟩
    refine ⟨_, _, _, _, _, rfl, sqL (s823 _ _ g3), sqL (s823 _ _ g3), N3.l5 (by decide), N3.l5 (by decide), x4, N3.abv, N3.abv, N3.sz (by decide), N3.sz (by decide), N3.rbd N3 (by decide), fun H24 rf s24 _ ef => ?_⟩
    rw [(N3.done N3 _).2.1] at ef
    rw [Cm.euc_of (N3.done N3 "over").1 (show Cm.Ch [1] from trivial) (by rw [w1]; simp only [done_over]; grind)] at ef
    have s824 := s823.trans s24
    refine ⟨by decide, fun c1 nc1 => ?_⟩
    (generalize hH_ : upd _ c1 _ = H25; have s25 := same_of hH_ nc1; have ec1 := at_new hH_; clear hH_)
    have s825 := s824.trans s25
    refine ⟨_, _, dp_ints (sqL (s25 _ _ ef)), dp_ints (ns := [1]) (sqL ec1), shaped_ints _, shaped_ints _, ?_⟩
    rw [eqv_ints, decide_eq_true rfl]
    refine ⟨_, rfl, iteF ⟨_, rfl, _, rfl, ?_⟩⟩
    refine ⟨_, _, _, _, _, rfl, sqL (s825 _ _ g3), sqL (s825 _ _ g3), N3.l5 (by decide), N3.l5 (by decide), x2, N3.abv, N3.abv, N3.sz (by decide), N3.sz (by decide), N3.rbd N3 (by decide), fun H26 rg s26 _ eg => ?_⟩
    rw [(N3.done N3 _).2.1] at eg
    rw [Cm.euc_of (N3.done N3 "less").1 (show Cm.Ch [0] from trivial) (by rw [w0]; simp only [done_less]; grind)] at eg
    have s826 := s825.trans s26
    refine ⟨by decide, fun c2 nc2 => ?_⟩
    (generalize hH_ : upd _ c2 _ = H27; have s27 := same_of hH_ nc2; have ec2 := at_new hH_; clear hH_)
    have s827 := s826.trans s27
    refine ⟨_, _, dp_ints (sqL (s27 _ _ eg)), dp_ints (ns := [0]) (sqL ec2), shaped_ints _, shaped_ints _, ?_⟩
    rw [eqv_ints, decide_eq_true rfl]
    refine ⟨_, rfl, iteF ?_⟩
    -- the difference
    refine ⟨_, rfl, _, rfl, ?_⟩
    refine ⟨_, _, _, _, _, rfl, sqL (s827 _ _ g1), sqL (s827 _ _ g2), N1.l5 (by decide), N2.l5 (by decide), x2, N1.abv, N2.abv, N1.sz (by decide), N2.sz (by decide), N1.rbd N2 (by decide), fun H28 rh s28 _ eh => ?_⟩
    rw [(N1.done N2 _).2.1] at eh
    have s828 := s827.trans s28
    obtain ⟨dp, _, db⟩ := N1.done N2 "less"
    obtain ⟨dc, k, k0, dk1, dk2⟩ := Cm.euc_ok (t := (doneV "less" u v).1) dp
    generalize Cm.euc (doneV "less" u v).1 (doneV "less" u v).2 = lr at *
    have dl : lr.length ≤ 18000 := by
      have := euc_len' (t := (Cm.W lr).1) (db.bot.mono (by decide))
      rwa [Cm.euc_W1 dc] at this
    obtain ⟨hc1, k1, k10, ku⟩ := N1.sc
    obtain ⟨hc2, k2, k20, kv⟩ := N2.sc
    obtain ⟨hct, kt, kt0, kf⟩ := NT.sc
    have o1 : Cm.cmpC lr [0] = Cm.sgn (u.1 * v.2 - v.1 * u.2) := by
      rw [Cm.cmp_by (k := k) (j := 1) dc (show Cm.Ch [0] from trivial) k0 (by decide) rfl rfl rfl rfl, ← dk1, w0, done_less]
      congr 1
      simp only []
      grind
    have o2 : Cm.cmpC l1 l2 = Cm.sgn (u.1 * v.2 - v.1 * u.2) :=
      Cm.cmp_by hc1 hc2 k10 k20 (congrArg Prod.fst ku) (congrArg Prod.snd ku) (congrArg Prod.fst kv) (congrArg Prod.snd kv)
    have o3 : Cm.cmpC lt l1 = 1 := by
      rw [Cm.cmp_by hct hc1 kt0 k10 (congrArg Prod.fst kf) (congrArg Prod.snd kf) (congrArg Prod.fst ku) (congrArg Prod.snd ku)]
      refine Cm.sgn_pos ?_
      have : (u.1 * v.2 + v.1 * u.2) * u.2 - u.1 * (u.2 * v.2) = v.1 * u.2 * u.2 := by grind
      rw [this]
      exact Int.mul_pos p21 u2
    refine ⟨_, rfl, by decide, fun c3 nc3 => ?_⟩
    (generalize hH_ : upd _ c3 _ = H29; have s29 := same_of hH_ nc3; have ec3 := at_new hH_; clear hH_)
    have s829 := s828.trans s29
    refine ⟨rh, c3, lr, [0], rfl, sqL (s29 _ _ eh), sqL ec3, by omega, by decide, (chB_iff _).mpr dc, by decide, fun H30 s30 => ?_⟩
    have s830 := s829.trans s30
    refine ⟨_, rfl, _, rfl, _, _, l1, l2, rfl, sqL (s830 _ _ g1), sqL (s830 _ _ g2), N1.l5 (by decide), N2.l5 (by decide), N1.chB, N2.chB, fun H31 s31 => ?_⟩
    have s831 := s830.trans s31
    rw [o1, o2]
    refine ⟨rfl, _, rfl, ?_⟩
    rw [decide_eq_true rfl]
    refine iteT ⟨_, rfl, _, rfl, pt, p1, lt, l1, rfl, sqL (s831 _ _ et), sqL (s831 _ _ g1), NT.l5 (by decide), N1.l5 (by decide), NT.chB, N1.chB, fun H32 s32 => ?_⟩
    rw [o3]
    exact ⟨rfl, q _⟩
end
theorem txt_mk {K : PySem.W.Frag} {h : Heap} {mg : Str → Option Value} {f1 f2 f3 f4 f5 f6 f7 f8 f9 f10 f11 f12 f13 f14 f15 : Addr} (X : K.In h) (G : h.Ns mainGlobals mg)
    {od1 od2 od3 od4 od5 od6 od7 od8 od9 od10 od11 od12 od13 od14 od15 an1 an2 an3 an4 an5 an6 an7 an8 an9 an10 an11 an12 an13 an14 an15 : Option Addr} {sl1 sl2 sl3 sl4 sl5 sl6 sl7 sl8 sl9 sl10 sl11 sl12 sl13 sl14 sl15 : Array (Option Value)} {oc1 oc2 oc3 oc4 oc5 oc6 oc7 oc8 oc9 oc10 oc11 oc12 oc13 oc14 oc15 kV1 kV2 kV3 kV4 kV5 kV6 kV7 kV8 kV9 kV10 kV11 kV12 kV13 kV14 kV15 dc1 dc2 dc3 dc4 dc5 dc6 dc7 dc8 dc9 dc10 dc11 dc12 dc13 dc14 dc15 pm1 pm2 pm3 pm4 pm5 pm6 pm7 pm8 pm9 pm10 pm11 pm12 pm13 pm14 pm15 cd1 cd2 cd3 cd4 cd5 cd6 cd7 cd8 cd9 cd10 cd11 cd12 cd13 cd14 cd15 ct1 ct2 ct3 ct4 ct5 ct6 ct7 ct8 ct9 ct10 ct11 ct12 ct13 ct14 ct15 : Value}
    (a1 : PySem.W.nsIn K mainGlobals "is_whole" = some (some (.ref f1))) (l1 : K.lookup f1 = some ⟨oc1, od1, .func (PySem.W.fnOf "is_whole" "is_whole" (defArgs s_is_whole) (defBody s_is_whole) (defScope s_is_whole) .none kV1 dc1 pm1 an1 cd1 ct1), sl1⟩) (c1 : PySem.W.codeIn K cd1 "is_whole" = true) (k1 : PySem.W.keepIn K (.ref f1) = true)
    (a2 : PySem.W.nsIn K mainGlobals "are_quotients" = some (some (.ref f2))) (l2 : K.lookup f2 = some ⟨oc2, od2, .func (PySem.W.fnOf "are_quotients" "are_quotients" (defArgs s_are_quotients) (defBody s_are_quotients) (defScope s_are_quotients) .none kV2 dc2 pm2 an2 cd2 ct2), sl2⟩) (c2 : PySem.W.codeIn K cd2 "are_quotients" = true) (k2 : PySem.W.keepIn K (.ref f2) = true)
    (a3 : PySem.W.nsIn K mainGlobals "is_chain" = some (some (.ref f3))) (l3 : K.lookup f3 = some ⟨oc3, od3, .func (PySem.W.fnOf "is_chain" "is_chain" (defArgs s_is_chain) (defBody s_is_chain) (defScope s_is_chain) .none kV3 dc3 pm3 an3 cd3 ct3), sl3⟩) (c3 : PySem.W.codeIn K cd3 "is_chain" = true) (k3 : PySem.W.keepIn K (.ref f3) = true)
    (a4 : PySem.W.nsIn K mainGlobals "is_above" = some (some (.ref f4))) (l4 : K.lookup f4 = some ⟨oc4, od4, .func (PySem.W.fnOf "is_above" "is_above" (defArgs s_is_above) (defBody s_is_above) (defScope s_is_above) .none kV4 dc4 pm4 an4 cd4 ct4), sl4⟩) (c4 : PySem.W.codeIn K cd4 "is_above" = true) (k4 : PySem.W.keepIn K (.ref f4) = true)
    (a5 : PySem.W.nsIn K mainGlobals "need_chain" = some (some (.ref f5))) (l5 : K.lookup f5 = some ⟨oc5, od5, .func (PySem.W.fnOf "need_chain" "need_chain" (defArgs s_need_chain) (defBody s_need_chain) (defScope s_need_chain) .none kV5 dc5 pm5 an5 cd5 ct5), sl5⟩) (c5 : PySem.W.codeIn K cd5 "need_chain" = true) (k5 : PySem.W.keepIn K (.ref f5) = true)
    (a6 : PySem.W.nsIn K mainGlobals "told_by" = some (some (.ref f6))) (l6 : K.lookup f6 = some ⟨oc6, od6, .func (PySem.W.fnOf "told_by" "told_by" (defArgs s_told_by) (defBody s_told_by) (defScope s_told_by) .none kV6 dc6 pm6 an6 cd6 ct6), sl6⟩) (c6 : PySem.W.codeIn K cd6 "told_by" = true) (k6 : PySem.W.keepIn K (.ref f6) = true)
    (a7 : PySem.W.nsIn K mainGlobals "fraction_of" = some (some (.ref f7))) (l7 : K.lookup f7 = some ⟨oc7, od7, .func (PySem.W.fnOf "fraction_of" "fraction_of" (defArgs s_fraction_of) (defBody s_fraction_of) (defScope s_fraction_of) .none kV7 dc7 pm7 an7 cd7 ct7), sl7⟩) (c7 : PySem.W.codeIn K cd7 "fraction_of" = true) (k7 : PySem.W.keepIn K (.ref f7) = true)
    (a8 : PySem.W.nsIn K mainGlobals "quotients_of" = some (some (.ref f8))) (l8 : K.lookup f8 = some ⟨oc8, od8, .func (PySem.W.fnOf "quotients_of" "quotients_of" (defArgs s_quotients_of) (defBody s_quotients_of) (defScope s_quotients_of) .none kV8 dc8 pm8 an8 cd8 ct8), sl8⟩) (c8 : PySem.W.codeIn K cd8 "quotients_of" = true) (k8 : PySem.W.keepIn K (.ref f8) = true)
    (a9 : PySem.W.nsIn K mainGlobals "compared" = some (some (.ref f9))) (l9 : K.lookup f9 = some ⟨oc9, od9, .func (PySem.W.fnOf "compared" "compared" (defArgs s_compared) (defBody s_compared) (defScope s_compared) .none kV9 dc9 pm9 an9 cd9 ct9), sl9⟩) (c9 : PySem.W.codeIn K cd9 "compared" = true) (k9 : PySem.W.keepIn K (.ref f9) = true)
    (a10 : PySem.W.nsIn K mainGlobals "need_word" = some (some (.ref f10))) (l10 : K.lookup f10 = some ⟨oc10, od10, .func (PySem.W.fnOf "need_word" "need_word" (defArgs s_need_word) (defBody s_need_word) (defScope s_need_word) .none kV10 dc10 pm10 an10 cd10 ct10), sl10⟩) (c10 : PySem.W.codeIn K cd10 "need_word" = true) (k10 : PySem.W.keepIn K (.ref f10) = true)
    (a11 : PySem.W.nsIn K mainGlobals "worth" = some (some (.ref f11))) (l11 : K.lookup f11 = some ⟨oc11, od11, .func (PySem.W.fnOf "worth" "worth" (defArgs s_worth) (defBody s_worth) (defScope s_worth) .none kV11 dc11 pm11 an11 cd11 ct11), sl11⟩) (c11 : PySem.W.codeIn K cd11 "worth" = true) (k11 : PySem.W.keepIn K (.ref f11) = true)
    (a12 : PySem.W.nsIn K mainGlobals "reckoned" = some (some (.ref f12))) (l12 : K.lookup f12 = some ⟨oc12, od12, .func (PySem.W.fnOf "reckoned" "reckoned" (defArgs s_reckoned) (defBody s_reckoned) (defScope s_reckoned) .none kV12 dc12 pm12 an12 cd12 ct12), sl12⟩) (c12 : PySem.W.codeIn K cd12 "reckoned" = true) (k12 : PySem.W.keepIn K (.ref f12) = true)
    (a13 : PySem.W.nsIn K mainGlobals "_law_quotient" = some (some (.ref f13))) (l13 : K.lookup f13 = some ⟨oc13, od13, .func (PySem.W.fnOf "_law_quotient" "_law_quotient" (defArgs s_l_quotient) (defBody s_l_quotient) (defScope s_l_quotient) .none kV13 dc13 pm13 an13 cd13 ct13), sl13⟩) (c13 : PySem.W.codeIn K cd13 "_law_quotient" = true) (k13 : PySem.W.keepIn K (.ref f13) = true)
    (a14 : PySem.W.nsIn K mainGlobals "_law_chain" = some (some (.ref f14))) (l14 : K.lookup f14 = some ⟨oc14, od14, .func (PySem.W.fnOf "_law_chain" "_law_chain" (defArgs s_l_chain) (defBody s_l_chain) (defScope s_l_chain) .none kV14 dc14 pm14 an14 cd14 ct14), sl14⟩) (c14 : PySem.W.codeIn K cd14 "_law_chain" = true) (k14 : PySem.W.keepIn K (.ref f14) = true)
    (a15 : PySem.W.nsIn K mainGlobals "law" = some (some (.ref f15))) (l15 : K.lookup f15 = some ⟨oc15, od15, .func (PySem.W.fnOf "law" "law" (defArgs s_law) (defBody s_law) (defScope s_law) .none kV15 dc15 pm15 an15 cd15 ct15), sl15⟩) (c15 : PySem.W.codeIn K cd15 "law" = true) (k15 : PySem.W.keepIn K (.ref f15) = true)
    (z1 : PySem.W.nsIn K mainGlobals "all" = some none)
    (z2 : PySem.W.nsIn K mainGlobals "bool" = some none)
    (z3 : PySem.W.nsIn K mainGlobals "divmod" = some none)
    (z4 : PySem.W.nsIn K mainGlobals "int" = some none)
    (z5 : PySem.W.nsIn K mainGlobals "isinstance" = some none)
    (z6 : PySem.W.nsIn K mainGlobals "len" = some none)
    (z7 : PySem.W.nsIn K mainGlobals "list" = some none)
    (z8 : PySem.W.nsIn K mainGlobals "reversed" = some none)
    (z9 : PySem.W.nsIn K mainGlobals "str" = some none)
    {pc1 : Addr} {oc1x : Option Addr} {os1x : Array (Option Value)} {on1x : Nat} {tk1_0 : Tok} {tk1_1 : Tok} {tk1_2 : Tok} {tk1_3 : Tok} (ca1 : PySem.W.nsIn K mainGlobals "WORDS" = some (some (.ref pc1))) (cl1 : K.lookup pc1 = some ⟨.type "tuple", oc1x, .seq #[.str "plus" tk1_0, .str "less" tk1_1, .str "times" tk1_2, .str "over" tk1_3] on1x, os1x⟩)
    : Txt K mg :=
  ⟨defAt_mk (ps := ["thing"]) l1 c1 k1 (PySem.W.mg_of X G a1) (fun _ _ _ _ _ _ us hl => match us, hl with | [_], _ => rfl),
    defAt_mk (ps := ["thing"]) l2 c2 k2 (PySem.W.mg_of X G a2) (fun _ _ _ _ _ _ us hl => match us, hl with | [_], _ => rfl),
    defAt_mk (ps := ["thing"]) l3 c3 k3 (PySem.W.mg_of X G a3) (fun _ _ _ _ _ _ us hl => match us, hl with | [_], _ => rfl),
    defAt_mk (ps := ["thing"]) l4 c4 k4 (PySem.W.mg_of X G a4) (fun _ _ _ _ _ _ us hl => match us, hl with | [_], _ => rfl),
    defAt_mk (ps := ["thing"]) l5 c5 k5 (PySem.W.mg_of X G a5) (fun _ _ _ _ _ _ us hl => match us, hl with | [_], _ => rfl),
    defAt_mk (ps := ["quotients"]) l6 c6 k6 (PySem.W.mg_of X G a6) (fun _ _ _ _ _ _ us hl => match us, hl with | [_], _ => rfl),
    defAt_mk (ps := ["chain"]) l7 c7 k7 (PySem.W.mg_of X G a7) (fun _ _ _ _ _ _ us hl => match us, hl with | [_], _ => rfl),
    defAt_mk (ps := ["top", "bottom"]) l8 c8 k8 (PySem.W.mg_of X G a8) (fun _ _ _ _ _ _ us hl => match us, hl with | [_, _], _ => rfl),
    defAt_mk (ps := ["one", "other"]) l9 c9 k9 (PySem.W.mg_of X G a9) (fun _ _ _ _ _ _ us hl => match us, hl with | [_, _], _ => rfl),
    defAt_mk (ps := ["word"]) l10 c10 k10 (PySem.W.mg_of X G a10) (fun _ _ _ _ _ _ us hl => match us, hl with | [_], _ => rfl),
    defAt_mk (ps := ["word", "one", "other"]) l11 c11 k11 (PySem.W.mg_of X G a11) (fun _ _ _ _ _ _ us hl => match us, hl with | [_, _, _], _ => rfl),
    defAt_mk (ps := ["word", "one", "other"]) l12 c12 k12 (PySem.W.mg_of X G a12) (fun _ _ _ _ _ _ us hl => match us, hl with | [_, _, _], _ => rfl),
    defAt_mk (ps := ["_law_cell"]) l13 c13 k13 (PySem.W.mg_of X G a13) (fun _ _ _ _ _ _ us hl => match us, hl with | [_], _ => rfl),
    defAt_mk (ps := ["_law_cells"]) l14 c14 k14 (PySem.W.mg_of X G a14) (fun _ _ _ _ _ _ us hl => match us, hl with | [_], _ => rfl),
    lawAt_mk (ps := ["_law_script"]) l15 c15 k15 (PySem.W.mg_of X G a15) (fun _ _ => .of_eq rfl),
    PySem.W.mg_none_of X G z1,
    PySem.W.mg_none_of X G z2,
    PySem.W.mg_none_of X G z3,
    PySem.W.mg_none_of X G z4,
    PySem.W.mg_none_of X G z5,
    PySem.W.mg_none_of X G z6,
    PySem.W.mg_none_of X G z7,
    PySem.W.mg_none_of X G z8,
    PySem.W.mg_none_of X G z9,
    ⟨⟨_, PySem.W.mg_of X G ca1, fun _ => .inr ⟨_, _, _, cl1, rfl, rfl, by show 4 ≤ sizeLine; decide, .cons ⟨_, rfl⟩ (.cons ⟨_, rfl⟩ (.cons ⟨_, rfl⟩ (.cons ⟨_, rfl⟩ (.nil))))⟩⟩⟩⟩
theorem law_mk {P : Program} {w : World} {K : PySem.W.Frag} {mg : Str → Option Value} {fa : Addr} (hfa : mg "law" = some (.ref fa)) (T : Txt K mg) :
    ∃ fd : FuncData, (∀ (s : Shared) (v : Value), BindsTo s fd ⟨[v], []⟩ [("_law_script", v)]) ∧ ∀ base : Heap, K.In base → base.Ns mainGlobals mg → FnOk P w K mg base CX0 7 fa fd ["_law_script"] (spLaw K) := by
  obtain ⟨f, fd, F, m, b⟩ := T.d_law.ex
  cases hfa.symm.trans m
  exact ⟨fd, b, fun base _ _ => ok_law T F⟩

end Cs
open PySem PySem.W PyProof.Rows
set_option maxHeartbeats 0 in
theorem PySem.Challenge.cw_chainsum_k08_whole_numbers_go_together_holds : PySem.Challenge.rw_chainsum_k08_whole_numbers_go_together.Holds := by
  w_on; o_law; k_head; (case hw => w_witness2)
  k_fill
  refine Cs.walk (l := PySem.Challenge.rw_chainsum_k08_whole_numbers_go_together) (k := 7) rfl rfl ⟨rfl, by decide, by decide⟩ (fun w h Y => PySem.W.kIn_of Y) ?F
  case F =>
    intro w mg fa h KX G hmg
    refine Cs.law_mk hmg ?T
    refine' Cs.txt_mk KX G ?a1 ?l1 ?c1 ?k1 ?a2 ?l2 ?c2 ?k2 ?a3 ?l3 ?c3 ?k3 ?a4 ?l4 ?c4 ?k4 ?a5 ?l5 ?c5 ?k5 ?a6 ?l6 ?c6 ?k6 ?a7 ?l7 ?c7 ?k7 ?a8 ?l8 ?c8 ?k8 ?a9 ?l9 ?c9 ?k9 ?a10 ?l10 ?c10 ?k10 ?a11 ?l11 ?c11 ?k11 ?a12 ?l12 ?c12 ?k12 ?a13 ?l13 ?c13 ?k13 ?a14 ?l14 ?c14 ?k14 ?a15 ?l15 ?c15 ?k15 ?z1 ?z2 ?z3 ?z4 ?z5 ?z6 ?z7 ?z8 ?z9 ?ca1 ?cl1
    (case a1 => k_is)
    (case l1 => k_is)
    (case c1 => k_is)
    (case k1 => k_is)
    (case a2 => k_is)
    (case l2 => k_is)
    (case c2 => k_is)
    (case k2 => k_is)
    (case a3 => k_is)
    (case l3 => k_is)
    (case c3 => k_is)
    (case k3 => k_is)
    (case a4 => k_is)
    (case l4 => k_is)
    (case c4 => k_is)
    (case k4 => k_is)
    (case a5 => k_is)
    (case l5 => k_is)
    (case c5 => k_is)
    (case k5 => k_is)
    (case a6 => k_is)
    (case l6 => k_is)
    (case c6 => k_is)
    (case k6 => k_is)
    (case a7 => k_is)
    (case l7 => k_is)
    (case c7 => k_is)
    (case k7 => k_is)
    (case a8 => k_is)
    (case l8 => k_is)
    (case c8 => k_is)
    (case k8 => k_is)
    (case a9 => k_is)
    (case l9 => k_is)
    (case c9 => k_is)
    (case k9 => k_is)
    (case a10 => k_is)
    (case l10 => k_is)
    (case c10 => k_is)
    (case k10 => k_is)
    (case a11 => k_is)
    (case l11 => k_is)
    (case c11 => k_is)
    (case k11 => k_is)
    (case a12 => k_is)
    (case l12 => k_is)
    (case c12 => k_is)
    (case k12 => k_is)
    (case a13 => k_is)
    (case l13 => k_is)
    (case c13 => k_is)
    (case k13 => k_is)
    (case a14 => k_is)
    (case l14 => k_is)
    (case c14 => k_is)
    (case k14 => k_is)
    (case a15 => k_is)
    (case l15 => k_is)
    (case c15 => k_is)
    (case k15 => k_is)
    (case z1 => k_is)
    (case z2 => k_is)
    (case z3 => k_is)
    (case z4 => k_is)
    (case z5 => k_is)
    (case z6 => k_is)
    (case z7 => k_is)
    (case z8 => k_is)
    (case z9 => k_is)
    (case ca1 => k_is)
    (case cl1 => k_is)
