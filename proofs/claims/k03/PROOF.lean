import PyProof.Rows.All
import Wide.All
import OpenK.AllK
import Wide.FinOn
import HandS.ForMost
import HandS.ForExc
import HandS.Wide
import HandS.WideBits
import HandS.Flow
import HandS.Style
import HandS.IsInst
import HandS.TupAny
import HandS.Evl
import PySem.Challenge.RW_chainsum_k03_order_of_chains
set_option Elab.async false
set_option linter.all false
set_option maxRecDepth 100000
set_option maxHeartbeats 2000000

namespace Cm
/-! ### chains: what quotients tell, and Euclid's quotients -/
def W : List Int → Int × Int
  | [] => (1, 0)
  | q :: r => (q * (W r).1 + (W r).2, (W r).1)
theorem W_nil : W [] = (1, 0) := rfl
theorem W_cons (q : Int) (r : List Int) : W (q :: r) = (q * (W r).1 + (W r).2, (W r).1) := rfl
theorem W_one (q : Int) : W [q] = (q, 1) := by rw [W_cons, W_nil]; simp
def euc (t b : Int) : List Int := if h : 0 < b then t / b :: euc b (t % b) else []
  termination_by b.toNat
  decreasing_by
    have h1 := Int.emod_lt_of_pos t h
    have h2 := Int.emod_nonneg t (show b ≠ 0 by omega)
    omega
theorem euc_pos {t b : Int} (h : 0 < b) : euc t b = t / b :: euc b (t % b) := by rw [euc]; rw [dif_pos h]
theorem euc_zero {t b : Int} (h : ¬ 0 < b) : euc t b = [] := by rw [euc]; rw [dif_neg h]
/-- behind the first quotient of a chain of several -/
def Tl : List Int → Prop
  | [] => False
  | [x] => 2 ≤ x
  | x :: y :: r => 1 ≤ x ∧ Tl (y :: r)
def Ch : List Int → Prop
  | [] => False
  | [_] => True
  | _ :: y :: r => Tl (y :: r)
theorem Tl.ch : ∀ {l : List Int}, Tl l → Ch l
  | [], h => h
  | [_], _ => trivial
  | _ :: _ :: _, h => h.2
theorem Tl.pos1 : ∀ {l : List Int}, Tl l → ∀ x ∈ l, 1 ≤ x
  | [], h, _, _ => h.elim
  | [a], h, x, hx => by
    rw [List.mem_singleton] at hx
    subst hx
    have : 2 ≤ x := h
    omega
  | a :: b :: r, h, x, hx => by
    rcases List.mem_cons.mp hx with rfl | hx
    · exact h.1
    · exact Tl.pos1 h.2 x hx
theorem Tl.w : ∀ {l : List Int}, Tl l → 1 ≤ (W l).2 ∧ (W l).2 < (W l).1
  | [], h => h.elim
  | [x], h => by
    have h2 : 2 ≤ x := h
    rw [W_one]
    show (1 : Int) ≤ 1 ∧ 1 < x
    omega
  | x :: y :: r, h => by
    have ih := Tl.w (l := y :: r) h.2
    have h1 : 1 ≤ x := h.1
    rw [W_cons]
    show 1 ≤ (W (y :: r)).1 ∧ (W (y :: r)).1 < x * (W (y :: r)).1 + (W (y :: r)).2
    have := Int.mul_le_mul_of_nonneg_right h1 (show 0 ≤ (W (y :: r)).1 by omega)
    omega
theorem Ch.bot {l : List Int} (h : Ch l) : 1 ≤ (W l).2 := by
  cases l with
  | nil => exact h.elim
  | cons x r =>
    cases r with
    | nil => rw [W_one]; exact Int.le_refl 1
    | cons y r =>
      have := Tl.w (l := y :: r) h
      rw [W_cons]
      show 1 ≤ (W (y :: r)).1
      omega
theorem div_of {t b q r : Int} (e : t = q * b + r) (h0 : 0 ≤ r) (h1 : r < b) : t / b = q ∧ t % b = r := by
  have hb : b ≠ 0 := by omega
  subst e
  rw [Int.add_comm, Int.add_mul_ediv_right _ _ hb, Int.add_mul_emod_self_right, Int.ediv_eq_zero_of_lt h0 h1, Int.emod_eq_of_lt h0 h1]
  simp
/-- the chain of a fraction that a chain tells is this chain -/
theorem euc_W : ∀ {l : List Int} {k : Int}, Ch l → 0 < k → euc (k * (W l).1) (k * (W l).2) = l
  | [], k, h, _ => h.elim
  | [x], k, _, hk => by
    rw [W_one]
    show euc (k * x) (k * 1) = [x]
    obtain ⟨e1, e2⟩ := div_of (t := k * x) (b := k * 1) (q := x) (r := 0) (by grind) (by omega) (by omega)
    rw [euc_pos (by omega), e1, e2, euc_zero (by omega)]
  | x :: y :: r, k, h, hk => by
    have ih := euc_W (l := y :: r) (k := k) (Tl.ch h) hk
    obtain ⟨w1, w2⟩ := Tl.w (l := y :: r) h
    rw [W_cons]
    show euc (k * (x * (W (y :: r)).1 + (W (y :: r)).2)) (k * (W (y :: r)).1) = x :: y :: r
    generalize W (y :: r) = z at *
    obtain ⟨a, b⟩ := z
    have p1 : 0 < k * b := Int.mul_pos hk (by show 0 < b; exact w1)
    have p2 : k * b < k * a := Int.mul_lt_mul_of_pos_left w2 hk
    obtain ⟨e1, e2⟩ := div_of (t := k * (x * a + b)) (b := k * a) (q := x) (r := k * b) (by grind) (by omega) p2
    show euc (k * (x * a + b)) (k * a) = x :: y :: r
    rw [euc_pos (Int.lt_trans p1 p2), e1, e2]
    show x :: euc (k * a) (k * b) = x :: y :: r
    rw [ih]
theorem euc_W1 {l : List Int} (h : Ch l) : euc (W l).1 (W l).2 = l := by
  have := euc_W (k := 1) h (by omega)
  rwa [Int.one_mul, Int.one_mul] at this
/-- Euclid's quotients of a fraction above 1 -/
theorem euc_big : ∀ (n : Nat) {t b : Int}, b.toNat ≤ n → 0 < b → b < t → Tl (euc t b) ∧ ∃ g, 0 < g ∧ t = g * (W (euc t b)).1 ∧ b = g * (W (euc t b)).2
  | n, t, b, hn, hb, hlt => by
    have r0 := Int.emod_nonneg t (show b ≠ 0 by omega)
    have r1 := Int.emod_lt_of_pos t hb
    have et := Int.mul_ediv_add_emod t b
    rw [euc_pos hb]
    generalize hq : t / b = q at *
    generalize hr : t % b = r at *
    by_cases h : 0 < r
    · obtain ⟨m, rfl⟩ : ∃ m, n = m + 1 := ⟨n - 1, by omega⟩
      obtain ⟨i1, g, i2, i3, i4⟩ := euc_big m (t := b) (b := r) (by omega) h r1
      have q1 : 1 ≤ q := by
        rcases Int.lt_or_le 0 q with z | z
        · exact z
        · have := Int.mul_le_mul_of_nonneg_left z (show 0 ≤ b by omega)
          omega
      generalize hl : euc b r = l at *
      cases l with
      | nil => exact i1.elim
      | cons y s =>
        refine ⟨⟨q1, i1⟩, g, i2, ?_, ?_⟩
        · rw [W_cons]; show t = g * (q * (W (y :: s)).1 + (W (y :: s)).2); grind
        · rw [W_cons]; exact i3
    · have e0 : r = 0 := by omega
      subst e0
      rw [euc_zero (by omega)]
      have q2 : 2 ≤ q := by
        rcases Int.lt_or_le 1 q with z | z
        · exact z
        · have := Int.mul_le_mul_of_nonneg_left z (show 0 ≤ b by omega)
          omega
      refine ⟨q2, b, hb, ?_, ?_⟩
      · rw [W_one]; show t = b * q; omega
      · rw [W_one]; show b = b * 1; omega
theorem euc_ok {t b : Int} (hb : 0 < b) : Ch (euc t b) ∧ ∃ g, 0 < g ∧ t = g * (W (euc t b)).1 ∧ b = g * (W (euc t b)).2 := by
  have r0 := Int.emod_nonneg t (show b ≠ 0 by omega)
  have r1 := Int.emod_lt_of_pos t hb
  have et := Int.mul_ediv_add_emod t b
  rw [euc_pos hb]
  generalize hq : t / b = q at *
  generalize hr : t % b = r at *
  by_cases h : 0 < r
  · obtain ⟨i1, g, i2, i3, i4⟩ := euc_big _ (t := b) (b := r) (Nat.le_refl _) h r1
    generalize hl : euc b r = l at *
    cases l with
    | nil => exact i1.elim
    | cons y s =>
      refine ⟨i1, g, i2, ?_, ?_⟩
      · rw [W_cons]; show t = g * (q * (W (y :: s)).1 + (W (y :: s)).2); grind
      · rw [W_cons]; exact i3
  · have e0 : r = 0 := by omega
    subst e0
    rw [euc_zero (by omega)]
    refine ⟨trivial, b, hb, ?_, ?_⟩
    · rw [W_one]; show t = b * q; omega
    · rw [W_one]; show b = b * 1; omega
/-- the same fraction, the same chain -/
theorem euc_same {t b t' b' : Int} (hb : 0 < b) (hb' : 0 < b') (e : t * b' = t' * b) : euc t b = euc t' b' := by
  obtain ⟨c1, g1, p1, a1, d1⟩ := euc_ok (t := t) hb
  obtain ⟨c2, g2, p2, a2, d2⟩ := euc_ok (t := t') hb'
  have x1 := euc_W (k := g1 * b') c1 (Int.mul_pos p1 hb')
  have x2 := euc_W (k := g2 * b) c2 (Int.mul_pos p2 hb)
  have k1 : g1 * b' * (W (euc t b)).1 = g2 * b * (W (euc t' b')).1 := by grind
  have k2 : g1 * b' * (W (euc t b)).2 = g2 * b * (W (euc t' b')).2 := by grind
  rw [k1, k2, x2] at x1
  exact x1.symm
/-- a chain is that of its fraction, in any terms -/
theorem euc_of {t b : Int} {l : List Int} (hb : 0 < b) (c : Ch l) (e : t * (W l).2 = (W l).1 * b) : euc t b = l := by
  rw [euc_same hb (show 0 < (W l).2 from Ch.bot c) e, euc_W1 c]
theorem euc_len : ∀ (n : Nat) {t b : Int}, 0 < b → b < 2 ^ n → (euc t b).length ≤ 2 * n
  | 0, t, b, h0, h => by
    simp at h
    omega
  | n + 1, t, b, h0, h => by
    have r0 := Int.emod_nonneg t (show b ≠ 0 by omega)
    have r1 := Int.emod_lt_of_pos t h0
    rw [euc_pos h0]
    generalize t % b = r at *
    by_cases hr : 0 < r
    · rw [euc_pos hr]
      have s0 := Int.emod_nonneg b (show r ≠ 0 by omega)
      have s1 := Int.emod_lt_of_pos b hr
      have es := Int.mul_ediv_add_emod b r
      have q1 : 1 ≤ b / r := by
        have := Int.le_ediv_of_mul_le hr (show 1 * r ≤ b by omega)
        exact this
      have q2 := Int.mul_le_mul_of_nonneg_left q1 (show 0 ≤ r by omega)
      generalize b / r = q at *
      generalize b % r = s at *
      rw [Int.pow_succ] at h
      by_cases hs : 0 < s
      · have ih := euc_len n (t := r) (b := s) hs (by omega)
        simp only [List.length_cons]
        omega
      · rw [euc_zero hs]
        simp only [List.length_cons, List.length_nil]
        omega
    · rw [euc_zero hr]
      simp only [List.length_cons, List.length_nil]
      omega
end Cm

namespace Cm
/-! ### the order of chains -/
def cmpC : List Int → List Int → Int
  | [], [] => 0
  | [], _ :: _ => 1
  | _ :: _, [] => -1
  | x :: xs, y :: ys => if x = y then - cmpC xs ys else if y < x then 1 else -1
def sgn (i : Int) : Int := if 0 < i then 1 else if i < 0 then -1 else 0
def cross (l m : List Int) : Int := (W l).1 * (W m).2 - (W m).1 * (W l).2
/-- behind a place of a chain: nothing, or a tail -/
def T0 (l : List Int) : Prop := l = [] ∨ Tl l
theorem T0.w {l : List Int} (h : T0 l) : 0 ≤ (W l).2 ∧ (W l).2 < (W l).1 := by
  rcases h with rfl | h
  · exact ⟨Int.le_refl 0, by decide⟩
  · have := h.w
    omega
theorem T0.tl {x : Int} {l : List Int} (h : T0 (x :: l)) : T0 l := by
  rcases h with h | h
  · cases h
  · cases l with
    | nil => exact .inl rfl
    | cons y r => exact .inr h.2
theorem Ch.tl {x : Int} {l : List Int} (h : Ch (x :: l)) : T0 l := by
  cases l with
  | nil => exact .inl rfl
  | cons y r => exact .inr h
theorem sgn_neg (i : Int) : sgn (-i) = - sgn i := by
  unfold sgn
  split <;> split <;> (try split) <;> omega
theorem sgn_pos {i : Int} (h : 0 < i) : sgn i = 1 := if_pos h
theorem sgn_lt {i : Int} (h : i < 0) : sgn i = -1 := by
  unfold sgn
  rw [if_neg (by omega), if_pos h]
theorem cross_gt {x y a b c d : Int} (h : y < x) (b0 : 0 ≤ b) (ab : b < a) (d0 : 0 ≤ d) (cd : d < c) : 0 < (x * a + b) * c - (y * c + d) * a := by
  have e : (x * a + b) * c - (y * c + d) * a = (x - y - 1) * (a * c) + a * (c - d) + b * c := by grind
  rw [e]
  have h1 : 0 ≤ (x - y - 1) * (a * c) := Int.mul_nonneg (by omega) (Int.mul_nonneg (by omega) (by omega))
  have h2 : 0 < a * (c - d) := Int.mul_pos (by omega) (by omega)
  have h3 : 0 ≤ b * c := Int.mul_nonneg b0 (by omega)
  omega
theorem cmp_step {x y : Int} {xs ys : List Int} (hx : T0 xs) (hy : T0 ys) (ih : cmpC xs ys = sgn (cross xs ys)) : cmpC (x :: xs) (y :: ys) = sgn (cross (x :: xs) (y :: ys)) := by
  obtain ⟨a1, a2⟩ := hx.w
  obtain ⟨c1, c2⟩ := hy.w
  show (if x = y then - cmpC xs ys else if y < x then 1 else -1) = sgn (cross (x :: xs) (y :: ys))
  unfold cross at *
  rw [W_cons, W_cons]
  dsimp only
  generalize W xs = z at *
  generalize W ys = u at *
  obtain ⟨a, b⟩ := z
  obtain ⟨c, d⟩ := u
  dsimp only at *
  by_cases e : x = y
  · subst e
    rw [if_pos rfl, ih, ← sgn_neg]
    congr 1
    grind
  · rw [if_neg e]
    by_cases g : y < x
    · rw [if_pos g, sgn_pos (cross_gt g a1 a2 c1 c2)]
    · rw [if_neg g]
      have := cross_gt (show x < y by omega) c1 c2 a1 a2
      rw [sgn_lt]
      omega
theorem cmp_T0 : ∀ {l m : List Int}, T0 l → T0 m → cmpC l m = sgn (cross l m)
  | [], [], _, _ => rfl
  | [], y :: m, _, h => by
    rcases h with h | h
    · cases h
    · have := h.w
      show 1 = sgn (1 * (W (y :: m)).2 - (W (y :: m)).1 * 0)
      rw [sgn_pos (by omega)]
  | x :: l, [], h, _ => by
    rcases h with h | h
    · cases h
    · have := h.w
      show -1 = sgn ((W (x :: l)).1 * 0 - 1 * (W (x :: l)).2)
      rw [sgn_lt (by omega)]
  | x :: l, y :: m, hl, hm => cmp_step hl.tl hm.tl (cmp_T0 hl.tl hm.tl)
theorem cmp_ok {l m : List Int} (hl : Ch l) (hm : Ch m) : cmpC l m = sgn (cross l m) := by
  cases l with
  | nil => exact hl.elim
  | cons x l =>
    cases m with
    | nil => exact hm.elim
    | cons y m => exact cmp_step hl.tl hm.tl (cmp_T0 hl.tl hm.tl)
def sg (p : Nat) : Int := if p % 2 = 0 then 1 else -1
theorem sg_succ (p : Nat) : sg (p + 1) = - sg p := by
  unfold sg
  split <;> split <;> omega
/-- the walk along both: alike so far -/
theorem cmp_drop {l m : List Int} {p : Nat} (h1 : p < l.length) (h2 : p < m.length) (e : l[p] = m[p]) : sg p * cmpC (l.drop p) (m.drop p) = sg (p + 1) * cmpC (l.drop (p + 1)) (m.drop (p + 1)) := by
  rw [List.drop_eq_getElem_cons h1, List.drop_eq_getElem_cons h2, sg_succ]
  show sg p * (if l[p] = m[p] then _ else _) = _
  rw [if_pos e, Int.mul_neg, Int.neg_mul]
theorem cmp_self : ∀ l : List Int, cmpC l l = 0
  | [] => rfl
  | x :: l => by
    show (if x = x then - cmpC l l else _) = 0
    rw [if_pos rfl, cmp_self l]
    rfl
theorem cmp_anti : ∀ l m : List Int, cmpC m l = - cmpC l m
  | [], [] => rfl
  | [], _ :: _ => rfl
  | _ :: _, [] => rfl
  | x :: l, y :: m => by
    show (if y = x then - cmpC m l else if x < y then 1 else -1) = - (if x = y then - cmpC l m else if y < x then 1 else -1)
    rw [cmp_anti l m]
    by_cases e : x = y
    · rw [if_pos e, if_pos e.symm]
    · rw [if_neg e, if_neg (fun z => e z.symm)]
      split <;> split <;> omega
end Cm

namespace Cs
open PySem PySem.Spec PyProof.Rows L2
/-! ### defs of the text, by name -/
structure DefAt (K : PySem.W.Frag) (mg : Str → Option Value) (x : Str) (st : Stmt) (ps : List Str) : Prop where
  ex : ∃ (f : Addr) (fd : FuncData), L2.Fun K x x st f fd ∧ mg x = some (.ref f) ∧ Binds K fd ps []
structure Cal (P : Program) (w : World) (K : PySem.W.Frag) (mg : Str → Option Value) (base : Heap) (CX : CXT) (k : Nat) (x : Str) (sp : Sp) : Prop where
  ex : ∃ (f : Addr) (fd : FuncData) (ps : List Str), FnOk P w K mg base CX k f fd ps sp ∧ mg x = some (.ref f) ∧ PySem.W.keepIn K (.ref f) = true ∧ Binds K fd ps []
theorem defAt_mk {K : PySem.W.Frag} {mg : Str → Option Value} {x : Str} {st : Stmt} {ps : List Str} {f : Addr} {oc : Value} {od an : Option Addr} {osl : Array (Option Value)} {kV doc pm cdv ct : Value}
    (l : K.lookup f = some ⟨oc, od, .func (PySem.W.fnOf x x (defArgs st) (defBody st) (defScope st) .none kV doc pm an cdv ct), osl⟩)
    (c : PySem.W.codeIn K cdv x = true) (k : PySem.W.keepIn K (.ref f) = true) (g : mg x = some (.ref f))
    (h : ∀ (kV doc pm : Value) (an : Option Addr) (cdv ct : Value) (us : List Value), us.length = ps.length → bindArgs (PySem.W.fnOf x x (defArgs st) (defBody st) (defScope st) .none kV doc pm an cdv ct) ⟨us, []⟩ = pure (ps.zip us)) : DefAt K mg x st ps :=
  ⟨f, _, fun_mk l c k, g, (fun_mk l c k).binds h⟩
section
variable {P : Program} {w : World} {K : PySem.W.Frag} {mg : Str → Option Value} {base : Heap}
theorem cal_ok {x : Str} {st : Stmt} {N ps : List Str} {k : Nat} {sp : Sp} (D : DefAt K mg x st ps) (S : FnScope N ps (defScope st)) (len : ∀ vs H Q E, sp vs H Q E → vs.length = ps.length)
    (hbody : ∀ (f : Addr) (cdv : Value) (A : Around) (outer : List Env) (s : Shared) (H : Hp) (vs : List V) (Q : VK) (E : XK), Room k (A.deeper (envOfC x (defScope st) s.heap.objs.size f cdv)) → sp vs H Q E →
      ∃ t, PSs (cxOf CX0 P w K mg base N x (defScope st) f cdv A outer s H E).nox (defBody st) t ∧ t { nx := fun _ H' => Q .non H', rt := Q } (start N vs) H) : Cal P w K mg base CX0 (k + 1) x sp := by
  obtain ⟨f, fd, F, m, b⟩ := D.ex
  exact ⟨f, fd, ps, F.ok S len (hbody f), m, F.kp, b⟩
end
section
variable {X : Cx} {x : Str} {sp : Sp} {e : Expr} {es : List Expr} {t : TA} {p pos : Pos} {k j : Nat}
theorem pe_c (c : Cal X.prog X.w X.K X.mg X.base CX0 k x sp) (hr : Room j X.A) (hk : k ≤ j) (hg : Gl X x) (ha : PA X (e :: es) t)
    (hdb : (x == ("__debug__" : Str)) = false := by decide) (he : starEach (e :: es) X.env = (false, eval e X.env) :: starEach es X.env := by rfl) (hpl : (backTo pos (starEach es X.env)).any (·.1) = false := by rfl) :
    PE X (.Call (.Name x p) (e :: es) [] pos) (tCall sp [] E0 t) := by
  obtain ⟨f, fd, ps, F, hm, kp, b⟩ := c.ex
  exact pe_call F (hr.mono hk) hg hm kp b .nil pass0 ha hdb he hpl
end
/-! ### heaps -/
theorem same_upd {H : Hp} {p : Addr} {o : HO} (h : H p = none) : Same H (upd H p o) := fun b x e => by
  rw [upd_ne (ne_of_none e h)]
  exact e
/-- a new object: what is tracked stays -/
theorem newO {H : Hp} {o : HO} {Q : V → Hp → Prop} (h : ∀ p H', Same H H' → H p = none → H' p = some o → Q (.ref p) H') : ∀ p, H p = none → Q (.ref p) (upd H p o) :=
  fun p hp => h p _ (same_upd hp) hp upd_same
theorem same_of {H H' : Hp} {p : Addr} {o : HO} (h : upd H p o = H') (n : H p = none) : Same H H' := h ▸ same_upd n
theorem at_new {H H' : Hp} {p : Addr} {o : HO} (h : upd H p o = H') : H' p = some o := h ▸ upd_same
theorem same_mut {H H' : Hp} {p : Addr} {o : HO} (s : Same H H') (h : H p = none) : Same H (upd H' p o) := fun b x e => by
  rw [upd_ne (ne_of_none e h)]
  exact s b x e
theorem same_mut_of {H H' H'' : Hp} {p : Addr} {o : HO} (h : upd H' p o = H'') (s : Same H H') (n : H p = none) : Same H H'' := h ▸ same_mut s n
theorem same_t {K : PySem.W.Frag} {H H' : Hp} {a : Addr} {xs : List V} (e : Same H H') (h : SqT K H a xs) : SqT K H' a xs := by
  rcases h with (h | ⟨o, h⟩) | h
  · exact .inl (.inl (e _ _ h))
  · exact .inl (.inr ⟨o, e _ _ h⟩)
  · exact .inr h
theorem sqL {K : PySem.W.Frag} {H : Hp} {a : Addr} {xs : List V} (h : H a = some (.lst xs)) : SqL K H a xs := .inl (.inl h)
theorem sqT {K : PySem.W.Frag} {H : Hp} {a : Addr} {xs : List V} (h : H a = some (.tup xs)) : SqT K H a xs := .inl (.inl h)
/-! ### numbers: of fewer than n bits -/
def Bd (n : Nat) (i : Int) : Prop := i.natAbs < 2 ^ n
theorem Bd.mono {n m : Nat} {i : Int} (h : Bd n i) (k : n ≤ m) : Bd m i := Nat.lt_of_lt_of_le h (Nat.pow_le_pow_right (by decide) k)
theorem Bd.mul {n m : Nat} {i j : Int} (h : Bd n i) (k : Bd m j) : Bd (n + m) (i * j) := by
  unfold Bd at *
  rw [Int.natAbs_mul, Nat.pow_add]
  exact Nat.mul_lt_mul'' h k
theorem Bd.add {n : Nat} {i j : Int} (h : Bd n i) (k : Bd n j) : Bd (n + 1) (i + j) := by
  unfold Bd at *
  rw [Nat.pow_succ]
  omega
theorem Bd.sub {n : Nat} {i j : Int} (h : Bd n i) (k : Bd n j) : Bd (n + 1) (i - j) := by
  unfold Bd at *
  rw [Nat.pow_succ]
  omega
theorem Bd.neg {n : Nat} {i : Int} (h : Bd n i) : Bd n (-i) := by
  unfold Bd at *
  omega
theorem Bd.of_le {n : Nat} {i j : Int} (h0 : 0 ≤ i) (h : i ≤ j) (k : Bd n j) : Bd n i := by
  unfold Bd at *
  omega
theorem Bd.zero {n : Nat} : Bd n 0 := Nat.pow_pos (by decide)
theorem Bd.one {n : Nat} (h : 0 < n) : Bd n 1 := Nat.lt_of_lt_of_le (by decide : 1 < 2 ^ 1) (Nat.pow_le_pow_right (by decide) h)
theorem mulOk {n m : Nat} {i j : Int} (h : Bd n i) (k : Bd m j) (l : n + m ≤ 134217728) : IntMulOk i j := (mulx_ok h k l).ok
theorem mulOk_l {i j : Int} (h : Bd 64 i) : IntMulOk i j := CMul.ok (.inl (by unfold Bd at h; omega))
theorem mulOk_r {i j : Int} (h : Bd 64 j) : IntMulOk i j := CMul.ok (.inr (by unfold Bd at h; omega))
theorem divOk {n : Nat} {i j : Int} (h0 : 0 < j) (h : Bd n j) (l : n ≤ 9000) (n0 : 0 < n) : CDivP i j := ⟨h0, PyProof.noPylong_of_log2 (Nat.lt_of_lt_of_le (PySem.Flt.log2_lt_of n0 h) l)⟩
section
variable {X : Cx}
/-- * of any factors that the model multiplies -/
theorem op_mulX : OpR X (binaryOp .Mult) (rI IntMulOk fun i j => .int (i * j)) := opI fun _ _ _ _ _ _ _ hc q => mul_int q hc
theorem op_fdivP : OpR X (binaryOp .FloorDiv) (rI CDivP fun i j => .int (i / j)) := opI fun i j _ _ _ _ _ hc q => by
  have h1 : (0 : Int) < j := hc.1
  exact floordiv_int (by omega) (by rw [Int.fdiv_eq_ediv_of_nonneg i (by omega)]; exact q) (.inl hc.2)
abbrev call_divmodP := @call_divmodW
end
/-! ### data -/
theorem dpAll_ints {K : PySem.W.Frag} {H : Hp} : ∀ ns : List Int, DpAll K H (ns.map V.int) (ns.map PyData.int)
  | [] => .nil
  | n :: r => .cons (.int n) (dpAll_ints r)
theorem dp_ints {K : PySem.W.Frag} {H : Hp} {a : Addr} {ns : List Int} (h : SqL K H a (ns.map V.int)) : Dp K H (.ref a) (.list (ns.map PyData.int)) := .lst h (dpAll_ints ns)
theorem canLay_ints : ∀ ns : List Int, PyData.canLayAll0 (ns.map PyData.int) = true
  | [] => by simp [PyData.canLayAll0]
  | n :: r => by simp [PyData.canLayAll0, PyData.canLay0, canLay_ints r]
theorem depth_ints : ∀ ns : List Int, PyData.depthAll (ns.map PyData.int) = 0
  | [] => by simp [PyData.depthAll]
  | n :: r => by simp [PyData.depthAll, PyData.depth, depth_ints r]
theorem shaped_ints (ns : List Int) : SeqAt.shaped (.list (ns.map PyData.int)) = true := by
  unfold SeqAt.shaped
  simp [PyData.canLay0, PyData.depth, canLay_ints, depth_ints]
theorem eqvAll_ints : ∀ ns ms : List Int, PyData.eqvAll (ns.map PyData.int) (ms.map PyData.int) = decide (ns = ms)
  | [], [] => by simp [PyData.eqvAll]
  | [], _ :: _ => by simp [PyData.eqvAll]
  | _ :: _, [] => by simp [PyData.eqvAll]
  | n :: r, m :: t => by
    show (PyData.eqv (.int n) (.int m) && PyData.eqvAll (r.map PyData.int) (t.map PyData.int)) = _
    rw [eqvAll_ints r t]
    simp only [PyData.eqv]
    by_cases h : n = m
    · subst h
      simp
    · simp [h]
theorem eqv_ints (ns ms : List Int) : PyData.eqv (.list (ns.map PyData.int)) (.list (ms.map PyData.int)) = decide (ns = ms) := by
  simp only [PyData.eqv]
  exact eqvAll_ints ns ms
/-- == of two lists of ints, != -/
theorem eq_ints {K : PySem.W.Frag} {H : Hp} {a b : Addr} {ns ms : List Int} {Q : VK} (h : SqL K H a (ns.map V.int)) (h' : SqL K H b (ms.map V.int)) (q : Q (.bl (decide (ns = ms))) H) : rEqD K (.ref a) (.ref b) H Q :=
  ⟨_, _, dp_ints h, dp_ints h', shaped_ints _, shaped_ints _, by rw [eqv_ints]; exact q⟩
theorem ne_ints {K : PySem.W.Frag} {H : Hp} {a b : Addr} {ns ms : List Int} {Q : VK} (h : SqL K H a (ns.map V.int)) (h' : SqL K H b (ms.map V.int)) (q : Q (.bl (!decide (ns = ms))) H) : rNeD K (.ref a) (.ref b) H Q :=
  ⟨_, _, dp_ints h, dp_ints h', shaped_ints _, shaped_ints _, by rw [eqv_ints]; exact q⟩
/-! ### isinstance -/
/-- the types that come here -/
def tys : List String := ["int", "bool", "str", "NoneType", "list", "tuple", "dict"]
theorem isi_at {K : PySem.W.Frag} {H : Hp} {x : V} {t T : String} {b : Bool} {Q : VK} (hx : TyX K H x (.type t)) (h : kitB t T = some b) (q : Q (.bl b) H) : rIsi K [x, .ty T] H Q :=
  ⟨x, .ty T, _, _, b, rfl, .ty T, hx, kit_ty h, q⟩
theorem kit_tys {T : String} (hT : T ∈ tys) : ∀ t ∈ tys, kitB t T = some (decide (t = T) || (decide (t = "bool") && decide (T = "int"))) := by
  have h : (tys.all fun T => tys.all fun t => decide (kitB t T = some (decide (t = T) || (decide (t = "bool") && decide (T = "int"))))) = true := by decide +kernel
  intro t ht
  exact of_decide_eq_true (List.all_eq_true.mp (List.all_eq_true.mp h T hT) t ht)
theorem isi_tys {K : PySem.W.Frag} {H : Hp} {x : V} {t T : String} {Q : VK} (hx : TyX K H x (.type t)) (ht : t ∈ tys) (hT : T ∈ tys) (q : Q (.bl (decide (t = T) || (decide (t = "bool") && decide (T = "int")))) H) : rIsi K [x, .ty T] H Q :=
  isi_at hx (kit_tys hT t ht) q
theorem ty_int {K : PySem.W.Frag} {H : Hp} (i : Int) : TyX K H (.int i) (.type "int") := .base (.int i)
theorem ty_bl {K : PySem.W.Frag} {H : Hp} (i : Bool) : TyX K H (.bl i) (.type "bool") := .base (.bl i)
theorem ty_list {K : PySem.W.Frag} {H : Hp} {a : Addr} {xs : List V} (h : SqL K H a xs) : TyX K H (.ref a) (.type "list") := by
  rcases h with (h | ⟨o, h⟩) | ⟨o, its, n, h, c, _⟩
  · exact .base (.lst h)
  · exact .base (.frz h)
  · exact .kList h c
theorem ty_tup {K : PySem.W.Frag} {H : Hp} {a : Addr} {xs : List V} (h : SqT K H a xs) : TyX K H (.ref a) (.type "tuple") := by
  rcases h with (h | ⟨o, h⟩) | ⟨o, its, n, h, c, _⟩
  · exact .base (.tup h)
  · exact .fTuple h
  · exact .kTuple h c
/-- the ints of a list of ints, by place -/
theorem map_int_at {ns : List Int} {i : Nat} {y : V} (h : (ns.map V.int)[i]? = some y) : ∃ z, ns[i]? = some z ∧ y = V.int z := by
  rw [List.getElem?_map] at h
  cases e : ns[i]? with
  | none =>
    rw [e] at h
    cases h
  | some z =>
    rw [e] at h
    exact ⟨z, rfl, (Option.some.inj h).symm⟩
/-- for x in reversed(xs), the list left as it is -/
theorem for_rev {K : PySem.W.Frag} {a : Addr} {xs : List V} {g : TG} {tb : TS} {D : Ends} {σ : L2.St} {H : Hp} (Pv : Nat → L2.St → Hp → Prop) (h0 : Pv 0 σ H) (hl : ∀ i σ H, i ≤ xs.length → Pv i σ H → SqL K H a xs)
    (hs : ∀ i x σ H, i < xs.length → xs[xs.length - 1 - i]? = some x → Pv i σ H → g x σ H fun σ2 H2 => tb { D with nx := Pv (i + 1), ct := Pv (i + 1), bk := D.nx } σ2 H2) (hd : ∀ σ H, Pv xs.length σ H → D.nx σ H) :
    ∃ W : Nat → Nat → L2.St → Hp → Prop, (∃ m, W 0 m σ H) ∧ ∀ i m σ H, W i m σ H →
      ((Itv K a xs.length).stop i H ∧ D.nx σ H) ∨ ((Itv K a xs.length).go i H ∧ ∃ N : L2.St → Hp → Prop, (∀ σ' H', N σ' H' → ∃ m', m' < m ∧ W (i + 1) m' σ' H') ∧ ∀ x H', (Itv K a xs.length).yld i H x H' → g x σ H' fun σ2 H2 => tb { D with nx := N, ct := N, bk := D.nx } σ2 H2) := by
  refine ⟨fun i m σ H => m = xs.length - i ∧ i ≤ xs.length ∧ Pv i σ H, ⟨xs.length, by simp, Nat.zero_le _, h0⟩, ?_⟩
  rintro i m σ H ⟨rfl, hi, p⟩
  have q := hl i σ H hi p
  by_cases hlt : i < xs.length
  · have hx : xs[xs.length - 1 - i]? = some (xs[xs.length - 1 - i]'(by omega)) := List.getElem?_eq_getElem (by omega)
    refine .inr ⟨⟨hlt, xs, _, q, hx⟩, Pv (i + 1), fun σ' H' p' => ⟨xs.length - (i + 1), by omega, rfl, hlt, p'⟩, fun x H' y => ?_⟩
    obtain ⟨e, y⟩ := y
    subst e
    exact hs i x σ _ hlt (y xs q) p
  · have e : i = xs.length := by omega
    subst e
    exact .inl ⟨Nat.le_refl _, hd σ H p⟩
/-! ### slices, items -/
theorem cut_neg1 (xs : List V) : cutV xs none (some (-1)) = xs.dropLast := by
  unfold cutV
  rw [HT.sIx_none]
  show (xs.drop 0).take ((if (-1 : Int) < 0 then ((-1 : Int) + (xs.length : Int)).toNat else min (-1 : Int).toNat xs.length) - 0) = xs.dropLast
  rw [if_pos (by decide), List.drop_zero, List.dropLast_eq_take]
  congr 1
  omega
theorem cut_to (xs : List V) (n : Nat) : cutV xs none (some (n : Int)) = xs.take n := by
  unfold cutV
  rw [HT.sIx_none, HT.sIx_nat, List.drop_zero, Nat.sub_zero, List.take_eq_take_iff]
  omega
theorem cut_from (xs : List V) (n : Nat) : cutV xs (some (n : Int)) none = xs.drop n := by
  unfold cutV
  rw [HT.sIx_none, HT.sIx_nat]
  rcases Nat.le_total n xs.length with h | h
  · rw [Nat.min_eq_left h]
    exact List.take_of_length_le (by rw [List.length_drop]; omega)
  · rw [Nat.min_eq_right h, List.drop_length, List.drop_eq_nil_of_le h]
    exact List.take_nil
theorem atI_neg1 {ns : List Int} (h : ns ≠ []) : atI (ns.map V.int) (-1) = some (.int (ns.getLast h)) := by
  have e : ns.map V.int = ns.dropLast.map V.int ++ [V.int (ns.getLast h)] := by
    rw [← List.map_singleton, ← List.map_append, List.dropLast_concat_getLast]
  rw [e]
  exact atI_last _ _
theorem atI_int {ns : List Int} {i : Nat} {z : Int} (h : ns[i]? = some z) : atI (ns.map V.int) (i : Int) = some (.int z) := atI_nat (by rw [List.getElem?_map, h]; rfl)
/-! ### what quotients tell: how great -/
theorem W_bd {n : Nat} : ∀ {ns : List Int}, (∀ x ∈ ns, Bd n x) → Bd ((n + 1) * ns.length + 1) (Cm.W ns).1 ∧ Bd ((n + 1) * ns.length + 1) (Cm.W ns).2
  | [], _ => ⟨Bd.one (by omega), Bd.zero⟩
  | q :: r, h => by
    obtain ⟨h1, h2⟩ := W_bd (ns := r) fun x hx => h x (List.mem_cons_of_mem _ hx)
    have hq := h q List.mem_cons_self
    have e : (n + 1) * (q :: r).length + 1 = (n + ((n + 1) * r.length + 1)) + 1 := by
      rw [List.length_cons, Nat.mul_add]
      omega
    rw [Cm.W_cons, e]
    exact ⟨(hq.mul h1).add (h2.mono (by omega)), h1.mono (by omega)⟩
theorem W_bd' {n m : Nat} {ns : List Int} (h : ∀ x ∈ ns, Bd n x) (l : ns.length ≤ m) : Bd ((n + 1) * m + 1) (Cm.W ns).1 ∧ Bd ((n + 1) * m + 1) (Cm.W ns).2 := by
  obtain ⟨h1, h2⟩ := W_bd h
  have := Nat.mul_le_mul_left (n + 1) l
  exact ⟨h1.mono (by omega), h2.mono (by omega)⟩
end Cs
namespace Cs
open PySem PySem.Spec PyProof.Rows L2
/-! ### things that may be chains -/
def isI : V → Bool
  | .int _ => true
  | _ => false
def ge1 : V → Bool
  | .int i => decide (1 ≤ i)
  | _ => false
/-- a list (its items), or another thing -/
def Thing (K : PySem.W.Frag) (H : Hp) (x : V) : Option (List V) → Prop
  | some xs => ∃ a, x = .ref a ∧ SqL K H a xs ∧ xs.length ≤ 100000 ∧ ∀ y ∈ xs, ∃ t, t ∈ tys ∧ TyX K H y (.type t) ∧ decide (t = "int") = isI y
  | none => ∃ t, t ∈ tys ∧ t ≠ "list" ∧ TyX K H x (.type t)
def quotsT : Option (List V) → Bool
  | none => false
  | some xs => xs.all isI && (xs.drop 1).all ge1
theorem quotsT_some (xs : List V) : quotsT (some xs) = (xs.all isI && (xs.drop 1).all ge1) := rfl
theorem thing_ints {K : PySem.W.Frag} {H : Hp} {a : Addr} {ns : List Int} (h : SqL K H a (ns.map V.int)) (l : ns.length ≤ 100000) : Thing K H (.ref a) (some (ns.map V.int)) := by
  refine ⟨a, rfl, h, by rw [List.length_map]; exact l, fun y hy => ?_⟩
  obtain ⟨z, _, rfl⟩ := List.mem_map.mp hy
  exact ⟨"int", by decide, ty_int z, rfl⟩
theorem isI_ints : ∀ xs : List V, xs.all isI = true → ∃ ns : List Int, xs = ns.map V.int
  | [], _ => ⟨[], rfl⟩
  | x :: r, h => by
    rw [List.all_cons, Bool.and_eq_true] at h
    obtain ⟨ns, rfl⟩ := isI_ints r h.2
    cases x with
    | int i => exact ⟨i :: ns, rfl⟩
    | _ => exact absurd h.1 (by simp [isI])
theorem all_isI (ns : List Int) : (ns.map V.int).all isI = true := by
  induction ns with
  | nil => rfl
  | cons n r ih => rw [List.map_cons, List.all_cons, ih]; rfl
/-- the list of ints is one of quotients -/
def quots (ns : List Int) : Bool := (ns.drop 1).all fun x => decide (1 ≤ x)
theorem quotsT_ints (ns : List Int) : quotsT (some (ns.map V.int)) = quots ns := by
  unfold quots
  rw [quotsT_some, all_isI, Bool.true_and, ← List.map_drop]
  generalize ns.drop 1 = l
  induction l with
  | nil => rfl
  | cons n r ih => rw [List.map_cons, List.all_cons, List.all_cons, ih]; rfl
def chB (ns : List Int) : Bool := quots ns && (ns != [] && (ns.length == 1 || decide (1 < ns.getLastD 0)))
def begB (ns : List Int) : Bool := quots ns && (ns == [] || decide (0 ≤ ns.headD 0))
def abvB (ns : List Int) : Bool := chB ns && (decide (0 ≤ ns.headD 0) && ns != [0])
def intOf : V → Int
  | .int i => i
  | _ => 0
/-- .. of any thing -/
def onInts (f : List Int → Bool) : Option (List V) → Bool
  | none => false
  | some xs => xs.all isI && f (xs.map intOf)
theorem onInts_some (f : List Int → Bool) (xs : List V) : onInts f (some xs) = (xs.all isI && f (xs.map intOf)) := rfl
theorem onInts_ints (f : List Int → Bool) (ns : List Int) : onInts f (some (ns.map V.int)) = f ns := by
  rw [onInts_some, all_isI, Bool.true_and, List.map_map]
  have e : (intOf ∘ V.int) = (id : Int → Int) := rfl
  rw [e, List.map_id]
theorem onInts_no {f : List Int → Bool} (hf : ∀ ns, f ns = true → quots ns = true) {th : Option (List V)} (h : quotsT th = false) : onInts f th = false := by
  cases th with
  | none => rfl
  | some xs =>
    cases e : xs.all isI with
    | false => rw [onInts_some, e]; rfl
    | true =>
      obtain ⟨ns, rfl⟩ := isI_ints xs e
      rw [quotsT_ints] at h
      rw [onInts_ints]
      cases z : f ns with
      | false => rfl
      | true => rw [hf ns z] at h; cases h
theorem quotsT_yes {th : Option (List V)} (h : quotsT th = true) : ∃ ns : List Int, th = some (ns.map V.int) := by
  cases th with
  | none => cases h
  | some xs =>
    rw [quotsT_some, Bool.and_eq_true] at h
    obtain ⟨ns, rfl⟩ := isI_ints xs h.1
    exact ⟨ns, rfl⟩
theorem chB_quots (ns : List Int) (h : chB ns = true) : quots ns = true := by
  unfold chB at h
  rw [Bool.and_eq_true] at h
  exact h.1
theorem begB_quots (ns : List Int) (h : begB ns = true) : quots ns = true := by
  unfold begB at h
  rw [Bool.and_eq_true] at h
  exact h.1
theorem abvB_chB {ns : List Int} (h : abvB ns = true) : chB ns = true := by
  unfold abvB at h
  rw [Bool.and_eq_true] at h
  exact h.1
/-! ### chains, by the program's rule and by the mathematics' -/
theorem tl_iff : ∀ {l : List Int}, Cm.Tl l ↔ l ≠ [] ∧ (l.all fun x => decide (1 ≤ x)) = true ∧ 1 < l.getLastD 0
  | [] => ⟨fun h => h.elim, fun h => (h.1 rfl).elim⟩
  | [x] => by
    simp only [Cm.Tl, List.all_cons, List.all_nil, Bool.and_true, decide_eq_true_eq, List.getLastD_cons, List.getLastD_nil]
    constructor
    · intro h
      exact ⟨by simp, by omega, by omega⟩
    · rintro ⟨_, _, h⟩
      omega
  | x :: y :: r => by
    have ih := tl_iff (l := y :: r)
    show (1 ≤ x ∧ Cm.Tl (y :: r)) ↔ _
    rw [ih]
    simp only [List.all_cons, Bool.and_eq_true, decide_eq_true_eq, List.getLastD_cons]
    constructor
    · rintro ⟨h1, _, h2, h3⟩
      exact ⟨by simp, ⟨h1, h2⟩, h3⟩
    · rintro ⟨_, ⟨h1, h2⟩, h3⟩
      exact ⟨h1, by simp, h2, h3⟩
theorem chB_iff (ns : List Int) : chB ns = true ↔ Cm.Ch ns := by
  match ns with
  | [] => simp [chB, Cm.Ch]
  | [x] => simp [chB, Cm.Ch, quots]
  | x :: y :: r =>
    show _ ↔ Cm.Tl (y :: r)
    rw [tl_iff]
    unfold chB quots
    simp only [List.drop_succ_cons, List.drop_zero, Bool.and_eq_true, Bool.or_eq_true, decide_eq_true_eq, List.getLastD_cons, List.length_cons, beq_iff_eq]
    constructor
    · rintro ⟨h1, _, h2⟩
      exact ⟨by simp, h1, h2.resolve_left (by omega)⟩
    · rintro ⟨_, h1, h2⟩
      exact ⟨h1, by simp, .inr h2⟩
theorem getLast_D {ns : List Int} (h : ns ≠ []) : ns.getLast h = ns.getLastD 0 := by
  cases ns with
  | nil => exact absurd rfl h
  | cons x r => rw [List.getLastD_cons, List.getLast_eq_getLastD]
end Cs
namespace Cs
open PySem PySem.Spec PyProof.Rows L2
/-! ### menus -/
theorem atI_of {α : Type} {xs : List α} {i : Int} {v : α} (h0 : 0 ≤ i) (h : xs[i.toNat]? = some v) : atI xs i = some v := by
  have e : i = ((i.toNat : Nat) : Int) := by omega
  rw [e]
  exact atI_nat h
theorem atI_menu {ms : List Int} {i : Int} (h0 : 0 ≤ i) (h : i < (ms.length : Int)) : atI (ms.map V.int) i = some (.int (ms.getD i.toNat 0)) := by
  refine atI_of h0 ?_
  have h1 : i.toNat < ms.length := by omega
  rw [List.getElem?_map, List.getElem?_eq_getElem h1, List.getD_eq_getElem?_getD, List.getElem?_eq_getElem h1]
  rfl
theorem getD_mem {ms : List Int} {i : Nat} (h : i < ms.length) : ms.getD i 0 ∈ ms := by
  rw [List.getD_eq_getElem?_getD, List.getElem?_eq_getElem h]
  exact List.getElem_mem h
def mixed (c k : Int) : Int :=
  ((c % 1000000007 + 7919 * k + 11) % 1000003 * ((c % 1000000007 + 7919 * k + 11) % 1000003) % 1000003 * ((c % 1000000007 + 7919 * k + 11) % 1000003)) % 1000003
theorem mixed_range (c k : Int) : 0 ≤ mixed c k ∧ mixed c k < 1000003 := ⟨Int.emod_nonneg _ (by decide), Int.emod_lt_of_pos _ (by decide)⟩
def lqMenu : List Int := [10 ^ (30 : Int).toNat, 2, 9, 10 ^ (6 : Int).toNat]
def lq (c : Int) : Int := 1 + c % lqMenu.getD (c / 5 % 4).toNat 0
theorem lqMenu_ok : ∀ x ∈ lqMenu, 0 < x ∧ x ≤ 10 ^ 30 := by decide
theorem lq_menu (c : Int) : lqMenu.getD (c / 5 % 4).toNat 0 ∈ lqMenu := getD_mem (by
  have h0 := Int.emod_nonneg (c / 5) (show (4 : Int) ≠ 0 by decide)
  have h1 := Int.emod_lt_of_pos (c / 5) (show (0 : Int) < 4 by decide)
  show (c / 5 % 4).toNat < 4
  omega)
theorem lq_ok (c : Int) : 1 ≤ lq c ∧ Bd 100 (lq c) := by
  obtain ⟨h0, h1⟩ := lqMenu_ok _ (lq_menu c)
  unfold lq
  have r0 := Int.emod_nonneg c (show lqMenu.getD (c / 5 % 4).toNat 0 ≠ 0 by omega)
  have r1 := Int.emod_lt_of_pos c h0
  generalize c % lqMenu.getD (c / 5 % 4).toNat 0 = r at *
  refine ⟨by omega, ?_⟩
  unfold Bd
  omega
theorem bdL {n : Nat} {i : Int} (h : i.natAbs < 2 ^ n) : Bd n i := h
/-- // by a written divisor -/
theorem divS {i j : Int} (h0 : 0 < j) (h : j.natAbs < 1073741824) : CDivP i j := ⟨h0, PyProof.noPylong_small h⟩
end Cs
namespace Cs
open PySem PySem.Spec PyProof.Rows L2
/-! ### the law's own def -/
structure LawAt (K : PySem.W.Frag) (mg : Str → Option Value) (x : Str) (st : Stmt) (ps : List Str) : Prop where
  ex : ∃ (f : Addr) (fd : FuncData), L2.Fun K x x st f fd ∧ mg x = some (.ref f) ∧ ∀ (s : Shared) (v : Value), BindsTo s fd ⟨[v], []⟩ (ps.zip [v])
theorem lawAt_mk {K : PySem.W.Frag} {mg : Str → Option Value} {x : Str} {st : Stmt} {ps : List Str} {f : Addr} {oc : Value} {od an : Option Addr} {osl : Array (Option Value)} {kV doc pm cdv ct : Value}
    (l : K.lookup f = some ⟨oc, od, .func (PySem.W.fnOf x x (defArgs st) (defBody st) (defScope st) .none kV doc pm an cdv ct), osl⟩)
    (c : PySem.W.codeIn K cdv x = true) (k : PySem.W.keepIn K (.ref f) = true) (g : mg x = some (.ref f))
    (h : ∀ (s : Shared) (v : Value), BindsTo s (PySem.W.fnOf x x (defArgs st) (defBody st) (defScope st) .none kV doc pm an cdv ct) ⟨[v], []⟩ (ps.zip [v])) : LawAt K mg x st ps :=
  ⟨f, _, fun_mk l c k, g, h⟩
/-- the law's promise: it answers True -/
def spLaw (K : PySem.W.Frag) : Sp := fun vs H Q _ => ∃ (a : Addr) (ns : List Int), vs = [.ref a] ∧ SqL K H a (ns.map V.int) ∧ ns.length ≤ 63 ∧ ∀ H', Q (.bl true) H'
theorem walk {l : PySem.W.OpenLaw} {k : Nat} {q : Program} {loose : List Str} {XP : (Str → Option Value) → Heap → Prop} {YP : World → Heap → Prop} {d : DefRec} {K : Params → PySem.W.Frag} (hn : l.most = some 63) (hdf : d.params.defaults = []) (hr : Room k callerA)
    (hY : ∀ (w : World) (h : Heap), YP w h → (K w.params).In h)
    (F : ∀ (w : World) (mg : Str → Option Value) (fa : Addr) (h : Heap), (K w.params).In h → h.Ns mainGlobals mg → mg d.name = some (.ref fa) →
      ∃ fd : FuncData, (∀ (s : Shared) (u : Value), BindsTo s fd ⟨[u], []⟩ [("_law_script", u)]) ∧ ∀ base : Heap, (K w.params).In base → base.Ns mainGlobals mg → FnOk l.prog w (K w.params) mg base CX0 k fa fd ["_law_script"] (spLaw (K w.params))) :
    PySem.W.WalkO q loose XP YP l.row.toRowW d [] (fun f vs => PySem.call f vs) :=
  L2.walk_of (n := 63) (k := k) (x := "_law_script") (CX := fun _ => CX0) (sp := fun w => spLaw (K w.params)) hn (by decide) hdf hr hY F (fun _ _ a ns hl _ hS => ⟨a, ns, rfl, hS, hl, fun _ => rfl⟩) fun _ _ _ _ _ z => z
end Cs
namespace Cs
open PySem PySem.Spec PyProof.Rows L2
theorem dp_intsT {K : PySem.W.Frag} {H : Hp} {a : Addr} {ns : List Int} (h : SqT K H a (ns.map V.int)) : Dp K H (.ref a) (.tuple (ns.map PyData.int)) := .tup h (dpAll_ints ns)
theorem shaped_intsT (ns : List Int) : SeqAt.shaped (.tuple (ns.map PyData.int)) = true := by
  unfold SeqAt.shaped
  simp [PyData.canLay0, PyData.depth, canLay_ints, depth_ints]
theorem eqv_intsT (ns ms : List Int) : PyData.eqv (.tuple (ns.map PyData.int)) (.tuple (ms.map PyData.int)) = decide (ns = ms) := by
  simp only [PyData.eqv]
  exact eqvAll_ints ns ms
/-! ### a chain whose last quotient may be 1, mended -/
def fixl (l : List Int) : List Int := if 1 < l.length ∧ l.getLastD 0 = 1 then l.dropLast ++ [2] else l
theorem fixl_len (l : List Int) : (fixl l).length = l.length := by
  unfold fixl
  split
  · rename_i h
    rw [List.length_append, List.length_dropLast, List.length_singleton]
    omega
  · rfl
theorem fixl_mem {l : List Int} {x : Int} (h : x ∈ fixl l) : x ∈ l ∨ x = 2 := by
  unfold fixl at h
  split at h
  · rcases List.mem_append.mp h with h | h
    · exact .inl (List.dropLast_subset _ h)
    · exact .inr (List.mem_singleton.mp h)
  · exact .inl h
theorem tl_app : ∀ {r : List Int} {y : Int}, (∀ x ∈ r, 1 ≤ x) → 2 ≤ y → Cm.Tl (r ++ [y])
  | [], y, _, h => h
  | [a], y, h, h2 => ⟨h a (by simp), h2⟩
  | a :: b :: r, y, h, h2 => ⟨h a (by simp), tl_app (r := b :: r) (fun x hx => h x (List.mem_cons_of_mem _ hx)) h2⟩
theorem fixl_ch (z : Int) (r : List Int) (h : ∀ x ∈ r, 1 ≤ x) : Cm.Ch (fixl (z :: r)) := by
  rcases List.eq_nil_or_concat r with rfl | ⟨s, y, rfl⟩
  · have e : fixl [z] = [z] := by simp [fixl]
    rw [e]
    exact trivial
  · rw [List.concat_eq_append] at *
    have hs : ∀ x ∈ s, 1 ≤ x := fun x hx => h x (List.mem_append_left _ hx)
    have hy : 1 ≤ y := h y (by simp)
    have go : ∀ w : Int, 2 ≤ w → Cm.Ch (z :: (s ++ [w])) := fun w hw => by
      have t := tl_app hs hw
      cases e : s ++ [w] with
      | nil => simp at e
      | cons b u =>
        rw [e] at t
        exact t
    unfold fixl
    split
    · have e : (z :: (s ++ [y])).dropLast ++ [2] = z :: (s ++ [2]) := by
        rw [← List.cons_append, List.dropLast_concat]
        rfl
      rw [e]
      exact go 2 (by decide)
    · rename_i hn
      refine go y ?_
      have e : (z :: (s ++ [y])).getLastD 0 = y := by
        rw [List.getLastD_cons, List.getLastD_concat]
      rw [e] at hn
      have : 1 < (z :: (s ++ [y])).length := by simp
      omega
theorem set_last2 {l : List Int} (h : l ≠ []) : (l.map V.int).set (l.length - 1) (.int 2) = (l.dropLast ++ [2]).map V.int := by
  rw [← List.map_set]
  congr 1
  rcases List.eq_nil_or_concat l with rfl | ⟨s, y, rfl⟩
  · exact absurd rfl h
  · rw [List.concat_eq_append, List.dropLast_concat, List.length_append, List.length_singleton, Nat.add_sub_cancel, List.set_append_right _ _ (Nat.le_refl _), Nat.sub_self]
    rfl
theorem ixN_neg1 {n : Nat} (h : 0 < n) : ixN n (-1) = some (n - 1) := by
  unfold ixN
  rw [if_neg (by decide), if_pos (by omega)]
  congr 1
  omega
theorem ixN_0 {n : Nat} (h : 0 < n) : ixN n 0 = some 0 := by
  unfold ixN
  rw [if_pos (by decide), if_pos (by omega)]
  rfl
theorem getLastD_ne {l : List Int} (h : l ≠ []) : atI (l.map V.int) (-1) = some (.int (l.getLastD 0)) := by
  rw [atI_neg1 h, getLast_D h]
end Cs
namespace Cs
open PySem PySem.Spec PyProof.Rows L2
/-! ### quotients whose fraction the model can reckon -/
structure Sz (ns : List Int) : Prop where
  ex : ∃ n, n ≤ 60000000 ∧ (∀ x ∈ ns, Bd n x) ∧ ∀ k, Bd n (Cm.W (ns.drop k)).1 ∧ Bd n (Cm.W (ns.drop k)).2
theorem sz_short {ns : List Int} (hl : ns.length ≤ 100) (h : ∀ x ∈ ns, Bd 100000 x) : Sz ns :=
  ⟨10000101, by decide, fun x hx => (h x hx).mono (by decide), fun k =>
    W_bd' (n := 100000) (m := 100) (fun x hx => h x (List.mem_of_mem_drop hx)) (by rw [List.length_drop]; omega)⟩
theorem tl_drop : ∀ {l : List Int}, Cm.Tl l → ∀ k, 0 ≤ (Cm.W (l.drop k)).1 ∧ (Cm.W (l.drop k)).1 ≤ (Cm.W l).1 ∧ 0 ≤ (Cm.W (l.drop k)).2 ∧ (Cm.W (l.drop k)).2 ≤ (Cm.W l).1
  | [], h, _ => h.elim
  | l@(x :: r), h, 0 => by
    have := Cm.Tl.w h
    rw [List.drop_zero]
    omega
  | [x], h, k + 1 => by
    have h2 : 2 ≤ x := h
    rw [List.drop_succ_cons, List.drop_nil, Cm.W_nil, Cm.W_one]
    show (0 : Int) ≤ 1 ∧ 1 ≤ x ∧ (0 : Int) ≤ 0 ∧ 0 ≤ x
    omega
  | x :: y :: r, h, k + 1 => by
    have ih := tl_drop (l := y :: r) h.2 k
    have w := Cm.Tl.w (l := y :: r) h.2
    have h1 : 1 ≤ x := h.1
    rw [List.drop_succ_cons, Cm.W_cons x]
    have := Int.mul_le_mul_of_nonneg_right h1 (show 0 ≤ (Cm.W (y :: r)).1 by omega)
    show 0 ≤ (Cm.W (List.drop k (y :: r))).1 ∧ (Cm.W (List.drop k (y :: r))).1 ≤ x * (Cm.W (y :: r)).1 + (Cm.W (y :: r)).2 ∧ _ ∧ _ ≤ x * (Cm.W (y :: r)).1 + (Cm.W (y :: r)).2
    omega
theorem tl_mem : ∀ {l : List Int}, Cm.Tl l → ∀ x ∈ l, 1 ≤ x ∧ x ≤ (Cm.W l).1
  | [], h, _, _ => h.elim
  | [a], h, x, hx => by
    rw [List.mem_singleton] at hx
    subst hx
    have h2 : 2 ≤ x := h
    rw [Cm.W_one]
    show 1 ≤ x ∧ x ≤ x
    omega
  | a :: b :: r, h, x, hx => by
    have w := Cm.Tl.w (l := b :: r) h.2
    have h1 : 1 ≤ a := h.1
    rw [Cm.W_cons]
    show 1 ≤ x ∧ x ≤ a * (Cm.W (b :: r)).1 + (Cm.W (b :: r)).2
    rcases List.mem_cons.mp hx with rfl | hx
    · have := Int.mul_le_mul_of_nonneg_left (show 1 ≤ (Cm.W (b :: r)).1 by omega) (show 0 ≤ x by omega)
      omega
    · have ih := tl_mem (l := b :: r) h.2 x hx
      have := Int.mul_le_mul_of_nonneg_right h1 (show 0 ≤ (Cm.W (b :: r)).1 by omega)
      omega
theorem sz_euc {n : Nat} {t b : Int} (h0 : 0 < b) (ht : Bd n t) (hb : Bd n b) (hn : n ≤ 10000000) : Sz (Cm.euc t b) := by
  obtain ⟨c, g, g0, e1, e2⟩ := Cm.euc_ok (t := t) h0
  have w0 := Cm.Ch.bot c
  have one : Bd n 1 := by unfold Bd at *; omega
  have b1 : Bd n (Cm.W (Cm.euc t b)).1 := by
    unfold Bd at *
    refine Nat.lt_of_le_of_lt ?_ ht
    have : t.natAbs = g.natAbs * (Cm.W (Cm.euc t b)).1.natAbs := by rw [← Int.natAbs_mul, ← e1]
    rw [this]
    exact Nat.le_mul_of_pos_left _ (by omega)
  have b2 : Bd n (Cm.W (Cm.euc t b)).2 := by
    unfold Bd at *
    refine Nat.lt_of_le_of_lt ?_ hb
    have : b.natAbs = g.natAbs * (Cm.W (Cm.euc t b)).2.natAbs := by rw [← Int.natAbs_mul, ← e2]
    rw [this]
    exact Nat.le_mul_of_pos_left _ (by omega)
  have q1 : Bd n (t / b) := Nat.lt_of_le_of_lt (Int.natAbs_ediv_le_natAbs t b) ht
  have hl := Cm.euc_pos (t := t) h0
  generalize Cm.euc t b = l at *
  subst hl
  generalize Cm.euc b (t % b) = r at *
  rw [Cm.W_cons] at b1 b2
  refine ⟨n, by omega, fun x hx => ?_, fun k => ?_⟩
  · rcases List.mem_cons.mp hx with rfl | hx
    · exact q1
    · cases r with
      | nil => cases hx
      | cons y r =>
        have := tl_mem (l := y :: r) c x hx
        exact Bd.of_le (by omega) this.2 b2
  · cases k with
    | zero => rw [List.drop_zero, Cm.W_cons]; exact ⟨b1, b2⟩
    | succ k =>
      rw [List.drop_succ_cons]
      cases r with
      | nil => rw [List.drop_nil, Cm.W_nil]; exact ⟨one, Bd.zero⟩
      | cons y r =>
        have := tl_drop (l := y :: r) c k
        exact ⟨Bd.of_le this.1 this.2.1 b2, Bd.of_le this.2.2.1 this.2.2.2 b2⟩
/-! ### enumerate -/
theorem for_enum {K : PySem.W.Frag} {a : Addr} {xs : List V} {g : TG} {tb : TS} {D : Ends} {σ : L2.St} {H : Hp} (Pv : Nat → L2.St → Hp → Prop) (h0 : Pv 0 σ H) (hl : ∀ i σ H, i ≤ xs.length → Pv i σ H → SqL K H a xs)
    (hs : ∀ i x T σ H H', xs[i]? = some x → Pv i σ H → Same H H' → H T = none → H' T = some (.tup [.int (i : Nat), x]) → g (.ref T) σ H' fun σ2 H2 => tb { D with nx := Pv (i + 1), ct := Pv (i + 1), bk := D.nx } σ2 H2) (hd : ∀ σ H, Pv xs.length σ H → D.nx σ H) :
    ∃ W : Nat → Nat → L2.St → Hp → Prop, (∃ m, W 0 m σ H) ∧ ∀ i m σ H, W i m σ H →
      ((Ite K a).stop i H ∧ D.nx σ H) ∨ ((Ite K a).go i H ∧ ∃ N : L2.St → Hp → Prop, (∀ σ' H', N σ' H' → ∃ m', m' < m ∧ W (i + 1) m' σ' H') ∧ ∀ x H', (Ite K a).yld i H x H' → g x σ H' fun σ2 H2 => tb { D with nx := N, ct := N, bk := D.nx } σ2 H2) := by
  refine ⟨fun i m σ H => m = xs.length - i ∧ i ≤ xs.length ∧ Pv i σ H, ⟨xs.length, by simp, Nat.zero_le _, h0⟩, ?_⟩
  rintro i m σ H ⟨rfl, hi, p⟩
  have q := hl i σ H hi p
  by_cases hlt : i < xs.length
  · refine .inr ⟨⟨xs, xs[i], q, by simp [hlt]⟩, Pv (i + 1), fun σ' H' p' => ⟨xs.length - (i + 1), by omega, rfl, hlt, p'⟩, fun v H' y => ?_⟩
    obtain ⟨T, x, rfl, nT, rfl, fx⟩ := y
    exact hs i x T σ H _ (fx xs q) p (same_upd nT) nT upd_same
  · have e : i = xs.length := by omega
    subst e
    exact .inl ⟨⟨xs, q, Nat.le_refl _⟩, hd σ H p⟩
theorem lc_enum {K : PySem.W.Frag} {a : Addr} {xs : List V} {g : TG} {tt : TT} {te : TE} {vs : List Nat} {σ : L2.St} {H1 : Hp} {D : Addr} {Qd : Hp → Prop} (Pv : Nat → Hp → Prop) (h0 : Pv 0 (upd H1 D (.lst []))) (hl : ∀ i H, i ≤ xs.length → Pv i H → SqL K H a xs)
    (hs : ∀ i x T H H', xs[i]? = some x → Pv i H → Same H H' → H T = none → H' T = some (.tup [.int (i : Nat), x]) → g (.ref T) (wipe σ vs) H' fun σ2 H2 => wipe σ2 vs = wipe σ vs ∧ tt σ2 H2 fun b H3 =>
      if b = true then te σ2 H3 fun y H4 => ∃ acc, H4 D = some (.lst acc) ∧ acc.length < sizeLine ∧ Pv (i + 1) (upd H4 D (.lst (acc ++ [y]))) else Pv (i + 1) H3) (hd : ∀ H, Pv xs.length H → Qd H) :
    ∃ W : Nat → Nat → Hp → Prop, (∃ m, W 0 m (upd H1 D (.lst []))) ∧ ∀ i m H, W i m H →
      ((Ite K a).stop i H ∧ Qd H) ∨ ((Ite K a).go i H ∧ ∃ Nx : Hp → Prop, (∀ H', Nx H' → ∃ m', m' < m ∧ W (i + 1) m' H') ∧ ∀ x H', (Ite K a).yld i H x H' → g x (wipe σ vs) H' fun σ2 H2 => wipe σ2 vs = wipe σ vs ∧ tt σ2 H2 fun b H3 =>
        if b = true then te σ2 H3 fun y H4 => ∃ acc, H4 D = some (.lst acc) ∧ acc.length < sizeLine ∧ Nx (upd H4 D (.lst (acc ++ [y]))) else Nx H3) := by
  refine ⟨fun i m H => m = xs.length - i ∧ i ≤ xs.length ∧ Pv i H, ⟨xs.length, by simp, Nat.zero_le _, h0⟩, ?_⟩
  rintro i m H ⟨rfl, hi, p⟩
  have q := hl i H hi p
  by_cases hlt : i < xs.length
  · refine .inr ⟨⟨xs, xs[i], q, by simp [hlt]⟩, Pv (i + 1), fun H' p' => ⟨xs.length - (i + 1), by omega, rfl, hlt, p'⟩, fun v H' y => ?_⟩
    obtain ⟨T, x, rfl, nT, rfl, fx⟩ := y
    exact hs i x T H _ (fx xs q) p (same_upd nT) nT upd_same
  · have e : i = xs.length := by omega
    subst e
    exact .inl ⟨⟨xs, q, Nat.le_refl _⟩, hd H p⟩
end Cs
namespace Cs
open PySem PySem.Spec PyProof.Rows L2
/-! ### a while's test, so that what follows may be weakened -/
def tMonoT (t : TT) : TT := fun σ H Q => ∃ Q0 : Bool → Hp → Prop, t σ H Q0 ∧ ∀ b H', Q0 b H' → Q b H'
theorem pt_mono {X : Cx} {e : Expr} {t : TT} (h : PT X e t) : PT X e (tMonoT t) := by
  refine ⟨fun pins s σ H Q I hq => ?_⟩
  obtain ⟨Q0, h1, h2⟩ := hq
  exact thn (h.run pins s σ H Q0 I h1) fun b s1 ⟨H', I', q⟩ => ⟨H', I', h2 _ _ q⟩
theorem while_m {c : TT} {tb : TS} {D : Ends} {σ : L2.St} {H : Hp} (Pv : L2.St → Hp → Prop) (μ : L2.St → Hp → Nat) (h0 : Pv σ H)
    (hs : ∀ σ H, Pv σ H → c σ H fun b H1 => if b = true then tb { D with nx := fun σ' H' => Pv σ' H' ∧ μ σ' H' < μ σ H, ct := fun σ' H' => Pv σ' H' ∧ μ σ' H' < μ σ H, bk := D.nx } σ H1 else D.nx σ H1) : tWhile (tMonoT c) tb D σ H :=
  while_by Pv μ h0 (fun σ H p => ⟨_, hs σ H p, fun _ _ q => q⟩) fun _ _ _ _ m ⟨Q0, h1, h2⟩ => ⟨Q0, h1, fun b H' q => m _ _ (h2 _ _ q)⟩
end Cs
namespace Cs
open PySem PySem.Spec PyProof.Rows L2
/-! ### the shape of data -/
structure Shp (n : Nat) (d : PyData) : Prop where
  lay : d.canLay0 = true
  dep : d.depth ≤ n
theorem Shp.shaped {n : Nat} {d : PyData} (h : Shp n d) (l : n ≤ 64) : SeqAt.shaped d = true := by
  unfold SeqAt.shaped
  rw [h.lay, Bool.true_and]
  exact decide_eq_true (Nat.le_trans h.dep l)
theorem shp_int (i : Int) : Shp 0 (.int i) := ⟨by simp [PyData.canLay0], by simp [PyData.depth]⟩
theorem shp_bool (i : Bool) : Shp 0 (.bool i) := ⟨by simp [PyData.canLay0], by simp [PyData.depth]⟩
theorem shp_none : Shp 0 .none := ⟨by simp [PyData.canLay0], by simp [PyData.depth]⟩
theorem Shp.mono {n m : Nat} {d : PyData} (h : Shp n d) (l : n ≤ m) : Shp m d := ⟨h.lay, Nat.le_trans h.dep l⟩
theorem shp_all {n : Nat} : ∀ {ds : List PyData}, (∀ d ∈ ds, Shp n d) → PyData.canLayAll0 ds = true ∧ PyData.depthAll ds ≤ n
  | [], _ => ⟨by simp [PyData.canLayAll0], by simp [PyData.depthAll]⟩
  | d :: ds, h => by
    obtain ⟨h1, h2⟩ := shp_all (ds := ds) fun x hx => h x (List.mem_cons_of_mem _ hx)
    have hd := h d List.mem_cons_self
    refine ⟨by simp [PyData.canLayAll0, h1, hd.lay], ?_⟩
    have := hd.dep
    simp only [PyData.depthAll]
    omega
theorem shp_list {n : Nat} {ds : List PyData} (h : ∀ d ∈ ds, Shp n d) : Shp (n + 1) (.list ds) := by
  obtain ⟨h1, h2⟩ := shp_all h
  exact ⟨by simpa [PyData.canLay0] using h1, by simp only [PyData.depth]; omega⟩
theorem shp_tup {n : Nat} {ds : List PyData} (h : ∀ d ∈ ds, Shp n d) : Shp (n + 1) (.tuple ds) := by
  obtain ⟨h1, h2⟩ := shp_all h
  exact ⟨by simpa [PyData.canLay0] using h1, by simp only [PyData.depth]; omega⟩
theorem shp_ints (ns : List Int) : Shp 1 (.list (ns.map PyData.int)) := shp_list fun d hd => by
  obtain ⟨i, _, rfl⟩ := List.mem_map.mp hd
  exact shp_int i
theorem shp_intsT (ns : List Int) : Shp 1 (.tuple (ns.map PyData.int)) := shp_tup fun d hd => by
  obtain ⟨i, _, rfl⟩ := List.mem_map.mp hd
  exact shp_int i
theorem eqv_same {n : Nat} {d : PyData} (h : Shp n d) : PyData.eqv d d = true := SeqAt.eqv_refl d h.lay
/-! ### the chain of quotients of a list, mended -/
theorem fixl_good {l : List Int} (hne : l ≠ []) (h : ∀ x ∈ l.drop 1, 1 ≤ x) : Cm.Ch (fixl l) := by
  cases l with
  | nil => exact absurd rfl hne
  | cons z r => exact fixl_ch z r h
end Cs

namespace Cs
open PySem PySem.Spec PyProof.Rows L2

def topS (i : Nat) : Stmt := PySem.Challenge.pw_chainsum_k03_order_of_chains.main.body.getD i (.Pass ⟨0, 0, 0, 0⟩)
abbrev s_is_whole : Stmt := topS 4
abbrev N_is_whole : List Str := ["thing"]
theorem sc_is_whole : FnScope N_is_whole ["thing"] (defScope s_is_whole) := ⟨rfl, rfl, rfl, by decide +kernel, rfl, by decide +kernel, by decide +kernel⟩
abbrev s_are_quotients : Stmt := topS 5
abbrev N_are_quotients : List Str := ["thing", "quotient"]
theorem sc_are_quotients : FnScope N_are_quotients ["thing"] (defScope s_are_quotients) := ⟨rfl, rfl, rfl, by decide +kernel, rfl, by decide +kernel, by decide +kernel⟩
abbrev s_is_chain : Stmt := topS 6
abbrev N_is_chain : List Str := ["thing"]
theorem sc_is_chain : FnScope N_is_chain ["thing"] (defScope s_is_chain) := ⟨rfl, rfl, rfl, by decide +kernel, rfl, by decide +kernel, by decide +kernel⟩
abbrev s_need_chain : Stmt := topS 7
abbrev N_need_chain : List Str := ["thing"]
theorem sc_need_chain : FnScope N_need_chain ["thing"] (defScope s_need_chain) := ⟨rfl, rfl, rfl, by decide +kernel, rfl, by decide +kernel, by decide +kernel⟩
abbrev s_compared : Stmt := topS 8
abbrev N_compared : List Str := ["one", "other", "place", "is_greater"]
theorem sc_compared : FnScope N_compared ["one", "other"] (defScope s_compared) := ⟨rfl, rfl, rfl, by decide +kernel, rfl, by decide +kernel, by decide +kernel⟩
abbrev s_l_mixed : Stmt := topS 10
abbrev N_l_mixed : List Str := ["_law_cell", "_law_k", "_law_number"]
theorem sc_l_mixed : FnScope N_l_mixed ["_law_cell", "_law_k"] (defScope s_l_mixed) := ⟨rfl, rfl, rfl, by decide +kernel, rfl, by decide +kernel, by decide +kernel⟩
abbrev s_l_quotient : Stmt := topS 11
abbrev N_l_quotient : List Str := ["_law_cell"]
theorem sc_l_quotient : FnScope N_l_quotient ["_law_cell"] (defScope s_l_quotient) := ⟨rfl, rfl, rfl, by decide +kernel, rfl, by decide +kernel, by decide +kernel⟩
abbrev s_l_worth : Stmt := topS 12
abbrev N_l_worth : List Str := ["_law_quotients", "_law_top", "_law_bottom", "_law_quotient_here"]
theorem sc_l_worth : FnScope N_l_worth ["_law_quotients"] (defScope s_l_worth) := ⟨rfl, rfl, rfl, by decide +kernel, rfl, by decide +kernel, by decide +kernel⟩
abbrev s_l_whole : Stmt := topS 13
abbrev N_l_whole : List Str := ["_law_found"]
theorem sc_l_whole : FnScope N_l_whole ["_law_found"] (defScope s_l_whole) := ⟨rfl, rfl, rfl, by decide +kernel, rfl, by decide +kernel, by decide +kernel⟩
abbrev s_l_neat : Stmt := topS 14
abbrev N_l_neat : List Str := ["_law_quotients", "_law_found"]
theorem sc_l_neat : FnScope N_l_neat ["_law_quotients"] (defScope s_l_neat) := ⟨rfl, rfl, rfl, by decide +kernel, rfl, by decide +kernel, by decide +kernel⟩
abbrev s_law : Stmt := topS 15
abbrev N_law : List Str := ["_law_script", "_law_cells", "_law_quotients", "_law_number", "_law_at", "_law_other", "_law_one", "_law_left", "_law_right", "_law_due", "_law_handed", "_law_told", "_law_cell", "_law_k", "_law_found"]
theorem sc_law : FnScope N_law ["_law_script"] (defScope s_law) := ⟨rfl, rfl, rfl, by decide +kernel, rfl, by decide +kernel, by decide +kernel⟩
structure Txt (K : PySem.W.Frag) (mg : Str → Option Value) : Prop where
  d_is_whole : DefAt K mg "is_whole" s_is_whole ["thing"]
  d_are_quotients : DefAt K mg "are_quotients" s_are_quotients ["thing"]
  d_is_chain : DefAt K mg "is_chain" s_is_chain ["thing"]
  d_need_chain : DefAt K mg "need_chain" s_need_chain ["thing"]
  d_compared : DefAt K mg "compared" s_compared ["one", "other"]
  d_l_mixed : DefAt K mg "_law_mixed" s_l_mixed ["_law_cell", "_law_k"]
  d_l_quotient : DefAt K mg "_law_quotient" s_l_quotient ["_law_cell"]
  d_l_worth : DefAt K mg "_law_worth" s_l_worth ["_law_quotients"]
  d_l_whole : DefAt K mg "_law_whole" s_l_whole ["_law_found"]
  d_l_neat : DefAt K mg "_law_neat" s_l_neat ["_law_quotients"]
  d_law : LawAt K mg "law" s_law ["_law_script"]
  z_all : mg "all" = none
  z_bool : mg "bool" = none
  z_enumerate : mg "enumerate" = none
  z_int : mg "int" = none
  z_isinstance : mg "isinstance" = none
  z_len : mg "len" = none
  z_list : mg "list" = none
  z_sum : mg "sum" = none
def sp_is_whole (K : PySem.W.Frag) : Sp := fun vs H Q _ => ∃ (x : V) (t : String), vs = [x] ∧ TyX K H x (.type t) ∧ t ∈ tys ∧ Q (.bl (decide (t = "int"))) H
section
variable {P : Program} {w : World} {K : PySem.W.Frag} {mg : Str → Option Value} {base : Heap}
theorem cal_is_whole (T : Txt K mg) : Cal P w K mg base CX0 1 "is_whole" (sp_is_whole K) := by
  refine cal_ok T.d_is_whole sc_is_whole (fun vs H Q E h => ?_) (fun f cdv A outer s H vs Q E hr h => ?_)
  · obtain ⟨x, t, rfl, _⟩ := h
    rfl
  · refine ⟨_, (pss_one (ps_ret (pe_and (pe_callB call_isi (by rfl) T.z_isinstance (by decide +kernel) (pa_cons (pv 0) (pa_cons (pe_bltn (v := .ty "int") (u := .type "int") (by rfl) T.z_int (by decide +kernel) rfl) pa_nil))) (pe_one (pe_not (pe_callB call_isi (by rfl) T.z_isinstance (by decide +kernel) (pa_cons (pv 0) (pa_cons (pe_bltn (v := .ty "bool") (u := .type "bool") (by rfl) T.z_bool (by decide +kernel) rfl) pa_nil)))))))), ?_⟩
    obtain ⟨x, t, rfl, hx, ht, q⟩ := h
    refine ⟨_, rfl, _, _, _, _, _, rfl, .ty _, hx, kit_ty (kit_tys (by decide) _ ht), _, rfl, ?_⟩
    by_cases h1 : t = "int"
    · subst h1
      exact iteT ⟨_, rfl, _, _, _, _, _, rfl, .ty _, hx, kit_ty (kit_tys (by decide) _ ht), _, rfl, q⟩
    · by_cases h2 : t = "bool"
      · subst h2
        exact iteT ⟨_, rfl, _, _, _, _, _, rfl, .ty _, hx, kit_ty (kit_tys (by decide) _ ht), _, rfl, q⟩
      · rw [decide_eq_false h1] at q ⊢
        rw [decide_eq_false h2]
        exact iteF q
end
def sp_l_mixed (K : PySem.W.Frag) : Sp := fun vs H Q _ => ∃ (c k : Int), vs = [.int c, .int k] ∧ Q (.int (mixed c k)) H
section
variable {P : Program} {w : World} {K : PySem.W.Frag} {mg : Str → Option Value} {base : Heap}
theorem cal_l_mixed (T : Txt K mg) : Cal P w K mg base CX0 1 "_law_mixed" (sp_l_mixed K) := by
  refine cal_ok T.d_l_mixed sc_l_mixed (fun vs H Q E h => ?_) (fun f cdv A outer s H vs Q E hr h => ?_)
  · obtain ⟨c, k, rfl, _⟩ := h
    rfl
  · refine ⟨_, (pss_cons (ps_set (i := 2) sc_l_mixed.nd rfl (.inl rfl) (pe_op op_mod (pe_op op_add (pe_op op_add (pe_op op_mod (pv 0) pe_int) (pe_op op_mulX pe_int (pv 1))) pe_int) pe_int))
      (pss_one (ps_ret (pe_op op_mod (pe_op op_mulX (pe_op op_mod (pe_op op_mulX (pv 2) (pv 2)) pe_int) (pv 2)) pe_int)))), ?_⟩
    obtain ⟨c, k, rfl, q⟩ := h
    have h0 := Int.emod_nonneg (c % 1000000007 + 7919 * k + 11) (show (1000003 : Int) ≠ 0 by decide)
    have h1 := Int.emod_lt_of_pos (c % 1000000007 + 7919 * k + 11) (show (0 : Int) < 1000003 by decide)
    have P1 : (0 : Int) < 1000000007 := by decide
    have P2 : (0 : Int) < 1000003 := by decide
    refine ⟨_, rfl, _, _, rfl, rfl, P1, _, rfl, _, _, rfl, rfl, mulOk_l (bdL (by decide)), _, _, rfl, rfl, _, _, rfl, rfl, _, _, rfl, rfl, P2, ?_⟩
    refine ⟨_, rfl, _, rfl, _, _, rfl, rfl, mulOk_l (bdL (by omega)), _, _, rfl, rfl, P2, _, rfl, _, _, rfl, rfl, mulOk_r (bdL (by omega)), _, _, rfl, rfl, P2, ?_⟩
    exact q
end
def sp_l_quotient (K : PySem.W.Frag) : Sp := fun vs H Q _ => ∃ (c : Int), vs = [.int c] ∧ ∀ H', Same H H' → Q (.int (lq c)) H'
section
variable {P : Program} {w : World} {K : PySem.W.Frag} {mg : Str → Option Value} {base : Heap}
theorem cal_l_quotient (T : Txt K mg) : Cal P w K mg base CX0 1 "_law_quotient" (sp_l_quotient K) := by
  refine cal_ok T.d_l_quotient sc_l_quotient (fun vs H Q E h => ?_) (fun f cdv A outer s H vs Q E hr h => ?_)
  · obtain ⟨c, rfl, _⟩ := h
    rfl
  · refine ⟨_, (pss_one (ps_ret (pe_op op_add pe_int (pe_op op_mod (pv 0) (pe_ix ix_list (pe_lst (pa_cons (pe_op op_pow pe_int pe_int) (pa_cons pe_int (pa_cons pe_int (pa_cons (pe_op op_pow pe_int pe_int) pa_nil))))) (pe_op op_mod (pe_op op_fdivP (pv 0) pe_int) pe_int) (fun _ _ => rfl)))))), ?_⟩
    obtain ⟨c, rfl, q⟩ := h
    have h0 := Int.emod_nonneg (c / 5) (show (4 : Int) ≠ 0 by decide)
    have h1 := Int.emod_lt_of_pos (c / 5) (show (0 : Int) < 4 by decide)
    refine ⟨_, rfl, _, _, rfl, rfl, ⟨by decide, by decide, by decide⟩, _, _, rfl, rfl, ⟨by decide, by decide, by decide⟩, (by show 4 ≤ sizeLine; decide), fun p np => ?_⟩
    (generalize hH_ : upd _ p _ = H1; have s1 := same_of hH_ np; have ep := at_new hH_; clear hH_)
    have ep' : H1 p = some (.lst (lqMenu.map V.int)) := ep
    refine ⟨_, rfl, _, _, rfl, rfl, divS (by decide) (by decide), _, _, rfl, rfl, (show (0 : Int) < 4 by decide), p, _, _, _, rfl, rfl, sqL ep', atI_menu h0 h1, ?_⟩
    refine ⟨_, _, rfl, rfl, (lqMenu_ok _ (lq_menu c)).1, _, _, rfl, rfl, ?_⟩
    exact q _ s1
end
theorem worth_at {ns : List Int} {i : Nat} {z : Int} (hz : ns.dropLast.reverse[i]? = some z) : i + 1 < ns.length ∧ ns[ns.length - 2 - i]? = some z := by
  have hi := (List.getElem?_eq_some_iff.mp hz).1
  rw [List.length_reverse, List.length_dropLast] at hi
  rw [List.getElem?_reverse (by rw [List.length_dropLast]; omega), List.length_dropLast, List.getElem?_dropLast, if_pos (by omega)] at hz
  exact ⟨by omega, by rw [← hz]; congr 1⟩
theorem worth_step {ns : List Int} {i : Nat} {z : Int} (hi : i + 1 < ns.length) (h : ns[ns.length - 2 - i]? = some z) :
    Cm.W (ns.drop (ns.length - 1 - (i + 1))) = (z * (Cm.W (ns.drop (ns.length - 1 - i))).1 + (Cm.W (ns.drop (ns.length - 1 - i))).2, (Cm.W (ns.drop (ns.length - 1 - i))).1) := by
  have e : ns.length - 1 - (i + 1) = ns.length - 2 - i := by omega
  have h1 : ns.length - 2 - i < ns.length := by omega
  have e2 : ns.length - 2 - i + 1 = ns.length - 1 - i := by omega
  rw [e, List.drop_eq_getElem_cons h1, e2, Cm.W_cons]
  have : ns[ns.length - 2 - i] = z := by
    rw [List.getElem?_eq_getElem h1] at h
    exact Option.some.inj h
  rw [this]
theorem worth_last {ns : List Int} (h : ns ≠ []) : Cm.W (ns.drop (ns.length - 1 - 0)) = (ns.getLast h, 1) := by
  have hl : 0 < ns.length := List.length_pos_iff.mpr h
  rw [Nat.sub_zero, List.drop_eq_getElem_cons (by omega), List.drop_eq_nil_of_le (by omega), Cm.W_one, List.getLast_eq_getElem]
/-- the fraction that quotients tell, as a new tuple -/
def sp_l_worth (K : PySem.W.Frag) : Sp := fun vs H Q _ => ∃ (a : Addr) (ns : List Int), vs = [.ref a] ∧ SqL K H a (ns.map V.int) ∧ ns ≠ [] ∧ Sz ns ∧
  ∀ H' p, Same H H' → H p = none → H' p = some (.tup [.int (Cm.W ns).1, .int (Cm.W ns).2]) → Q (.ref p) H'
section
variable {P : Program} {w : World} {K : PySem.W.Frag} {mg : Str → Option Value} {base : Heap}
theorem cal_l_worth (T : Txt K mg) : Cal P w K mg base CX0 1 "_law_worth" (sp_l_worth K) := by
  refine cal_ok T.d_l_worth sc_l_worth (fun vs H Q E h => ?_) (fun f cdv A outer s H vs Q E hr h => ?_)
  · obtain ⟨a, ns, rfl, _⟩ := h
    rfl
  · refine ⟨_, (pss_cons (ps_par (i := 1) (j := 2) (by rfl) sc_l_worth.nd rfl rfl (by decide) rfl rfl (pa_cons (pe_ix ix_list (pv 0) (pe_un un_neg pe_int) (fun _ _ => rfl)) (pa_cons pe_int pa_nil)) (by rfl))
      (pss_cons (ps_for PassesOwn.never rfl (pi_list (pe_revL (pe_slice sl_list (pv 0) po_none (po_some (pe_un un_neg pe_int))))) (pg_name (i := 3) sc_l_worth.nd rfl (.inl rfl))
      (pss_one (ps_par (i := 1) (j := 2) (by rfl) sc_l_worth.nd rfl rfl (by decide) rfl rfl (pa_cons (pe_op op_add (pe_op op_mulX (pv 3) (pv 1)) (pv 2)) (pa_cons (pv 1) pa_nil)) (by rfl))))
      (pss_one (ps_ret (pe_tup (pa_cons (pv 1) (pa_cons (pv 2) pa_nil))))))), ?_⟩
    obtain ⟨a, ns, rfl, hS, hne, ⟨n, hn, hb, hw⟩, q⟩ := h
    have hl : 0 < ns.length := List.length_pos_iff.mpr hne
    refine ⟨_, rfl, 1, rfl, a, _, _, _, rfl, rfl, hS, atI_neg1 hne, _, _, rfl, ?_⟩
    refine ⟨_, rfl, 1, rfl, _, rfl, a, _, rfl, hS, fun c nc => ?_⟩
    (generalize hH_ : upd _ c _ = H1; have s1 := same_of hH_ nc; have ec := at_new hH_; clear hH_)
    refine ⟨c, _, rfl, sqL ec, fun d nd => ?_⟩
    (generalize hH_ : upd _ d _ = H2; have s2 := same_of hH_ nd; have ed := at_new hH_; clear hH_)
    rw [cut_neg1, ← List.map_dropLast, ← List.map_reverse] at ed
    refine ⟨d, rfl, ⟨_, sqL ed⟩, for_list (K := K) (a := d) (xs := ns.dropLast.reverse.map V.int) (fun i σ H' => ∃ v3, σ = [some (.ref a), some (.int (Cm.W (ns.drop (ns.length - 1 - i))).1), some (.int (Cm.W (ns.drop (ns.length - 1 - i))).2), v3] ∧ H' = H2)
      ⟨none, by rw [worth_last hne]; rfl, rfl⟩ (fun i σ H' _ ⟨_, _, e⟩ => by rw [e]; exact sqL ed) ?_ ?_⟩
    · rintro i y σ H' hi ⟨v3, rfl, rfl⟩
      obtain ⟨z, hz, rfl⟩ := map_int_at hi
      obtain ⟨h1, hz'⟩ := worth_at hz
      have hbz : Bd n z := hb z (List.mem_of_getElem? hz')
      have st := worth_step h1 hz'
      refine ⟨_, rfl, _, rfl, _, _, rfl, rfl, mulOk hbz (hw _).1 (by omega), _, rfl, _, _, rfl, rfl, _, rfl, _, _, rfl, ?_⟩
      refine ⟨some (.int z), ?_, rfl⟩
      rw [st]
      rfl
    · rintro σ H' ⟨v3, rfl, rfl⟩
      refine ⟨_, rfl, _, rfl, (by show 2 ≤ sizeLine; decide), fun p np => ?_⟩
      (generalize hH_ : upd _ p _ = H3; have s3 := same_of hH_ np; have ep := at_new hH_; clear hH_)
      refine q _ p ((s1.trans s2).trans s3) ((s1.trans s2).free np) ?_
      rw [ep, List.length_map, List.length_reverse, List.length_dropLast, Nat.sub_self, List.drop_zero]
end
def sp_l_whole (K : PySem.W.Frag) : Sp := fun vs H Q _ => ∃ (x : V) (t : String), vs = [x] ∧ TyX K H x (.type t) ∧ t ∈ tys ∧ Q (.bl (decide (t = "int"))) H
section
variable {P : Program} {w : World} {K : PySem.W.Frag} {mg : Str → Option Value} {base : Heap}
theorem cal_l_whole (T : Txt K mg) : Cal P w K mg base CX0 1 "_law_whole" (sp_l_whole K) := by
  refine cal_ok T.d_l_whole sc_l_whole (fun vs H Q E h => ?_) (fun f cdv A outer s H vs Q E hr h => ?_)
  · obtain ⟨x, t, rfl, _⟩ := h
    rfl
  · refine ⟨_, (pss_one (ps_ret (pe_and (pe_callB call_isi (by rfl) T.z_isinstance (by decide +kernel) (pa_cons (pv 0) (pa_cons (pe_bltn (v := .ty "int") (u := .type "int") (by rfl) T.z_int (by decide +kernel) rfl) pa_nil))) (pe_one (pe_not (pe_callB call_isi (by rfl) T.z_isinstance (by decide +kernel) (pa_cons (pv 0) (pa_cons (pe_bltn (v := .ty "bool") (u := .type "bool") (by rfl) T.z_bool (by decide +kernel) rfl) pa_nil)))))))), ?_⟩
    obtain ⟨x, t, rfl, hx, ht, q⟩ := h
    refine ⟨_, rfl, _, _, _, _, _, rfl, .ty _, hx, kit_ty (kit_tys (by decide) _ ht), _, rfl, ?_⟩
    by_cases h1 : t = "int"
    · subst h1
      exact iteT ⟨_, rfl, _, _, _, _, _, rfl, .ty _, hx, kit_ty (kit_tys (by decide) _ ht), _, rfl, q⟩
    · by_cases h2 : t = "bool"
      · subst h2
        exact iteT ⟨_, rfl, _, _, _, _, _, rfl, .ty _, hx, kit_ty (kit_tys (by decide) _ ht), _, rfl, q⟩
      · rw [decide_eq_false h1] at q ⊢
        rw [decide_eq_false h2]
        exact iteF q
end
def neat (l : List Int) : List Int := fixl (if l = [] then [0] else l)
theorem fixl_eq {l : List Int} (h : l ≠ []) (b : Bool) (e : b = (decide (1 < l.length) && decide (l.getLastD 0 = 1))) : fixl l = l.dropLast ++ [l.getLastD 0 + (if b = true then 1 else 0)] := by
  unfold fixl
  split
  · rename_i c
    rw [e, decide_eq_true c.1, decide_eq_true c.2, c.2]
    rfl
  · rename_i c
    have : b = false := by
      rw [e, Bool.and_eq_false_iff, decide_eq_false_iff_not, decide_eq_false_iff_not]
      by_cases z : 1 < l.length
      · exact .inr fun y => c ⟨z, y⟩
      · exact .inl z
    rw [this]
    have e2 : l.getLastD 0 = l.getLast h := (getLast_D h).symm
    rw [e2]
    simp only [Bool.false_eq_true, if_false, Int.add_zero, List.dropLast_concat_getLast]
def sp_l_neat (K : PySem.W.Frag) : Sp := fun vs H Q _ => ∃ (a : Addr) (ns : List Int), vs = [.ref a] ∧ SqL K H a (ns.map V.int) ∧ ns.length ≤ 1000 ∧
  ∀ H' p, Same H H' → H p = none → H' p = some (.lst ((neat ns).map V.int)) → Q (.ref p) H'
section
variable {P : Program} {w : World} {K : PySem.W.Frag} {mg : Str → Option Value} {base : Heap}
theorem cal_l_neat (T : Txt K mg) : Cal P w K mg base CX0 1 "_law_neat" (sp_l_neat K) := by
  refine cal_ok T.d_l_neat sc_l_neat (fun vs H Q E h => ?_) (fun f cdv A outer s H vs Q E hr h => ?_)
  · obtain ⟨a, ns, rfl, _⟩ := h
    rfl
  · refine ⟨_, (Evl.pss_cut (ps_set (i := 1) sc_l_neat.nd rfl (.inl rfl) (pe_orT (pv 0) (pe_one (pe_lst (pa_cons pe_int pa_nil)))))
      (pss_one (ps_ret (pe_op op_cat (pe_slice sl_list (pv 1) po_none (po_some (pe_un un_neg pe_int))) (pe_lst (pa_cons (pe_op op_add (pe_ix ix_list (pv 1) (pe_un un_neg pe_int) (fun _ _ => rfl)) (pe_callTy call_int1 (by rfl) T.z_int (by decide +kernel) (pa_cons (pe_and (pe_cmpR op_gt (pe_callB call_len_seq (by rfl) T.z_len PySem.boot_len (pa_cons (pv 1) pa_nil)) pe_int (nomark _)) (pe_one (pe_cmpR op_eq (pe_ix ix_list (pv 1) (pe_un un_neg pe_int) (fun _ _ => rfl)) pe_int (nomark _)))) pa_nil))) pa_nil)))))), ?_⟩
    obtain ⟨a, ns, rfl, hS, hl, q⟩ := h
    refine ⟨fun σ H' => ∃ (p : Addr) (f : List Int), σ = [some (.ref a), some (.ref p)] ∧ Same H H' ∧ SqL K H' p (f.map V.int) ∧ neat ns = fixl f ∧ f ≠ [] ∧ f.length ≤ 1000, ?_, ?_⟩
    · refine ⟨_, rfl, _, .inl ⟨_, hS, rfl⟩, ?_⟩
      cases ns with
      | nil =>
        refine ⟨by decide, fun p np => ?_⟩
        (generalize hH_ : upd _ p _ = H1; have s1 := same_of hH_ np; have e1 := at_new hH_; clear hH_)
        exact ⟨p, [0], rfl, s1, sqL e1, rfl, by simp, by decide⟩
      | cons x r => exact ⟨a, x :: r, rfl, Same.refl _, hS, by unfold neat; rw [if_neg (by simp)], by simp, hl⟩
    rintro σ H1 ⟨p, f, rfl, s1, hp, en, hne, hfl⟩
    rw [en] at q
    refine ⟨_, rfl, 1, rfl, _, rfl, p, _, rfl, hp, fun c nc => ?_⟩
    (generalize hH_ : upd _ c _ = H2; have s2 := same_of hH_ nc; have e2 := at_new hH_; clear hH_)
    rw [cut_neg1, ← List.map_dropLast] at e2
    have hp2 := s2.seq hp
    refine ⟨_, rfl, 1, rfl, p, _, _, _, rfl, rfl, hp2, getLastD_ne hne, ?_⟩
    refine ⟨_, rfl, p, _, rfl, .inl hp2, _, _, rfl, rfl, _, rfl, ?_⟩
    have fin : ∀ b : Bool, b = (decide (1 < f.length) && decide (f.getLastD 0 = 1)) → ∀ H3 d, Same H2 H3 → H2 d = none → H3 d = some (.lst [V.int (f.getLastD 0 + (if b = true then 1 else 0))]) →
        ∃ l b xs zs, V.ref c = .ref l ∧ V.ref d = .ref b ∧ H3 l = some (.lst xs) ∧ H3 b = some (.lst zs) ∧ xs.length + zs.length ≤ sizeLine ∧ ∀ p, H3 p = none → Q (.ref p) (upd H3 p (.lst (xs ++ zs))) := by
      intro b eb H3 d s3 nd ed
      refine ⟨c, d, _, _, rfl, rfl, s3 _ _ e2, ed, ?_, fun r nr => ?_⟩
      · rw [List.length_map, List.length_dropLast, List.length_singleton]
        exact Nat.le_of_lt (small1000 (by omega))
      · (generalize hH_ : upd _ r _ = H4; have s4 := same_of hH_ nr; have e4 := at_new hH_; clear hH_)
        refine q _ r (((s1.trans s2).trans s3).trans s4) (((s1.trans s2).trans s3).free nr) ?_
        rw [e4, fixl_eq hne b eb, List.map_append]
        rfl
    refine ite2 (fun c1 => ?_) (fun c1 => ?_)
    · have c1' : 1 < f.length := by
        have := of_decide_eq_true c1
        rw [List.length_map] at this
        omega
      refine ⟨_, rfl, 1, rfl, p, _, _, _, rfl, rfl, hp2, getLastD_ne hne, rfl, .inr ⟨_, rfl, _, _, rfl, rfl, (by show 1 ≤ sizeLine; decide), fun d nd => ?_⟩⟩
      (generalize hH_ : upd _ d _ = H3; have s3 := same_of hH_ nd; have ed := at_new hH_; clear hH_)
      refine fin (decide (V.int (f.getLastD 0) = V.int 1)) ?_ H3 d s3 nd ed
      rw [decide_eq_true c1', Bool.true_and]
      exact decide_eq_decide.mpr ⟨fun z => V.int.inj z, fun z => by rw [z]⟩
    · have c1' : ¬ 1 < f.length := fun z => c1 (decide_eq_true (by rw [List.length_map]; omega))
      refine .inr ⟨_, rfl, _, _, rfl, rfl, (by show 1 ≤ sizeLine; decide), fun d nd => ?_⟩
      (generalize hH_ : upd _ d _ = H3; have s3 := same_of hH_ nd; have ed := at_new hH_; clear hH_)
      refine fin false ?_ H3 d s3 nd ed
      rw [decide_eq_false c1']
      rfl
end
def sp_are_quotients (K : PySem.W.Frag) : Sp := fun vs H Q _ => ∃ (x : V) (th : Option (List V)), vs = [x] ∧ Thing K H x th ∧ ∀ H', Same H H' → Q (.bl (quotsT th)) H'
section
variable {P : Program} {w : World} {K : PySem.W.Frag} {mg : Str → Option Value} {base : Heap}
theorem cal_are_quotients (T : Txt K mg) : Cal P w K mg base CX0 2 "are_quotients" (sp_are_quotients K) := by
  have C_is_whole := cal_is_whole (P := P) (w := w) (base := base) T
  refine cal_ok T.d_are_quotients sc_are_quotients (fun vs H Q E h => ?_) (fun f cdv A outer s H vs Q E hr h => ?_)
  · obtain ⟨x, t, rfl, _⟩ := h
    rfl
  · refine ⟨_, (pss_cons (ps_if (pt_not (pt_val (pe_callB call_isi (by rfl) T.z_isinstance (by decide +kernel) (pa_cons (pv 0) (pa_cons (pe_bltn (v := .ty "list") (u := .type "list") (by rfl) T.z_list (by decide +kernel) rfl) pa_nil))))) (pss_one (ps_ret pe_bl)) pss_nil)
      (pss_cons (ps_for PassesOwn.never rfl (pi_list (pv 0)) (pg_name (i := 1) sc_are_quotients.nd rfl (.inl rfl))
      (pss_one (ps_if (pt_not (pt_val (pe_c C_is_whole hr (by decide) (by rfl) (pa_cons (pv 1) pa_nil)))) (pss_one (ps_ret pe_bl)) pss_nil)))
      (pss_one (ps_ret (pe_callB (cr_all rfl) (by rfl) T.z_all (by decide +kernel) (pa_cons (pe_lc (own := [("quotient", 1)]) (g := gName 1) rfl sc_are_quotients.nd (pi_list (pe_slice sl_list (pv 0) (po_some pe_int) po_none)) (blkOk_by (N := N_are_quotients) (sc := defScope s_are_quotients) (own := [("quotient", 1)]) (by decide +kernel)) (fun _ _ _ _ _ => (pg_name (i := 1) sc_are_quotients.nd rfl (.inl rfl))) (fun _ _ _ _ _ => pts_nil) (fun _ _ _ _ _ => (pe_cmpR op_ge (pv 1) pe_int (nomark _)))) pa_nil)))))), ?_⟩
    obtain ⟨x, th, rfl, hx, q⟩ := h
    cases th with
    | none =>
      obtain ⟨t, ht, hn, ty⟩ := hx
      refine ⟨_, rfl, _, _, _, _, _, rfl, .ty _, ty, kit_ty (kit_tys (by decide) _ ht), _, rfl, ?_⟩
      have e : (!(decide (t = "list") || decide (t = "bool") && decide ("list" = "int"))) = true := by simp [hn]
      exact ite2 (fun _ => q _ (Same.refl _)) (fun c => absurd e c)
    | some xs =>
      obtain ⟨a, rfl, hS, hlen, hty⟩ := hx
      refine ⟨_, rfl, _, _, _, _, _, rfl, .ty _, (ty_list hS), kit_ty (kit_tys (by decide) _ (by decide)), _, rfl, iteF ?_⟩
      refine ⟨_, rfl, a, rfl, ⟨_, hS⟩, for_list (K := K) (a := a) (xs := xs) (fun i σ H' => ∃ v1, σ = [some (.ref a), v1] ∧ H' = H ∧ (xs.take i).all isI = true)
        ⟨none, rfl, rfl, rfl⟩ (fun i σ H' _ ⟨_, _, e, _⟩ => by rw [e]; exact hS) ?_ ?_⟩
      · rintro i y σ H' hi ⟨v1, rfl, rfl, hI⟩
        obtain ⟨t, ht, ty, e⟩ := hty y (List.mem_of_getElem? hi)
        refine ⟨_, rfl, _, t, rfl, ty, ht, _, rfl, ?_⟩
        rw [e]
        cases hy : isI y with
        | true =>
          refine iteF ⟨some y, rfl, rfl, ?_⟩
          rw [List.take_add_one, hi, List.all_append, hI]
          simp [hy]
        | false =>
          refine iteT ?_
          have : quotsT (some xs) = false := by
            have : xs.all isI = false := by
              rw [List.all_eq_false]
              exact ⟨y, List.mem_of_getElem? hi, by rw [hy]; exact Bool.false_ne_true⟩
            rw [quotsT_some, this]
            rfl
          rw [← this]
          exact q _ (Same.refl _)
      · rintro σ H' ⟨v1, rfl, rfl, hI⟩
        rw [List.take_length] at hI
        obtain ⟨ns, rfl⟩ := isI_ints xs hI
        refine ⟨_, rfl, 1, rfl, a, _, rfl, hS, fun c nc => ?_⟩
        (generalize hH_ : upd _ c _ = H1; have s1 := same_of hH_ nc; have ec := at_new hH_; clear hH_)
        rw [show cutV (ns.map V.int) (some 1) none = (ns.drop 1).map V.int by rw [show (1 : Int) = ((1 : Nat) : Int) from rfl, cut_from, List.map_drop]] at ec
        refine ⟨c, rfl, ⟨_, sqL ec⟩, fun D hD => lc_list (K := K) (a := c) (xs := (ns.drop 1).map V.int) (fun i H2 => Same H1 H2 ∧ H2 D = some (.lst ((((ns.drop 1).take i).map fun z => decide (1 ≤ z)).map V.bl)))
          ⟨same_upd hD, upd_same⟩ (fun i H2 _ ⟨s, _⟩ => s.seq (sqL ec)) ?_ ?_⟩
        · rintro i y H2 hi ⟨s, eD⟩
          obtain ⟨z, hz, rfl⟩ := map_int_at hi
          have hl : i < ns.length := by
            have := (List.getElem?_eq_some_iff.mp hz).1
            rw [List.length_drop] at this
            omega
          rw [List.length_map] at hlen
          refine ⟨rfl, _, rfl, _, 1, rfl, rfl, _, eD, ?_, same_mut s hD, ?_⟩
          · rw [List.length_map, List.length_map, List.length_take]
            exact Nat.lt_of_le_of_lt (show _ ≤ 100000 by omega) (by decide)
          · rw [upd_same, List.take_add_one, hz, List.map_append, List.map_append]
            rfl
        · rintro H2 ⟨s, eD⟩
          rw [List.length_map, List.take_length] at eD
          refine ⟨D, _, rfl, sqL eD, ?_⟩
          have e : (((ns.drop 1).map fun z => decide (1 ≤ z)).all id) = quotsT (some (ns.map V.int)) := by
            rw [quotsT_ints, List.all_map]
            rfl
          rw [e]
          exact q _ (s1.trans s)
end
def sp_is_chain (K : PySem.W.Frag) : Sp := fun vs H Q _ => ∃ (x : V) (th : Option (List V)), vs = [x] ∧ Thing K H x th ∧ ∀ H', Same H H' → Q (.bl (onInts chB th)) H'
section
variable {P : Program} {w : World} {K : PySem.W.Frag} {mg : Str → Option Value} {base : Heap}
theorem cal_is_chain (T : Txt K mg) : Cal P w K mg base CX0 3 "is_chain" (sp_is_chain K) := by
  have C_are_quotients := cal_are_quotients (P := P) (w := w) (base := base) T
  refine cal_ok T.d_is_chain sc_is_chain (fun vs H Q E h => ?_) (fun f cdv A outer s H vs Q E hr h => ?_)
  · obtain ⟨x, t, rfl, _⟩ := h
    rfl
  · refine ⟨_, (pss_one (ps_ret (pe_and (pe_c C_are_quotients hr (by decide) (by rfl) (pa_cons (pv 0) pa_nil)) (pe_and (pe_cmpR (op_neD hr.units) (pv 0) (pe_lst pa_nil) (nomark _)) (pe_one (pe_or (pe_cmpR op_eq (pe_callB call_len_seq (by rfl) T.z_len PySem.boot_len (pa_cons (pv 0) pa_nil)) pe_int (nomark _)) (pe_one (pe_cmpR op_gt (pe_ix ix_list (pv 0) (pe_un un_neg pe_int) (fun _ _ => rfl)) pe_int (nomark _))))))))), ?_⟩
    obtain ⟨x, th, rfl, hx, q⟩ := h
    refine ⟨_, rfl, _, th, rfl, hx, fun H1 s1 => ⟨_, rfl, ?_⟩⟩
    cases e : quotsT th with
    | false =>
      have e2 := onInts_no chB_quots e
      rw [e2] at q
      exact iteF (q _ s1)
    | true =>
      obtain ⟨ns, rfl⟩ := quotsT_yes e
      obtain ⟨a, rfl, hS, hlen, _⟩ := hx
      rw [quotsT_ints] at e
      rw [onInts_ints] at q
      unfold chB at q
      rw [e, Bool.true_and] at q
      refine iteT ⟨_, rfl, Nat.zero_le _, fun c nc => ?_⟩
      (generalize hH_ : upd _ c _ = H2; have s2 := same_of hH_ nc; have ec := at_new hH_; clear hH_)
      have hA : SqL K H2 a (ns.map V.int) := s2.seq (s1.seq hS)
      refine ⟨_, _, dp_ints hA, dp_ints (ns := []) (sqL ec), shaped_ints _, shaped_ints _, ?_⟩
      rw [eqv_ints]
      refine ⟨_, rfl, ?_⟩
      by_cases h0 : ns = []
      · subst h0
        exact iteF (q _ (s1.trans s2))
      · rw [decide_eq_false h0]
        have e0 : (ns != []) = true := by simpa using h0
        rw [e0, Bool.true_and] at q
        refine iteT ⟨_, rfl, a, _, rfl, .inl hA, rfl, _, rfl, ?_⟩
        rw [List.length_map]
        by_cases h1 : ns.length = 1
        · have z : decide (V.int (ns.length : Int) = V.int 1) = true := decide_eq_true (by rw [h1]; rfl)
          rw [z]
          rw [h1] at q
          exact iteT (q _ (s1.trans s2))
        · have z : decide (V.int (ns.length : Int) = V.int 1) = false := decide_eq_false fun k => h1 (by have := V.int.inj k; omega)
          have z2 : (ns.length == 1) = false := by simpa using h1
          rw [z]
          rw [z2, Bool.false_or] at q
          refine iteF ⟨_, rfl, 1, rfl, a, _, _, _, rfl, rfl, hA, atI_neg1 h0, _, 1, rfl, rfl, ?_⟩
          rw [getLast_D h0]
          exact q _ (s1.trans s2)
end
def sp_need_chain (K : PySem.W.Frag) : Sp := fun vs H Q _ => ∃ (a : Addr) (ns : List Int), vs = [.ref a] ∧ SqL K H a (ns.map V.int) ∧ ns.length ≤ 100000 ∧ chB ns = true ∧ ∀ H', Same H H' → Q .non H'
section
variable {P : Program} {w : World} {K : PySem.W.Frag} {mg : Str → Option Value} {base : Heap}
theorem cal_need_chain (T : Txt K mg) : Cal P w K mg base CX0 4 "need_chain" (sp_need_chain K) := by
  have C_is_chain := cal_is_chain (P := P) (w := w) (base := base) T
  refine cal_ok T.d_need_chain sc_need_chain (fun vs H Q E h => ?_) (fun f cdv A outer s H vs Q E hr h => ?_)
  · obtain ⟨x, t, rfl, _⟩ := h
    rfl
  · refine ⟨_, (pss_one (ps_if (pt_not (pt_val (pe_c C_is_chain hr (by decide) (by rfl) (pa_cons (pv 0) pa_nil)))) (pss_one ps_never) pss_nil)), ?_⟩
    obtain ⟨a, ns, rfl, hS, hl, hc, q⟩ := h
    refine ⟨_, rfl, _, _, rfl, thing_ints hS hl, fun H1 s1 => ⟨_, rfl, ?_⟩⟩
    rw [onInts_ints, hc]
    exact iteF (q _ s1)
end
theorem cmp_end {ns ms : List Int} {p : Nat} (pn : p ≤ ns.length) (pm : p ≤ ms.length) (e : Cm.cmpC ns ms = Cm.sg p * Cm.cmpC (ns.drop p) (ms.drop p)) (h1 : p = ns.length) (h2 : p = ms.length) : Cm.cmpC ns ms = 0 := by
  rw [e, h1]
  rw [List.drop_length]
  rw [← h1, h2, List.drop_length]
  show _ * 0 = 0
  omega
theorem cmp_gr {ns ms : List Int} {p : Nat} (e : Cm.cmpC ns ms = Cm.sg p * Cm.cmpC (ns.drop p) (ms.drop p)) (g : Bool) (h : Cm.cmpC (ns.drop p) (ms.drop p) = if g = true then 1 else -1) :
    Cm.cmpC ns ms = if (decide (V.bl g = V.bl (decide (V.int ((p : Int) % 2) = V.int 0)))) = true then 1 else -1 := by
  rw [e, h]
  have e2 : decide (V.int ((p : Int) % 2) = V.int 0) = decide (p % 2 = 0) := decide_eq_decide.mpr ⟨fun z => by have := V.int.inj z; omega, fun z => by congr 1; omega⟩
  rw [e2]
  unfold Cm.sg
  by_cases c : p % 2 = 0
  · rw [decide_eq_true c, if_pos c]
    cases g <;> rfl
  · rw [decide_eq_false c, if_neg c]
    cases g <;> rfl
def sp_compared (K : PySem.W.Frag) : Sp := fun vs H Q _ => ∃ (a b : Addr) (ns ms : List Int), vs = [.ref a, .ref b] ∧ SqL K H a (ns.map V.int) ∧ SqL K H b (ms.map V.int) ∧ ns.length ≤ 100000 ∧ ms.length ≤ 100000 ∧ chB ns = true ∧ chB ms = true ∧
  ∀ H', Same H H' → Q (.int (Cm.cmpC ns ms)) H'
section
variable {P : Program} {w : World} {K : PySem.W.Frag} {mg : Str → Option Value} {base : Heap}
theorem cal_compared (T : Txt K mg) : Cal P w K mg base CX0 5 "compared" (sp_compared K) := by
  have C_need_chain := cal_need_chain (P := P) (w := w) (base := base) T
  refine cal_ok T.d_compared sc_compared (fun vs H Q E h => ?_) (fun f cdv A outer s H vs Q E hr h => ?_)
  · obtain ⟨a, b, ns, ms, rfl, _⟩ := h
    rfl
  · refine ⟨_, (pss_cons (ps_expr (pe_c C_need_chain hr (by decide) (by rfl) (pa_cons (pv 0) pa_nil)))
      (pss_cons (ps_expr (pe_c C_need_chain hr (by decide) (by rfl) (pa_cons (pv 1) pa_nil)))
      (pss_cons (ps_set (i := 2) sc_compared.nd rfl (.inl rfl) pe_int)
      (Evl.pss_cut (ps_while PassesOwn.never (pt_mono (PW.pt (pw_and (pt_cmpR op_lt (pv 2) (pe_callB call_len_seq (by rfl) T.z_len PySem.boot_len (pa_cons (pv 0) pa_nil)) (nomark _)) (pw_and (pt_cmpR op_lt (pv 2) (pe_callB call_len_seq (by rfl) T.z_len PySem.boot_len (pa_cons (pv 1) pa_nil)) (nomark _)) (pw_and1 (pt_cmpR op_eq (pe_ix ix_list (pv 0) (pv 2) (fun _ _ => rfl)) (pe_ix ix_list (pv 1) (pv 2) (fun _ _ => rfl)) (nomark _)))))))
      (pss_one (ps_set (i := 2) sc_compared.nd rfl (.inl rfl) (pe_op op_add (pv 2) pe_int))))
      (Evl.pss_cut (ps_if (PW.pt (pw_and (pt_cmpR op_eq (pv 2) (pe_callB call_len_seq (by rfl) T.z_len PySem.boot_len (pa_cons (pv 0) pa_nil)) (nomark _)) (pw_and1 (pt_cmpR op_eq (pv 2) (pe_callB call_len_seq (by rfl) T.z_len PySem.boot_len (pa_cons (pv 1) pa_nil)) (nomark _))))) (pss_one (ps_ret pe_int)) pss_nil)
      (Evl.pss_cut (ps_set (i := 3) sc_compared.nd rfl (.inl rfl) (pe_and (pe_cmpR op_lt (pv 2) (pe_callB call_len_seq (by rfl) T.z_len PySem.boot_len (pa_cons (pv 1) pa_nil)) (nomark _)) (pe_one (pe_or (pe_cmpR op_eq (pv 2) (pe_callB call_len_seq (by rfl) T.z_len PySem.boot_len (pa_cons (pv 0) pa_nil)) (nomark _)) (pe_one (pe_cmpR op_gt (pe_ix ix_list (pv 0) (pv 2) (fun _ _ => rfl)) (pe_ix ix_list (pv 1) (pv 2) (fun _ _ => rfl)) (nomark _)))))))
      (pss_one (ps_ret (pe_ifExp (pt_cmpR op_eq (pv 3) (pe_cmpR op_eq (pe_op op_mod (pv 2) pe_int) pe_int (nomark _)) (nomark _)) pe_int (pe_un un_neg pe_int)))))))))), ?_⟩
    obtain ⟨a, b, ns, ms, rfl, hA, hB, ln, lm, cn, cm, q⟩ := h
    refine ⟨_, rfl, a, ns, rfl, hA, ln, cn, fun H1 s1 => ?_⟩
    refine ⟨_, rfl, b, ms, rfl, s1.seq hB, lm, cm, fun H2 s2 => ?_⟩
    have hA2 := (s1.trans s2).seq hA
    have hB2 := (s1.trans s2).seq hB
    replace q := q _ (s1.trans s2)
    clear cn cm ln lm hA hB s1 s2
    refine ⟨fun σ H' => ∃ p : Nat, σ = [some (.ref a), some (.ref b), some (.int (p : Int)), none] ∧ H2 = H' ∧ p ≤ ns.length ∧ p ≤ ms.length ∧ Cm.cmpC ns ms = Cm.sg p * Cm.cmpC (ns.drop p) (ms.drop p) ∧ (p = ns.length ∨ p = ms.length ∨ ∃ (h1 : p < ns.length) (h2 : p < ms.length), ns[p] ≠ ms[p]), ?_, ?_⟩
    · refine while_m (fun σ H' => ∃ p : Nat, σ = [some (.ref a), some (.ref b), some (.int (p : Int)), none] ∧ H2 = H' ∧ p ≤ ns.length ∧ p ≤ ms.length ∧ Cm.cmpC ns ms = Cm.sg p * Cm.cmpC (ns.drop p) (ms.drop p))
        (fun σ _ => match σ with | [_, _, some (.int p), _] => ns.length - p.toNat | _ => 0) ⟨0, rfl, rfl, Nat.zero_le _, Nat.zero_le _, by rw [List.drop_zero, List.drop_zero]; show _ = 1 * _; omega⟩ ?_
      rintro σ H' ⟨p, rfl, rfl, pn, pm, e⟩
      refine ⟨_, rfl, _, rfl, a, _, rfl, .inl hA2, _, _, rfl, rfl, _, rfl, ite2 (fun c1 => ?_) (fun c1 => ?_)⟩
      · have c1' : p < ns.length := by
          have := of_decide_eq_true c1
          rw [List.length_map] at this
          omega
        refine ⟨_, rfl, _, rfl, b, _, rfl, .inl hB2, _, _, rfl, rfl, _, rfl, ite2 (fun c2 => ?_) (fun c2 => ?_)⟩
        · have c2' : p < ms.length := by
            have := of_decide_eq_true c2
            rw [List.length_map] at this
            omega
          refine ⟨_, rfl, _, rfl, a, _, _, _, rfl, rfl, hA2, atI_int (List.getElem?_eq_getElem c1'), _, rfl, _, rfl, b, _, _, _, rfl, rfl, hB2, atI_int (List.getElem?_eq_getElem c2'), rfl, _, rfl, ite2 (fun c3 => ?_) (fun c3 => ?_)⟩
          · have c3' : ns[p] = ms[p] := V.int.inj (of_decide_eq_true c3)
            refine ⟨_, rfl, _, _, rfl, rfl, ⟨p + 1, rfl, rfl, c1', c2', by rw [e, Cm.cmp_drop c1' c2' c3']⟩, ?_⟩
            show ns.length - ((p : Int) + 1).toNat < ns.length - (p : Int).toNat
            omega
          · exact ⟨p, rfl, rfl, pn, pm, e, .inr (.inr ⟨c1', c2', fun z => c3 (decide_eq_true (by rw [z]))⟩)⟩
        · refine iteF ⟨p, rfl, rfl, pn, pm, e, .inr (.inl ?_)⟩
          have : ¬ p < ms.length := fun z => c2 (decide_eq_true (by rw [List.length_map]; omega))
          omega
      · refine iteF ⟨p, rfl, rfl, pn, pm, e, .inl ?_⟩
        have : ¬ p < ns.length := fun z => c1 (decide_eq_true (by rw [List.length_map]; omega))
        omega
    rintro σ H' ⟨p, rfl, rfl, pn, pm, e, hend⟩
    refine ⟨fun σ H' => σ = [some (.ref a), some (.ref b), some (.int (p : Int)), none] ∧ H2 = H' ∧ ¬ (p = ns.length ∧ p = ms.length), ?_, ?_⟩
    · refine ⟨_, rfl, _, rfl, a, _, rfl, .inl hA2, rfl, _, rfl, ite2 (fun c1 => ?_) (fun c1 => ?_)⟩
      · have c1' : p = ns.length := by
          have := V.int.inj (of_decide_eq_true c1)
          rw [List.length_map] at this
          omega
        refine ⟨_, rfl, _, rfl, b, _, rfl, .inl hB2, rfl, _, rfl, ite2 (fun c2 => ?_) (fun c2 => ?_)⟩
        · have c2' : p = ms.length := by
            have := V.int.inj (of_decide_eq_true c2)
            rw [List.length_map] at this
            omega
          rw [cmp_end pn pm e c1' c2'] at q
          exact q
        · exact ⟨rfl, rfl, fun z => c2 (decide_eq_true (by rw [List.length_map, z.2]))⟩
      · exact iteF ⟨rfl, rfl, fun z => c1 (decide_eq_true (by rw [List.length_map, z.1]))⟩
    rintro σ H' ⟨rfl, rfl, hno⟩
    refine ⟨fun σ H' => ∃ g : Bool, σ = [some (.ref a), some (.ref b), some (.int (p : Int)), some (.bl g)] ∧ H2 = H' ∧ Cm.cmpC (ns.drop p) (ms.drop p) = if g = true then 1 else -1, ?_, ?_⟩
    · refine ⟨_, rfl, _, rfl, b, _, rfl, .inl hB2, _, _, rfl, rfl, _, rfl, ite2 (fun c1 => ?_) (fun c1 => ?_)⟩
      · have c1' : p < ms.length := by
          have := of_decide_eq_true c1
          rw [List.length_map] at this
          omega
        refine ⟨_, rfl, _, rfl, a, _, rfl, .inl hA2, rfl, _, rfl, ite2 (fun c2 => ?_) (fun c2 => ?_)⟩
        · have c2' : p = ns.length := by
            have := V.int.inj (of_decide_eq_true c2)
            rw [List.length_map] at this
            omega
          refine ⟨true, rfl, rfl, ?_⟩
          rw [c2', List.drop_length, ← c2', List.drop_eq_getElem_cons c1']
          rfl
        · have c2' : p < ns.length := by
            have : ¬ p = ns.length := fun z => c2 (decide_eq_true (by rw [List.length_map, ← z]))
            omega
          refine ⟨_, rfl, _, rfl, a, _, _, _, rfl, rfl, hA2, atI_int (List.getElem?_eq_getElem c2'), _, rfl, _, rfl, b, _, _, _, rfl, rfl, hB2, atI_int (List.getElem?_eq_getElem c1'), _, _, rfl, rfl, decide (ms[p] < ns[p]), rfl, rfl, ?_⟩
          have ne : ns[p] ≠ ms[p] := by
            rcases hend with z | z | ⟨_, _, z⟩
            · omega
            · omega
            · exact z
          rw [List.drop_eq_getElem_cons c1', List.drop_eq_getElem_cons c2']
          show (if ns[p] = ms[p] then _ else if ms[p] < ns[p] then (1 : Int) else -1) = _
          rw [if_neg ne]
          by_cases z : ms[p] < ns[p]
          · rw [if_pos z, decide_eq_true z, if_pos rfl]
          · rw [if_neg z, decide_eq_false z, if_neg Bool.false_ne_true]
      · have c1' : p = ms.length := by
          have : ¬ p < ms.length := fun z => c1 (decide_eq_true (by rw [List.length_map]; omega))
          omega
        have c2' : p < ns.length := by
          have : ¬ p = ns.length := fun z => hno ⟨z, c1'⟩
          omega
        refine ⟨false, rfl, rfl, ?_⟩
        rw [c1', List.drop_length, ← c1', List.drop_eq_getElem_cons c2']
        rfl
    rintro σ H' ⟨g, rfl, rfl, eg⟩
    rw [cmp_gr e g eg] at q
    refine ⟨_, rfl, _, rfl, _, _, rfl, rfl, (show (0 : Int) < 2 by decide), rfl, rfl, _, rfl, ite2 (fun c1 => ?_) (fun c1 => ?_)⟩
    · rw [if_pos c1] at q
      exact q
    · rw [if_neg c1] at q
      exact ⟨_, rfl, q⟩
end
theorem sign_menu (m : Int) (h0 : 0 ≤ m) (h : m < 3) : ∃ s : Int, atI (([1, -1, 0] : List Int).map V.int) m = some (.int s) ∧ (-1 ≤ s ∧ s ≤ 1) := by
  refine ⟨_, atI_menu h0 h, ?_⟩
  have : m = 0 ∨ m = 1 ∨ m = 2 := by omega
  rcases this with rfl | rfl | rfl <;> decide
theorem plus_menu (m : Int) (h0 : 0 ≤ m) (h : m < 4) : ∃ s : Int, atI (([0, 1, 2, 10 ^ (50 : Int).toNat] : List Int).map V.int) m = some (.int s) ∧ 0 ≤ s ∧ Bd 200 s := by
  refine ⟨_, atI_menu h0 h, ?_⟩
  have : m = 0 ∨ m = 1 ∨ m = 2 ∨ m = 3 := by omega
  unfold Bd
  rcases this with rfl | rfl | rfl | rfl <;> decide
theorem cut_menu (n k : Nat) (m : Int) (h0 : 0 ≤ m) (h : m < 3) : ∃ s : Nat, atI (([(n : Int), (k : Int), (k : Int) + 1] : List Int).map V.int) m = some (.int (s : Int)) := by
  have : m = 0 ∨ m = 1 ∨ m = 2 := by omega
  rcases this with rfl | rfl | rfl
  · exact ⟨n, rfl⟩
  · exact ⟨k, rfl⟩
  · exact ⟨k + 1, rfl⟩
/-- a list whose quotients behind the first one are 1 or more -/
def Good (l : List Int) : Prop := (∀ x ∈ l.drop 1, 1 ≤ x) ∧ (∀ x ∈ l, Bd 300 x) ∧ l.length ≤ 60
theorem neat_good {l : List Int} (h : Good l) : Cm.Ch (neat l) ∧ (∀ x ∈ neat l, Bd 300 x) ∧ (neat l).length ≤ 60 := by
  obtain ⟨h1, h2, h3⟩ := h
  unfold neat
  by_cases e : l = []
  · rw [if_pos e]
    refine ⟨fixl_good (by simp) (by simp), fun x hx => ?_, by rw [fixl_len]; decide⟩
    rcases fixl_mem hx with z | rfl
    · rw [List.mem_singleton] at z
      subst z
      exact Bd.zero
    · exact bdL (by decide)
  · rw [if_neg e]
    refine ⟨fixl_good e h1, fun x hx => ?_, by rw [fixl_len]; exact h3⟩
    rcases fixl_mem hx with z | rfl
    · exact h2 x z
    · exact bdL (by decide)
theorem good_take {l : List Int} (h : Good l) (m : Nat) : Good (l.take m) := by
  obtain ⟨h1, h2, h3⟩ := h
  refine ⟨fun x hx => ?_, fun x hx => h2 x (List.mem_of_mem_take hx), by rw [List.length_take]; omega⟩
  rw [List.drop_take] at hx
  exact h1 x (List.mem_of_mem_take hx)
theorem good_mix {l : List Int} {k : Nat} {z e : Int} (h1 : ∀ x ∈ l.drop 1, 1 ≤ x) (h2 : ∀ x ∈ l, Bd 299 x) (h3 : l.length ≤ 60) (hk : l[k]? = some z) (e0 : 0 ≤ e) (eb : Bd 200 e) :
    Good (l.take k ++ [z + e] ++ (l.drop (k + 1)).reverse) := by
  have hk' := (List.getElem?_eq_some_iff.mp hk).1
  refine ⟨fun x hx => ?_, fun x hx => ?_, ?_⟩
  · have hr : ∀ x ∈ (l.drop (k + 1)).reverse, 1 ≤ x := fun x hx => by
      rw [List.mem_reverse] at hx
      refine h1 x ?_
      rw [Nat.add_comm, ← List.drop_drop] at hx
      exact List.mem_of_mem_drop hx
    cases k with
    | zero =>
      rw [List.take_zero] at hx
      exact hr x hx
    | succ k =>
      have hz : 1 ≤ z := h1 z (List.mem_of_getElem? (i := k) (by rw [List.getElem?_drop, Nat.add_comm]; exact hk))
      rw [List.append_assoc, List.drop_append_of_le_length (by rw [List.length_take]; omega)] at hx
      rcases List.mem_append.mp hx with hx | hx
      · rw [List.drop_take] at hx
        exact h1 x (List.mem_of_mem_take hx)
      · rcases List.mem_append.mp hx with hx | hx
        · rw [List.mem_singleton] at hx
          omega
        · exact hr x hx
  · rcases List.mem_append.mp hx with hx | hx
    · rcases List.mem_append.mp hx with hx | hx
      · exact (h2 x (List.mem_of_mem_take hx)).mono (by decide)
      · rw [List.mem_singleton] at hx
        subst hx
        exact (h2 z (List.mem_of_getElem? hk)).add (eb.mono (by decide))
    · rw [List.mem_reverse] at hx
      exact (h2 x (List.mem_of_mem_drop hx)).mono (by decide)
  · rw [List.length_append, List.length_append, List.length_reverse, List.length_take, List.length_drop, List.length_singleton]
    omega
section
variable {P : Program} {w : World} {K : PySem.W.Frag} {mg : Str → Option Value} {base : Heap}
theorem ok_law {f : Addr} {fd : FuncData} (T : Txt K mg) (F : L2.Fun K "law" "law" s_law f fd) : FnOk P w K mg base CX0 6 f fd ["_law_script"] (spLaw K) := by
  have C_l_quotient := cal_l_quotient (P := P) (w := w) (base := base) T
  have C_l_mixed := cal_l_mixed (P := P) (w := w) (base := base) T
  have C_l_neat := cal_l_neat (P := P) (w := w) (base := base) T
  have C_l_worth := cal_l_worth (P := P) (w := w) (base := base) T
  have C_compared := cal_compared (P := P) (w := w) (base := base) T
  have C_l_whole := cal_l_whole (P := P) (w := w) (base := base) T
  refine F.ok sc_law (fun vs H Q E h => ?_) (fun cdv A outer s H vs Q E hr h => ?_)
  · obtain ⟨a, ns, rfl, _⟩ := h
    rfl
  · refine ⟨_, (pss_cons (ps_set (i := 1) sc_law.nd rfl (.inl rfl) (pe_slice sl_list (pv 0) po_none (po_some pe_int)))
      (Evl.pss_cut (ps_set (i := 2) sc_law.nd rfl (.inl rfl) (pe_orT (pe_lc (own := [("_law_cell", 12)]) (g := gName 12) rfl sc_law.nd (pi_list (pv 1)) (blkOk_by (N := N_law) (sc := defScope s_law) (own := [("_law_cell", 12)]) (by decide +kernel)) (fun _ _ _ _ _ => (pg_name (i := 12) sc_law.nd rfl (.inl rfl))) (fun _ _ _ _ _ => pts_nil) (fun _ _ _ _ _ => (pe_c C_l_quotient hr (by decide) (by rfl) (pa_cons (pv 12) pa_nil)))) (pe_one (pe_lst (pa_cons pe_int pa_nil)))))
      (pss_cons (ps_set (i := 3) sc_law.nd rfl (.inl rfl) (pe_callB (cr_sum rfl) (by rfl) T.z_sum (by decide +kernel) (pa_cons (pe_lc (own := [("_law_k", 13), ("_law_cell", 12)]) (g := gTup K 2 (gCons (gName 13) (gCons (gName 12) (gNil)))) rfl sc_law.nd (pi_enum (by rfl) T.z_enumerate (pa_cons (pv 1) pa_nil)) (blkOk_by (N := N_law) (sc := defScope s_law) (own := [("_law_k", 13), ("_law_cell", 12)]) (by decide +kernel)) (fun _ _ _ _ _ => (pg_tup rfl (pgs_cons (pg_name (i := 13) sc_law.nd rfl (.inl rfl)) (pgs_cons (pg_name (i := 12) sc_law.nd rfl (.inl rfl)) pgs_nil)))) (fun _ _ _ _ _ => pts_nil) (fun _ _ _ _ _ => (pe_c C_l_mixed hr (by decide) (by rfl) (pa_cons (pv 12) (pa_cons (pv 13) pa_nil))))) pa_nil)))
      (pss_cons (ps_set (i := 4) sc_law.nd rfl (.inl rfl) (pe_op op_mod (pv 3) (pe_callB call_len_seq (by rfl) T.z_len PySem.boot_len (pa_cons (pv 2) pa_nil))))
      (pss_cons (ps_asg (pe_op op_mulX (pe_ix ix_list (pv 2) pe_int (fun _ _ => rfl)) (pe_ix ix_list (pe_lst (pa_cons pe_int (pa_cons (pe_un un_neg pe_int) (pa_cons pe_int pa_nil)))) (pe_op op_mod (pe_op op_fdivP (pv 3) pe_int) pe_int) (fun _ _ => rfl))) (pg_sub (pv 2) pe_int set_list))
      (pss_cons (ps_set (i := 5) sc_law.nd rfl (.inl rfl) (pe_op op_cat (pe_op op_cat (pe_slice sl_list (pv 2) po_none (po_some (pv 4))) (pe_lst (pa_cons (pe_op op_add (pe_ix ix_list (pv 2) (pv 4) (fun _ _ => rfl)) (pe_ix ix_list (pe_lst (pa_cons pe_int (pa_cons pe_int (pa_cons pe_int (pa_cons (pe_op op_pow pe_int pe_int) pa_nil))))) (pe_op op_mod (pe_op op_fdivP (pv 3) pe_int) pe_int) (fun _ _ => rfl))) pa_nil))) (pe_revL (pe_slice sl_list (pv 2) (po_some (pe_op op_add (pv 4) pe_int)) po_none))))
      (pss_cons (ps_set (i := 6) sc_law.nd rfl (.inl rfl) (pe_c C_l_neat hr (by decide) (by rfl) (pa_cons (pv 2) pa_nil)))
      (pss_cons (ps_set (i := 5) sc_law.nd rfl (.inl rfl) (pe_c C_l_neat hr (by decide) (by rfl) (pa_cons (pe_slice sl_list (pv 5) po_none (po_some (pe_ix ix_list (pe_lst (pa_cons (pe_callB call_len_seq (by rfl) T.z_len PySem.boot_len (pa_cons (pv 5) pa_nil)) (pa_cons (pv 4) (pa_cons (pe_op op_add (pv 4) pe_int) pa_nil)))) (pe_op op_mod (pe_op op_fdivP (pv 3) pe_int) pe_int) (fun _ _ => rfl)))) pa_nil)))
      (Evl.pss_cut (ps_if (pt_cmpR op_eq (pe_op op_mod (pe_op op_fdivP (pv 3) pe_int) pe_int) pe_int (nomark _)) (pss_one (ps_par (i := 6) (j := 5) (by rfl) sc_law.nd rfl rfl (by decide) rfl rfl (pa_cons (pv 5) (pa_cons (pv 6) pa_nil)) (by rfl))) pss_nil)
      (pss_cons (ps_set (i := 7) sc_law.nd rfl (.inl rfl) (pe_op op_mulX (pe_ix ix_tup (pe_c C_l_worth hr (by decide) (by rfl) (pa_cons (pv 6) pa_nil)) pe_int (fun _ _ => rfl)) (pe_ix ix_tup (pe_c C_l_worth hr (by decide) (by rfl) (pa_cons (pv 5) pa_nil)) pe_int (fun _ _ => rfl))))
      (pss_cons (ps_set (i := 8) sc_law.nd rfl (.inl rfl) (pe_op op_mulX (pe_ix ix_tup (pe_c C_l_worth hr (by decide) (by rfl) (pa_cons (pv 5) pa_nil)) pe_int (fun _ _ => rfl)) (pe_ix ix_tup (pe_c C_l_worth hr (by decide) (by rfl) (pa_cons (pv 6) pa_nil)) pe_int (fun _ _ => rfl))))
      (pss_cons (ps_set (i := 9) sc_law.nd rfl (.inl rfl) (pe_op op_sub (pe_callTy call_int1 (by rfl) T.z_int (by decide +kernel) (pa_cons (pe_cmpR op_gt (pv 7) (pv 8) (nomark _)) pa_nil)) (pe_callTy call_int1 (by rfl) T.z_int (by decide +kernel) (pa_cons (pe_cmpR op_lt (pv 7) (pv 8) (nomark _)) pa_nil))))
      (pss_cons (ps_set (i := 10) sc_law.nd rfl (.inl rfl) (pe_lst (pa_cons (pe_callTy call_list_of (by rfl) T.z_list (by decide +kernel) (pa_cons (pv 6) pa_nil)) (pa_cons (pe_callTy call_list_of (by rfl) T.z_list (by decide +kernel) (pa_cons (pv 5) pa_nil)) pa_nil))))
      (pss_cons (ps_set (i := 11) sc_law.nd rfl (.inl rfl) (pe_lst (pa_cons (pe_c C_compared hr (by decide) (by rfl) (pa_cons (pe_ix ix_list (pv 10) pe_int (fun _ _ => rfl)) (pa_cons (pe_ix ix_list (pv 10) pe_int (fun _ _ => rfl)) pa_nil))) (pa_cons (pe_c C_compared hr (by decide) (by rfl) (pa_cons (pe_ix ix_list (pv 10) pe_int (fun _ _ => rfl)) (pa_cons (pe_ix ix_list (pv 10) pe_int (fun _ _ => rfl)) pa_nil))) pa_nil))))
      (pss_cons (ps_set (i := 11) sc_law.nd rfl (.inl rfl) (pe_op op_cat (pv 11) (pe_lst (pa_cons (pe_c C_compared hr (by decide) (by rfl) (pa_cons (pv 6) (pa_cons (pe_callTy call_list_of (by rfl) T.z_list (by decide +kernel) (pa_cons (pv 6) pa_nil)) pa_nil))) (pa_cons (pe_c C_compared hr (by decide) (by rfl) (pa_cons (pv 5) (pa_cons (pe_callTy call_list_of (by rfl) T.z_list (by decide +kernel) (pa_cons (pv 5) pa_nil)) pa_nil))) pa_nil)))))
      (pss_cons (ps_if (PW.pt (pw_or (pt_not (pt_val (pe_callB (cr_all rfl) (by rfl) T.z_all (by decide +kernel) (pa_cons (pe_lc (own := [("_law_found", 14)]) (g := gName 14) rfl sc_law.nd (pi_list (pv 11)) (blkOk_by (N := N_law) (sc := defScope s_law) (own := [("_law_found", 14)]) (by decide +kernel)) (fun _ _ _ _ _ => (pg_name (i := 14) sc_law.nd rfl (.inl rfl))) (fun _ _ _ _ _ => pts_nil) (fun _ _ _ _ _ => (pe_c C_l_whole hr (by decide) (by rfl) (pa_cons (pv 14) pa_nil)))) pa_nil)))) (pw_or1 (pt_cmpR (op_neD hr.units) (pv 10) (pe_lst (pa_cons (pv 6) (pa_cons (pv 5) pa_nil))) (nomark _))))) (pss_one (ps_ret pe_bl)) pss_nil)
      (pss_one (ps_ret (pe_cmpR (op_eqD hr.units) (pv 11) (pe_lst (pa_cons (pv 9) (pa_cons (pe_op op_sub pe_int (pv 9)) (pa_cons pe_int (pa_cons pe_int pa_nil))))) (nomark _)))))))))))))))))))), ?_⟩
    obtain ⟨a, ns, rfl, hS, hlen, q⟩ := h
    refine ⟨_, rfl, 60, rfl, a, _, rfl, hS, fun c nc => ?_⟩
    (generalize hH_ : upd _ c _ = H1; have s1 := same_of hH_ nc; have ec := at_new hH_; clear hH_)
    rw [show cutV (ns.map V.int) none (some 60) = (ns.take 60).map V.int by rw [show (60 : Int) = ((60 : Nat) : Int) from rfl, cut_to, List.map_take]] at ec
    have hcl : (ns.take 60).length ≤ 60 := by rw [List.length_take]; omega
    generalize ns.take 60 = cs at *
    refine ⟨fun σ H' => ∃ (p : Addr) (x : Int) (r : List Int), σ = [some (.ref a), some (.ref c), some (.ref p), none, none, none, none, none, none, none, none, none, none, none, none] ∧ Same H1 H' ∧ H1 p = none ∧ H' p = some (.lst ((x :: r).map V.int)) ∧ r.length < 60 ∧ (∀ y ∈ x :: r, 0 ≤ y ∧ Bd 100 y) ∧ (∀ y ∈ r, 1 ≤ y), ?_, ?_⟩
    · refine ⟨_, rfl, c, rfl, ⟨_, sqL ec⟩, fun D hD => lc_list (K := K) (a := c) (xs := cs.map V.int) (fun i H2 => Same H1 H2 ∧ H2 D = some (.lst (((cs.take i).map lq).map V.int)))
        ⟨same_upd hD, upd_same⟩ (fun i H2 _ ⟨s, _⟩ => s.seq (sqL ec)) ?_ ?_⟩
      · rintro i y H2 hi ⟨s2, eD⟩
        obtain ⟨z, hz, rfl⟩ := map_int_at hi
        refine ⟨rfl, _, rfl, z, rfl, fun H3 s3 => ⟨_, s3 _ _ eD, ?_, same_mut (s2.trans s3) hD, ?_⟩⟩
        · rw [List.length_map, List.length_map, List.length_take]
          exact small1000 (by omega)
        · rw [upd_same, List.take_add_one, hz, List.map_append, List.map_append]
          rfl
      · rintro H2 ⟨s2, eD⟩
        rw [List.length_map, List.take_length] at eD
        refine ⟨_, .inl ⟨_, sqL eD, rfl⟩, ?_⟩
        cases cs with
        | nil =>
          refine ⟨by decide, fun p np => ?_⟩
          (generalize hH_ : upd _ p _ = H3; have s3 := same_of hH_ np; have ep := at_new hH_; clear hH_)
          refine ⟨p, 1, [], rfl, s2.trans s3, s2.free np, ep, by decide, ?_, by simp⟩
          intro y hy
          rw [List.mem_singleton] at hy
          subst hy
          exact ⟨by decide, bdL (by decide)⟩
        | cons x r =>
          refine ⟨D, lq x, r.map lq, rfl, s2, hD, eD, ?_, ?_, ?_⟩
          · rw [List.length_map]
            exact hcl
          · intro y hy
            rw [← List.map_cons] at hy
            obtain ⟨z, _, rfl⟩ := List.mem_map.mp hy
            have := lq_ok z
            exact ⟨by omega, this.2⟩
          · intro y hy
            obtain ⟨z, _, rfl⟩ := List.mem_map.mp hy
            exact (lq_ok z).1
    rintro σ H2 ⟨p, x, r, rfl, s2, np1, ep, hr60, hall, hr1⟩
    have ec2 : SqL K H2 c (cs.map V.int) := sqL (s2 _ _ ec)
    -- _law_number = sum(..)
    refine ⟨_, rfl, c, _, rfl, ec2, fun D hD => lc_enum (K := K) (a := c) (xs := cs.map V.int) (fun i H3 => Same H2 H3 ∧ ∃ ms : List Int, H3 D = some (.lst (ms.map V.int)) ∧ ms.length = i)
        ⟨same_upd hD, [], upd_same, rfl⟩ (fun i H3 _ ⟨s, _⟩ => s.seq ec2) ?_ ?_⟩
    · rintro i y T H3 H4 hi ⟨s3, ms, eD, el⟩ s4 nT eT
      obtain ⟨z, hz, rfl⟩ := map_int_at hi
      have hi2 := (List.getElem?_eq_some_iff.mp hz).1
      refine ⟨T, _, rfl, sqT eT, rfl, _, _, rfl, _, _, rfl, rfl, rfl, ?_⟩
      refine ⟨_, rfl, _, rfl, z, (i : Int), rfl, _, s4 _ _ eD, ?_, same_mut (s3.trans s4) hD, ms ++ [mixed z i], ?_, ?_⟩
      · rw [List.length_map]
        exact small1000 (by omega)
      · rw [upd_same, List.map_append]
        rfl
      · rw [List.length_append, el]
        rfl
    rintro H3 ⟨s3, ms, eD, _⟩
    refine ⟨D, ms, rfl, sqL eD, ?_⟩
    generalize ms.sum = N
    have ep3 := s3 _ _ ep
    -- _law_at
    refine ⟨_, rfl, _, rfl, p, _, rfl, .inl (sqL ep3), _, _, rfl, rfl, (show (0 : Int) < ((((x :: r).map V.int).length : Nat) : Int) by rw [List.length_map, List.length_cons]; omega), ?_⟩
    rw [List.length_map]
    have k0 := Int.emod_nonneg N (show (((x :: r).length : Nat) : Int) ≠ 0 by rw [List.length_cons]; omega)
    have k1 := Int.emod_lt_of_pos N (show 0 < (((x :: r).length : Nat) : Int) by rw [List.length_cons]; omega)
    obtain ⟨k, hk⟩ : ∃ k : Nat, N % (((x :: r).length : Nat) : Int) = (k : Int) := ⟨(N % (((x :: r).length : Nat) : Int)).toNat, by omega⟩
    dsimp only
    rw [hk]
    have hkl : k < (x :: r).length := by omega
    clear k0 k1 hk
    -- the first one
    have P3 : (0 : Int) < 3 := by decide
    have P4 : (0 : Int) < 4 := by decide
    obtain ⟨s, hs, hs1⟩ := sign_menu (N / 64 % 3) (Int.emod_nonneg _ (by decide)) (Int.emod_lt_of_pos _ P3)
    refine ⟨_, rfl, p, _, 0, _, rfl, rfl, sqL ep3, atI_int (ns := x :: r) (i := 0) rfl, ?_⟩
    refine ⟨1, rfl, by decide, fun d nd => ?_⟩
    (generalize hH_ : upd _ d _ = H4; have s4 := same_of hH_ nd; have ed := at_new hH_; clear hH_)
    have ed' : SqL K H4 d (([1, -1, 0] : List Int).map V.int) := sqL ed
    have ep4 := s4 _ _ ep3
    refine ⟨_, rfl, _, _, rfl, rfl, divS (by decide) (by decide), _, _, rfl, rfl, P3, d, _, _, _, rfl, rfl, ed', hs, _, _, rfl, rfl, mulOk (hall x (by simp)).2 (bdL (n := 1) (by omega)) (by decide), ?_⟩
    refine ⟨_, rfl, p, _, _, 0, rfl, rfl, ep4, ixN_0 (by simp), ?_⟩
    have bz : Bd 101 (x * s) := Bd.mul (hall x (by simp)).2 (bdL (n := 1) (by omega))
    (generalize hH_ : upd _ p _ = H5; have s5 := same_mut_of hH_ ((s2.trans s3).trans s4) np1; have e5 := at_new hH_; clear hH_)
    replace e5 : H5 p = some (.lst (((x * s) :: r).map V.int)) := e5
    generalize hz : x * s = z at *
    -- the quotients now: z :: r
    have hbr : ∀ y ∈ z :: r, Bd 299 y := fun y hy => by
      rcases List.mem_cons.mp hy with rfl | hy
      · exact bz.mono (by decide)
      · exact (hall y (List.mem_cons_of_mem _ hy)).2.mono (by decide)
    have hl60 : (z :: r).length ≤ 60 := hr60
    have hkl' : k < (z :: r).length := hkl
    have g1 : Good (z :: r) := ⟨fun y hy => hr1 y hy, fun y hy => (hbr y hy).mono (by decide), hl60⟩
    generalize hl : z :: r = l at *
    obtain ⟨e, he, he0, heb⟩ := plus_menu (N / 192 % 4) (Int.emod_nonneg _ (by decide)) (Int.emod_lt_of_pos _ P4)
    have hz' : l[k]? = some l[k] := List.getElem?_eq_getElem hkl'
    have g2 := good_mix (e := e) g1.1 hbr hl60 hz' he0 heb
    -- _law_other = ..
    refine ⟨_, rfl, _, rfl, _, rfl, p, _, rfl, sqL e5, fun o1 no1 => ?_⟩
    (generalize hH_ : upd _ o1 _ = H6; have s6 := same_of hH_ no1; have eo1 := at_new hH_; clear hH_)
    rw [cut_to, ← List.map_take] at eo1
    have e6 := s6 _ _ e5
    refine ⟨_, rfl, _, rfl, p, _, _, _, rfl, rfl, sqL e6, atI_int hz', _, _, rfl, rfl, ⟨by decide, by decide, by decide⟩, (by show 4 ≤ sizeLine; decide), fun o2 no2 => ?_⟩
    (generalize hH_ : upd _ o2 _ = H7; have s7 := same_of hH_ no2; have eo2 := at_new hH_; clear hH_)
    have eo2' : SqL K H7 o2 (([0, 1, 2, 10 ^ (50 : Int).toNat] : List Int).map V.int) := sqL eo2
    refine ⟨_, rfl, _, _, rfl, rfl, divS (by decide) (by decide), _, _, rfl, rfl, P4, o2, _, _, _, rfl, rfl, eo2', he, _, _, rfl, rfl, (by show 1 ≤ sizeLine; decide), fun o3 no3 => ?_⟩
    (generalize hH_ : upd _ o3 _ = H8; have s8 := same_of hH_ no3; have eo3 := at_new hH_; clear hH_)
    have eo1' := s8 _ _ (s7 _ _ eo1)
    refine ⟨o1, o3, _, _, rfl, rfl, eo1', eo3, ?_, fun o4 no4 => ?_⟩
    · rw [List.length_map, List.length_take]
      exact Nat.le_of_lt (small1000 (by show _ + 1 ≤ 1000; omega))
    (generalize hH_ : upd _ o4 _ = H9; have s9 := same_of hH_ no4; have eo4 := at_new hH_; clear hH_)
    have e9 := s9 _ _ (s8 _ _ (s7 _ _ e6))
    refine ⟨_, rfl, _, rfl, _, _, rfl, rfl, _, rfl, p, _, rfl, sqL e9, fun o5 no5 => ?_⟩
    (generalize hH_ : upd _ o5 _ = H10; have s10 := same_of hH_ no5; have eo5 := at_new hH_; clear hH_)
    refine ⟨o5, _, rfl, sqL eo5, fun o6 no6 => ?_⟩
    (generalize hH_ : upd _ o6 _ = H11; have s11 := same_of hH_ no6; have eo6 := at_new hH_; clear hH_)
    refine ⟨o4, o6, _, _, rfl, rfl, s11 _ _ (s10 _ _ eo4), eo6, ?_, fun o7 no7 => ?_⟩
    · rw [List.length_append, List.length_map, List.length_take, List.length_reverse]
      have : (cutV (l.map V.int) (some ((k : Int) + 1)) none).length ≤ 60 := by
        rw [show ((k : Int) + 1) = ((k + 1 : Nat) : Int) from rfl, cut_from, List.length_drop, List.length_map]
        omega
      exact Nat.le_of_lt (small1000 (by show _ + 1 + (cutV (l.map V.int) (some ((k : Int) + 1)) none).length ≤ 1000; omega))
    (generalize hH_ : upd _ o7 _ = H12; have s12 := same_of hH_ no7; have eo7 := at_new hH_; clear hH_)
    replace eo7 : H12 o7 = some (.lst ((l.take k ++ [l[k] + e] ++ (l.drop (k + 1)).reverse).map V.int)) := by
      rw [eo7, List.map_append, List.map_append, List.map_reverse]
      show some (HO.lst ((l.take k).map V.int ++ [V.int (l[k] + e)] ++ (cutV (l.map V.int) (some ((k : Int) + 1)) none).reverse)) = _
      rw [show ((k : Int) + 1) = ((k + 1 : Nat) : Int) from rfl, cut_from, List.map_drop]
      rfl
    generalize l.take k ++ [l[k] + e] ++ (l.drop (k + 1)).reverse = ot at *
    have e12 := s12 _ _ (s11 _ _ (s10 _ _ e9))
    -- _law_one, _law_other
    refine ⟨_, rfl, p, l, rfl, sqL e12, by omega, fun H13 p1 s13 n13 e13 => ?_⟩
    have eo13 := s13 _ _ eo7
    obtain ⟨m, hm⟩ := cut_menu (ot.map V.int).length k (N / 768 % 3) (Int.emod_nonneg _ (by decide)) (Int.emod_lt_of_pos _ P3)
    refine ⟨_, rfl, _, rfl, o7, _, rfl, .inl (sqL eo13), _, rfl, _, rfl, _, _, rfl, rfl, (by show 3 ≤ sizeLine; decide), fun d2 nd2 => ?_⟩
    (generalize hH_ : upd _ d2 _ = H14; have s14 := same_of hH_ nd2; have ed2 := at_new hH_; clear hH_)
    have ed2' : SqL K H14 d2 (([((ot.map V.int).length : Int), (k : Int), (k : Int) + 1] : List Int).map V.int) := sqL ed2
    refine ⟨_, rfl, _, _, rfl, rfl, divS (by decide) (by decide), _, _, rfl, rfl, P3, d2, _, _, _, rfl, rfl, ed2', hm, _, rfl, o7, _, rfl, sqL (s14 _ _ eo13), fun o8 no8 => ?_⟩
    (generalize hH_ : upd _ o8 _ = H15; have s15 := same_of hH_ no8; have eo8 := at_new hH_; clear hH_)
    rw [cut_to, ← List.map_take] at eo8
    refine ⟨o8, _, rfl, sqL eo8, Nat.le_trans (good_take g2 m).2.2 (by decide), fun H16 p2 s16 n16 e16 => ?_⟩
    have gA := neat_good g1
    have gB := neat_good (good_take g2 m)
    have e13' := s16 _ _ (s15 _ _ (s14 _ _ e13))
    generalize neat l = LA at *
    generalize neat (ot.take m) = LB at *
    refine ⟨fun σ H' => ∃ (pA pB : Addr) (A B : List Int), σ = [some (.ref a), some (.ref c), some (.ref p), some (.int N), some (.int k), some (.ref pB), some (.ref pA), none, none, none, none, none, none, none, none] ∧ H' pA = some (.lst (A.map V.int)) ∧ H' pB = some (.lst (B.map V.int)) ∧
      (Cm.Ch A ∧ (∀ x ∈ A, Bd 300 x) ∧ A.length ≤ 60) ∧ (Cm.Ch B ∧ (∀ x ∈ B, Bd 300 x) ∧ B.length ≤ 60), ?_, ?_⟩
    · refine ⟨_, rfl, _, _, rfl, rfl, divS (by decide) (by decide), _, _, rfl, rfl, (show (0 : Int) < 2 by decide), rfl, _, rfl, ite2 (fun _ => ?_) (fun _ => ?_)⟩
      · exact ⟨_, rfl, _, rfl, _, _, rfl, p2, p1, LB, LA, rfl, e16, e13', gB, gA⟩
      · exact ⟨p1, p2, LA, LB, rfl, e13', e16, gA, gB⟩
    clear eo8 hm ed2' ed2 eo13 eo7 e12 e16 e13 e13' gA gB n16 s16 s15 s14 s13 no8 nd2 n13
    rintro σ G1 ⟨pA, pB, A', B', rfl, eA, eB, ⟨cA, bA, lA⟩, ⟨cB, bB, lB⟩⟩
    have neA : A' ≠ [] := fun z => by subst z; exact cA
    have neB : B' ≠ [] := fun z => by subst z; exact cB
    have szA : Sz A' := sz_short (by omega) fun y hy => (bA y hy).mono (by decide)
    have szB : Sz B' := sz_short (by omega) fun y hy => (bB y hy).mono (by decide)
    obtain ⟨wA1, wA2⟩ := W_bd' (m := 60) bA lA
    obtain ⟨wB1, wB2⟩ := W_bd' (m := 60) bB lB
    have chA := (chB_iff _).mpr cA
    have chB' := (chB_iff _).mpr cB
    have ok := Cm.cmp_ok cA cB
    -- the products across
    refine ⟨_, rfl, pA, A', rfl, sqL eA, neA, szA, fun G2 t1 r2 nt1 et1 => ⟨t1, _, 0, _, rfl, rfl, sqT et1, atI_int (ns := [(Cm.W A').1, (Cm.W A').2]) (i := 0) rfl, ?_⟩⟩
    refine ⟨_, rfl, pB, B', rfl, sqL (r2 _ _ eB), neB, szB, fun G3 t2 r3 nt2 et2 => ⟨t2, _, 1, _, rfl, rfl, sqT et2, atI_int (ns := [(Cm.W B').1, (Cm.W B').2]) (i := 1) rfl, _, _, rfl, rfl, mulOk wA1 wB2 (by decide), ?_⟩⟩
    have eA3 := r3 _ _ (r2 _ _ eA)
    have eB3 := r3 _ _ (r2 _ _ eB)
    refine ⟨_, rfl, pB, B', rfl, sqL eB3, neB, szB, fun G4 t3 r4 nt3 et3 => ⟨t3, _, 0, _, rfl, rfl, sqT et3, atI_int (ns := [(Cm.W B').1, (Cm.W B').2]) (i := 0) rfl, ?_⟩⟩
    refine ⟨_, rfl, pA, A', rfl, sqL (r4 _ _ eA3), neA, szA, fun G5 t4 r5 nt4 et4 => ⟨t4, _, 1, _, rfl, rfl, sqT et4, atI_int (ns := [(Cm.W A').1, (Cm.W A').2]) (i := 1) rfl, _, _, rfl, rfl, mulOk wB1 wA2 (by decide), ?_⟩⟩
    have eA5 := r5 _ _ (r4 _ _ eA3)
    have eB5 := r5 _ _ (r4 _ _ eB3)
    -- _law_due
    have due : (if decide ((Cm.W B').1 * (Cm.W A').2 < (Cm.W A').1 * (Cm.W B').2) = true then (1 : Int) else 0) - (if decide ((Cm.W A').1 * (Cm.W B').2 < (Cm.W B').1 * (Cm.W A').2) = true then 1 else 0) = Cm.cmpC A' B' := by
      rw [ok]
      unfold Cm.sgn Cm.cross
      generalize (Cm.W B').1 * (Cm.W A').2 = u
      generalize (Cm.W A').1 * (Cm.W B').2 = v
      simp only [decide_eq_true_eq]
      split <;> split <;> (try split) <;> (try split) <;> omega
    refine ⟨_, rfl, _, rfl, _, _, rfl, rfl, .inr ⟨_, rfl, _, rfl, _, rfl, _, _, rfl, rfl, .inr ⟨_, rfl, _, _, rfl, rfl, ?_⟩⟩⟩
    dsimp only
    rw [due]
    -- _law_handed
    refine ⟨_, rfl, pA, _, rfl, .inl (sqL eA5), fun h1 nh1 => ?_⟩
    (generalize hH_ : upd _ h1 _ = G6; have r6 := same_of hH_ nh1; have eh1 := at_new hH_; clear hH_)
    refine ⟨_, rfl, pB, _, rfl, .inl (sqL (r6 _ _ eB5)), fun h2 nh2 => ?_⟩
    (generalize hH_ : upd _ h2 _ = G7; have r7 := same_of hH_ nh2; have eh2 := at_new hH_; clear hH_)
    refine ⟨(by show 2 ≤ sizeLine; decide), fun hh nhh => ?_⟩
    (generalize hH_ : upd _ hh _ = G8; have r8 := same_of hH_ nhh; have ehh := at_new hH_; clear hH_)
    have eh1' := r8 _ _ (r7 _ _ eh1)
    have eh2' := r8 _ _ eh2
    have at0 : atI [V.ref h1, V.ref h2] 0 = some (V.ref h1) := atI_nat (j := 0) rfl
    have at1 : atI [V.ref h1, V.ref h2] 1 = some (V.ref h2) := atI_nat (j := 1) rfl
    -- _law_told
    refine ⟨_, rfl, hh, _, 0, _, rfl, rfl, sqL ehh, at0, _, rfl, hh, _, 1, _, rfl, rfl, sqL ehh, at1, h1, h2, A', B', rfl, sqL eh1', sqL eh2', by omega, by omega, chA, chB', fun G9 r9 => ?_⟩
    refine ⟨_, rfl, hh, _, 1, _, rfl, rfl, sqL (r9 _ _ ehh), at1, _, rfl, hh, _, 0, _, rfl, rfl, sqL (r9 _ _ ehh), at0, h2, h1, B', A', rfl, sqL (r9 _ _ eh2'), sqL (r9 _ _ eh1'), by omega, by omega, chB', chA, fun G10 r10 => ?_⟩
    refine ⟨(by show 2 ≤ sizeLine; decide), fun t5 nt5 => ?_⟩
    (generalize hH_ : upd _ t5 _ = G11; have r11 := same_of hH_ nt5; have et5 := at_new hH_; clear hH_)
    have all11 : Same G5 G11 := ((((r6.trans r7).trans r8).trans r9).trans r10).trans r11
    have eA11 := all11 _ _ eA5
    have eB11 := all11 _ _ eB5
    -- + [compared(_law_one, list(_law_one)), ..]
    refine ⟨_, rfl, _, rfl, _, rfl, pA, _, rfl, .inl (sqL eA11), fun l1 nl1 => ?_⟩
    (generalize hH_ : upd _ l1 _ = G12; have r12 := same_of hH_ nl1; have el1 := at_new hH_; clear hH_)
    refine ⟨pA, l1, A', A', rfl, sqL (r12 _ _ eA11), sqL el1, by omega, by omega, chA, chA, fun G13 r13 => ?_⟩
    refine ⟨_, rfl, _, rfl, pB, _, rfl, .inl (sqL (r13 _ _ (r12 _ _ eB11))), fun l2 nl2 => ?_⟩
    (generalize hH_ : upd _ l2 _ = G14; have r14 := same_of hH_ nl2; have el2 := at_new hH_; clear hH_)
    refine ⟨pB, l2, B', B', rfl, sqL (r14 _ _ (r13 _ _ (r12 _ _ eB11))), sqL el2, by omega, by omega, chB', chB', fun G15 r15 => ?_⟩
    refine ⟨(by show 2 ≤ sizeLine; decide), fun t6 nt6 => ?_⟩
    (generalize hH_ : upd _ t6 _ = G16; have r16 := same_of hH_ nt6; have et6 := at_new hH_; clear hH_)
    have all16 : Same G11 G16 := (((r12.trans r13).trans r14).trans r15).trans r16
    refine ⟨t5, t6, _, _, rfl, rfl, all16 _ _ et5, et6, (by show 2 + 2 ≤ sizeLine; decide), fun t7 nt7 => ?_⟩
    (generalize hH_ : upd _ t7 _ = G17; have r17 := same_of hH_ nt7; have et7 := at_new hH_; clear hH_)
    rw [Cm.cmp_self, Cm.cmp_self, Cm.cmp_anti A' B'] at et7
    generalize Cm.cmpC A' B' = v at *
    replace et7 : G17 t7 = some (.lst (([v, -v, 0, 0] : List Int).map V.int)) := et7
    -- if not all([..]) or _law_handed != [_law_one, _law_other]
    refine ⟨_, rfl, t7, rfl, ⟨_, sqL et7⟩, fun D2 hD2 => lc_list (K := K) (a := t7) (xs := ([v, -v, 0, 0] : List Int).map V.int) (fun i H3 => Same G17 H3 ∧ H3 D2 = some (.lst ((List.replicate i true).map V.bl)))
        ⟨same_upd hD2, upd_same⟩ (fun i H3 _ ⟨s, _⟩ => s.seq (sqL et7)) ?_ ?_⟩
    · rintro i y H3 hi ⟨s3, eD⟩
      obtain ⟨z, hz, rfl⟩ := map_int_at hi
      have hi4 : i < 4 := (List.getElem?_eq_some_iff.mp hz).1
      refine ⟨rfl, _, rfl, _, "int", rfl, ty_int z, by decide, _, eD, ?_, same_mut s3 hD2, ?_⟩
      · rw [List.length_map, List.length_replicate]
        exact small1000 (by omega)
      · rw [upd_same, List.replicate_succ', List.map_append]
        rfl
    rintro G18 ⟨r18, eD2⟩
    refine ⟨D2, _, rfl, sqL eD2, _, rfl, ?_⟩
    have e4 : (List.replicate (([v, -v, 0, 0] : List Int).map V.int).length true).all id = true := by rfl
    rw [e4]
    refine iteF ?_
    have all18 : Same G8 G18 := ((((((r9.trans r10).trans r11).trans all16).trans r17).trans r18))
    have x1 := all18 _ _ eh1'
    have x2 := all18 _ _ eh2'
    have xh := all18 _ _ ehh
    have xA : G18 pA = some (.lst (A'.map V.int)) := r18 _ _ (r17 _ _ (all16 _ _ eA11))
    have xB : G18 pB = some (.lst (B'.map V.int)) := r18 _ _ (r17 _ _ (all16 _ _ eB11))
    refine ⟨_, rfl, _, rfl, _, rfl, (by show 2 ≤ sizeLine; decide), fun u nu => ?_⟩
    (generalize hH_ : upd _ u _ = G19; have r19 := same_of hH_ nu; have eu := at_new hH_; clear hH_)
    have D1 : Dp K G19 (.ref hh) (.list [.list (A'.map PyData.int), .list (B'.map PyData.int)]) := .lst (sqL (r19 _ _ xh)) (.cons (dp_ints (sqL (r19 _ _ x1))) (.cons (dp_ints (sqL (r19 _ _ x2))) .nil))
    have D2' : Dp K G19 (.ref u) (.list [.list (A'.map PyData.int), .list (B'.map PyData.int)]) := .lst (sqL eu) (.cons (dp_ints (sqL (r19 _ _ xA))) (.cons (dp_ints (sqL (r19 _ _ xB))) .nil))
    have S : Shp 2 (.list [.list (A'.map PyData.int), .list (B'.map PyData.int)]) := shp_list fun d hd => by
      rcases List.mem_cons.mp hd with rfl | hd
      · exact shp_ints _
      · rw [List.mem_singleton] at hd
        subst hd
        exact shp_ints _
    refine ⟨_, _, D1, D2', S.shaped (by decide), S.shaped (by decide), ?_⟩
    rw [eqv_same S]
    refine ⟨_, rfl, iteF ?_⟩
    -- the last row
    have xt7 := r19 _ _ (r18 _ _ et7)
    refine ⟨_, rfl, _, rfl, _, rfl, _, _, rfl, rfl, (by show 4 ≤ sizeLine; decide), fun y ny => ?_⟩
    (generalize hH_ : upd _ y _ = G20; have r20 := same_of hH_ ny; have ey := at_new hH_; clear hH_)
    replace ey : G20 y = some (.lst (([v, 0 - v, 0, 0] : List Int).map V.int)) := ey
    refine ⟨_, _, dp_ints (sqL (r20 _ _ xt7)), dp_ints (sqL ey), shaped_ints _, shaped_ints _, ?_⟩
    rw [eqv_ints, decide_eq_true (by rw [Int.zero_sub])]
    exact q _
end
theorem txt_mk {K : PySem.W.Frag} {h : Heap} {mg : Str → Option Value} {f1 f2 f3 f4 f5 f6 f7 f8 f9 f10 f11 : Addr} (X : K.In h) (G : h.Ns mainGlobals mg)
    {od1 od2 od3 od4 od5 od6 od7 od8 od9 od10 od11 an1 an2 an3 an4 an5 an6 an7 an8 an9 an10 an11 : Option Addr} {sl1 sl2 sl3 sl4 sl5 sl6 sl7 sl8 sl9 sl10 sl11 : Array (Option Value)} {oc1 oc2 oc3 oc4 oc5 oc6 oc7 oc8 oc9 oc10 oc11 kV1 kV2 kV3 kV4 kV5 kV6 kV7 kV8 kV9 kV10 kV11 dc1 dc2 dc3 dc4 dc5 dc6 dc7 dc8 dc9 dc10 dc11 pm1 pm2 pm3 pm4 pm5 pm6 pm7 pm8 pm9 pm10 pm11 cd1 cd2 cd3 cd4 cd5 cd6 cd7 cd8 cd9 cd10 cd11 ct1 ct2 ct3 ct4 ct5 ct6 ct7 ct8 ct9 ct10 ct11 : Value}
    (a1 : PySem.W.nsIn K mainGlobals "is_whole" = some (some (.ref f1))) (l1 : K.lookup f1 = some ⟨oc1, od1, .func (PySem.W.fnOf "is_whole" "is_whole" (defArgs s_is_whole) (defBody s_is_whole) (defScope s_is_whole) .none kV1 dc1 pm1 an1 cd1 ct1), sl1⟩) (c1 : PySem.W.codeIn K cd1 "is_whole" = true) (k1 : PySem.W.keepIn K (.ref f1) = true)
    (a2 : PySem.W.nsIn K mainGlobals "are_quotients" = some (some (.ref f2))) (l2 : K.lookup f2 = some ⟨oc2, od2, .func (PySem.W.fnOf "are_quotients" "are_quotients" (defArgs s_are_quotients) (defBody s_are_quotients) (defScope s_are_quotients) .none kV2 dc2 pm2 an2 cd2 ct2), sl2⟩) (c2 : PySem.W.codeIn K cd2 "are_quotients" = true) (k2 : PySem.W.keepIn K (.ref f2) = true)
    (a3 : PySem.W.nsIn K mainGlobals "is_chain" = some (some (.ref f3))) (l3 : K.lookup f3 = some ⟨oc3, od3, .func (PySem.W.fnOf "is_chain" "is_chain" (defArgs s_is_chain) (defBody s_is_chain) (defScope s_is_chain) .none kV3 dc3 pm3 an3 cd3 ct3), sl3⟩) (c3 : PySem.W.codeIn K cd3 "is_chain" = true) (k3 : PySem.W.keepIn K (.ref f3) = true)
    (a4 : PySem.W.nsIn K mainGlobals "need_chain" = some (some (.ref f4))) (l4 : K.lookup f4 = some ⟨oc4, od4, .func (PySem.W.fnOf "need_chain" "need_chain" (defArgs s_need_chain) (defBody s_need_chain) (defScope s_need_chain) .none kV4 dc4 pm4 an4 cd4 ct4), sl4⟩) (c4 : PySem.W.codeIn K cd4 "need_chain" = true) (k4 : PySem.W.keepIn K (.ref f4) = true)
    (a5 : PySem.W.nsIn K mainGlobals "compared" = some (some (.ref f5))) (l5 : K.lookup f5 = some ⟨oc5, od5, .func (PySem.W.fnOf "compared" "compared" (defArgs s_compared) (defBody s_compared) (defScope s_compared) .none kV5 dc5 pm5 an5 cd5 ct5), sl5⟩) (c5 : PySem.W.codeIn K cd5 "compared" = true) (k5 : PySem.W.keepIn K (.ref f5) = true)
    (a6 : PySem.W.nsIn K mainGlobals "_law_mixed" = some (some (.ref f6))) (l6 : K.lookup f6 = some ⟨oc6, od6, .func (PySem.W.fnOf "_law_mixed" "_law_mixed" (defArgs s_l_mixed) (defBody s_l_mixed) (defScope s_l_mixed) .none kV6 dc6 pm6 an6 cd6 ct6), sl6⟩) (c6 : PySem.W.codeIn K cd6 "_law_mixed" = true) (k6 : PySem.W.keepIn K (.ref f6) = true)
    (a7 : PySem.W.nsIn K mainGlobals "_law_quotient" = some (some (.ref f7))) (l7 : K.lookup f7 = some ⟨oc7, od7, .func (PySem.W.fnOf "_law_quotient" "_law_quotient" (defArgs s_l_quotient) (defBody s_l_quotient) (defScope s_l_quotient) .none kV7 dc7 pm7 an7 cd7 ct7), sl7⟩) (c7 : PySem.W.codeIn K cd7 "_law_quotient" = true) (k7 : PySem.W.keepIn K (.ref f7) = true)
    (a8 : PySem.W.nsIn K mainGlobals "_law_worth" = some (some (.ref f8))) (l8 : K.lookup f8 = some ⟨oc8, od8, .func (PySem.W.fnOf "_law_worth" "_law_worth" (defArgs s_l_worth) (defBody s_l_worth) (defScope s_l_worth) .none kV8 dc8 pm8 an8 cd8 ct8), sl8⟩) (c8 : PySem.W.codeIn K cd8 "_law_worth" = true) (k8 : PySem.W.keepIn K (.ref f8) = true)
    (a9 : PySem.W.nsIn K mainGlobals "_law_whole" = some (some (.ref f9))) (l9 : K.lookup f9 = some ⟨oc9, od9, .func (PySem.W.fnOf "_law_whole" "_law_whole" (defArgs s_l_whole) (defBody s_l_whole) (defScope s_l_whole) .none kV9 dc9 pm9 an9 cd9 ct9), sl9⟩) (c9 : PySem.W.codeIn K cd9 "_law_whole" = true) (k9 : PySem.W.keepIn K (.ref f9) = true)
    (a10 : PySem.W.nsIn K mainGlobals "_law_neat" = some (some (.ref f10))) (l10 : K.lookup f10 = some ⟨oc10, od10, .func (PySem.W.fnOf "_law_neat" "_law_neat" (defArgs s_l_neat) (defBody s_l_neat) (defScope s_l_neat) .none kV10 dc10 pm10 an10 cd10 ct10), sl10⟩) (c10 : PySem.W.codeIn K cd10 "_law_neat" = true) (k10 : PySem.W.keepIn K (.ref f10) = true)
    (a11 : PySem.W.nsIn K mainGlobals "law" = some (some (.ref f11))) (l11 : K.lookup f11 = some ⟨oc11, od11, .func (PySem.W.fnOf "law" "law" (defArgs s_law) (defBody s_law) (defScope s_law) .none kV11 dc11 pm11 an11 cd11 ct11), sl11⟩) (c11 : PySem.W.codeIn K cd11 "law" = true) (k11 : PySem.W.keepIn K (.ref f11) = true)
    (z1 : PySem.W.nsIn K mainGlobals "all" = some none)
    (z2 : PySem.W.nsIn K mainGlobals "bool" = some none)
    (z3 : PySem.W.nsIn K mainGlobals "enumerate" = some none)
    (z4 : PySem.W.nsIn K mainGlobals "int" = some none)
    (z5 : PySem.W.nsIn K mainGlobals "isinstance" = some none)
    (z6 : PySem.W.nsIn K mainGlobals "len" = some none)
    (z7 : PySem.W.nsIn K mainGlobals "list" = some none)
    (z8 : PySem.W.nsIn K mainGlobals "sum" = some none)
    : Txt K mg :=
  ⟨defAt_mk (ps := ["thing"]) l1 c1 k1 (PySem.W.mg_of X G a1) (fun _ _ _ _ _ _ us hl => match us, hl with | [_], _ => rfl),
    defAt_mk (ps := ["thing"]) l2 c2 k2 (PySem.W.mg_of X G a2) (fun _ _ _ _ _ _ us hl => match us, hl with | [_], _ => rfl),
    defAt_mk (ps := ["thing"]) l3 c3 k3 (PySem.W.mg_of X G a3) (fun _ _ _ _ _ _ us hl => match us, hl with | [_], _ => rfl),
    defAt_mk (ps := ["thing"]) l4 c4 k4 (PySem.W.mg_of X G a4) (fun _ _ _ _ _ _ us hl => match us, hl with | [_], _ => rfl),
    defAt_mk (ps := ["one", "other"]) l5 c5 k5 (PySem.W.mg_of X G a5) (fun _ _ _ _ _ _ us hl => match us, hl with | [_, _], _ => rfl),
    defAt_mk (ps := ["_law_cell", "_law_k"]) l6 c6 k6 (PySem.W.mg_of X G a6) (fun _ _ _ _ _ _ us hl => match us, hl with | [_, _], _ => rfl),
    defAt_mk (ps := ["_law_cell"]) l7 c7 k7 (PySem.W.mg_of X G a7) (fun _ _ _ _ _ _ us hl => match us, hl with | [_], _ => rfl),
    defAt_mk (ps := ["_law_quotients"]) l8 c8 k8 (PySem.W.mg_of X G a8) (fun _ _ _ _ _ _ us hl => match us, hl with | [_], _ => rfl),
    defAt_mk (ps := ["_law_found"]) l9 c9 k9 (PySem.W.mg_of X G a9) (fun _ _ _ _ _ _ us hl => match us, hl with | [_], _ => rfl),
    defAt_mk (ps := ["_law_quotients"]) l10 c10 k10 (PySem.W.mg_of X G a10) (fun _ _ _ _ _ _ us hl => match us, hl with | [_], _ => rfl),
    lawAt_mk (ps := ["_law_script"]) l11 c11 k11 (PySem.W.mg_of X G a11) (fun _ _ => .of_eq rfl),
    PySem.W.mg_none_of X G z1,
    PySem.W.mg_none_of X G z2,
    PySem.W.mg_none_of X G z3,
    PySem.W.mg_none_of X G z4,
    PySem.W.mg_none_of X G z5,
    PySem.W.mg_none_of X G z6,
    PySem.W.mg_none_of X G z7,
    PySem.W.mg_none_of X G z8⟩
theorem law_mk {P : Program} {w : World} {K : PySem.W.Frag} {mg : Str → Option Value} {fa : Addr} (hfa : mg "law" = some (.ref fa)) (T : Txt K mg) :
    ∃ fd : FuncData, (∀ (s : Shared) (v : Value), BindsTo s fd ⟨[v], []⟩ [("_law_script", v)]) ∧ ∀ base : Heap, K.In base → base.Ns mainGlobals mg → FnOk P w K mg base CX0 6 fa fd ["_law_script"] (spLaw K) := by
  obtain ⟨f, fd, F, m, b⟩ := T.d_law.ex
  cases hfa.symm.trans m
  exact ⟨fd, b, fun base _ _ => ok_law T F⟩

end Cs
open PySem PySem.W PyProof.Rows
set_option maxHeartbeats 0 in
theorem PySem.Challenge.cw_chainsum_k03_order_of_chains_holds : PySem.Challenge.rw_chainsum_k03_order_of_chains.Holds := by
  w_on; o_law; k_head; (case hw => w_witness2)
  k_fill
  refine Cs.walk (l := PySem.Challenge.rw_chainsum_k03_order_of_chains) (k := 6) rfl rfl ⟨rfl, by decide, by decide⟩ (fun w h Y => PySem.W.kIn_of Y) ?F
  case F =>
    intro w mg fa h KX G hmg
    refine Cs.law_mk hmg ?T
    refine' Cs.txt_mk KX G ?a1 ?l1 ?c1 ?k1 ?a2 ?l2 ?c2 ?k2 ?a3 ?l3 ?c3 ?k3 ?a4 ?l4 ?c4 ?k4 ?a5 ?l5 ?c5 ?k5 ?a6 ?l6 ?c6 ?k6 ?a7 ?l7 ?c7 ?k7 ?a8 ?l8 ?c8 ?k8 ?a9 ?l9 ?c9 ?k9 ?a10 ?l10 ?c10 ?k10 ?a11 ?l11 ?c11 ?k11 ?z1 ?z2 ?z3 ?z4 ?z5 ?z6 ?z7 ?z8
    (case a1 => k_is)
    (case l1 => k_is)
    (case c1 => k_is)
    (case k1 => k_is)
    (case a2 => k_is)
    (case l2 => k_is)
    (case c2 => k_is)
    (case k2 => k_is)
    (case a3 => k_is)
    (case l3 => k_is)
    (case c3 => k_is)
    (case k3 => k_is)
    (case a4 => k_is)
    (case l4 => k_is)
    (case c4 => k_is)
    (case k4 => k_is)
    (case a5 => k_is)
    (case l5 => k_is)
    (case c5 => k_is)
    (case k5 => k_is)
    (case a6 => k_is)
    (case l6 => k_is)
    (case c6 => k_is)
    (case k6 => k_is)
    (case a7 => k_is)
    (case l7 => k_is)
    (case c7 => k_is)
    (case k7 => k_is)
    (case a8 => k_is)
    (case l8 => k_is)
    (case c8 => k_is)
    (case k8 => k_is)
    (case a9 => k_is)
    (case l9 => k_is)
    (case c9 => k_is)
    (case k9 => k_is)
    (case a10 => k_is)
    (case l10 => k_is)
    (case c10 => k_is)
    (case k10 => k_is)
    (case a11 => k_is)
    (case l11 => k_is)
    (case c11 => k_is)
    (case k11 => k_is)
    (case z1 => k_is)
    (case z2 => k_is)
    (case z3 => k_is)
    (case z4 => k_is)
    (case z5 => k_is)
    (case z6 => k_is)
    (case z7 => k_is)
    (case z8 => k_is)
