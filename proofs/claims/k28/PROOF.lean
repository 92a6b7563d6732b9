import PyProof.Rows.All
import Wide.All
import OpenK.AllK
import Wide.FinOn
import HandS.ForMost
import HandS.ForExc
import KE.KeyNested
import KE.KDictCopyH
import HandS.Defaults
import HandS.ExcIs
import HandS.HeadHook1
import HandS.HeadHook2
import HandS.Zip
import HandS.Style
import HandS.WideBits
import HandS.More
import KE.IntBitsLaws
import HandS.CallRecv
import HandS.TryMany
import KE.KStateDown
import HandS.Head0
import HandS.Head1
import HandS.Head2
import HandS.HeadEnd
import PySem.Challenge.RW_sandreckoner_k28_whole_values
/-! Whole numbers as signed sums of powers of two: plain Lean. -/
set_option maxRecDepth 10000
namespace Sr

/-- 2 to an exponent that is not negative -/
def p2 (e : Int) : Int := 2 ^ e.toNat
theorem p2_pos (e : Int) : 0 < p2 e := Int.pow_pos (by decide)
theorem p2_succ {e : Int} (h : 0 ≤ e) : p2 (e + 1) = 2 * p2 e := by
  unfold p2
  have h1 : (e + 1).toNat = e.toNat + 1 := by omega
  rw [h1, Int.pow_succ, Int.mul_comm]
theorem p2_add {a b : Int} (ha : 0 ≤ a) (hb : 0 ≤ b) : p2 (a + b) = p2 a * p2 b := by
  unfold p2
  have h1 : (a + b).toNat = a.toNat + b.toNat := by omega
  rw [h1, Int.pow_add]
theorem p2_two {e : Int} (h : 0 ≤ e) : p2 (e + 2) = 4 * p2 e := by
  have h1 : e + 2 = (e + 1) + 1 := by omega
  rw [h1, p2_succ (by omega), p2_succ h]; omega
theorem p2_mono {a b : Int} (h : a ≤ b) : p2 a ≤ p2 b := by
  unfold p2
  exact_mod_cast Nat.pow_le_pow_right (by decide : 0 < 2) (by omega : a.toNat ≤ b.toNat)
theorem p2_zero : p2 0 = 1 := rfl
theorem p2_lt_of {a b : Int} (h : p2 a < p2 b) : a < b := by
  by_cases c : a < b
  · exact c
  · exact absurd (p2_mono (show b ≤ a by omega)) (by omega)

abbrev Terms := List (Int × Int)
/-- what a list of terms stands for -/
def val : Terms → Int
  | [] => 0
  | t :: r => t.1 * p2 t.2 + val r
/-- the form, the greatest exponent first and at most b -/
def Nf : Int → Terms → Prop
  | _, [] => True
  | b, t :: r => (t.1 = 1 ∨ t.1 = -1) ∧ 0 ≤ t.2 ∧ t.2 ≤ b ∧ Nf (t.2 - 2) r
theorem Nf.mono {b c : Int} (h : b ≤ c) : ∀ {l : Terms}, Nf b l → Nf c l
  | [], _ => trivial
  | _ :: _, ⟨h1, h2, h3, h4⟩ => ⟨h1, h2, by omega, h4⟩
theorem val_lt : ∀ {l : Terms} {b : Int}, Nf b l → 3 * val l < p2 (b + 2) ∧ - p2 (b + 2) < 3 * val l
  | [], b, _ => by
    have := p2_pos (b + 2)
    show 3 * (0 : Int) < _ ∧ _ < 3 * (0 : Int)
    omega
  | t :: r, b, ⟨h1, h2, h3, h4⟩ => by
    have ih := val_lt h4
    have e1 : t.2 - 2 + 2 = t.2 := by omega
    rw [e1] at ih
    have e2 := p2_mono (show t.2 + 2 ≤ b + 2 by omega)
    rw [p2_two h2] at e2
    show 3 * (t.1 * p2 t.2 + val r) < _ ∧ _ < 3 * (t.1 * p2 t.2 + val r)
    rcases h1 with e | e <;> rw [e] <;> omega

def sgn (x : Int) : Int := if x < 0 then -1 else if x = 0 then 0 else 1
theorem sgn_neg {x : Int} (h : x < 0) : sgn x = -1 := if_pos h
theorem sgn_pos {x : Int} (h : 0 < x) : sgn x = 1 := by unfold sgn; rw [if_neg (by omega), if_neg (by omega)]
theorem sgn_zero : sgn 0 = 0 := rfl
theorem sgn_sub_comm (a b : Int) : sgn (b - a) = - sgn (a - b) := by
  unfold sgn
  by_cases h1 : a < b
  · rw [if_neg (by omega), if_neg (by omega), if_pos (by omega)]; rfl
  · by_cases h2 : a = b
    · subst h2; simp
    · rw [if_pos (by omega), if_neg (by omega), if_neg (by omega)]

/-- the comparison of two forms, from the greatest exponents on -/
def cmpL : Terms → Terms → Int
  | [], [] => 0
  | t :: _, [] => t.1
  | [], t :: _ => -t.1
  | t :: r, u :: q => if t.1 ≠ u.1 then t.1 else if t.2 ≠ u.2 then sgn (t.2 - u.2) * t.1 else cmpL r q
theorem cmpL_sgn : ∀ {l m : Terms} {b c : Int}, Nf b l → Nf c m → cmpL l m = sgn (val l - val m)
  | [], [], _, _, _, _ => rfl
  | t :: r, [], b, c, ⟨h1, h2, h3, h4⟩, _ => by
    have q := val_lt h4
    rw [show t.2 - 2 + 2 = t.2 by omega] at q
    have := p2_pos t.2
    show t.1 = sgn (t.1 * p2 t.2 + val r - 0)
    rcases h1 with e | e <;> rw [e]
    · rw [sgn_pos (by omega)]
    · rw [sgn_neg (by omega)]
  | [], t :: r, b, c, _, ⟨h1, h2, h3, h4⟩ => by
    have q := val_lt h4
    rw [show t.2 - 2 + 2 = t.2 by omega] at q
    have := p2_pos t.2
    show -t.1 = sgn (0 - (t.1 * p2 t.2 + val r))
    rcases h1 with e | e <;> rw [e]
    · rw [sgn_neg (by omega)]
    · rw [sgn_pos (by omega)]; rfl
  | t :: r, u :: q, b, c, ⟨h1, h2, h3, h4⟩, ⟨g1, g2, g3, g4⟩ => by
    have q1 := val_lt h4
    have q2 := val_lt g4
    rw [show t.2 - 2 + 2 = t.2 by omega] at q1
    rw [show u.2 - 2 + 2 = u.2 by omega] at q2
    have z1 := p2_pos t.2
    have z2 := p2_pos u.2
    show (if t.1 ≠ u.1 then t.1 else if t.2 ≠ u.2 then sgn (t.2 - u.2) * t.1 else cmpL r q) = sgn (t.1 * p2 t.2 + val r - (u.1 * p2 u.2 + val q))
    by_cases hs : t.1 = u.1
    · rw [if_neg (by omega)]
      by_cases he : t.2 = u.2
      · rw [if_neg (by omega), cmpL_sgn h4 g4, hs, he]
        congr 1
        omega
      · rw [if_pos he, hs]
        by_cases hlt : t.2 < u.2
        · have e := p2_mono (show t.2 + 1 ≤ u.2 by omega)
          rw [p2_succ h2] at e
          rw [sgn_neg (show t.2 - u.2 < 0 by omega)]
          rcases g1 with e1 | e1 <;> rw [e1]
          · rw [sgn_neg (by omega)]; rfl
          · rw [sgn_pos (by omega)]; rfl
        · have e := p2_mono (show u.2 + 1 ≤ t.2 by omega)
          rw [p2_succ g2] at e
          rw [sgn_pos (show 0 < t.2 - u.2 by omega)]
          rcases g1 with e1 | e1 <;> rw [e1]
          · rw [sgn_pos (by omega)]; rfl
          · rw [sgn_neg (by omega)]; rfl
    · rw [if_pos hs]
      rcases h1 with e | e <;> rcases g1 with e' | e'
      · omega
      · rw [e, e', sgn_pos (by omega)]
      · rw [e, e', sgn_neg (by omega)]
      · omega
theorem cmpL_zero : ∀ {l m : Terms} {b c : Int}, Nf b l → Nf c m → cmpL l m = 0 → l = m
  | [], [], _, _, _, _, _ => rfl
  | t :: r, [], b, c, ⟨h1, _⟩, _, e => by
    have e : t.1 = 0 := e
    omega
  | [], t :: r, b, c, _, ⟨h1, _⟩, e => by
    have e : -t.1 = 0 := e
    omega
  | t :: r, u :: q, b, c, ⟨h1, h2, h3, h4⟩, ⟨g1, g2, g3, g4⟩, e => by
    have e : (if t.1 ≠ u.1 then t.1 else if t.2 ≠ u.2 then sgn (t.2 - u.2) * t.1 else cmpL r q) = 0 := e
    by_cases hs : t.1 = u.1
    · rw [if_neg (by omega)] at e
      by_cases he : t.2 = u.2
      · rw [if_neg (by omega)] at e
        rw [cmpL_zero h4 g4 e, Prod.ext hs he]
      · rw [if_pos he] at e
        by_cases hlt : t.2 < u.2
        · rw [sgn_neg (by omega)] at e; omega
        · rw [sgn_pos (by omega)] at e; omega
    · rw [if_pos hs] at e; omega
/-- two forms of one value are one -/
theorem nf_one {l m : Terms} {b c : Int} (h : Nf b l) (g : Nf c m) (e : val l = val m) : l = m :=
  cmpL_zero h g (by rw [cmpL_sgn h g, e, Int.sub_self]; rfl)

/-- the terms of a whole number, laid on acc -/
def nafG : Nat → Int → Int → Terms → Terms
  | 0, _, _, acc => acc
  | n + 1, v, p, acc =>
    if v = 0 then acc
    else if v % 2 = 1 then (if v % 4 = 1 then nafG n ((v - 1) / 2) (p + 1) ((1, p) :: acc) else nafG n ((v + 1) / 2) (p + 1) ((-1, p) :: acc))
    else nafG n (v / 2) (p + 1) acc
def naf (v : Int) : Terms := nafG (v.natAbs + 1) v 0 []
theorem nafG_ok : ∀ (n : Nat) (v p : Int) (acc : Terms), v.natAbs < n → 0 ≤ p → Nf (p - 1) acc → (v % 2 = 1 → Nf (p - 2) acc) →
    (∃ b, Nf b (nafG n v p acc)) ∧ val (nafG n v p acc) = v * p2 p + val acc
  | 0, v, p, acc, h, _, _, _ => absurd h (Nat.not_lt_zero _)
  | n + 1, v, p, acc, h, hp, a1, a2 => by
    unfold nafG
    by_cases h0 : v = 0
    · rw [if_pos h0, h0]
      exact ⟨⟨_, a1⟩, by omega⟩
    · rw [if_neg h0]
      have s1 := p2_succ hp
      by_cases h1 : v % 2 = 1
      · rw [if_pos h1]
        by_cases h2 : v % 4 = 1
        · rw [if_pos h2]
          obtain ⟨i1, i2⟩ := nafG_ok n ((v - 1) / 2) (p + 1) ((1, p) :: acc) (by omega) (by omega) ⟨.inl rfl, hp, by show p ≤ p + 1 - 1; omega, a2 h1⟩ (fun z => by omega)
          refine ⟨i1, ?_⟩
          rw [i2, s1]
          show (v - 1) / 2 * (2 * p2 p) + (1 * p2 p + val acc) = v * p2 p + val acc
          have e : v = 2 * ((v - 1) / 2) + 1 := by omega
          generalize (v - 1) / 2 = k at e
          subst e
          rw [Int.add_mul, ← Int.mul_assoc, Int.mul_comm k 2]; omega
        · rw [if_neg h2]
          obtain ⟨i1, i2⟩ := nafG_ok n ((v + 1) / 2) (p + 1) ((-1, p) :: acc) (by omega) (by omega) ⟨.inr rfl, hp, by show p ≤ p + 1 - 1; omega, a2 h1⟩ (fun z => by omega)
          refine ⟨i1, ?_⟩
          rw [i2, s1]
          show (v + 1) / 2 * (2 * p2 p) + (-1 * p2 p + val acc) = v * p2 p + val acc
          have e : v = 2 * ((v + 1) / 2) - 1 := by omega
          generalize (v + 1) / 2 = k at e
          subst e
          rw [Int.sub_mul, ← Int.mul_assoc, Int.mul_comm k 2]; omega
      · rw [if_neg h1]
        obtain ⟨i1, i2⟩ := nafG_ok n (v / 2) (p + 1) acc (by omega) (by omega) (a1.mono (by omega)) (fun _ => by rw [show p + 1 - 2 = p - 1 by omega]; exact a1)
        refine ⟨i1, ?_⟩
        rw [i2, s1]
        have e : v = 2 * (v / 2) := by omega
        generalize v / 2 = k at e
        subst e
        rw [← Int.mul_assoc, Int.mul_comm k 2]
theorem naf_nf (v : Int) : ∃ b, Nf b (naf v) := (nafG_ok (v.natAbs + 1) v 0 [] (by omega) (by omega) trivial fun _ => trivial).1
theorem val_naf (v : Int) : val (naf v) = v := by
  have h := (nafG_ok (v.natAbs + 1) v 0 [] (by omega) (by omega) trivial fun _ => trivial).2
  show val (nafG (v.natAbs + 1) v 0 []) = v
  rw [h]
  show v * p2 0 + 0 = v
  rw [p2_zero]; omega
theorem naf_of {l : Terms} {b : Int} (h : Nf b l) : naf (val l) = l :=
  let ⟨_, g⟩ := naf_nf (val l)
  nf_one g h (val_naf _)
theorem naf_is {l : Terms} {b v : Int} (h : Nf b l) (e : val l = v) : naf v = l := by
  subst e; exact naf_of h
theorem naf_zero : naf 0 = [] := naf_is (b := 0) trivial rfl
theorem naf_p2 {e : Int} (h : 0 ≤ e) : naf (p2 e) = [(1, e)] :=
  naf_is (b := e) ⟨.inl rfl, h, Int.le_refl _, trivial⟩ (by show 1 * p2 e + 0 = p2 e; omega)
theorem naf_one : naf 1 = [(1, 0)] := naf_p2 (e := 0) (by omega)
theorem naf_inj {x y : Int} (h : naf x = naf y) : x = y := by rw [← val_naf x, h, val_naf]
theorem naf_nil {x : Int} (h : naf x = []) : x = 0 := naf_inj (h.trans naf_zero.symm)
theorem cmp_naf (x y : Int) : cmpL (naf x) (naf y) = sgn (x - y) := by
  obtain ⟨b, h⟩ := naf_nf x
  obtain ⟨c, g⟩ := naf_nf y
  rw [cmpL_sgn h g, val_naf, val_naf]
end Sr
set_option maxRecDepth 10000
set_option linter.unusedVariables false
namespace Sr

theorem Nf.mem : ∀ {l : Terms} {b : Int}, Nf b l → ∀ t ∈ l, (t.1 = 1 ∨ t.1 = -1) ∧ 0 ≤ t.2 ∧ t.2 ≤ b
  | [], _, _, t, h => nomatch h
  | u :: r, b, ⟨h1, h2, h3, h4⟩, t, h => by
    rcases List.mem_cons.mp h with e | h
    · subst e; exact ⟨h1, h2, h3⟩
    · obtain ⟨g1, g2, g3⟩ := h4.mem t h
      exact ⟨g1, g2, by omega⟩
theorem Nf.len : ∀ {l : Terms} {b : Int}, Nf b l → -2 ≤ b → 2 * (l.length : Int) ≤ b + 2
  | [], b, _, h => by show 2 * (0 : Int) ≤ _; omega
  | u :: r, b, ⟨h1, h2, h3, h4⟩, h => by
    have := h4.len (by omega)
    rw [List.length_cons]
    omega
theorem naf_mem {x : Int} {t : Int × Int} (h : t ∈ naf x) : (t.1 = 1 ∨ t.1 = -1) ∧ 0 ≤ t.2 :=
  let ⟨_, g⟩ := naf_nf x
  ⟨(g.mem t h).1, (g.mem t h).2.1⟩
theorem Nf.top {l : Terms} {b k : Int} (h : Nf b l) (h1 : val l < p2 k) (h2 : - p2 k < val l) (hk : 0 ≤ k) : Nf k l := by
  cases l with
  | nil => trivial
  | cons t r =>
    obtain ⟨g1, g2, g3, g4⟩ := h
    refine ⟨g1, g2, ?_, g4⟩
    have q := val_lt g4
    rw [show t.2 - 2 + 2 = t.2 by omega] at q
    by_cases c : t.2 ≤ k
    · exact c
    · exfalso
      have e := p2_mono (show k + 1 ≤ t.2 by omega)
      rw [p2_succ hk] at e
      have h1 : t.1 * p2 t.2 + val r < p2 k := h1
      have h2 : - p2 k < t.1 * p2 t.2 + val r := h2
      rcases g1 with e1 | e1 <;> rw [e1] at h1 h2 <;> omega
theorem naf_top {x k : Int} (h1 : x < p2 k) (h2 : - p2 k < x) (hk : 0 ≤ k) : Nf k (naf x) :=
  let ⟨_, g⟩ := naf_nf x
  g.top (by rw [val_naf]; exact h1) (by rw [val_naf]; exact h2) hk

/-! ### the other sign -/
def negL (l : Terms) : Terms := l.map fun t => (-t.1, t.2)
theorem negL_nf : ∀ {l : Terms} {b : Int}, Nf b l → Nf b (negL l)
  | [], _, _ => trivial
  | t :: r, b, ⟨h1, h2, h3, h4⟩ => ⟨by show -t.1 = 1 ∨ -t.1 = -1; omega, h2, h3, negL_nf h4⟩
theorem negL_val : ∀ l : Terms, val (negL l) = - val l
  | [] => rfl
  | t :: r => by
    show -t.1 * p2 t.2 + val (negL r) = -(t.1 * p2 t.2 + val r)
    rw [negL_val r, Int.neg_mul]; omega
theorem naf_neg (x : Int) : naf (-x) = negL (naf x) :=
  let ⟨_, g⟩ := naf_nf x
  naf_is (negL_nf g) (by rw [negL_val, val_naf])

/-! ### shifts -/
def shL (k : Int) (l : Terms) : Terms := l.map fun t => (t.1, t.2 + k)
theorem shL_nf {k : Int} : ∀ {l : Terms} {b : Int}, Nf b l → (∀ t ∈ l, 0 ≤ t.2 + k) → Nf (b + k) (shL k l)
  | [], _, _, _ => trivial
  | t :: r, b, ⟨h1, h2, h3, h4⟩, h => ⟨h1, h t List.mem_cons_self, by show t.2 + k ≤ b + k; omega, by
      have := shL_nf h4 fun u hu => h u (List.mem_cons_of_mem _ hu)
      rw [show t.2 - 2 + k = t.2 + k - 2 by omega] at this
      exact this⟩
theorem shL_up {k : Int} (hk : 0 ≤ k) : ∀ {l : Terms} {b : Int}, Nf b l → val (shL k l) = val l * p2 k
  | [], _, _ => by show (0 : Int) = 0 * p2 k; omega
  | t :: r, b, ⟨h1, h2, h3, h4⟩ => by
    show t.1 * p2 (t.2 + k) + val (shL k r) = (t.1 * p2 t.2 + val r) * p2 k
    rw [shL_up hk h4, p2_add h2 hk, Int.add_mul, Int.mul_assoc]
theorem shL_down {k : Int} (hk : 0 ≤ k) : ∀ {l : Terms} {b : Int}, Nf b l → (∀ t ∈ l, 0 ≤ t.2 + -k) → val (shL (-k) l) * p2 k = val l
  | [], _, _, _ => by show (0 : Int) * p2 k = 0; omega
  | t :: r, b, ⟨h1, h2, h3, h4⟩, h => by
    show (t.1 * p2 (t.2 + -k) + val (shL (-k) r)) * p2 k = t.1 * p2 t.2 + val r
    have h0 := h t List.mem_cons_self
    rw [Int.add_mul, shL_down hk h4 fun u hu => h u (List.mem_cons_of_mem _ hu), Int.mul_assoc, ← p2_add h0 hk, show t.2 + -k + k = t.2 by omega]

/-! ### the lowest term -/
theorem last_spec : ∀ {l : Terms} {b : Int} {t : Int × Int}, Nf b l → l.getLast? = some t → (∀ u ∈ l, t.2 ≤ u.2) ∧ 0 ≤ t.2 ∧ ∃ o, val l = p2 t.2 * o ∧ o % 2 = 1
  | [], _, _, _, h => nomatch h
  | [u], b, t, ⟨h1, h2, h3, h4⟩, h => by
    have e : u = t := Option.some.inj h
    subst e
    refine ⟨fun w hw => ?_, h2, u.1, ?_, by omega⟩
    · rw [List.mem_singleton.mp hw]; exact Int.le_refl _
    · show u.1 * p2 u.2 + 0 = _
      rw [Int.mul_comm]; omega
  | u :: v :: r, b, t, ⟨h1, h2, h3, h4⟩, h => by
    have h' : (v :: r).getLast? = some t := by rw [List.getLast?_cons_cons] at h; exact h
    obtain ⟨i1, i2, o, i3, i4⟩ := last_spec h4 h'
    have hv := i1 v List.mem_cons_self
    obtain ⟨_, _, hvb, _⟩ := h4
    refine ⟨fun w hw => ?_, i2, u.1 * p2 (u.2 - t.2) + o, ?_, ?_⟩
    · rcases List.mem_cons.mp hw with e | e
      · subst e; omega
      · exact i1 w e
    · show u.1 * p2 u.2 + val (v :: r) = _
      rw [i3, Int.mul_add, ← Int.mul_assoc, Int.mul_comm (p2 t.2) u.1, Int.mul_assoc, ← p2_add i2 (by omega), show t.2 + (u.2 - t.2) = u.2 by omega]
    · have e : p2 (u.2 - t.2) = 2 * p2 (u.2 - t.2 - 1) := by
        have := p2_succ (e := u.2 - t.2 - 1) (by omega)
        rw [show u.2 - t.2 - 1 + 1 = u.2 - t.2 by omega] at this
        exact this
      rw [e, ← Int.mul_assoc, Int.mul_comm u.1 2, Int.mul_assoc]
      generalize u.1 * p2 (u.2 - t.2 - 1) = z
      omega

/-! ### floors -/
def hiL (y : Int) (l : Terms) : Terms := l.filter fun t => decide (y ≤ t.2)
def loL (y : Int) (l : Terms) : Terms := l.filter fun t => decide (t.2 < y)
theorem loL_all {y : Int} : ∀ {l : Terms} {b : Int}, Nf b l → b < y → loL y l = l ∧ hiL y l = []
  | [], _, _, _ => ⟨rfl, rfl⟩
  | t :: r, b, ⟨h1, h2, h3, h4⟩, h => by
    obtain ⟨i1, i2⟩ := loL_all (y := y) h4 (by omega)
    refine ⟨?_, ?_⟩
    · unfold loL
      rw [List.filter_cons, if_pos (decide_eq_true (by omega))]
      exact congrArg _ i1
    · unfold hiL
      rw [List.filter_cons, if_neg (by simp; omega)]
      exact i2
theorem hilo : ∀ {l : Terms} {b : Int} (y : Int), Nf b l → Nf b (hiL y l) ∧ Nf (y - 1) (loL y l) ∧ val (hiL y l) + val (loL y l) = val l
  | [], _, _, _ => ⟨trivial, trivial, rfl⟩
  | t :: r, b, y, ⟨h1, h2, h3, h4⟩ => by
    by_cases c : y ≤ t.2
    · obtain ⟨i1, i2, i3⟩ := hilo y h4
      have e1 : hiL y (t :: r) = t :: hiL y r := by unfold hiL; rw [List.filter_cons, if_pos (decide_eq_true c)]
      have e2 : loL y (t :: r) = loL y r := by unfold loL; rw [List.filter_cons, if_neg (by simp; omega)]
      rw [e1, e2]
      refine ⟨⟨h1, h2, h3, i1⟩, i2, ?_⟩
      show t.1 * p2 t.2 + val (hiL y r) + val (loL y r) = t.1 * p2 t.2 + val r
      omega
    · have hb : Nf (y - 1) (t :: r) := ⟨h1, h2, by omega, h4⟩
      obtain ⟨i1, i2⟩ := loL_all (y := y) hb (by omega)
      rw [i1, i2]
      exact ⟨trivial, hb, by show 0 + val (t :: r) = _; omega⟩
/-- the sign below a place is that of the first term there -/
def borrow (y : Int) (l : Terms) : Bool := match loL y l with
  | [] => false
  | t :: _ => decide (t.1 < 0)
theorem borrow_is {l : Terms} {b y : Int} (h : Nf b l) : borrow y l = decide (val (loL y l) < 0) := by
  obtain ⟨_, i2, _⟩ := hilo y h
  unfold borrow
  cases e : loL y l with
  | nil => rfl
  | cons t r =>
    rw [e] at i2
    obtain ⟨g1, g2, g3, g4⟩ := i2
    have q := val_lt g4
    rw [show t.2 - 2 + 2 = t.2 by omega] at q
    have := p2_pos t.2
    show decide (t.1 < 0) = decide (t.1 * p2 t.2 + val r < 0)
    rcases g1 with e | e <;> rw [e]
    · rw [decide_eq_false (by omega), decide_eq_false (by omega)]
    · rw [decide_eq_true (by omega), decide_eq_true (by omega)]
theorem floor_val {l : Terms} {b y : Int} (h : Nf b l) (hy : 0 ≤ y) :
    Nf (b + -y) (shL (-y) (hiL y l)) ∧ val l / p2 y = val (shL (-y) (hiL y l)) + (if borrow y l = true then -1 else 0) := by
  obtain ⟨i1, i2, i3⟩ := hilo y h
  have all : ∀ t ∈ hiL y l, 0 ≤ t.2 + -y := fun t ht => by
    have := of_decide_eq_true (List.mem_filter.mp ht).2
    omega
  refine ⟨shL_nf i1 all, ?_⟩
  have e := shL_down hy i1 all
  have q := val_lt i2
  rw [show y - 1 + 2 = y + 1 by omega, p2_succ hy] at q
  have pp := p2_pos y
  rw [borrow_is h, ← i3, ← e]
  generalize val (shL (-y) (hiL y l)) = k
  generalize val (loL y l) = z at q
  by_cases c : z < 0
  · rw [decide_eq_true c, if_pos rfl]
    have e2 : k * p2 y + z = (z + p2 y) + (k + -1) * p2 y := by rw [Int.add_mul]; omega
    rw [e2, Int.add_mul_ediv_right _ _ (by omega), Int.ediv_eq_zero_of_lt (by omega) (by omega)]; omega
  · rw [decide_eq_false c, if_neg Bool.false_ne_true]
    rw [Int.add_comm, Int.add_mul_ediv_right _ _ (by omega), Int.ediv_eq_zero_of_lt (by omega) (by omega)]; omega
/-- the parity of the floor -/
theorem shL_par : ∀ {l : Terms} {b : Int}, Nf b l → ∀ y, (∀ t ∈ l, 0 ≤ t.2 + -y) → val (shL (-y) l) % 2 = ((l.filter fun t => decide (t.2 = y)).length : Int) % 2
  | [], _, _, _, _ => rfl
  | t :: r, b, ⟨h1, h2, h3, h4⟩, y, h => by
    have ih := shL_par h4 y fun u hu => h u (List.mem_cons_of_mem _ hu)
    have h0 := h t List.mem_cons_self
    show (t.1 * p2 (t.2 + -y) + val (shL (-y) r)) % 2 = _
    rw [List.filter_cons]
    by_cases c : t.2 = y
    · rw [if_pos (decide_eq_true c), List.length_cons, c, show y + -y = 0 by omega, p2_zero]
      omega
    · rw [if_neg (by simpa using c)]
      have e : p2 (t.2 + -y) = 2 * p2 (t.2 + -y - 1) := by
        have := p2_succ (e := t.2 + -y - 1) (by omega)
        rw [show t.2 + -y - 1 + 1 = t.2 + -y by omega] at this
        exact this
      rw [e, ← Int.mul_assoc, Int.mul_comm t.1 2, Int.mul_assoc]
      generalize t.1 * p2 (t.2 + -y - 1) = z
      omega
theorem digit_val {l : Terms} {b y : Int} (h : Nf b l) (hy : 0 ≤ y) :
    (val l / p2 y) % 2 = (((l.filter fun t => decide (t.2 = y)).length : Int) + (if borrow y l = true then 1 else 0)) % 2 := by
  obtain ⟨i1, i2, i3⟩ := hilo y h
  have all : ∀ t ∈ hiL y l, 0 ≤ t.2 + -y := fun t ht => by
    have := of_decide_eq_true (List.mem_filter.mp ht).2
    omega
  have p := shL_par i1 y all
  have e : ((hiL y l).filter fun t => decide (t.2 = y)) = l.filter fun t => decide (t.2 = y) := by
    unfold hiL
    rw [List.filter_filter]
    refine List.filter_congr fun t _ => ?_
    by_cases c : t.2 = y
    · simp [c]
    · simp [c]
  rw [e] at p
  rw [(floor_val h hy).2]
  cases borrow y l
  · rw [if_neg Bool.false_ne_true, if_neg Bool.false_ne_true]; omega
  · rw [if_pos rfl, if_pos rfl]; omega

/-! ### the greatest term -/
theorem top_val {t : Int × Int} {r : Terms} {b : Int} (h : Nf b (t :: r)) :
    (match r with
      | [] => p2 t.2 ≤ t.1 * val (t :: r) ∧ t.1 * val (t :: r) < p2 (t.2 + 1)
      | u :: _ => if u.1 ≠ t.1 then p2 (t.2 - 1) ≤ t.1 * val (t :: r) ∧ t.1 * val (t :: r) < p2 t.2 else p2 t.2 ≤ t.1 * val (t :: r) ∧ t.1 * val (t :: r) < p2 (t.2 + 1)) := by
  obtain ⟨h1, h2, h3, h4⟩ := h
  have z := p2_pos t.2
  cases r with
  | nil =>
    rw [p2_succ h2]
    show p2 t.2 ≤ t.1 * (t.1 * p2 t.2 + 0) ∧ t.1 * (t.1 * p2 t.2 + 0) < _
    rcases h1 with e | e <;> rw [e] <;> omega
  | cons u q =>
    have k := val_lt h4
    rw [show t.2 - 2 + 2 = t.2 by omega] at k
    obtain ⟨g1, g2, g3, g4⟩ := h4
    have k2 := val_lt g4
    rw [show u.2 - 2 + 2 = u.2 by omega] at k2
    have z2 := p2_pos u.2
    have e1 : p2 t.2 = 2 * p2 (t.2 - 1) := by
      have := p2_succ (e := t.2 - 1) (by omega)
      rw [show t.2 - 1 + 1 = t.2 by omega] at this
      exact this
    have k' : 3 * (u.1 * p2 u.2 + val q) < p2 t.2 ∧ - p2 t.2 < 3 * (u.1 * p2 u.2 + val q) := k
    show if u.1 ≠ t.1 then p2 (t.2 - 1) ≤ t.1 * (t.1 * p2 t.2 + (u.1 * p2 u.2 + val q)) ∧ t.1 * (t.1 * p2 t.2 + (u.1 * p2 u.2 + val q)) < p2 t.2
      else p2 t.2 ≤ t.1 * (t.1 * p2 t.2 + (u.1 * p2 u.2 + val q)) ∧ t.1 * (t.1 * p2 t.2 + (u.1 * p2 u.2 + val q)) < p2 (t.2 + 1)
    rw [p2_succ h2]
    generalize val q = w at k2 k'
    generalize p2 u.2 = z3 at k2 k' z2
    generalize p2 (t.2 - 1) = z4 at e1
    generalize p2 t.2 = z5 at z e1 k'
    obtain ⟨us, ue⟩ := u
    obtain ⟨ts, te⟩ := t
    dsimp only at h1 g1 k' ⊢
    rcases h1 with e | e <;> rcases g1 with f | f <;> subst e <;> subst f
    · rw [if_neg (by omega)]; omega
    · rw [if_pos (by omega)]; omega
    · rw [if_pos (by omega)]; omega
    · rw [if_neg (by omega)]; omega
end Sr
set_option Elab.async false
set_option linter.all false
set_option maxRecDepth 100000
set_option maxHeartbeats 4000000
/-! Numbers as nested tuples of the heap; their keys, hashes and equality. -/
namespace Sr
open PySem PySem.Spec PyProof.Rows L2

/-- the number x as a key, n levels deep -/
def nk : Nat → Int → NestedKey
  | 0, _ => .none
  | n + 1, x => .tup ((naf x).map fun t => .tup [.num t.1, nk n t.2])
/-- x nests at most n levels deep -/
def dp : Nat → Int → Bool
  | 0, _ => false
  | n + 1, x => (naf x).all fun t => dp n t.2
theorem dp_succ : ∀ {n : Nat} {x : Int}, dp n x = true → dp (n + 1) x = true
  | 0, _, h => nomatch h
  | n + 1, x, h => by
    have h : ((naf x).all fun t => dp n t.2) = true := h
    show ((naf x).all fun t => dp (n + 1) t.2) = true
    rw [List.all_eq_true] at h ⊢
    exact fun t ht => dp_succ (h t ht)
theorem dp_le {n m : Nat} {x : Int} (h : dp n x = true) (l : n ≤ m) : dp m x = true := by
  induction m with
  | zero =>
    have e : n = 0 := by omega
    rw [e] at h; exact h
  | succ m ih =>
    by_cases e : n = m + 1
    · rw [← e]; exact h
    · exact dp_succ (ih (by omega))
theorem nk_inj : ∀ {n : Nat} {x y : Int}, dp n x = true → dp n y = true → nk n x = nk n y → x = y
  | 0, _, _, h, _, _ => nomatch h
  | n + 1, x, y, hx, hy, e => by
    have hx : ((naf x).all fun t => dp n t.2) = true := hx
    have hy : ((naf y).all fun t => dp n t.2) = true := hy
    rw [List.all_eq_true] at hx hy
    have e : NestedKey.tup ((naf x).map fun t => .tup [.num t.1, nk n t.2]) = NestedKey.tup ((naf y).map fun t => .tup [.num t.1, nk n t.2]) := e
    injection e with e
    refine naf_inj ?_
    have go : ∀ l m : Terms, (∀ t ∈ l, dp n t.2 = true) → (∀ t ∈ m, dp n t.2 = true) → (l.map fun t => NestedKey.tup [.num t.1, nk n t.2]) = (m.map fun t => .tup [.num t.1, nk n t.2]) → l = m := by
      intro l
      induction l with
      | nil =>
        intro m _ _ h
        cases m with
        | nil => rfl
        | cons u q => simp at h
      | cons t r ih =>
        intro m h1 h2 h
        cases m with
        | nil => simp at h
        | cons u q =>
          rw [List.map_cons, List.map_cons] at h
          injection h with h3 h4
          injection h3 with h3
          injection h3 with h5 h6
          injection h5 with h5
          injection h6 with h6 _
          have e2 := nk_inj (h1 t List.mem_cons_self) (h2 u List.mem_cons_self) h6
          rw [ih q (fun z hz => h1 z (List.mem_cons_of_mem _ hz)) (fun z hz => h2 z (List.mem_cons_of_mem _ hz)) h4, Prod.ext h5 e2]
    exact go _ _ hx hy e
theorem nk_beq {n : Nat} {x y : Int} (hx : dp n x = true) (hy : dp n y = true) : NestedKey.beq (nk n x) (nk n y) = decide (x = y) := by
  rw [← NestedKey.decide_eq]
  by_cases e : x = y
  · rw [e, decide_eq_true rfl, decide_eq_true rfl]
  · rw [decide_eq_false e, decide_eq_false fun z => e (nk_inj hx hy z)]
mutual
theorem nk_depth : ∀ (n : Nat) (x : Int), (nk n x).depth ≤ 2 * n
  | 0, _ => by show 0 ≤ _; omega
  | n + 1, x => by
    show NestedKey.depthAll ((naf x).map fun t => .tup [.num t.1, nk n t.2]) + 1 ≤ _
    have := nk_depths n (naf x)
    omega
theorem nk_depths : ∀ (n : Nat) (l : Terms), NestedKey.depthAll (l.map fun t => .tup [.num t.1, nk n t.2]) ≤ 2 * n + 1
  | n, [] => by show 0 ≤ _; omega
  | n, t :: r => by
    have h1 := nk_depth n t.2
    have h2 := nk_depths n r
    show max (max 0 (max (nk n t.2).depth 0) + 1) (NestedKey.depthAll (r.map fun t => .tup [.num t.1, nk n t.2])) ≤ _
    omega
end
/-- its hash -/
def hN : Nat → Int → Int
  | 0, _ => reduceHash 0xFCA86420
  | n + 1, x => reduceHash (Builtin.Tuple.tupleHashOf ((naf x).map fun t => reduceHash (Builtin.Tuple.tupleHashOf [hashInt t.1, hN n t.2])))
theorem hN_is (w : World) : ∀ (n : Nat) (x : Int), (nk n x).hash w = hN n x
  | 0, _ => rfl
  | n + 1, x => by
    show reduceHash (Builtin.Tuple.tupleHashOf (NestedKey.hashes w ((naf x).map fun t => .tup [.num t.1, nk n t.2]))) = _
    have go : ∀ l : Terms, NestedKey.hashes w (l.map fun t => .tup [.num t.1, nk n t.2]) = l.map fun t => reduceHash (Builtin.Tuple.tupleHashOf [hashInt t.1, hN n t.2]) := by
      intro l
      induction l with
      | nil => rfl
      | cons t r ih =>
        show reduceHash (Builtin.Tuple.tupleHashOf [hashInt t.1, (nk n t.2).hash w]) :: NestedKey.hashes w (r.map fun t => .tup [.num t.1, nk n t.2]) = _
        rw [ih, hN_is w n t.2]
        rfl
    rw [go]
    rfl
/-- the hash of a number as a key: its depth is at most 60 -/
def hx (x : Int) : Int := hN 60 x
def hxs : List Int := (List.range 101).map fun i => hx (i : Nat)
theorem hxs_nodup : hxs.Nodup := by decide +kernel
theorem hx_inj {x y : Int} (h1 : 0 ≤ x) (h2 : x ≤ 100) (g1 : 0 ≤ y) (g2 : y ≤ 100) (e : hx x = hx y) : x = y := by
  have hx1 : hxs[x.toNat]? = some (hx x) := by
    unfold hxs
    rw [List.getElem?_map, List.getElem?_range (by omega)]
    show some (hx ((x.toNat : Nat) : Int)) = _
    rw [show ((x.toNat : Nat) : Int) = x by omega]
  have hy1 : hxs[y.toNat]? = some (hx y) := by
    unfold hxs
    rw [List.getElem?_map, List.getElem?_range (by omega)]
    show some (hx ((y.toNat : Nat) : Int)) = _
    rw [show ((y.toNat : Nat) : Int) = y by omega]
  rw [e] at hx1
  have := nd_ix hxs_nodup hx1 hy1
  omega
theorem dp_small {x : Int} (h1 : 0 ≤ x) (h2 : x ≤ 100) : dp 6 x = true := by
  have h : ∀ i : Fin 101, dp 6 (i.val : Nat) = true := by decide +kernel
  have := h ⟨x.toNat, by omega⟩
  rw [show ((x.toNat : Nat) : Int) = x by omega] at this
  exact this
theorem dp_of {x k : Int} (h : Nf k (naf x)) (hk : k ≤ 100) : dp 7 x = true := by
  show ((naf x).all fun t => dp 6 t.2) = true
  rw [List.all_eq_true]
  intro t ht
  obtain ⟨_, g1, g2⟩ := h.mem t ht
  exact dp_small g1 (by omega)
end Sr
set_option Elab.async false
set_option linter.all false
set_option maxRecDepth 100000
set_option maxHeartbeats 4000000
/-! Numbers in the abstract heap. -/
namespace Sr
open PySem PySem.Spec PyProof.Rows L2

/-- the value v is, in H, the nested tuple of the number x, at most n levels deep -/
def IsN (K : PySem.W.Frag) (H : Hp) : Nat → V → Int → Prop
  | 0, _, _ => False
  | n + 1, v, x => ∃ a xs, v = .ref a ∧ xs.length ≤ 1000 ∧ SqT K H a xs ∧ Paired (fun (y : V) (t : Int × Int) => ∃ b e, y = .ref b ∧ SqT K H b [.int t.1, e] ∧ IsN K H n e t.2) xs (naf x)
/-- what the items of a number are -/
def IsI (K : PySem.W.Frag) (H : Hp) (n : Nat) (y : V) (t : Int × Int) : Prop := ∃ b e, y = .ref b ∧ SqT K H b [.int t.1, e] ∧ IsN K H n e t.2
theorem IsN.open_ {K : PySem.W.Frag} {H : Hp} {n : Nat} {v : V} {x : Int} (h : IsN K H (n + 1) v x) : ∃ a xs, v = .ref a ∧ xs.length ≤ 1000 ∧ SqT K H a xs ∧ Paired (IsI K H n) xs (naf x) := h
theorem IsN.mk {K : PySem.W.Frag} {H : Hp} {n : Nat} {a : Addr} {xs : List V} {x : Int} (h : SqT K H a xs) (p : Paired (IsI K H n) xs (naf x)) (z : xs.length ≤ 1000) : IsN K H (n + 1) (.ref a) x := ⟨a, xs, rfl, z, h, p⟩

/-- the tuples of H stand in H' -/
def Tx (K : PySem.W.Frag) (H H' : Hp) : Prop := ∀ a xs, SqT K H a xs → SqT K H' a xs
theorem Tx.refl {K : PySem.W.Frag} {H : Hp} : Tx K H H := fun _ _ h => h
theorem Tx.trans {K : PySem.W.Frag} {H H1 H2 : Hp} (a : Tx K H H1) (b : Tx K H1 H2) : Tx K H H2 := fun c xs h => b c xs (a c xs h)
theorem Tx.of {K : PySem.W.Frag} {H H' : Hp} (s : Same H H') : Tx K H H' := fun a xs h => by
  rcases h with (h | ⟨o, h⟩) | h
  · exact .inl (.inl (s _ _ h))
  · exact .inl (.inr ⟨o, s _ _ h⟩)
  · exact .inr h
/-- a new object is laid -/
theorem same_new {H : Hp} {p : Addr} {o : HO} (h : H p = none) : Same H (upd H p o) := fun b u e => by rw [upd_ne (ne_of_none e h)]; exact e
theorem Tx.new {K : PySem.W.Frag} {H : Hp} {p : Addr} {o : HO} (h : H p = none) : Tx K H (upd H p o) := .of (same_new h)
/-- an object that changes -/
def Chg : HO → Prop
  | .lst _ => True
  | .dK _ => True
  | .dT _ => True
  | .ins _ _ _ => True
  | .ext _ => True
  | _ => False
theorem Tx.set {K : PySem.W.Frag} {H : Hp} {p : Addr} {o u : HO} (h : H p = some o) (c : Chg o) : Tx K H (upd H p u) := fun a xs q => by
  rcases q with (q | ⟨ob, q⟩) | q
  · refine .inl (.inl ?_)
    have ne : a ≠ p := fun z => by
      rw [z, h] at q
      cases (Option.some.inj q)
      exact c
    rw [upd_ne ne]; exact q
  · refine .inl (.inr ⟨ob, ?_⟩)
    have ne : a ≠ p := fun z => by
      rw [z, h] at q
      cases (Option.some.inj q)
      exact c
    rw [upd_ne ne]; exact q
  · exact .inr q
/-- behind a store into an object that was not there at the start -/
theorem same_set {H H' : Hp} {p : Addr} {o : HO} (s : Same H H') (h : H p = none) : Same H (upd H' p o) := fun b u e => by
  rw [upd_ne (ne_of_none e h)]; exact s b u e

theorem IsN.tx {K : PySem.W.Frag} {H H' : Hp} (t : Tx K H H') : ∀ {n : Nat} {v : V} {x : Int}, IsN K H n v x → IsN K H' n v x
  | 0, _, _, h => h
  | n + 1, v, x, ⟨a, xs, e, z, h, p⟩ => ⟨a, xs, e, z, t _ _ h, L2.Paired.mapP p fun y u ⟨b, f, e1, e2, e3⟩ => ⟨b, f, e1, t _ _ e2, IsN.tx t e3⟩⟩
theorem IsI.tx {K : PySem.W.Frag} {H H' : Hp} (t : Tx K H H') {n : Nat} {v : V} {u : Int × Int} : IsI K H n v u → IsI K H' n v u := fun ⟨b, f, e1, e2, e3⟩ => ⟨b, f, e1, t _ _ e2, e3.tx t⟩
theorem IsN.dp {K : PySem.W.Frag} {H : Hp} : ∀ {n : Nat} {v : V} {x : Int}, IsN K H n v x → dp n x = true
  | 0, _, _, h => h.elim
  | n + 1, v, x, ⟨a, xs, e, z, h, p⟩ => by
    show ((naf x).all fun t => Sr.dp n t.2) = true
    have go : ∀ {xs : List V} {l : Terms}, Paired (fun (y : V) (t : Int × Int) => ∃ b e, y = .ref b ∧ SqT K H b [.int t.1, e] ∧ IsN K H n e t.2) xs l → (l.all fun t => Sr.dp n t.2) = true := by
      intro xs l p
      induction p with
      | nil => rfl
      | cons q _ ih =>
        obtain ⟨b, f, _, _, e3⟩ := q
        rw [List.all_cons, ih, e3.dp]; rfl
    exact go p
theorem paired_mem {α β : Type} {F G : α → β → Prop} : ∀ {l₁ : List α} {l₂ : List β}, Paired F l₁ l₂ → (∀ a b, b ∈ l₂ → F a b → G a b) → Paired G l₁ l₂
  | _, _, .nil, _ => .nil
  | _, _, .cons r t, f => .cons (f _ _ List.mem_cons_self r) (paired_mem t fun a b hb => f a b (List.mem_cons_of_mem _ hb))
/-- another bound of the depth -/
theorem IsN.cut {K : PySem.W.Frag} {H : Hp} : ∀ {n m : Nat} {v : V} {x : Int}, IsN K H n v x → Sr.dp m x = true → IsN K H m v x
  | 0, _, _, _, h, _ => h.elim
  | _ + 1, 0, _, _, _, h => nomatch h
  | n + 1, m + 1, v, x, ⟨a, xs, e, z, h, p⟩, d => by
    have d : ((naf x).all fun t => Sr.dp m t.2) = true := d
    rw [List.all_eq_true] at d
    exact ⟨a, xs, e, z, h, paired_mem p fun y u hu ⟨b, f, e1, e2, e3⟩ => ⟨b, f, e1, e2, e3.cut (d u hu)⟩⟩
theorem IsN.up {K : PySem.W.Frag} {H : Hp} {n m : Nat} {v : V} {x : Int} (h : IsN K H n v x) (l : n ≤ m) : IsN K H m v x := h.cut (dp_le h.dp l)
theorem IsI.up {K : PySem.W.Frag} {H : Hp} {n m : Nat} {v : V} {u : Int × Int} (h : IsI K H n v u) (l : n ≤ m) : IsI K H m v u := let ⟨b, f, e1, e2, e3⟩ := h; ⟨b, f, e1, e2, e3.up l⟩
/-- 0 -/
theorem IsN.zero {K : PySem.W.Frag} {H : Hp} {n : Nat} {a : Addr} (h : SqT K H a []) : IsN K H (n + 1) (.ref a) 0 := .mk h (by rw [naf_zero]; exact .nil) (Nat.zero_le _)

/-- the number's tuple on the heap, as a key -/
theorem IsN.key {X : Cx} {pins : List (Addr × Obj)} {σ : L2.St} {H : Hp} {s : Shared} (I : Inv X pins σ H s) : ∀ {n : Nat} {v : V} {x : Int} {u : Value}, IsN X.K H n v x → RelV v u → NestedIs s.heap (nk n x) u
  | 0, _, _, _, h, _ => h.elim
  | n + 1, v, x, u, ⟨a, xs, e, zz, h, p⟩, r => by
    clear zz
    subst e
    cases r
    obtain ⟨its, rv, ⟨o, ho, hc, m, hd⟩, hz⟩ := I.tuple h
    clear hz
    refine .tup ho hc hd ?_
    rw [List.toList_toArray]
    clear h hd
    show NestedAll s.heap ((naf x).map fun t => .tup [.num t.1, nk n t.2]) its
    generalize naf x = l at p
    induction p generalizing its with
    | nil => cases rv; exact .nil
    | cons q _ ih =>
      cases rv with
      | cons r1 r2 =>
        refine .cons ?_ (ih _ r2)
        obtain ⟨b, f, e1, e2, e3⟩ := q
        subst e1
        cases r1
        obtain ⟨its2, rv2, ⟨o2, ho2, hc2, m2, hd2⟩, _⟩ := I.tuple e2
        refine .tup ho2 hc2 hd2 ?_
        rw [List.toList_toArray]
        cases rv2 with
        | cons z1 z2 =>
          cases z2 with
          | cons z3 z4 =>
            cases z4
            obtain ⟨t, rfl⟩ := z1
            exact .cons (.int _ _) (.cons (IsN.key I e3 z3) .nil)

/-! ### equality -/
/-- a number as data -/
def pd : Nat → Int → PyData
  | 0, _ => .none
  | n + 1, x => .tuple ((naf x).map fun t => .tuple [.int t.1, pd n t.2])
theorem IsN.data {K : PySem.W.Frag} {H : Hp} : ∀ {n : Nat} {v : V} {x : Int}, IsN K H n v x → Dp K H v (pd n x)
  | 0, _, _, h => h.elim
  | n + 1, v, x, ⟨a, xs, e, z, h, p⟩ => by
    subst e
    clear z
    refine .tup h ?_
    generalize naf x = l at p
    clear h
    induction p with
    | nil => exact .nil
    | cons q _ ih =>
      obtain ⟨b, f, e1, e2, e3⟩ := q
      subst e1
      exact .cons (.tup e2 (.cons (.int _) (.cons (IsN.data e3) .nil))) ih
mutual
theorem pd_depth : ∀ (n : Nat) (x : Int), (pd n x).depth ≤ 2 * n
  | 0, _ => by simp [pd, PyData.depth]
  | n + 1, x => by
    have := pd_depths n (naf x)
    show (PyData.tuple ((naf x).map fun t => .tuple [.int t.1, pd n t.2])).depth ≤ _
    rw [PyData.depth]
    omega
theorem pd_depths : ∀ (n : Nat) (l : Terms), PyData.depthAll (l.map fun t => .tuple [.int t.1, pd n t.2]) ≤ 2 * n + 1
  | n, [] => by simp [PyData.depthAll]
  | n, t :: r => by
    have h1 := pd_depth n t.2
    have h2 := pd_depths n r
    rw [List.map_cons]
    simp only [PyData.depthAll, PyData.depth]
    omega
end
mutual
theorem pd_lay : ∀ (n : Nat) (x : Int), (pd n x).canLay0 = true
  | 0, _ => by simp [pd, PyData.canLay0]
  | n + 1, x => by
    show (PyData.tuple ((naf x).map fun t => .tuple [.int t.1, pd n t.2])).canLay0 = true
    rw [PyData.canLay0]
    exact pd_lays n (naf x)
theorem pd_lays : ∀ (n : Nat) (l : Terms), PyData.canLayAll0 (l.map fun t => .tuple [.int t.1, pd n t.2]) = true
  | n, [] => by simp [PyData.canLayAll0]
  | n, t :: r => by
    rw [List.map_cons, PyData.canLayAll0, pd_lays n r]
    simp [PyData.canLay0, PyData.canLayAll0, pd_lay n t.2]
end
theorem pd_shaped {n : Nat} (h : n ≤ 30) (x : Int) : SeqAt.shaped (pd n x) = true := by
  unfold SeqAt.shaped
  rw [pd_lay, Bool.true_and]
  have := pd_depth n x
  exact decide_eq_true (by omega)
theorem pd_eqv : ∀ {n : Nat} {x y : Int}, dp n x = true → dp n y = true → PyData.eqv (pd n x) (pd n y) = decide (x = y)
  | 0, _, _, h, _ => nomatch h
  | n + 1, x, y, hx, hy => by
    have hx : ((naf x).all fun t => dp n t.2) = true := hx
    have hy : ((naf y).all fun t => dp n t.2) = true := hy
    rw [List.all_eq_true] at hx hy
    have e0 : PyData.eqv (pd (n + 1) x) (pd (n + 1) y) = PyData.eqvAll ((naf x).map fun t => .tuple [.int t.1, pd n t.2]) ((naf y).map fun t => .tuple [.int t.1, pd n t.2]) := by
      show PyData.eqv (.tuple _) (.tuple _) = _
      rw [PyData.eqv]
    have go : ∀ l m : Terms, (∀ t ∈ l, dp n t.2 = true) → (∀ t ∈ m, dp n t.2 = true) → PyData.eqvAll (l.map fun t => .tuple [.int t.1, pd n t.2]) (m.map fun t => .tuple [.int t.1, pd n t.2]) = decide (l = m) := by
      intro l
      induction l with
      | nil =>
        intro m _ _
        cases m with
        | nil => simp [PyData.eqvAll]
        | cons u q => simp [PyData.eqvAll]
      | cons t r ih =>
        intro m h1 h2
        cases m with
        | nil => simp [PyData.eqvAll]
        | cons u q =>
          rw [List.map_cons, List.map_cons, PyData.eqvAll, ih q (fun z hz => h1 z (List.mem_cons_of_mem _ hz)) (fun z hz => h2 z (List.mem_cons_of_mem _ hz))]
          have e1 : PyData.eqv (.tuple [.int t.1, pd n t.2]) (.tuple [.int u.1, pd n u.2]) = (decide (t.1 = u.1) && decide (t.2 = u.2)) := by
            rw [PyData.eqv, PyData.eqvAll, PyData.eqvAll, PyData.eqvAll, PyData.eqv, pd_eqv (h1 t List.mem_cons_self) (h2 u List.mem_cons_self), Bool.and_true, Bool.beq_eq_decide_eq]
          rw [e1]
          obtain ⟨t1, t2⟩ := t
          obtain ⟨u1, u2⟩ := u
          rw [Bool.eq_iff_iff]
          simp
    rw [e0, go _ _ hx hy]
    by_cases e : x = y
    · rw [e, decide_eq_true rfl, decide_eq_true rfl]
    · rw [decide_eq_false e, decide_eq_false fun z => e (naf_inj z)]
/-- x == y of numbers -/
theorem eqN {K : PySem.W.Frag} {H : Hp} {n : Nat} {x y : V} {i j : Int} {Q : VK} (hx : IsN K H n x i) (hy : IsN K H n y j) (hn : n ≤ 30) (q : Q (.bl (decide (i = j))) H) : rEqD K x y H Q :=
  ⟨pd n i, pd n j, hx.data, hy.data, pd_shaped hn _, pd_shaped hn _, by rw [pd_eqv hx.dp hy.dp]; exact q⟩
theorem neN {K : PySem.W.Frag} {H : Hp} {n : Nat} {x y : V} {i j : Int} {Q : VK} (hx : IsN K H n x i) (hy : IsN K H n y j) (hn : n ≤ 30) (q : Q (.bl (!decide (i = j))) H) : rNeD K x y H Q :=
  ⟨pd n i, pd n j, hx.data, hy.data, pd_shaped hn _, pd_shaped hn _, by rw [pd_eqv hx.dp hy.dp]; exact q⟩
end Sr
set_option Elab.async false
set_option linter.all false
set_option maxRecDepth 100000
set_option maxHeartbeats 4000000
/-! A dict from numbers to ints: its keys are nested tuples whose hashes differ. -/
namespace Sr
open PySem PySem.Spec PyProof.Rows L2 SeqAt
open Sem (wp)

/-- an entry: the number, where its tuple stands, the count -/
abbrev Ent : Type := Int × Addr × Int
def hE (p : Ent) (q : DictEntry) : Prop := q.hash = hx p.1 ∧ q.key = .ref p.2.1 ∧ ∃ t, q.val = .int p.2.2 t
def DN (d : Addr) (xs : List Ent) (h : Heap) : Prop :=
  (d == sysModules) = false ∧ xs.length ≤ sizeLine ∧ ∃ o es ep, h.get? d = some o ∧ o.ExactDict ∧ o.data = .dict es ep ∧ Paired hE xs es.toList
abbrev oDN (d : Addr) (xs : List Ent) : HO := .ext (DN d xs)
def lkD (xs : List Ent) (e : Int) : Int := ((xs.find? fun p => decide (p.1 = e)).map fun p => p.2.2).getD 0
def hasD (xs : List Ent) (e : Int) : Bool := xs.any fun p => decide (p.1 = e)
def stD (xs : List Ent) (e : Int) (a : Addr) (v : Int) : List Ent := if hasD xs e = true then xs.map (fun p => if p.1 = e then (p.1, p.2.1, v) else p) else xs ++ [(e, a, v)]
theorem stD_len (xs : List Ent) (e : Int) (a : Addr) (v : Int) : (stD xs e a v).length ≤ xs.length + 1 := by
  unfold stD
  by_cases h : hasD xs e = true
  · rw [if_pos h, List.length_map]; omega
  · rw [if_neg h, List.length_append]; exact Nat.le_refl _

theorem paired_at {α β : Type} {F : α → β → Prop} : ∀ {l : List α} {m : List β} {i : Nat} {b : β}, Paired F l m → m[i]? = some b → ∃ a, l[i]? = some a ∧ F a b
  | _, _, _, _, .nil, e => by simp at e
  | _, _, 0, _, .cons r _, e => by
    simp at e
    subst e
    exact ⟨_, rfl, r⟩
  | _, _, i + 1, _, .cons _ t, e => by
    obtain ⟨a, h1, h2⟩ := paired_at (i := i) t (by simpa using e)
    exact ⟨a, by simpa using h1, h2⟩
theorem filter_one {f : Nat → Bool} {j : Nat} (hf : f j = true) : ∀ n, j < n → (∀ i, i < n → f i = true → i = j) → (List.range n).filter f = [j]
  | 0, h, _ => absurd h (Nat.not_lt_zero _)
  | n + 1, h, g => by
    rw [List.range_succ, List.filter_append]
    by_cases e : j = n
    · have z : (List.range n).filter f = [] := by
        rw [List.filter_eq_nil_iff]
        intro i hi q
        have hi := List.mem_range.mp hi
        have := g i (by omega) q
        omega
      rw [z, ← e]
      simp [hf]
    · rw [filter_one hf n (by omega) fun i hi q => g i (by omega) q]
      have z : f n = false := by
        cases q : f n with
        | false => rfl
        | true => exact absurd (g n (by omega) q) (fun w => e w.symm)
      simp [z]

/-! ### whether asking == tells something: some answer, nothing changes -/
def AnyQuiet (prog : Program) (w : World) (n : Nat) (s : Shared) (v : Value) : Prop := ∀ (A : Around) (E : Value → Shared → Prop) (Q : Bool → Shared → Prop), (∀ b, Q b s) → wpAny (model prog w) A (eqIsQuiet n v) Q E s
section
variable {prog : Program} {w : World}
theorem anyQuiet_flat {n : Nat} {s : Shared} {v : Value} (h : carriedByValue v = true) : AnyQuiet prog w n s v := fun A E Q hq => QuietAt.byValue h A E Q (hq true)
theorem anyQuiet_tup {n : Nat} {s : Shared} {a : Addr} {o : Obj} {vs : Array Value} {m : Nat} (ho : s.heap.get? a = some o) (hc : o.cls = .type "tuple") (hd : o.data = .seq vs m)
    (hq : ∀ k, n = k + 1 → ∀ v ∈ vs.toList, AnyQuiet prog w k s v) : AnyQuiet prog w n s (.ref a) := fun A E Q h => by
  have ty : s.TypeIs (.ref a) "tuple" := ⟨o, ho, hc⟩
  unfold eqIsQuiet
  refine wpAny_bind (wpAny_specialOf ty F.slot_tuple_eq.lookup ?_)
  show wpAny _ _ ((isInstance (.ref a) (.type "tuple")) >>= _) _ _ s
  refine wpAny_bind (wpAny_isInstance ty isSubtype_tuple_tuple ?_)
  rw [show (!true) = false from rfl, if_neg Bool.false_ne_true]
  cases n with
  | zero => exact wpAny_pure (h false)
  | succ k =>
    refine wpAny_bind (wpAny_seqItems ho hd (wpAny_bind ?_))
    show wpAny _ _ (forIn vs _ _) _ _ s
    rw [← Array.forIn_toList]
    refine wpAny_forIn_list _ (fun rest r s' => s' = s ∧ r.1 = none ∧ ∀ v ∈ rest, AnyQuiet prog w k s v) _ ?_ ?_ _ _ ⟨rfl, rfl, hq k rfl⟩
    · rintro v rest r s' ⟨rfl, hr, hall⟩
      refine wpAny_bind (hall v List.mem_cons_self _ _ _ fun b => ?_)
      cases b with
      | true =>
        rw [show (!true) = false from rfl, if_neg Bool.false_ne_true]
        exact wpAny_pure ⟨rfl, rfl, fun u hu => hall u (List.mem_cons_of_mem _ hu)⟩
      | false =>
        rw [show (!false) = true from rfl, if_pos rfl]
        exact wpAny_pure (wpAny_pure (h false))
    · rintro ⟨r1, r2⟩ s' ⟨rfl, hr, _⟩
      dsimp only at hr
      subst hr
      exact wpAny_pure (h true)
mutual
theorem anyQuiet_key : ∀ (k : NestedKey) (v : Value) (n : Nat) (s : Shared), NestedIs s.heap k v → AnyQuiet prog w n s v
  | .none, _, n, s, x => by cases x; exact anyQuiet_flat rfl
  | .num i, _, n, s, x => by cases x <;> exact anyQuiet_flat rfl
  | .text y, _, n, s, x => by cases x; exact anyQuiet_flat rfl
  | .tup ks, _, n, s, x => by
    cases x with
    | tup hg hc hd hk => exact anyQuiet_tup hg hc hd fun k _ v hv => anyQuiet_keys ks _ k s hk v hv
theorem anyQuiet_keys : ∀ (ks : List NestedKey) (vs : List Value) (n : Nat) (s : Shared), NestedAll s.heap ks vs → ∀ v ∈ vs, AnyQuiet prog w n s v
  | [], _, n, s, x, v, hv => by cases x; cases hv
  | k :: ks, _, n, s, x, v, hv => by
    cases x with
    | cons x1 x2 =>
      rcases List.mem_cons.mp hv with e | hv
      · rw [e]; exact anyQuiet_key k _ n s x1
      · exact anyQuiet_keys ks _ n s x2 v hv
end
end

/-! ### the search -/
/-- what a look for the number e (its tuple at a) leans on -/
structure KeyOk (h : Heap) (xs : List Ent) (e : Int) (a : Addr) : Prop where
  here : NestedIs h (nk 60 e) (.ref a)
  all : ∀ p ∈ xs, NestedIs h (nk 60 p.1) (.ref p.2.1)
  dpe : dp 60 e = true
  dpx : ∀ p ∈ xs, dp 60 p.1 = true
  inj : ∀ p ∈ xs, hx p.1 = hx e → p.1 = e
  nd : (xs.map (·.1)).Nodup
section
variable {prog : Program} {w : World} {A : Around} {E : Value → Shared → Prop} {s : Shared} {d a : Addr} {xs : List Ent} {e : Int}
theorem key_same {h : Heap} (k : KeyOk h xs e a) {p : Ent} (hp : p ∈ xs) (ha : p.2.1 = a) : p.1 = e := by
  have z := k.all p hp
  rw [ha] at z
  exact nk_inj (k.dpx p hp) k.dpe (NestedIs.inj _ _ _ z k.here)
theorem find_num {o : Obj} {es : Array DictEntry} {ep : Nat} {Q : Option Nat → Shared → Prop} (hr : A.units + 130 < cLine) (k : KeyOk s.heap xs e a) (ho : s.heap.get? d = some o) (hd : o.data = .dict es ep) (rel : Paired hE xs es.toList)
    (hno : hasD xs e = false → Q none s) (hyes : ∀ j p, xs[j]? = some p → p.1 = e → Q (some j) s) : wpAny (model prog w) A (dictFind d (.ref a) (hx e)) Q E s := by
  have at_ : ∀ i q, es[i]? = some q → ∃ p, xs[i]? = some p ∧ hE p q := fun i q hq => paired_at rel (by rw [← hq]; simp)
  have any0 : ¬ (es.any fun q => q.key == Value.ref a && q.hash != hx e) = true := by
    rw [← Array.any_toList, List.any_eq_true]
    rintro ⟨q, hq, hc⟩
    obtain ⟨i, hi⟩ := List.mem_iff_getElem?.mp hq
    obtain ⟨p, hp, h1, h2, _⟩ := paired_at rel hi
    rw [Bool.and_eq_true, h2, h1] at hc
    obtain ⟨c1, c2⟩ := hc
    have c1 : p.2.1 = a := by simpa using c1
    have := key_same k (List.mem_of_getElem? hp) c1
    rw [this] at c2
    simp at c2
  unfold dictFind
  try with_reducible refine wpAny_holding ?_
  refine wpAny_bind (wpAny_dictEntries ho hd ?_)
  dsimp only
  cases hh : hasD xs e with
  | false =>
    have none_ : placesWithHash es.size (fun i => es[i]?.map (·.hash)) (hx e) = [] := by
      unfold placesWithHash
      rw [List.filter_eq_nil_iff]
      intro i _ c
      dsimp only at c
      cases q : es[i]? with
      | none => rw [q] at c; cases c
      | some en =>
        obtain ⟨p, hp, h1, _⟩ := at_ i en q
        rw [q] at c
        have c : en.hash = hx e := by simpa using c
        have z := k.inj p (List.mem_of_getElem? hp) (h1.symm.trans c)
        have : hasD xs e = true := List.any_eq_true.mpr ⟨p, List.mem_of_getElem? hp, decide_eq_true z⟩
        rw [hh] at this; cases this
    rw [none_]
    rw [if_neg (show ¬ ((Value.ref a :: ([] : List Nat).filterMap fun i => es[i]?.map (·.key)).all carriedByValue) = true by simp [carriedByValue]), if_neg any0]
    rw [if_neg (show ¬ ((([] : List Nat).filterMap fun i => es[i]?.map (·.key)) == [Value.ref a]) = true by simp)]
    have tells : wpAny (model prog w) A (tableMayTell (.ref a) (([] : List Nat).filterMap fun i => es[i]?.map (·.key))) (fun b s' => b = false ∧ s' = s) E s := by
      unfold tableMayTell
      rw [if_pos (by simp)]
      exact wpAny_pure ⟨rfl, rfl⟩
    refine wpAny_bind (wpAny_mono tells (fun b s' hb => ?_) fun _ _ z => z)
    obtain ⟨rfl, rfl⟩ := hb
    rw [if_neg (by simp)]
    refine wpAny_bind ?_
    rw [List.forIn_nil]
    exact wpAny_pure (wpAny_pure (hno hh))
  | true =>
    obtain ⟨p0, hp0, he0⟩ := List.any_eq_true.mp hh
    have he0 : p0.1 = e := of_decide_eq_true he0
    obtain ⟨j, hj⟩ := List.mem_iff_getElem?.mp hp0
    have hlen : xs.length = es.size := by rw [Paired.length rel]; simp
    have hjl : j < es.size := by rw [← hlen]; exact (List.getElem?_eq_some_iff.mp hj).1
    obtain ⟨en, hen⟩ : ∃ en, es[j]? = some en := ⟨es[j], by simp [hjl]⟩
    obtain ⟨p, hp, h1, h2, h3⟩ := at_ j en hen
    rw [hj] at hp
    cases hp
    have one_ : placesWithHash es.size (fun i => es[i]?.map (·.hash)) (hx e) = [j] := by
      unfold placesWithHash
      refine filter_one ?_ _ hjl fun i _ c => ?_
      · dsimp only
        rw [hen, ← he0]; simp [h1]
      · dsimp only at c
        cases q : es[i]? with
        | none => rw [q] at c; cases c
        | some en' =>
          obtain ⟨p', hp', h1', _⟩ := at_ i en' q
          rw [q] at c
          have c : en'.hash = hx e := by simpa using c
          have z := k.inj p' (List.mem_of_getElem? hp') (h1'.symm.trans c)
          refine nd_ix k.nd (x := e) ?_ ?_
          · rw [List.getElem?_map, hp', ← z]; rfl
          · rw [List.getElem?_map, hj, ← he0]; rfl
    rw [one_]
    have st_ : ([j] : List Nat).filterMap (fun i => es[i]?.map (·.key)) = [Value.ref p0.2.1] := by
      simp [List.filterMap_cons, hen, h2]
    rw [st_]
    rw [if_neg (show ¬ ((Value.ref a :: [Value.ref p0.2.1]).all carriedByValue) = true by simp [carriedByValue]), if_neg any0]
    have keyIs0 := k.all p0 hp0
    have eqv : EqAt A s (.ref p0.2.1) (.ref a) true := by
      have q := eqAt_key (nk 60 p0.1) (nk 60 e) A s _ _ keyIs0 k.here (by
        have := nk_depth 60 p0.1
        have := Nat.min_le_left (nk 60 p0.1).depth (nk 60 e).depth
        omega)
      rw [he0, NestedKey.beq_self] at q
      exact q
    have tells0 : wpAny (model prog w) A (pure false) (fun _ s' => s' = s) E s := wpAny_pure rfl
    have tells1 : wpAny (model prog w) A (tableMayTell (.ref a) [Value.ref p0.2.1]) (fun _ s' => s' = s) E s := by
      unfold tableMayTell
      rw [if_neg (by simp)]
      refine wpAny_bind (anyQuiet_key _ _ 8 s k.here _ _ _ fun b => ?_)
      cases b with
      | false => rw [if_pos (show (!false) = true from rfl)]; exact wpAny_pure rfl
      | true =>
        rw [if_neg (by simp)]
        refine wpAny_bind ?_
        rw [List.forIn_cons]
        refine wpAny_bind (wpAny_bind (anyQuiet_key _ _ 8 s keyIs0 _ _ _ fun b => ?_))
        cases b with
        | false =>
          rw [if_pos (show (!false) = true from rfl)]
          exact wpAny_pure (wpAny_pure (wpAny_pure rfl))
        | true =>
          rw [if_neg (by simp)]
          refine wpAny_pure ?_
          show wpAny _ _ (forIn [] _ _) _ _ _
          rw [List.forIn_nil]
          exact wpAny_pure (wpAny_pure rfl)
    by_cases same : (([Value.ref p0.2.1] : List Value) == [Value.ref a]) = true
    all_goals first
      | rw [if_pos same]
      | rw [if_neg same]
    all_goals first
      | refine wpAny_bind (wpAny_mono tells1 (fun b s' hb => ?_) fun _ _ z => z)
      | refine wpAny_bind (wpAny_mono tells0 (fun b s' hb => ?_) fun _ _ z => z)
    all_goals
      subst hb
      rw [if_neg (by simp)]
      refine wpAny_bind ?_
      rw [List.forIn_cons]
      refine wpAny_bind ?_
      rw [hen]
      dsimp only
      rw [if_pos (by rw [h1, he0]; simp)]
      refine wpAny_bind (wpAny_dictEpoch ho hd (wpAny_bind ?_))
      rw [h2]
      refine eqv prog w _ _ (wpAny_bind (wpAny_dictEpoch ho hd ?_))
      rw [if_neg (by simp), if_pos rfl, if_neg (by simp)]
      refine wpAny_bind (wpAny_rule ?_)
      rw [if_pos (by simp)]
      exact wpAny_pure (wpAny_pure (wpAny_pure (hyes j p0 hj he0)))
end
end Sr
set_option Elab.async false
set_option linter.all false
set_option maxRecDepth 100000
set_option maxHeartbeats 4000000
/-! A dict from numbers to ints: read, stored, listed. -/
namespace Sr
open PySem PySem.Spec PyProof.Rows L2 SeqAt

theorem paired_get {α β : Type} {F : α → β → Prop} : ∀ {l : List α} {m : List β}, l.length = m.length → (∀ (i : Nat) a b, l[i]? = some a → m[i]? = some b → F a b) → Paired F l m
  | [], [], _, _ => .nil
  | [], _ :: _, h, _ => by simp at h
  | _ :: _, [], h, _ => by simp at h
  | a :: l, b :: m, h, g => .cons (g 0 a b rfl rfl) (paired_get (by simpa using h) fun i x y h1 h2 => g (i + 1) x y (by simpa using h1) (by simpa using h2))
theorem paired_at2 {α β : Type} {F : α → β → Prop} {l : List α} {m : List β} {i : Nat} {a : α} {b : β} (p : Paired F l m) (h1 : l[i]? = some a) (h2 : m[i]? = some b) : F a b := by
  obtain ⟨a', e, f⟩ := paired_at p h2
  rw [h1] at e; cases e
  exact f

theorem lkD_at {xs : List Ent} {e : Int} (nd : (xs.map (·.1)).Nodup) {j : Nat} {p : Ent} (hj : xs[j]? = some p) (he : p.1 = e) : lkD xs e = p.2.2 := by
  unfold lkD
  have : (xs.find? fun q => decide (q.1 = e)) = some p := by
    cases f : xs.find? fun q => decide (q.1 = e) with
    | none =>
      have z := List.find?_eq_none.mp f p (List.mem_of_getElem? hj)
      exact absurd (decide_eq_true he) z
    | some q =>
      have h1 : q.1 = e := by simpa using List.find?_some f
      obtain ⟨i, hi⟩ := List.mem_iff_getElem?.mp (List.mem_of_find?_eq_some f)
      have hij : i = j := nd_ix nd (x := e) (by rw [List.getElem?_map, hi, ← h1]; rfl) (by rw [List.getElem?_map, hj, ← he]; rfl)
      rw [hij, hj] at hi
      rw [hi]
  rw [this]; rfl
theorem lkD_no {xs : List Ent} {e : Int} (h : hasD xs e = false) : lkD xs e = 0 := by
  unfold lkD
  have : (xs.find? fun q => decide (q.1 = e)) = none := by
    rw [List.find?_eq_none]
    intro q hq c
    have : hasD xs e = true := List.any_eq_true.mpr ⟨q, hq, c⟩
    rw [h] at this; cases this
  rw [this]; rfl

section
variable {prog : Program} {w : World} {A : Around} {E : Value → Shared → Prop} {s : Shared} {d a : Addr} {xs : List Ent} {e : Int}
theorem get_num {Q : Option Value → Shared → Prop} (hr : A.units + 130 < cLine) (k : KeyOk s.heap xs e a) (dn : DN d xs s.heap)
    (h : ∀ tk v, (hasD xs e = true → ∃ t, v = some (.int (lkD xs e) t)) → (hasD xs e = false → v = none) → Q v { s with toks := tk }) : wpAny (model prog w) A (dictGet d (.ref a)) Q E s := by
  obtain ⟨_, _, o, es, ep, ho, hc, hd, rel⟩ := dn
  unfold dictGet
  try with_reducible refine wpAny_holding ?_
  refine wpAny_bind (pyHash_key (nk 60 e) _ _ _ _ k.here (by have := nk_depth 60 e; omega) ?_)
  rw [hN_is]
  refine wpAny_bind (find_num (s := { s with toks := s.toks + (nk 60 e).draws }) hr k ho hd rel (fun hno => wpAny_pure (h _ none (fun z => by rw [hno] at z; cases z) fun _ => rfl)) fun j p hj he => ?_)
  refine wpAny_bind (wpAny_dictEntries (s := { s with toks := s.toks + (nk 60 e).draws }) ho hd ?_)
  have hlen : xs.length = es.size := by rw [Paired.length rel]; simp
  have hjl : j < es.size := by rw [← hlen]; exact (List.getElem?_eq_some_iff.mp hj).1
  have hq : es[j]? = some es[j] := by simp [hjl]
  obtain ⟨_, _, t, h3⟩ := paired_at2 rel hj (show es.toList[j]? = some es[j] by simp [hjl])
  rw [hq]
  refine wpAny_pure (h _ _ (fun _ => ⟨t, ?_⟩) fun z => ?_)
  · show some es[j].val = _
    rw [h3, lkD_at k.nd hj he]
  · have : hasD xs e = true := List.any_eq_true.mpr ⟨p, List.mem_of_getElem? hj, decide_eq_true he⟩
    rw [z] at this; cases this
theorem set_num {v : Value} {c : Int} {Q : Unit → Shared → Prop} (hr : A.units + 130 < cLine) (k : KeyOk s.heap xs e a) (dn : DN d xs s.heap) (hl : xs.length < sizeLine) (hv : ∃ t, v = .int c t)
    (h : ∀ h' tk, DN d (stD xs e a c) h' → Heap.SameBut d s.heap h' → Q () { s with heap := h', toks := tk }) : wpAny (model prog w) A (dictSet d (.ref a) v) Q E s := by
  obtain ⟨hS, _, o, es, ep, ho, hc, hd, rel⟩ := dn
  obtain ⟨t, rfl⟩ := hv
  have hlen : xs.length = es.size := by rw [Paired.length rel]; simp
  have hl2 : (stD xs e a c).length ≤ sizeLine := by have := stD_len xs e a c; omega
  unfold dictSet
  try with_reducible refine wpAny_holding ?_
  refine wpAny_bind (pyHash_key (nk 60 e) _ _ _ _ k.here (by have := nk_depth 60 e; omega) ?_)
  rw [hN_is]
  unfold dictSetHashed
  try with_reducible refine wpAny_holding ?_
  refine wpAny_bind (find_num (s := { s with toks := s.toks + (nk 60 e).draws }) hr k ho hd rel (fun hno => ?_) fun j p hj he => ?_)
  · refine wpAny_bind (wpAny_rule (wpAny_updateDictKeys (hz := by omega) (s := { s with toks := s.toks + (nk 60 e).draws }) ho hd (h _ _ ⟨hS, hl2, _, _, ep + 1,
      Heap.get?_update_self _ ho (Obj.isFreed_of_dict (Obj.data_mapDictKeys hd _)), hc.mapDictKeys _, Obj.data_mapDictKeys hd _, ?_⟩ (Heap.SameBut.update ..))))
    unfold stD
    rw [if_neg (by rw [hno]; exact Bool.false_ne_true), Array.toList_push]
    refine paired_get (by simp [hlen]) fun i x y hx' hy => ?_
    by_cases hi : i < es.size
    · rw [List.getElem?_append_left (by omega)] at hx'
      rw [List.getElem?_append_left (by simpa using hi)] at hy
      exact paired_at2 rel hx' hy
    · rw [List.getElem?_append_right (by omega)] at hx'
      rw [List.getElem?_append_right (by simp; omega)] at hy
      have z1 : i - xs.length = 0 := by
        have := (List.getElem?_eq_some_iff.mp hx').1
        simpa using this
      rw [z1] at hx'
      have z2 : i - es.toList.length = 0 := by simp; omega
      rw [z2] at hy
      simp at hx' hy
      subst hx' hy
      exact ⟨rfl, rfl, t, rfl⟩
  · refine wpAny_bind (wpAny_rule (wpAny_bind (wpAny_updateDict (s := { s with toks := s.toks + (nk 60 e).draws }) ho hd (wpAny_point (h _ _ ⟨hS, hl2, _, _, ep,
      Heap.get?_update_self _ ho (Obj.isFreed_of_dict (Obj.data_mapDict hd _)), hc.mapDict _, Obj.data_mapDict hd _, ?_⟩ (Heap.SameBut.update ..))))))
    have hyes : hasD xs e = true := List.any_eq_true.mpr ⟨p, List.mem_of_getElem? hj, decide_eq_true he⟩
    unfold stD
    rw [if_pos hyes]
    refine paired_get (by simp [hlen]) fun i x y hx' hy => ?_
    rw [List.getElem?_map] at hx'
    cases hxi : xs[i]? with
    | none => rw [hxi] at hx'; cases hx'
    | some q =>
      rw [hxi] at hx'
      simp only [Option.map_some, Option.some.injEq] at hx'
      have hil : i < es.size := by rw [← hlen]; exact (List.getElem?_eq_some_iff.mp hxi).1
      have old := paired_at2 rel hxi (show es.toList[i]? = some es[i] by simp [hil])
      rw [Array.getElem?_toList, Array.getElem?_modify] at hy
      by_cases hij : j = i
      · subst hij
        rw [if_pos rfl] at hy
        rw [hj] at hxi
        cases hxi
        rw [if_pos he] at hx'
        have hq : es[j]? = some es[j] := by simp [hil]
        rw [hq] at hy
        simp only [Option.map_some, Option.some.injEq] at hy
        subst hx' hy
        obtain ⟨o1, o2, _⟩ := old
        exact ⟨o1, o2, t, rfl⟩
      · rw [if_neg hij] at hy
        have hne : ¬ q.1 = e := fun z => hij (nd_ix k.nd (x := e) (by rw [List.getElem?_map, hj, ← he]; rfl) (by rw [List.getElem?_map, hxi, ← z]; rfl))
        rw [if_neg hne] at hx'
        subst hx'
        have hq : es[i]? = some es[i] := by simp [hil]
        rw [hq] at hy
        cases hy
        exact old
theorem DN.typeIs (dn : DN d xs s.heap) : s.TypeIs (.ref d) "dict" := by
  obtain ⟨_, _, o, _, _, ho, hc, _⟩ := dn
  exact ⟨o, ho, hc.1⟩
theorem DN.noDict {h : Heap} (dn : DN d xs h) : ∀ b, Value.ref d = .ref b → ∃ ob, h.get? b = some ob ∧ ob.dict = none := fun b q => by
  cases q
  obtain ⟨_, _, o, _, _, ho, hc, _⟩ := dn
  exact ⟨o, ho, hc.2.1⟩
theorem getItem_num {Q : Value → Shared → Prop} (hr : A.units + 131 < cLine) (k : KeyOk s.heap xs e a) (dn : DN d xs s.heap) (hh : hasD xs e = true) (h : ∀ tk t, Q (.int (lkD xs e) t) { s with toks := tk }) :
    wpAny (model prog w) A (getItem (.ref d) (.ref a)) Q E s := by
  unfold getItem
  try with_reducible refine wpAny_holding ?_
  refine wpAny_bind (wpAny_sequenceKey dn.typeIs (by decide) ?_)
  refine wpAny_bind (wpAny_callSpecial?_slot (name := Str.ofString "__getitem__") dn.typeIs PySem.F.slot_dict_getitem (wpAny_call_entry PySem.F.slot_dict_getitem dn.typeIs entry_dict_getitem ?_ (args_dict_getitem _ _)))
  show wpAny _ _ (dictGet d (.ref a) >>= _) _ _ s
  refine wpAny_bind (get_num (A := A.in1) (by show A.units + 1 + 130 < _; omega) k dn fun tk v hv _ => ?_)
  obtain ⟨t, rfl⟩ := hv hh
  exact wpAny_pure ⟨_, rfl, wpAny_pure (h tk t)⟩
theorem setItem_num {v : Value} {c : Int} {Q : Unit → Shared → Prop} (hr : A.units + 131 < cLine) (k : KeyOk s.heap xs e a) (dn : DN d xs s.heap) (hl : xs.length < sizeLine) (hv : ∃ t, v = .int c t)
    (h : ∀ h' tk, DN d (stD xs e a c) h' → Heap.SameBut d s.heap h' → Q () { s with heap := h', toks := tk }) : wpAny (model prog w) A (setItem (.ref d) (.ref a) v) Q E s := by
  unfold setItem
  try with_reducible refine wpAny_holding ?_
  refine wpAny_bind (wpAny_sequenceKey dn.typeIs (by decide) ?_)
  refine wpAny_bind (wpAny_callSpecial?_slot (name := Str.ofString "__setitem__") dn.typeIs PySem.F.slot_dict_setitem (wpAny_call_entry PySem.F.slot_dict_setitem dn.typeIs entry_dict_setitem ?_ (args_dict_setitem _ _ _)))
  show wpAny _ _ (Builtin.Dict.notOrdered "__setitem__" _ >>= _) _ _ s
  refine wpAny_bind (wpAny_notOrdered_dict dn.typeIs ?_)
  show wpAny _ _ (dictSet d (.ref a) v >>= _) _ _ s
  exact wpAny_bind (set_num (A := A.in1) (by show A.units + 1 + 130 < _; omega) k dn hl hv fun h' tk q1 q2 => wpAny_pure ⟨.none, rfl, wpAny_pure (h h' tk q1 q2)⟩)
theorem meets_num (dflt : Value) (dn : DN d xs s.heap) : MeetsIn prog w (Builtin.«dict.get» ⟨[.ref d, .ref a, dflt], []⟩)
    (fun A R s => A.units + 131 < cLine ∧ ∃ xs e, KeyOk s.heap xs e a ∧ DN d xs s.heap ∧
      ∀ tk v, (hasD xs e = true → ∃ t, v = .int (lkD xs e) t) → (hasD xs e = false → v = dflt) → R (.ok (.ret v)) { s with toks := tk }) :=
  .of_wp fun A R s ⟨hu, xs, e, k, dn, h⟩ => by
    show wpAny _ _ (dictGet d (.ref a) >>= _) _ _ s
    refine wpAny_bind (get_num (A := A.in1) (by show A.units + 1 + 130 < _; omega) k dn fun tk v h1 h2 => ?_)
    cases hh : hasD xs e with
    | true =>
      obtain ⟨t, rfl⟩ := h1 hh
      exact wpAny_pure ⟨_, rfl, h tk _ (fun _ => ⟨t, rfl⟩) fun z => by rw [hh] at z; cases z⟩
    | false =>
      rw [h2 hh]
      show wpAny _ _ (Builtin.Dict.missed d (.ref a) >>= _) _ _ _
      exact wpAny_bind (wpAny_missed_other dn.1 (wpAny_pure ⟨_, rfl, h tk dflt (fun z => by rw [hh] at z; cases z) fun _ => rfl⟩))
end

/-! ### over the layer -/
/-- a look for the number e, its tuple at a, in the dict at d -/
structure KeyH (K : PySem.W.Frag) (H : Hp) (d : Addr) (xs : List Ent) (e : Int) (a : Addr) : Prop where
  there : H d = some (oDN d xs)
  here : IsN K H 60 (.ref a) e
  all : ∀ p ∈ xs, IsN K H 60 (.ref p.2.1) p.1
  inj : ∀ p ∈ xs, hx p.1 = hx e → p.1 = e
  nd : (xs.map (·.1)).Nodup
section
variable {X : Cx} {pins : List (Addr × Obj)} {σ : L2.St} {H : Hp} {s : Shared} {d a : Addr} {xs : List Ent} {e : Int}
theorem dn_of (I : Inv X pins σ H s) (h : H d = some (oDN d xs)) : DN d xs s.heap := by
  obtain ⟨q, _⟩ := (show ObjOk X.prog X.w H s.heap d (oDN d xs) from I.hok d _ h)
  exact q
theorem KeyH.ok (I : Inv X pins σ H s) (k : KeyH X.K H d xs e a) : KeyOk s.heap xs e a :=
  ⟨k.here.key I rfl, fun p hp => (k.all p hp).key I rfl, k.here.dp, fun p hp => (k.all p hp).dp, k.inj, k.nd⟩
theorem dn_obj {P : Program} {w : World} {H' : Hp} {h' : Heap} (dn : DN d xs h') : ObjOk P w H' h' d (oDN d xs) := by
  refine ⟨dn, ?_, fun h1 h2 q k => ?_⟩
  · obtain ⟨_, _, o, _, _, ho, _⟩ := dn
    exact ⟨o, ho⟩
  · obtain ⟨q1, q2, o, es, ep, ho, r⟩ := q
    exact ⟨q1, q2, o, es, ep, k o ho, r⟩
/-- {} -/
def tNNew : TE := fun _ H Q => ∀ p, H p = none → Q (.ref p) (upd H p (oDN p []))
theorem pe_nnew {pos : Pos} : PE X (.Dict [] [] pos) tNNew := ⟨fun pins s σ H Q I h =>
  wpAny_Dict_empty ⟨.ref s.heap.objs.size, _, I.laid (a := s.heap.objs.size) (o := oDN s.heap.objs.size []) (t' := s.toks) (fun _ _ q => Heap.get?_push_of_some _ q) (Nat.le_refl _)
    (dn_obj ⟨beq_eq_false_iff_ne.mpr (Ne.symm (Nat.ne_of_lt I.big)), Nat.zero_le _, _, #[], 0, Heap.get?_push_size _ rfl, ⟨rfl, rfl, rfl⟩, rfl, .nil⟩), rfl, h _ (I.hok.fresh (Nat.le_refl _))⟩⟩
/-- d.get(e, 0) -/
def tNGet (K : PySem.W.Frag) (td ty tx : TE) : TE := fun σ H Q => td σ H fun x H1 => ∃ d, x = .ref d ∧ (∃ xs, H1 d = some (oDN d xs)) ∧ ty σ H1 fun y H2 => tx σ H2 fun z H3 =>
  ∃ xs e a, y = .ref a ∧ z = .int 0 ∧ KeyH K H3 d xs e a ∧ Q (.int (lkD xs e)) H3
theorem pe_nget {o e f : Expr} {apos cpos : Pos} {td ty tx : TE} (hu : X.A.units + 131 < cLine) (ho : PE X o td) (he : PE X e ty) (hf : PE X f tx) (m : M2 X o "get" apos e f cpos) : PE X (.Call (.Attribute o "get" apos) [e, f] [] cpos) (tNGet X.K td ty tx) := by
  refine ⟨fun pins s σ H Q I h => ?_⟩
  refine wpAny_Call_method m.base m.few m.line PySem.F.plainAttrs_dict PySem.F.slot_dict_get PySem.F.type_dict_get (thn (ho.run pins s σ H _ I h) fun u s1 ⟨x, H1, I1, rx, d, ex, ⟨xs, hd⟩, q1⟩ => ?_)
  subst ex
  obtain rfl : u = Value.ref d := rx
  have dn := dn_of I1 hd
  refine ⟨dn.typeIs, dn.noDict, ?_⟩
  rw [m.trees]
  refine Calls.callWith_builtin rfl (Calls.evalArgs_plain (Calls.spliced_cons (thn (he.run pins s1 σ H1 _ I1 q1) fun iv s2 ⟨y, H2, I2, ry, q2⟩ =>
    Calls.spliced_cons (thn (hf.run pins s2 σ H2 _ I2 q2) fun fv s3 ⟨z, H3, I3, rz, xs, e, a, ey, ez, k, q3⟩ => Calls.spliced_nil ?_))))
  subst ey ez
  obtain rfl : iv = Value.ref a := ry
  obtain ⟨t0, rfl⟩ := (show ∃ t, fv = Value.int 0 t from rz)
  have dn3 := dn_of I3 k.there
  refine call_meetsIn PySem.F.slot_dict_get dn3.typeIs PySem.F.entry_dict_get (PySem.F.args_dict_get_3 _ _ _) (meets_num (.int 0 t0) dn3) ⟨hu, xs, e, k.ok I3, dn3, fun tk v h1 h2 => ?_⟩
  refine ⟨.int (lkD xs e), H3, I3.tok tk, ?_, q3⟩
  cases hh : hasD xs e with
  | true => exact h1 hh
  | false =>
    rw [h2 hh, lkD_no hh]
    exact ⟨t0, rfl⟩
/-- d[e] -/
def tNSub (K : PySem.W.Frag) (td ty : TE) : TE := fun σ H Q => td σ H fun x H1 => ty σ H1 fun y H2 => ∃ d xs e a, x = .ref d ∧ y = .ref a ∧ KeyH K H2 d xs e a ∧ hasD xs e = true ∧ Q (.int (lkD xs e)) H2
theorem pe_nsub {o i : Expr} {pos : Pos} {td ty : TE} (hu : X.A.units + 131 < cLine) (ho : PE X o td) (hi : PE X i ty) (hs : NoSl i) : PE X (.Subscript o i pos) (tNSub X.K td ty) := by
  refine ⟨fun pins s σ H Q I h => ?_⟩
  refine subD_of PySem.F.slot_dict_getitem.lookup hs (thn (ho.run pins s σ H _ I h) fun u s1 ⟨x, H1, I1, rx, q1⟩ => thn (hi.run pins s1 σ H1 _ I1 q1) fun iv s2 ⟨y, H2, I2, ry, d, xs, e, a, ex, ey, k, hh, q2⟩ => ?_)
  subst ex ey
  obtain rfl : u = Value.ref d := rx
  obtain rfl : iv = Value.ref a := ry
  have dn := dn_of I2 k.there
  exact ⟨dn.typeIs, getItem_num hu (k.ok I2) dn hh fun tk t => ⟨.int (lkD xs e), H2, I2.tok tk, ⟨t, rfl⟩, q2⟩⟩
/-- d[e] = c -/
def sNPut (K : PySem.W.Frag) (td ty tv : TE) : TS := fun D σ H => tv σ H fun v H1 => td σ H1 fun x H2 => ty σ H2 fun y H3 =>
  ∃ d xs e a c, x = .ref d ∧ y = .ref a ∧ v = .int c ∧ KeyH K H3 d xs e a ∧ xs.length < sizeLine ∧ D.nx σ (upd H3 d (oDN d (stD xs e a c)))
theorem ps_nput {o i value : Expr} {pos pos' : Pos} {td ty tv : TE} (hu : X.A.units + 131 < cLine) (ho : PE X o td) (hi : PE X i ty) (hv : PE X value tv) (hs : swapsWith value (some (.Subscript o i pos')) pos.line X.env = pure false) :
    PS X (.Assign [.Subscript o i pos'] value pos) (sNPut X.K td ty tv) := by
  refine ⟨fun pins s σ H D I h => ?_⟩
  refine wpAny_Assign_Subscript (thn (hv.run pins s σ H _ I h) fun r s1 ⟨v, H1, I1, rv, q1⟩ => thn (ho.run pins s1 σ H1 _ I1 q1) fun u s2 ⟨x, H2, I2, rx, q2⟩ => thn (hi.run pins s2 σ H2 _ I2 q2) fun iv s3 ⟨y, H3, I3, ry, d, xs, e, a, c, ex, ey, ev, k, hl, q3⟩ => ?_) hs
  subst ex ey ev
  obtain rfl : u = Value.ref d := rx
  obtain rfl : iv = Value.ref a := ry
  refine setItem_num hu (k.ok I3) (dn_of I3 k.there) hl rv fun h' tk dn sb => ⟨σ, _, ?_, q3⟩
  exact d_write I3 (by rw [k.there]; exact True.intro) sb (let ⟨_, _, o, _, _, ho, _⟩ := dn; ⟨o, ho⟩) (dn_obj dn)
/-- list(d) -/
def rNList : List V → Hp → VK → Prop := fun vs H Q => ∃ d xs, vs = [.ref d] ∧ H d = some (oDN d xs) ∧ ∀ p, H p = none → Q (.ref p) (upd H p (.lst (xs.map fun q => V.ref q.2.1)))
theorem call_nlist (hc : X.calm = true) : CallR X (.type "list") rNList := by
  intro pins s σ H vs us Q I r h
  obtain ⟨d, xs, rfl, hd, q⟩ := h
  obtain ⟨u, rfl, rx⟩ := vals1 r
  cases rx
  obtain ⟨hS, hz, o, es, ep, ho, hcx, hdt, rel⟩ := dn_of I hd
  have hlen : xs.length = es.size := by rw [Paired.length rel]; simp
  refine PySem.W.kdl_call (KdlSrc.rawDict (es := es) (ep := ep) hS) (I.ok.hd hc) ⟨o, ho, hcx, hdt⟩ (by rw [← hlen]; exact hz) fun h' tk acc c' hk hD hacc => ?_
  refine ⟨.ref s.heap.objs.size, _, I.laid (a := s.heap.objs.size) (o := .lst (xs.map fun q => V.ref q.2.1)) (t' := tk) hk (Nat.le_refl _) ⟨by rw [List.length_map]; exact hz, acc.toList, c', ?_, by simpa using hD⟩, rfl, q _ (I.hok.fresh (Nat.le_refl _))⟩
  obtain ⟨ha1, ha2⟩ := hacc
  have al : acc.toList.length = acc.size := by simp
  refine paired_get (by rw [List.length_map, al, ha1, hlen]) fun i x y hx' hy => ?_
  rw [List.getElem?_map] at hx'
  cases hxi : xs[i]? with
  | none => rw [hxi] at hx'; cases hx'
  | some z =>
    rw [hxi] at hx'
    simp only [Option.map_some, Option.some.injEq] at hx'
    subst hx'
    have hil : i < es.size := by rw [← hlen]; exact (List.getElem?_eq_some_iff.mp hxi).1
    obtain ⟨_, h2, _⟩ := paired_at2 rel hxi (show es.toList[i]? = some es[i] by simp [hil])
    obtain ⟨_, e2⟩ := ha2 i y (by rw [← hy]; simp)
    show y = Value.ref z.2.1
    rw [e2, h2]
end
end Sr
set_option Elab.async false
set_option linter.all false
set_option maxRecDepth 100000
set_option maxHeartbeats 4000000
/-! A list comprehension whose element may raise: the error leaves through the block and its names, and flies on in the def. -/
namespace Sr
open PySem PySem.Spec PyProof.Rows L2

section
variable {M : Model} {A : Around} {E : Value → Shared → Prop} {s : Shared} {env : Env}
/-- what is wanted behind the block, whose names are in ce -/
def Bk (M : Model) (A : Around) (E : Value → Shared → Prop) (Q : Value → Shared → Prop) (acc : Value) (ce : Env) (r : Result) (s' : Shared) : Prop :=
  ∃ m, s'.heap.Ns ce.locals m ∧ ∀ h', Heap.SameBut ce.locals s'.heap h' → match r with
    | .ok _ => Q acc { s' with heap := h' }
    | .error x => wpAny M A (passOn "comprehension.variables-let-go" x ce : Sem Value) (fun _ _ => False) E { s' with heap := h' }
theorem comp_run {e : Expr} {scope : Scope} {pos : Pos} {newAcc first : Sem Value} {g : Comprehension} {gs : List Comprehension} {cl : List (Str × Addr)} {Q : Value → Shared → Prop}
    (hcl : clausesOf e = g :: gs) (hs : ∀ x, foldedSetIterable g.iter env x = pure x) (hc : closureFor scope env = pure cl) (hk : scope.kind = .function) (hn : ∀ x ∈ scope.names, x.2 = .local → scope.names.lookup x.1 = some .local)
    (h : wpAny M A first (fun x s1 => wpAny M A (pyIter x) (fun it s2 => wpAny M A newAcc (fun acc s3 => wpAny M A (newFunctionEnv scope env.globals cl [] env.qual none .none (some env)) (fun ce s4 =>
      codeAny M A (.compStart e 0 it acc { ce with scope := relabel scope env }) (Bk M A E Q acc { ce with scope := relabel scope env }) s4) E s3) E s2) E s1) E s) :
    wpAny M A (comprehension e scope env pos newAcc false first none) Q E s := by
  unfold comprehension
  rw [hc, hcl]
  refine wpAny_bind (wpAny_mono h (fun x s1 h1 => ?_) fun _ _ z => z)
  refine wpAny_bind (wpAny_standAt (wpAny_bind (wpAny_of_eq (hs x) ?_)))
  refine wpAny_bind (wpAny_holding (wpAny_mono h1 (fun it s2 h2 => ?_) fun _ _ z => z))
  refine wpAny_standIf (wpAny_bind (wpAny_mono h2 (fun acc s3 h3 => ?_) fun _ _ z => z))
  refine wpAny_bind (wpAny_pure (wpAny_bind (wpAny_mono h3 (fun ce s4 h4 => ?_) fun _ _ z => z)))
  dsimp only
  have own : ∀ x ∈ (scope.names.filter fun x => (x.2 == .local || x.2 == .cell) && x.1 != (".0" : Str)).reverse, x.2 = .local → Env.kindOf { ce with scope := relabel scope env } x.1 = some .local :=
    fun x hx hl => lookup_relabel_local (hn x (List.mem_filter.mp (List.mem_reverse.mp hx)).1 hl)
  refine wpAny_holding (wpAny_bind (wpAny_attempt (wpAny_holding (wpAny_run (codeAny_mono h4 fun r s5 hr => ?_)))))
  obtain ⟨m, hm, hr⟩ := hr
  cases r with
  | ok f => exact wpAny_bind (wpAny_holding (wpAny_comp_letGo (cenv := { ce with scope := relabel scope env }) hk _ s5 m own hm fun h' m' _ sb => wpAny_pure (hr h' sb)))
  | error x => exact wpAny_bind (wpAny_holding (wpAny_comp_letGo (cenv := { ce with scope := relabel scope env }) hk _ s5 m own hm fun h' m' _ sb => wpAny_mono (hr h' sb) (fun _ _ f => f.elim) fun _ _ y => y))
end

/-- a frame's note asks for nothing of the frame's names -/
theorem note_eq {e f : Env} (h : e.frame = f.frame) (x : Value) : noteFrame x e = noteFrame x f := by
  unfold noteFrame PySem.frameOf
  rw [h]

theorem frames_same {h h' base base' : Heap} : ∀ {l : List Env}, (∀ L ∈ frs l, h'.get? L = h.get? L ∧ (base.get? L = none → base'.get? L = none)) → h.FunFrames base l → h'.FunFrames base' l
  | [], _, _ => trivial
  | e :: l, k, ⟨h1, ⟨L, o, hf, hn, ho, hd⟩, h2⟩ => by
    obtain ⟨k1, k2⟩ := k L (List.mem_filterMap.mpr ⟨e, List.mem_cons_self, hf⟩)
    refine ⟨h1, ⟨L, o, hf, k2 hn, by rw [k1]; exact ho, hd⟩, frames_same (fun M hM => ?_) h2⟩
    obtain ⟨f, hf', q⟩ := List.mem_filterMap.mp hM
    exact k M (List.mem_filterMap.mpr ⟨f, List.mem_cons_of_mem _ hf', q⟩)
section
variable {X : Cx} {E : XK}
/-- an error of a callee, met within the block ce of a comprehension of X, whose iterator stands at fp -/
theorem blk_err (hst : X.stack = X.env :: X.outer) (hf : X.env.frame = some X.env.locals) (tk : Takes X (fun cls d _ H => E cls d H)) {pins : List (Addr × Obj)} {σ : L2.St} {H3 : Hp} {s3 : Shared} {fp : List Addr} {scope : Scope} {ce : Env} {xe : Value → Shared → Prop}
    (I3 : Inv X pins σ H3 s3) (hfp : ∀ b ∈ fp, FpOk X pins H3 b ∧ b < s3.heap.objs.size) (cL : ce.locals = s3.heap.objs.size) (cF : ce.frame = X.env.frame) {Q : Value → Shared → Prop} {acc : Value} :
    ∀ (pb : List (Addr × Obj)) (σ' : L2.St) (H : Hp) (s : Shared) (u : Value) (s' : Shared), Inv ((X.blk s3 H3 scope ce fp).wish xe) pb σ' H s → L2.CX X.prog X.w X.stack H s E u s' →
      notedBy (model X.prog X.w) X.A ce (fun x s'' => Bk (model X.prog X.w) X.A X.xe Q acc ce (.error x) s'') u s' := by
  intro pb σ' H s u s' Ib c
  obtain ⟨a, B, H2, cls, d, rfl, fl, hok, ub, na, os, ag, hE⟩ := c
  have ok := I3.ok
  have hfr : X.A.frames = some (X.env :: X.outer) := by rw [ok.frames, hst]
  have nC : H ce.locals = none := Ib.free
  obtain ⟨mC, ⟨oC, esC, epC, hoC, hdC, rC⟩, _⟩ := Ib.loc
  have cFr : ce.locals ∉ frs X.stack := fun hb => by
    obtain ⟨_, o, ho, _⟩ := I3.stack.mem hb
    exact absurd (Heap.lt_size ho) (by rw [cL]; exact Nat.lt_irrefl _)
  have hoB : B.get? ce.locals = some oC := ub.keep _ _ hoC nC cFr
  have nC2 : H2 ce.locals = none := ub.free _ _ hoC nC
  rw [hst] at fl
  show wpAny _ _ (noteFrame (.ref a) ce) _ _ s'
  rw [note_eq cF]
  refine HandSPX.looks_onZ Zc.steady hfr hf fl fun h5 held up5 => ?_
  obtain ⟨st5, ba, ff5, oe, vs, T, oT, ts, he, hz, hd, h1, hnT, hTe, hT, hdT, h3⟩ := held
  have hoC5 : h5.get? ce.locals = some oC := st5 _ _ hoB
  refine ⟨mC, ⟨oC, esC, epC, hoC5, hdC, rC⟩, fun h6 sb => ?_⟩
  have cne : ∀ b o vs', h5.get? b = some o → o.data = .fields vs' → b ≠ ce.locals := fun b o vs' q z e => by
    rw [e, hoC5] at q; cases q; rw [hdC] at z; cases z
  have same6 : ∀ b, b ≠ ce.locals → h6.get? b = h5.get? b := fun b hb => sb.2 b hb
  -- the ground without the block's names
  obtain ⟨B2, b1, b2⟩ := restrict B fun b => decide (b ≠ ce.locals)
  have b1' : ∀ b, b ≠ ce.locals → B2.get? b = B.get? b := fun b hb => b1 b (decide_eq_true hb)
  have b2' : B2.get? ce.locals = none := b2 _ (by simp)
  have subB : ∀ b o, B2.get? b = some o → b ≠ ce.locals ∧ B.get? b = some o := fun b o q => by
    have hb : b ≠ ce.locals := fun e => by rw [e, b2'] at q; cases q
    exact ⟨hb, by rw [← b1' b hb]; exact q⟩
  have noB2 : ∀ b, B.get? b = none → B2.get? b = none := fun b q => by
    cases e : B2.get? b with
    | none => rfl
    | some o => rw [(subB b o e).2] at q; cases q
  have st6 : B2.StaysIn h6 := fun b o q => by
    obtain ⟨hb, q⟩ := subB b o q
    rw [same6 b hb]; exact st5 b o q
  have ff6 : h6.FunFrames B2 (X.env :: X.outer) := by
    refine frames_same (fun L hL => ⟨same6 L fun e => ?_, noB2 L⟩) ff5
    rw [e, ← hst] at hL
    exact cFr hL
  have held6 : HandSPX.HeldZ B2 (X.env :: X.outer) a (Zc cls d) X.env.locals h6 :=
    ⟨st6, noB2 a ba, ff6, oe, vs, T, oT, ts, by rw [same6 a (cne a oe vs he hd)]; exact he, hz, hd, h1, noB2 T hnT, hTe, by rw [same6 T (cne T oT ts hT hdT)]; exact hT, hdT, h3⟩
  -- the def's state without the error's objects and the block's names
  obtain ⟨G, g1, g2⟩ := restrict s'.heap fun b => ((B.get? b).isSome && decide (b ≠ ce.locals)) || decide (b ∈ frs X.stack)
  have gB : ∀ b o, B.get? b = some o → b ≠ ce.locals → G.get? b = some o := fun b o e hb => by
    rw [g1 b (by simp [e, hb])]
    exact fl.1 b o e
  have gF : ∀ b, b ∈ frs X.stack → G.get? b = s'.heap.get? b := fun b hb => g1 b (by simp [hb])
  have og : ∀ b o, G.get? b = some o → s'.heap.get? b = some o ∧ b ≠ ce.locals ∧ ((B.get? b).isSome = true ∨ b ∈ frs X.stack) := fun b o e => by
    cases q : (((B.get? b).isSome && decide (b ≠ ce.locals)) || decide (b ∈ frs X.stack)) with
    | false => rw [g2 b q] at e; cases e
    | true =>
      rw [g1 b q] at e
      rw [Bool.or_eq_true, Bool.and_eq_true, decide_eq_true_eq, decide_eq_true_eq] at q
      rcases q with ⟨q1, q2⟩ | q
      · exact ⟨e, q2, .inl q1⟩
      · exact ⟨e, fun z => cFr (z ▸ q), .inr q⟩
  have lt3 : ∀ b o, s3.heap.get? b = some o → b ≠ ce.locals := fun b o e z => by
    have := Heap.lt_size e
    rw [z, cL] at this
    exact Nat.lt_irrefl _ this
  have base : Un (frs X.stack) fp H3 H s3.heap s.heap := Ib.base
  have hokG : HOk X.prog X.w H2 G := fun b o q => (hok b o q).stay (fun c w hc e => gB c w e fun z => by
    rcases hc with hc | hc
    · rw [← hc, z, nC2] at q; cases q
    · rw [z, nC2] at hc; cases hc) (fun _ r => r) fun _ _ r => r
  have J : Inv X pins σ H2 { s3 with heap := G, gens := s'.gens, drawn := s'.drawn, toks := s'.toks } := by
    refine I3.call (ch := fp) ⟨fun b o e n hb hx => ?_, fun b o e n hb hx => ?_, fun b o e n hx => ?_, fun b o e hx => ?_, fun b ys e => ub.tups b ys (base.tups b ys e), fun b o ys e => ub.frzs b o ys (base.frzs b o ys e), fun b ps e => ?_⟩ hokG ag fun b hb => ?_
    · exact gB b o (ub.keep b o (base.keep b o e n hb hx) (base.free b o e n hx) hb) (lt3 b o e)
    · obtain ⟨sl, e1⟩ := base.slot b o e n hb hx
      obtain ⟨sl2, e2⟩ := ub.slot b _ e1 hb
      exact ⟨sl2, by rw [gF b hb]; exact e2⟩
    · obtain ⟨o1, e1⟩ := base.there b o e hx
      exact ub.free b o1 e1 (base.free b o e n hx)
    · obtain ⟨o1, e1⟩ := base.there b o e hx
      by_cases hb : b ∈ frs X.stack
      · obtain ⟨sl2, e2⟩ := ub.slot b _ e1 hb
        exact ⟨_, by rw [gF b hb]; exact e2⟩
      · obtain ⟨o2, e2⟩ := ub.there b o1 e1 hb
        exact ⟨o2, gB b o2 e2 (lt3 b o e)⟩
    · obtain ⟨p1, e1⟩ := base.tbls b ps e
      obtain ⟨p2, e2⟩ := ub.tbls b _ e1
      exact ⟨p1 ++ p2, by rw [e2, Array.append_assoc]⟩
    · obtain ⟨⟨_, f1, f2, f3, f4, f5⟩, _⟩ := hfp b hb
      exact ⟨f3, f1, f4, f5⟩
  have up6 : ∀ b o, G.get? b = some o → (∀ vs', o.data ≠ .fields vs') → ∃ sl, h6.get? b = some { o with slots := sl } := fun b o e nf => by
    obtain ⟨e1, e2, _⟩ := og b o e
    obtain ⟨sl, e3⟩ := up5 b o e1 nf
    exact ⟨sl, by rw [same6 b e2]; exact e3⟩
  -- it flies on
  unfold PySem.passOn
  have hh6 := held6
  obtain ⟨_, _, _, oe6, vs6, T6, oT6, ts6, he6, hz6, hd6, h16, _⟩ := held6
  refine wpAny_bind (wpAny_field he6 hd6 h16 ?_)
  rw [if_neg (show ¬ ((Value.ref T6 == Value.none) = true) from by simp)]
  have fin : wpAny (model X.prog X.w) X.A (setFlight (.ref a) ce.frame) (fun _ s7 => wpAny (model X.prog X.w) X.A (throw (.ref a) : Sem Value) (fun _ _ => False) X.xe s7) X.xe { s' with heap := h6 } := by
    rw [cF, hf]
    refine HandSPX.setFlight_onZ hh6 fun h7 held7 up7 => wpAny_throw (tk _ _ ?_)
    refine ⟨a, B2, _, pins, σ, H2, cls, d, rfl, J, fun b o e hb => ?_, fun b o e nf => ?_, .inr (.inr (by rw [hst]; exact held7)), na, ?_, ag, hE⟩
    · obtain ⟨e1, e2, e3⟩ := og b o e
      rcases e3 with e3 | e3
      · obtain ⟨o', q⟩ := Option.isSome_iff_exists.mp e3
        have z := fl.1 b o' q
        rw [e1] at z; cases z
        rw [b1' b e2]; exact q
      · exact absurd e3 hb
    · obtain ⟨sl, e1⟩ := up6 b o e nf
      obtain ⟨sl2, e2⟩ := up7 b _ e1 nf
      exact ⟨sl2, e2⟩
    · exact os.trans Ib.os
  first
    | exact wpAny_bind (wpAny_pure (wpAny_bind fin))
    | exact wpAny_bind fin
end
end Sr
set_option Elab.async false
set_option linter.all false
set_option maxRecDepth 100000
set_option maxHeartbeats 4000000
/-! The rule for a list comprehension whose element may raise. -/
namespace Sr
open PySem PySem.Spec PyProof.Rows L2
section
variable {X : Cx} {E : XK}
/-- the block's context, with its own wish about errors -/
abbrev blkX (X : Cx) (s : Shared) (H : Hp) (scope : Scope) (cl : List (Str × Addr)) (C : Addr) (fp : List Addr) (xe : Value → Shared → Prop) : Cx := (X.blk s H scope (compEnvC scope cl C X.env) fp).wish xe
theorem pe_lcx {elt tg iter : Expr} {scope : Scope} {own : List (Str × Nat)} {pos : Pos} {wi : TI} {g : TG} {te : TE} (hst : X.stack = X.env :: X.outer) (hf : X.env.frame = some X.env.locals) (tk : Takes X (fun cls d _ H => E cls d H))
    (hc : X.calm = true) (hN : X.N.Nodup) (hi : PI X tg iter wi) (ok : BlkOk X.N X.env.scope scope own)
    (hg : ∀ s H cl C fp xe, PG (blkX X s H scope cl C fp xe) tg g) (he : ∀ s H cl C fp xe, Passes (L2.CX X.prog X.w) (blkX X s H scope cl C fp xe) E → PE (blkX X s H scope cl C fp xe) elt te)
    (hs : ∀ x, foldedSetIterable iter X.env x = pure x := by intro _; rfl) : PE X (.ListComp elt [⟨tg, iter, [], 0⟩] scope pos) (tLc wi g tYes te (own.map (·.2))) := by
  refine ⟨fun pins s σ H Q I h => ?_⟩
  rw [eval_ListComp]
  have cells : ∀ y ∈ scope.names, y.2 = .free → ∃ c, X.env.cells.lookup y.1 = some c := fun y hy e => (ok.free y hy e).elim (fun k => I.ok.has _ (.inl k)) fun k => I.ok.has _ (.inr k)
  refine comp_run rfl hs (closure_ok cells) ok.kind (fun y hy e => by rw [ok.uniq y hy, e]) (thn (hi.run pins s σ H _ I h) fun xv s1 hx => thn hx fun itv s2 h2 => ?_)
  obtain ⟨it, fp, tn, J, H2, rfl, I2, T, st2, f2, q⟩ := h2
  refine wpAny_newObj_type (newEnv_comp ?_) (by show 0 ≤ sizeLine; decide)
  have hDn : H2 s2.heap.objs.size = none := I2.hok.fresh (Nat.le_refl _)
  obtain ⟨W, ⟨m0, w0⟩, turn⟩ := q s2.heap.objs.size hDn
  generalize hD : s2.heap.objs.size = D at hDn w0 turn ⊢
  -- the state with the new list
  generalize hs3 : ({ s2 with heap := s2.heap.push { cls := .type "list", data := .seq ([] : List Value).toArray } } : Shared) = s3
  have h3 : s3.heap = s2.heap.push { cls := .type "list", data := .seq ([] : List Value).toArray } := by rw [← hs3]
  have I3 : Inv X pins σ (upd H2 D (.lst [])) s3 := by
    rw [← hs3, ← hD]
    exact I2.laid (t' := s2.toks) (fun b o e => Heap.get?_push_of_some _ e) (Nat.le_refl _) ⟨Nat.zero_le _, [], 0, .nil, Heap.get?_push_size _ rfl⟩
  have old : ∀ b ∈ fp, b < s2.heap.objs.size := fun b hb => let ⟨_, e, _⟩ := T.obj _ _ st2 b hb; Heap.lt_size e
  have f3 : ∀ b ∈ fp, FpOk X pins (upd H2 D (.lst [])) b ∧ b < s3.heap.objs.size := fun b hb => by
    have hlt := old b hb
    refine ⟨⟨?_, (f2 b hb).2⟩, by rw [h3, Heap.size_push]; exact Nat.lt_succ_of_lt hlt⟩
    rw [upd_ne (Nat.ne_of_lt (hD ▸ hlt))]
    exact (f2 b hb).1
  have st3 : tn 0 s3.heap := T.keep _ _ _ st2 fun b _ o e => by rw [h3]; exact Heap.get?_push_of_some _ e
  have I4 := block_start I3 ok hN f3
  generalize hH3 : upd H2 D (.lst []) = H3 at I3 I4 w0 f3
  generalize hcl : cellsFrom (s3.heap.objs.size + 1) scope.names (cloFrom X.env.cells scope.names []) = cl at I4
  show codeAny _ _ (.compStart _ 0 (.ref it) (.ref D) (compEnvC scope cl s3.heap.objs.size X.env)) (Bk _ _ _ _ (.ref D) (compEnvC scope cl s3.heap.objs.size X.env)) { s3 with heap := pushCells (s3.heap.push { cls := .type "dict", data := .dict #[] }) scope.names }
  generalize hs4 : ({ s3 with heap := pushCells (s3.heap.push { cls := .type "dict", data := .dict #[] }) scope.names } : Shared) = s4 at I4 ⊢
  have st4 : tn 0 s4.heap := T.keep _ _ _ st3 fun b _ o e => by rw [← hs4]; exact pushCells_keeps _ _ _ _ (Heap.get?_push_of_some _ e)
  let xeB : Value → Shared → Prop := notedBy (model X.prog X.w) X.A (compEnvC scope cl s3.heap.objs.size X.env) (fun x s'' => Bk (model X.prog X.w) X.A X.xe (EP X pins σ Q) (.ref D) (compEnvC scope cl s3.heap.objs.size X.env) (.error x) s'')
  have ps : Passes (L2.CX X.prog X.w) (blkX X s3 H3 scope cl s3.heap.objs.size fp xeB) E := blk_err (ce := compEnvC scope cl s3.heap.objs.size X.env) (scope := scope) (xe := xeB) hst hf tk I3 f3 rfl rfl
  have pg := hg s3 H3 cl s3.heap.objs.size fp xeB
  have pe := he s3 H3 cl s3.heap.objs.size fp xeB ps
  have I4' : Inv (blkX X s3 H3 scope cl s3.heap.objs.size fp xeB) [] (wipe σ (own.map (·.2))) H3 s4 := I4.wish xeB
  have stat : ∀ {σ' : L2.St} {H' : Hp} {s' : Shared}, Inv (blkX X s3 H3 scope cl s3.heap.objs.size fp xeB) [] σ' H' s' → (∀ b ∈ fp, H' b = none) → ∀ b ∈ fp, FpOk (blkX X s3 H3 scope cl s3.heap.objs.size fp xeB) [] H' b := fun I' hn b hb =>
    ⟨hn b hb, (I'.ok.exf b hb).1, I'.ok.exfs b hb, .inl hb, fun x c e => (I'.ok.exf b hb).2 x c e, fun p hp => absurd (show p ∈ ([] : List (Addr × Obj)) ++ [] from hp) (by simp)⟩
  have loop : codeAny (model X.prog X.w) X.A (.compLoop (.ListComp elt [⟨tg, iter, [], 0⟩] scope pos) 0 (.ref it) (.ref D) (compEnvC scope cl s3.heap.objs.size X.env))
      (Bk (model X.prog X.w) X.A X.xe (EP X pins σ Q) (.ref D) (compEnvC scope cl s3.heap.objs.size X.env)) s4 := by
    refine compLoop_any (fun n s' => ∃ i H', Inv (blkX X s3 H3 scope cl s3.heap.objs.size fp xeB) [] (wipe σ (own.map (·.2))) H' s' ∧ tn i s'.heap ∧ (∀ b ∈ fp, H' b = none) ∧ W i n H') ?_ m0 ⟨0, H3, I4', st4, fun b hb => (f3 b hb).1.1, w0⟩
    rintro n s5 ⟨i, H5, I5, st5, n5, w5⟩
    rcases turn i n H5 w5 with ⟨stop, qq⟩ | ⟨go, Nx, hNx, step⟩
    · refine thn (T.done (blkX X s3 H3 scope cl s3.heap.objs.size fp xeB) rfl rfl rfl hc i [] s5 _ H5 xeB I5 (stat I5 n5) st5 stop) fun r s6 ⟨hr, I6⟩ => ?_
      subst hr
      have I7 : Inv X pins σ H5 s6 := I3.call' (ch := fp) I6.os I6.base I6.hok I6.bare fun b hb => ⟨(f3 b hb).1.2.2.2.1, (f3 b hb).1.2.1, (f3 b hb).1.2.2.2.2.1, (f3 b hb).1.2.2.2.2.2⟩
      obtain ⟨m, hm, _⟩ := I6.loc
      obtain ⟨z0, z1, z2, z3, z4, z5⟩ := I3.fpOk (H' := H5) (Nat.le_refl _) I6.free
      exact ⟨m, hm, fun h' sb => ⟨.ref D, H5, I7.turned (t' := s6.toks) (fun b o hb e => (sb.2 b hb).trans e) z0 z1 z3 z4 z5, rfl, qq⟩⟩
    · refine thn (T.item (blkX X s3 H3 scope cl s3.heap.objs.size fp xeB) rfl rfl rfl hc i [] s5 _ H5 xeB I5 (stat I5 n5) st5 go) fun r s6 ⟨u, hr, h6⟩ => ?_
      subst hr
      refine thn h6 fun _ s7 ⟨x, H7, I7, r7, y7, st7, n7⟩ => ?_
      refine thn (pg.run _ s7 _ H7 x u _ (I7.pinned (stat I7 n7) (T.obj _ _ st7)) r7 (step x H7 y7)) fun _ s8 ⟨σ8, H8, I8, hw8, q8⟩ => ?_
      refine wpAny_tests_nil ?_
      rw [if_pos rfl]
      have q8 : te σ8 H8 fun y H4 => ∃ acc, H4 D = some (.lst acc) ∧ acc.length < sizeLine ∧ Nx (upd H4 D (.lst (acc ++ [y]))) := by
        unfold tYes at q8
        dsimp only at q8
        rw [if_pos rfl] at q8
        exact q8
      refine thn (pe.run _ s8 σ8 H8 _ I8 q8) fun z s9 ⟨yv, H9, I9, r9, acc, hD9, hz9, nx⟩ => ?_
      refine app_ok (X := blkX X s3 H3 scope cl s3.heap.objs.size fp xeB) I9 hD9 hz9 r9 fun s10 I10 => ?_
      obtain ⟨m', hm, w'⟩ := hNx _ nx
      have pin' : ∀ b ∈ fp, ∀ o, s7.heap.get? b = some o → s10.heap.get? b = some o ∧ upd H9 D (.lst (acc ++ [yv])) b = none := fun b hb o e =>
        let z := I10.pin (b, o) (List.mem_append_right _ (List.mem_append_right _ (mem_pinsAt hb e)))
        ⟨z.1, z.2.1⟩
      refine ⟨m', hm, i + 1, _, (I10.unpinned (pins := [])).weak (by rw [← hw8, wipe_length]) (fun j v e => by rw [← hw8] at e; exact (wipe_some e).1), T.keep _ _ _ st7 fun b hb o e => (pin' b hb o e).1, fun b hb => ?_, w'⟩
      obtain ⟨o, e, _⟩ := T.obj _ _ st7 b hb
      exact (pin' b hb o e).2
  exact codeAny_compStart_list loop (T.self X.A 0 _ _ _ st4 loop)
end
end Sr
set_option Elab.async false
set_option linter.all false
set_option maxRecDepth 100000
set_option maxHeartbeats 4000000
/-! The text by its places, and what the defs lean on. -/
namespace Sr
open PySem PySem.Spec PyProof.Rows L2
def top (i : Nat) : Stmt := PySem.Challenge.pw_sandreckoner_k28_whole_values.main.body.getD i (.Pass ⟨0, 0, 0, 0⟩)
abbrev s_size_of : Stmt := top 11
abbrev s_height_of : Stmt := top 12
abbrev s_compare : Stmt := top 13
abbrev s_sign_of : Stmt := top 14
abbrev s_in_order : Stmt := top 15
abbrev s_gathered : Stmt := top 16
abbrev s_sign_at : Stmt := top 17
abbrev s_next_of : Stmt := top 18
abbrev s_from_int : Stmt := top 19
abbrev s_is_allowed : Stmt := top 20
abbrev s_allowed : Stmt := top 21
abbrev s_of_int : Stmt := top 22
abbrev s_power_of_two : Stmt := top 23
abbrev s_to_int : Stmt := top 24
abbrev s_negate : Stmt := top 26
abbrev s_plus : Stmt := top 27
abbrev s_minus : Stmt := top 28
abbrev s_add : Stmt := top 29
abbrev s_subtract : Stmt := top 30
abbrev s_check_place : Stmt := top 32
abbrev s_is_borrowed : Stmt := top 33
abbrev s_floored : Stmt := top 34
abbrev s_floor_shift : Stmt := top 35
abbrev s_digit : Stmt := top 36
abbrev s_digit_at : Stmt := top 37
abbrev s_length_of : Stmt := top 38
abbrev s_length : Stmt := top 39
abbrev s_low : Stmt := top 40
abbrev s_shifted : Stmt := top 43
abbrev s_shift : Stmt := top 44
abbrev s_product : Stmt := top 45
abbrev s_multiply : Stmt := top 46
abbrev s_check_modulus : Stmt := top 49
abbrev s_row_of_two : Stmt := top 50
abbrev s_Powers_init : Stmt := inClass (top 51) 0
abbrev s_Powers_row : Stmt := inClass (top 51) 1
abbrev s_Powers_power : Stmt := inClass (top 51) 2
abbrev s_Powers_number : Stmt := inClass (top 51) 3
abbrev s_remainder : Stmt := top 52
abbrev s_tower : Stmt := top 55
abbrev s_small_modulus : Stmt := top 56
abbrev s_called : Stmt := top 57
abbrev s_operated : Stmt := top 58
abbrev s_Known_init : Stmt := inClass (top 59) 0
abbrev s_Known_look : Stmt := inClass (top 59) 1
abbrev s_value_by : Stmt := top 60
abbrev s_value_of : Stmt := top 61
abbrev s_law_row : Stmt := top 63
abbrev s_law_at : Stmt := top 64
abbrev s_law_next : Stmt := top 65
abbrev s_law_tree : Stmt := top 66
abbrev s_law_whole : Stmt := top 72
abbrev s_law_called : Stmt := top 73
abbrev s_law_shifted : Stmt := top 74
abbrev s_law_operated : Stmt := top 75
abbrev s_law_value : Stmt := top 76
abbrev s_law_told : Stmt := top 77
abbrev s_law : Stmt := top 78
/-- a def of the text where it stands -/
abbrev At (K : PySem.W.Frag) (x qual : Str) (st : Stmt) (p : Str × Option Str) : Prop := ∃ fd, FunD K x qual (defArgs st) (defBody st) (defScope st) [] [] (He.fAd K p) fd
/-- what the top of the text has left -/
structure Txt (K : PySem.W.Frag) (mg : Str → Option Value) : Prop where
  f_size_of : At K "size_of" "size_of" s_size_of ("size_of", none)
  g_size_of : mg "size_of" = some (.ref (He.ga K "size_of"))
  f_height_of : At K "height_of" "height_of" s_height_of ("height_of", none)
  g_height_of : mg "height_of" = some (.ref (He.ga K "height_of"))
  f_compare : At K "compare" "compare" s_compare ("compare", none)
  g_compare : mg "compare" = some (.ref (He.ga K "compare"))
  f_sign_of : At K "sign_of" "sign_of" s_sign_of ("sign_of", none)
  g_sign_of : mg "sign_of" = some (.ref (He.ga K "sign_of"))
  f_in_order : At K "in_order" "in_order" s_in_order ("in_order", none)
  g_in_order : mg "in_order" = some (.ref (He.ga K "in_order"))
  f_gathered : At K "gathered" "gathered" s_gathered ("gathered", none)
  g_gathered : mg "gathered" = some (.ref (He.ga K "gathered"))
  f_sign_at : At K "sign_at" "sign_at" s_sign_at ("sign_at", none)
  g_sign_at : mg "sign_at" = some (.ref (He.ga K "sign_at"))
  f_next_of : At K "next_of" "next_of" s_next_of ("next_of", none)
  g_next_of : mg "next_of" = some (.ref (He.ga K "next_of"))
  f_from_int : At K "from_int" "from_int" s_from_int ("from_int", none)
  g_from_int : mg "from_int" = some (.ref (He.ga K "from_int"))
  f_is_allowed : At K "is_allowed" "is_allowed" s_is_allowed ("is_allowed", none)
  g_is_allowed : mg "is_allowed" = some (.ref (He.ga K "is_allowed"))
  f_allowed : At K "allowed" "allowed" s_allowed ("allowed", none)
  g_allowed : mg "allowed" = some (.ref (He.ga K "allowed"))
  f_of_int : At K "of_int" "of_int" s_of_int ("of_int", none)
  g_of_int : mg "of_int" = some (.ref (He.ga K "of_int"))
  f_power_of_two : At K "power_of_two" "power_of_two" s_power_of_two ("power_of_two", none)
  g_power_of_two : mg "power_of_two" = some (.ref (He.ga K "power_of_two"))
  f_to_int : At K "to_int" "to_int" s_to_int ("to_int", none)
  g_to_int : mg "to_int" = some (.ref (He.ga K "to_int"))
  f_negate : At K "negate" "negate" s_negate ("negate", none)
  g_negate : mg "negate" = some (.ref (He.ga K "negate"))
  f_plus : At K "plus" "plus" s_plus ("plus", none)
  g_plus : mg "plus" = some (.ref (He.ga K "plus"))
  f_minus : At K "minus" "minus" s_minus ("minus", none)
  g_minus : mg "minus" = some (.ref (He.ga K "minus"))
  f_add : At K "add" "add" s_add ("add", none)
  g_add : mg "add" = some (.ref (He.ga K "add"))
  f_subtract : At K "subtract" "subtract" s_subtract ("subtract", none)
  g_subtract : mg "subtract" = some (.ref (He.ga K "subtract"))
  f_check_place : At K "check_place" "check_place" s_check_place ("check_place", none)
  g_check_place : mg "check_place" = some (.ref (He.ga K "check_place"))
  f_is_borrowed : At K "is_borrowed" "is_borrowed" s_is_borrowed ("is_borrowed", none)
  g_is_borrowed : mg "is_borrowed" = some (.ref (He.ga K "is_borrowed"))
  f_floored : At K "floored" "floored" s_floored ("floored", none)
  g_floored : mg "floored" = some (.ref (He.ga K "floored"))
  f_floor_shift : At K "floor_shift" "floor_shift" s_floor_shift ("floor_shift", none)
  g_floor_shift : mg "floor_shift" = some (.ref (He.ga K "floor_shift"))
  f_digit : At K "digit" "digit" s_digit ("digit", none)
  g_digit : mg "digit" = some (.ref (He.ga K "digit"))
  f_digit_at : At K "digit_at" "digit_at" s_digit_at ("digit_at", none)
  g_digit_at : mg "digit_at" = some (.ref (He.ga K "digit_at"))
  f_length_of : At K "length_of" "length_of" s_length_of ("length_of", none)
  g_length_of : mg "length_of" = some (.ref (He.ga K "length_of"))
  f_length : At K "length" "length" s_length ("length", none)
  g_length : mg "length" = some (.ref (He.ga K "length"))
  f_low : At K "low" "low" s_low ("low", none)
  g_low : mg "low" = some (.ref (He.ga K "low"))
  f_shifted : At K "shifted" "shifted" s_shifted ("shifted", none)
  g_shifted : mg "shifted" = some (.ref (He.ga K "shifted"))
  f_shift : At K "shift" "shift" s_shift ("shift", none)
  g_shift : mg "shift" = some (.ref (He.ga K "shift"))
  f_product : At K "product" "product" s_product ("product", none)
  g_product : mg "product" = some (.ref (He.ga K "product"))
  f_multiply : At K "multiply" "multiply" s_multiply ("multiply", none)
  g_multiply : mg "multiply" = some (.ref (He.ga K "multiply"))
  f_check_modulus : At K "check_modulus" "check_modulus" s_check_modulus ("check_modulus", none)
  g_check_modulus : mg "check_modulus" = some (.ref (He.ga K "check_modulus"))
  f_row_of_two : At K "row_of_two" "row_of_two" s_row_of_two ("row_of_two", none)
  g_row_of_two : mg "row_of_two" = some (.ref (He.ga K "row_of_two"))
  f_Powers_init : At K "__init__" "Powers.__init__" s_Powers_init ("Powers", some "__init__")
  f_Powers_row : At K "row" "Powers.row" s_Powers_row ("Powers", some "row")
  f_Powers_power : At K "power" "Powers.power" s_Powers_power ("Powers", some "power")
  f_Powers_number : At K "number" "Powers.number" s_Powers_number ("Powers", some "number")
  f_remainder : At K "remainder" "remainder" s_remainder ("remainder", none)
  g_remainder : mg "remainder" = some (.ref (He.ga K "remainder"))
  f_tower : At K "tower" "tower" s_tower ("tower", none)
  g_tower : mg "tower" = some (.ref (He.ga K "tower"))
  f_small_modulus : At K "small_modulus" "small_modulus" s_small_modulus ("small_modulus", none)
  g_small_modulus : mg "small_modulus" = some (.ref (He.ga K "small_modulus"))
  f_called : At K "called" "called" s_called ("called", none)
  g_called : mg "called" = some (.ref (He.ga K "called"))
  f_operated : At K "operated" "operated" s_operated ("operated", none)
  g_operated : mg "operated" = some (.ref (He.ga K "operated"))
  f_Known_init : At K "__init__" "Known.__init__" s_Known_init ("Known", some "__init__")
  f_Known_look : At K "look" "Known.look" s_Known_look ("Known", some "look")
  f_value_by : At K "value_by" "value_by" s_value_by ("value_by", none)
  g_value_by : mg "value_by" = some (.ref (He.ga K "value_by"))
  f_value_of : At K "value_of" "value_of" s_value_of ("value_of", none)
  g_value_of : mg "value_of" = some (.ref (He.ga K "value_of"))
  f_law_row : At K "_law_row" "_law_row" s_law_row ("_law_row", none)
  g_law_row : mg "_law_row" = some (.ref (He.ga K "_law_row"))
  f_law_at : At K "_law_at" "_law_at" s_law_at ("_law_at", none)
  g_law_at : mg "_law_at" = some (.ref (He.ga K "_law_at"))
  f_law_next : At K "_law_next" "_law_next" s_law_next ("_law_next", none)
  g_law_next : mg "_law_next" = some (.ref (He.ga K "_law_next"))
  f_law_tree : At K "_law_tree" "_law_tree" s_law_tree ("_law_tree", none)
  g_law_tree : mg "_law_tree" = some (.ref (He.ga K "_law_tree"))
  f_law_whole : At K "_law_whole" "_law_whole" s_law_whole ("_law_whole", none)
  g_law_whole : mg "_law_whole" = some (.ref (He.ga K "_law_whole"))
  f_law_called : At K "_law_called" "_law_called" s_law_called ("_law_called", none)
  g_law_called : mg "_law_called" = some (.ref (He.ga K "_law_called"))
  f_law_shifted : At K "_law_shifted" "_law_shifted" s_law_shifted ("_law_shifted", none)
  g_law_shifted : mg "_law_shifted" = some (.ref (He.ga K "_law_shifted"))
  f_law_operated : At K "_law_operated" "_law_operated" s_law_operated ("_law_operated", none)
  g_law_operated : mg "_law_operated" = some (.ref (He.ga K "_law_operated"))
  f_law_value : At K "_law_value" "_law_value" s_law_value ("_law_value", none)
  g_law_value : mg "_law_value" = some (.ref (He.ga K "_law_value"))
  f_law_told : At K "_law_told" "_law_told" s_law_told ("_law_told", none)
  g_law_told : mg "_law_told" = some (.ref (He.ga K "_law_told"))
  f_law : At K "law" "law" s_law ("law", none)
  g_law : mg "law" = some (.ref (He.ga K "law"))
  c_ReckonError : mg "ReckonError" = some (.ref (He.ga K "ReckonError"))
  c_NotAllowed : mg "NotAllowed" = some (.ref (He.ga K "NotAllowed"))
  c_BadRange : mg "BadRange" = some (.ref (He.ga K "BadRange"))
  c_TooLarge : mg "TooLarge" = some (.ref (He.ga K "TooLarge"))
  c_Missing : mg "Missing" = some (.ref (He.ga K "Missing"))
  c_Powers : mg "Powers" = some (.ref (He.ga K "Powers"))
  c_Known : mg "Known" = some (.ref (He.ga K "Known"))
  n_sum : mg "sum" = none
  n_len : mg "len" = none
  n_max : mg "max" = none
  n_zip : mg "zip" = none
  n_list : mg "list" = none
  n_tuple : mg "tuple" = none
  n_range : mg "range" = none
  n_abs : mg "abs" = none
  n_int : mg "int" = none
  n_isinstance : mg "isinstance" = none
  n_min : mg "min" = none
  n_dict : mg "dict" = none
  i_MAX_SIZE : ∃ t, mg "MAX_SIZE" = some (.int 300 t)
  i_MAX_HEIGHT : ∃ t, mg "MAX_HEIGHT" = some (.int 40 t)
  i_MAX_DIGITS : ∃ t, mg "MAX_DIGITS" = some (.int 2900 t)
  i_MAX_BINARY : ∃ t, mg "MAX_BINARY" = some (.int 64 t)
  i_MAX_PRODUCT : ∃ t, mg "MAX_PRODUCT" = some (.int 400 t)
  i_MAX_MODULUS : ∃ t, mg "MAX_MODULUS" = some (.int 10000 t)
  i_MAX_TOWER : ∃ t, mg "MAX_TOWER" = some (.int 40 t)
  clP : Cls K (He.ga K "Powers")
  clK : Cls K (He.ga K "Known")
  noP : NoAttr K (He.ga K "Powers") "rows"
  noK : NoAttr K (He.ga K "Known") "_values"
  m_row : Meth K (He.ga K "Powers") "row" (He.ma K (He.ga K "Powers") "row")
  m_power : Meth K (He.ga K "Powers") "power" (He.ma K (He.ga K "Powers") "power")
  m_number : Meth K (He.ga K "Powers") "number" (He.ma K (He.ga K "Powers") "number")
  m_look : Meth K (He.ga K "Known") "look" (He.ma K (He.ga K "Known") "look")
  mkP : Mk K (He.ga K "Powers") (He.ma K (He.ga K "Powers") "__init__")
  mkK : Mk K (He.ga K "Known") (He.ma K (He.ga K "Known") "__init__")
  e_NotAllowed : PySem.W.excIn K (He.ga K "NotAllowed") He.veBase "ValueError.__new__" = true ∧ PySem.W.keepIn K (.ref (He.ga K "NotAllowed")) = true ∧ PySem.W.subIn K (.ref (He.ga K "NotAllowed")) (.type "BaseException") = some true ∧ PySem.W.typeIn K (.ref (He.ga K "NotAllowed")) = some (.type "type")
  e_BadRange : PySem.W.excIn K (He.ga K "BadRange") He.veBase "ValueError.__new__" = true ∧ PySem.W.keepIn K (.ref (He.ga K "BadRange")) = true ∧ PySem.W.subIn K (.ref (He.ga K "BadRange")) (.type "BaseException") = some true ∧ PySem.W.typeIn K (.ref (He.ga K "BadRange")) = some (.type "type")
  e_Missing : PySem.W.excIn K (He.ga K "Missing") He.veBase "ValueError.__new__" = true ∧ PySem.W.keepIn K (.ref (He.ga K "Missing")) = true ∧ PySem.W.subIn K (.ref (He.ga K "Missing")) (.type "BaseException") = some true ∧ PySem.W.typeIn K (.ref (He.ga K "Missing")) = some (.type "type")
  e_TooLarge : PySem.W.excIn K (He.ga K "TooLarge") He.veBase "ValueError.__new__" = true ∧ PySem.W.keepIn K (.ref (He.ga K "TooLarge")) = true ∧ PySem.W.subIn K (.ref (He.ga K "TooLarge")) (.type "BaseException") = some true ∧ PySem.W.typeIn K (.ref (He.ga K "TooLarge")) = some (.type "type")
  x_NotAllowed_NotAllowed : PySem.W.exmOne K (.ref (He.ga K "NotAllowed")) (.ref (He.ga K "NotAllowed")) = some true
  x_NotAllowed_BadRange : PySem.W.exmOne K (.ref (He.ga K "NotAllowed")) (.ref (He.ga K "BadRange")) = some false
  x_NotAllowed_Missing : PySem.W.exmOne K (.ref (He.ga K "NotAllowed")) (.ref (He.ga K "Missing")) = some false
  x_NotAllowed_TooLarge : PySem.W.exmOne K (.ref (He.ga K "NotAllowed")) (.ref (He.ga K "TooLarge")) = some false
  x_BadRange_NotAllowed : PySem.W.exmOne K (.ref (He.ga K "BadRange")) (.ref (He.ga K "NotAllowed")) = some false
  x_BadRange_BadRange : PySem.W.exmOne K (.ref (He.ga K "BadRange")) (.ref (He.ga K "BadRange")) = some true
  x_BadRange_Missing : PySem.W.exmOne K (.ref (He.ga K "BadRange")) (.ref (He.ga K "Missing")) = some false
  x_BadRange_TooLarge : PySem.W.exmOne K (.ref (He.ga K "BadRange")) (.ref (He.ga K "TooLarge")) = some false
  x_Missing_NotAllowed : PySem.W.exmOne K (.ref (He.ga K "Missing")) (.ref (He.ga K "NotAllowed")) = some false
  x_Missing_BadRange : PySem.W.exmOne K (.ref (He.ga K "Missing")) (.ref (He.ga K "BadRange")) = some false
  x_Missing_Missing : PySem.W.exmOne K (.ref (He.ga K "Missing")) (.ref (He.ga K "Missing")) = some true
  x_Missing_TooLarge : PySem.W.exmOne K (.ref (He.ga K "Missing")) (.ref (He.ga K "TooLarge")) = some false
  x_TooLarge_NotAllowed : PySem.W.exmOne K (.ref (He.ga K "TooLarge")) (.ref (He.ga K "NotAllowed")) = some false
  x_TooLarge_BadRange : PySem.W.exmOne K (.ref (He.ga K "TooLarge")) (.ref (He.ga K "BadRange")) = some false
  x_TooLarge_Missing : PySem.W.exmOne K (.ref (He.ga K "TooLarge")) (.ref (He.ga K "Missing")) = some false
  x_TooLarge_TooLarge : PySem.W.exmOne K (.ref (He.ga K "TooLarge")) (.ref (He.ga K "TooLarge")) = some true
  q_NotAllowed : ExcC K (He.ga K "NotAllowed")
  q_BadRange : ExcC K (He.ga K "BadRange")
  q_Missing : ExcC K (He.ga K "Missing")
  k_NotAllowed_ReckonError : PySem.W.kitOne K (.ref (He.ga K "NotAllowed")) (.ref (He.ga K "ReckonError")) = some true
  k_BadRange_ReckonError : PySem.W.kitOne K (.ref (He.ga K "BadRange")) (.ref (He.ga K "ReckonError")) = some true
  k_Missing_ReckonError : PySem.W.kitOne K (.ref (He.ga K "Missing")) (.ref (He.ga K "ReckonError")) = some true
  k_NotAllowed_BadRange : PySem.W.kitOne K (.ref (He.ga K "NotAllowed")) (.ref (He.ga K "BadRange")) = some false
  k_BadRange_Missing : PySem.W.kitOne K (.ref (He.ga K "BadRange")) (.ref (He.ga K "Missing")) = some false
  k_Missing_TooLarge : PySem.W.kitOne K (.ref (He.ga K "Missing")) (.ref (He.ga K "TooLarge")) = some false

/-- a def with its promise, by its name -/
structure Df (P : Program) (w : World) (K : PySem.W.Frag) (mg : Str → Option Value) (base : Heap) (CX : CXT) (k : Nat) (x : Str) (ps : List Str) (sp : Sp) : Prop where
  ex : ∃ fd, Binds K fd ps [] ∧ FnOk P w K mg base CX k (He.ga K x) fd ps sp
  gl : mg x = some (.ref (He.ga K x))
  kp : PySem.W.keepIn K (.ref (He.ga K x)) = true
section
variable {P : Program} {w : World} {K : PySem.W.Frag} {mg : Str → Option Value} {base : Heap} {CX : CXT}
theorem Df.mono {j k : Nat} {x : Str} {ps : List Str} {sp : Sp} (D : Df P w K mg base CX j x ps sp) (h : j ≤ k) : Df P w K mg base CX k x ps sp := let ⟨fd, b, F⟩ := D.ex; ⟨⟨fd, b, F.mono h⟩, D.gl, D.kp⟩
theorem Df.imp {k : Nat} {x : Str} {ps : List Str} {sp sp' : Sp} (D : Df P w K mg base CX k x ps sp) (h : ∀ vs H Q E, sp' vs H Q E → sp vs H Q E) : Df P w K mg base CX k x ps sp' := let ⟨fd, b, F⟩ := D.ex; ⟨⟨fd, b, F.imp h⟩, D.gl, D.kp⟩
/-- by its body -/
theorem Df.mk' {x : Str} {st : Stmt} {N ps : List Str} {k : Nat} {sp : Sp} (F : At K x x st (x, none)) (g : mg x = some (.ref (He.ga K x))) (S : FnScope N ps (defScope st))
    (hb : ∀ (kV doc pm : Value) (an : Option Addr) (cdv ct : Value) (us : List Value), us.length = ps.length → bindArgs (PySem.W.fnOf x x (defArgs st) (defBody st) (defScope st) .none kV doc pm an cdv ct) ⟨us, []⟩ = pure (ps.zip us))
    (len : ∀ vs H Q E, sp vs H Q E → vs.length = ps.length)
    (hbody : ∀ (cdv : Value) (A : Around) (outer : List Env) (s : Shared) (H : Hp) (vs : List V) (Q : VK) (E : XK), Room k (A.deeper (envOfC x (defScope st) s.heap.objs.size (He.ga K x) cdv)) → sp vs H Q E →
      ∃ t, PSs (cxOf CX P w K mg base N x (defScope st) (He.ga K x) cdv A outer s H E) (defBody st) t ∧ t { nx := fun _ H' => Q .non H', rt := Q } (start N vs) H) : Df P w K mg base CX (k + 1) x ps sp :=
  let ⟨_, F⟩ := F
  ⟨⟨_, F.bindsN hb, F.ok S len hbody⟩, g, F.kp⟩
end
section
variable {X : Cx} {CX : CXT} {k : Nat} {ps : List Str} {sp : Sp} {E : XK} {x : Str} {p pos : Pos} {e : Expr} {es : List Expr} {t : TA}
/-- a call of a def -/
theorem pe_cl (D : Df X.prog X.w X.K X.mg X.base CX k x ps sp) (hr : Room k X.A) (hx : Passes CX X E) (ha : PA X (e :: es) t) (hg : Gl X x := by rfl) (hdb : (x == ("__debug__" : Str)) = false := by decide)
    (he : starEach (e :: es) X.env = (false, eval e X.env) :: starEach es X.env := by rfl) (hpl : (backTo pos (starEach es X.env)).any (·.1) = false := by rfl) : PE X (.Call (.Name x p) (e :: es) [] pos) (tCall sp [] E t) :=
  let ⟨_, b, F⟩ := D.ex
  pe_call F hr hg D.gl D.kp b .nil hx ha hdb he hpl
end
end Sr
set_option Elab.async false
set_option linter.all false
set_option maxRecDepth 100000
set_option maxHeartbeats 4000000
/-! size_of, height_of, sign_of -/
namespace Sr
open PySem PySem.Spec PyProof.Rows L2

/-- the size, n levels down -/
def szF : Nat → Int → Int
  | 0, _ => 0
  | n + 1, x => 1 + ((naf x).map fun t => szF n t.2).sum
section
variable {P : Program} {w : World} {K : PySem.W.Frag} {mg : Str → Option Value} {base : Heap}

/-- an item of a number's tuple -/
theorem item_at {K : PySem.W.Frag} {H : Hp} {n : Nat} {xs : List V} {l : Terms} {i : Nat} {y : V} (p : Paired (IsI K H n) xs l) (h : xs[i]? = some y) : ∃ t, l[i]? = some t ∧ IsI K H n y t := by
  induction p generalizing i with
  | nil => simp at h
  | cons q _ ih =>
    cases i with
    | zero =>
      simp at h
      subst h
      exact ⟨_, rfl, q⟩
    | succ i => exact ih (i := i) (by simpa using h)
theorem paired_len {α β : Type} {F : α → β → Prop} {l : List α} {m : List β} (p : Paired F l m) : l.length = m.length := Paired.length p
theorem take_next {α : Type} {l : List α} {i : Nat} {x : α} (h : l[i]? = some x) : l.take (i + 1) = l.take i ++ [x] := by
  rw [List.take_add_one, h]; rfl

/-- no test in a comprehension -/
theorem lc_yes {σ : L2.St} {H : Hp} {te : TE} {f : V → Hp → Prop} {B : Hp → Prop} (h : te σ H f) : tYes σ H fun b H3 => if b = true then te σ H3 f else B H3 := by
  show if true = true then te σ H f else B H
  rw [if_pos rfl]; exact h
/-! ### sign_of -/
def spSign (K : PySem.W.Frag) : Sp := fun vs H Q _ => ∃ v n x, vs = [v] ∧ IsN K H (n + 1) v x ∧ Q (.int (sgn x)) H
theorem sc_sign : FnScope ["number"] ["number"] (defScope s_sign_of) := ⟨rfl, rfl, rfl, by decide +kernel, rfl, by decide +kernel, by decide +kernel⟩
theorem sgn_head {x : Int} {t : Int × Int} {r : Terms} (h : naf x = t :: r) : sgn x = t.1 := by
  have := cmp_naf x 0
  rw [naf_zero, h, Int.sub_zero] at this
  exact this.symm
theorem d_sign (T : Txt K mg) : Df P w K mg base CX0 1 "sign_of" ["number"] (spSign K) := by
  refine .mk' T.f_sign_of T.g_sign_of sc_sign (fun _ _ _ _ _ _ us hl => match us, hl with | [_], _ => rfl) (fun vs H Q E h => ?_) (fun cdv A outer s H vs Q E hr h => ?_)
  · obtain ⟨v, n, x, rfl, _⟩ := h
    rfl
  · obtain ⟨v, n, x, rfl, hN, hQ⟩ := h
    obtain ⟨a, xs, rfl, hz, hq, hp⟩ := hN.open_
    refine ⟨_, pss_cons (ps_if (pt_cmpR op_eq (pe_callB call_len (by rfl) T.n_len PySem.boot_len (pa_cons (pv 0) pa_nil)) pe_int (nomark _)) (pss_one (ps_ret pe_int)) pss_nil)
      (pss_one (ps_ret (pe_ix ix_tup (pe_ix ix_tup (pv 0) pe_int (fun _ _ => rfl)) pe_int (fun _ _ => rfl)))), ?_⟩
    refine ⟨_, rfl, _, xs.length, rfl, .inr ⟨xs, hq, rfl⟩, rfl, _, rfl, ?_⟩
    have hl := paired_len hp
    cases hn : naf x with
    | nil =>
      rw [hn] at hl
      have e : xs.length = 0 := hl
      rw [e]
      refine ite2 (fun _ => ?_) fun c => absurd (by decide) c
      have e2 := naf_nil hn
      rw [e2] at hQ
      exact hQ
    | cons t r =>
      rw [hn] at hp hl
      cases hp with
      | cons hi hp =>
        obtain ⟨b, e, rfl, hb, _⟩ := hi
        refine ite2 (fun c => ?_) fun _ => ?_
        · have c := of_decide_eq_true c
          simp at c
          omega
        · refine ⟨_, rfl, a, _, _, _, rfl, rfl, hq, atI_nat rfl, b, _, _, _, rfl, rfl, hb, atI_nat rfl, ?_⟩
          rw [sgn_head hn] at hQ
          exact hQ
/-! ### size_of -/
def spSize (K : PySem.W.Frag) (n : Nat) : Sp := fun vs H Q _ => ∃ v x, vs = [v] ∧ IsN K H n v x ∧ ∀ H', Same H H' → Q (.int (szF n x)) H'
theorem sc_size : FnScope ["number", "_", "exponent"] ["number"] (defScope s_size_of) := ⟨rfl, rfl, rfl, by decide +kernel, rfl, by decide +kernel, by decide +kernel⟩
theorem d_size (T : Txt K mg) : ∀ n, Df P w K mg base CX0 (n + 1) "size_of" ["number"] (spSize K n)
  | 0 => by
    refine .mk' T.f_size_of T.g_size_of sc_size (fun _ _ _ _ _ _ us hl => match us, hl with | [_], _ => rfl) (fun vs H Q E h => ?_) (fun cdv A outer s H vs Q E hr h => ?_)
    · obtain ⟨v, x, rfl, _⟩ := h
      rfl
    · obtain ⟨v, x, rfl, h, _⟩ := h
      exact h.elim
  | n + 1 => by
    have G := d_size T n
    refine .mk' T.f_size_of T.g_size_of sc_size (fun _ _ _ _ _ _ us hl => match us, hl with | [_], _ => rfl) (fun vs H Q E h => ?_) (fun cdv A outer s H vs Q E hr h => ?_)
    · obtain ⟨v, x, rfl, _⟩ := h
      rfl
    · obtain ⟨v, x, rfl, hN, hQ⟩ := h
      obtain ⟨a, xs, rfl, hz, hq, hp⟩ := hN.open_
      refine ⟨_, pss_one (ps_ret (pe_op op_add pe_int (pe_callB (cr_sum rfl) (by rfl) T.n_sum (by decide +kernel) (pa_cons
        (by exact (pe_lc (own := [("_", 1), ("exponent", 2)]) (g := gTup K 2 (gCons (gName 1) (gCons (gName 2) gNil))) (tt := tYes) rfl sc_size.nd (pi_tup (pv 0)) (blkOk_by (N := ["number", "_", "exponent"]) (sc := defScope s_size_of) (by decide +kernel))
          (fun _ _ _ _ _ => pg_tup rfl (pgs_cons (pg_name (i := 1) sc_size.nd rfl (Or.inl rfl)) (pgs_cons (pg_name (i := 2) sc_size.nd rfl (Or.inl rfl)) pgs_nil)))
          (fun _ _ _ _ _ => pts_nil) (fun _ _ _ _ _ => pe_cl G hr pass0 (pa_cons (pv 2) pa_nil)))) pa_nil)))), ?_⟩
      refine ⟨_, rfl, a, rfl, ⟨xs, hq⟩, fun D hD => lc_tup (xs := xs) (fun i H' => Same H H' ∧ H' D = some (.lst (((naf x).take i).map fun t => V.int (szF n t.2))))
        ⟨same_new hD, upd_same⟩ (fun i H' _ ⟨s1, _⟩ => (Tx.of s1) _ _ hq) ?_ ?_⟩
      · rintro i y H' hy ⟨s1, hL⟩
        obtain ⟨t, ht, b, e, rfl, hb, he⟩ := item_at hp hy
        refine ⟨b, _, rfl, (Tx.of s1) _ _ hb, rfl, _, _, rfl, _, _, rfl, rfl, rfl, lc_yes ?_⟩
        refine ⟨_, rfl, e, t.2, rfl, he.tx (Tx.of s1), fun H2 s2 => ⟨_, s2 _ _ hL, ?_, ?_, ?_⟩⟩
        · rw [List.length_map, List.length_take]
          have := paired_len hp
          exact small1000 (by omega)
        · exact same_set (s1.trans s2) hD
        · rw [upd_same, take_next ht, List.map_append]
          rfl
      · rintro H' ⟨s1, hL⟩
        rw [paired_len hp, List.take_length] at hL
        refine ⟨D, (naf x).map fun t => szF n t.2, rfl, ?_, _, _, rfl, rfl, ?_⟩
        · rw [List.map_map]
          exact SqL.of hL
        · exact hQ H' s1
end
end Sr
set_option Elab.async false
set_option linter.all false
set_option maxRecDepth 100000
set_option maxHeartbeats 4000000
/-! height_of, is_allowed, allowed, from_int, of_int -/
namespace Sr
open PySem PySem.Spec PyProof.Rows L2

/-- the greatest, or 0 -/
def mx : List Int → Int
  | [] => 0
  | a :: r => if a < mx r then mx r else a
theorem mx_le : ∀ {l : List Int}, ∀ y ∈ l, y ≤ mx l
  | a :: r, y, h => by
    show y ≤ if a < mx r then mx r else a
    rcases List.mem_cons.mp h with e | h
    · subst e
      split <;> omega
    · have := mx_le (l := r) y h
      split <;> omega
theorem mx_mem : ∀ {l : List Int}, l ≠ [] → (∀ y ∈ l, 0 ≤ y) → mx l ∈ l
  | [], h, _ => absurd rfl h
  | a :: r, _, h => by
    show (if a < mx r then mx r else a) ∈ a :: r
    split
    · rename_i c
      by_cases e : r = []
      · subst e
        have := h a List.mem_cons_self
        have c : a < 0 := c
        omega
      · exact List.mem_cons_of_mem _ (mx_mem e fun y hy => h y (List.mem_cons_of_mem _ hy))
    · exact List.mem_cons_self
/-- the height, n levels down -/
def htF : Nat → Int → Int
  | 0, _ => 0
  | n + 1, x => if (naf x).isEmpty = true then 0 else 1 + mx ((naf x).map fun t => htF n t.2)
theorem mx_nn : ∀ {l : List Int}, (∀ y ∈ l, 0 ≤ y) → 0 ≤ mx l
  | [], _ => Int.le_refl _
  | a :: r, h => by
    have h1 := h a List.mem_cons_self
    have h2 := mx_nn (l := r) fun y hy => h y (List.mem_cons_of_mem _ hy)
    show 0 ≤ if a < mx r then mx r else a
    split <;> omega
theorem htF_nn : ∀ (n : Nat) (x : Int), 0 ≤ htF n x
  | 0, _ => Int.le_refl _
  | n + 1, x => by
    show 0 ≤ if (naf x).isEmpty = true then 0 else 1 + mx ((naf x).map fun t => htF n t.2)
    split
    · omega
    · have := mx_nn (l := (naf x).map fun t => htF n t.2) fun y hy => by
        obtain ⟨t, _, e⟩ := List.mem_map.mp hy
        rw [← e]; exact htF_nn n t.2
      omega
theorem mx_bound : ∀ {l : List Int} {b : Int}, 0 ≤ b → (∀ y ∈ l, y ≤ b) → mx l ≤ b
  | [], b, hb, _ => hb
  | a :: r, b, hb, h => by
    have h1 := h a List.mem_cons_self
    have h2 := mx_bound (l := r) hb fun y hy => h y (List.mem_cons_of_mem _ hy)
    show (if a < mx r then mx r else a) ≤ b
    split <;> omega
theorem htF_le : ∀ (n : Nat) (x : Int), htF (n + 1) x ≤ n + 1
  | 0, x => by
    show (if (naf x).isEmpty = true then 0 else 1 + mx ((naf x).map fun t => htF 0 t.2)) ≤ _
    split
    · omega
    · have := mx_bound (l := (naf x).map fun t => htF 0 t.2) (b := 0) (Int.le_refl _) fun y hy => by
        obtain ⟨t, _, e⟩ := List.mem_map.mp hy
        rw [← e]; exact Int.le_refl _
      generalize mx ((naf x).map fun t => htF 0 t.2) = z at this ⊢
      show 1 + z ≤ ((0 : Nat) : Int) + 1
      omega
  | n + 1, x => by
    show (if (naf x).isEmpty = true then 0 else 1 + mx ((naf x).map fun t => htF (n + 1) t.2)) ≤ _
    split
    · omega
    · have := mx_bound (l := (naf x).map fun t => htF (n + 1) t.2) (b := n + 1) (by omega) fun y hy => by
        obtain ⟨t, _, e⟩ := List.mem_map.mp hy
        rw [← e]; exact htF_le n t.2
      omega

section
variable {P : Program} {w : World} {K : PySem.W.Frag} {mg : Str → Option Value} {base : Heap}

/-! ### height_of -/
def spHeight (K : PySem.W.Frag) (n : Nat) : Sp := fun vs H Q _ => ∃ v x, vs = [v] ∧ IsN K H n v x ∧ ∀ H', Same H H' → Q (.int (htF n x)) H'
theorem sc_height : FnScope ["number", "_", "exponent"] ["number"] (defScope s_height_of) := ⟨rfl, rfl, rfl, by decide +kernel, rfl, by decide +kernel, by decide +kernel⟩
theorem d_height (T : Txt K mg) : ∀ n, Df P w K mg base CX0 (n + 1) "height_of" ["number"] (spHeight K n)
  | 0 => by
    refine .mk' T.f_height_of T.g_height_of sc_height (fun _ _ _ _ _ _ us hl => match us, hl with | [_], _ => rfl) (fun vs H Q E h => ?_) (fun cdv A outer s H vs Q E hr h => ?_)
    · obtain ⟨v, x, rfl, _⟩ := h
      rfl
    · obtain ⟨v, x, rfl, h, _⟩ := h
      exact h.elim
  | n + 1 => by
    have G := d_height T n
    refine .mk' T.f_height_of T.g_height_of sc_height (fun _ _ _ _ _ _ us hl => match us, hl with | [_], _ => rfl) (fun vs H Q E h => ?_) (fun cdv A outer s H vs Q E hr h => ?_)
    · obtain ⟨v, x, rfl, _⟩ := h
      rfl
    · obtain ⟨v, x, rfl, hN, hQ⟩ := h
      obtain ⟨a, xs, rfl, hz, hq, hp⟩ := hN.open_
      refine ⟨_, pss_cons (ps_if (pt_cmpR op_eq (pe_callB call_len (by rfl) T.n_len PySem.boot_len (pa_cons (pv 0) pa_nil)) pe_int (nomark _)) (pss_one (ps_ret pe_int)) pss_nil)
        (pss_one (ps_ret (pe_op op_add pe_int (pe_callB (cr_max rfl) (by rfl) T.n_max (by decide +kernel) (pa_cons
        (by exact (pe_lc (own := [("_", 1), ("exponent", 2)]) (g := gTup K 2 (gCons (gName 1) (gCons (gName 2) gNil))) (tt := tYes) rfl sc_height.nd (pi_tup (pv 0)) (blkOk_by (N := ["number", "_", "exponent"]) (sc := defScope s_height_of) (by decide +kernel))
          (fun _ _ _ _ _ => pg_tup rfl (pgs_cons (pg_name (i := 1) sc_height.nd rfl (Or.inl rfl)) (pgs_cons (pg_name (i := 2) sc_height.nd rfl (Or.inl rfl)) pgs_nil)))
          (fun _ _ _ _ _ => pts_nil) (fun _ _ _ _ _ => pe_cl G hr pass0 (pa_cons (pv 2) pa_nil)))) pa_nil))))), ?_⟩
      refine ⟨_, rfl, _, xs.length, rfl, .inr ⟨xs, hq, rfl⟩, rfl, _, rfl, ?_⟩
      have hl := paired_len hp
      refine ite2 (fun c => ?_) fun c => ?_
      · have c := of_decide_eq_true c
        have c : (naf x).length = 0 := by
          have c : (xs.length : Int) = 0 := by simpa using c
          omega
        have e : naf x = [] := List.length_eq_zero_iff.mp c
        have q := hQ H (Same.refl _)
        unfold htF at q
        rw [e] at q
        exact q
      · have hne : (naf x).isEmpty = false := by
          cases e : naf x with
          | nil => rw [e] at hl; have hl : xs.length = 0 := hl; exact absurd (by rw [hl]; rfl) c
          | cons _ _ => rfl
        refine ⟨_, rfl, a, rfl, ⟨xs, hq⟩, fun D hD => lc_tup (xs := xs) (fun i H' => Same H H' ∧ H' D = some (.lst (((naf x).take i).map fun t => V.int (htF n t.2))))
          ⟨same_new hD, upd_same⟩ (fun i H' _ ⟨s1, _⟩ => (Tx.of s1) _ _ hq) ?_ ?_⟩
        · rintro i y H' hy ⟨s1, hL⟩
          obtain ⟨t, ht, b, e, rfl, hb, he⟩ := item_at hp hy
          refine ⟨b, _, rfl, (Tx.of s1) _ _ hb, rfl, _, _, rfl, _, _, rfl, rfl, rfl, lc_yes ?_⟩
          refine ⟨_, rfl, e, t.2, rfl, he.tx (Tx.of s1), fun H2 s2 => ⟨_, s2 _ _ hL, ?_, ?_, ?_⟩⟩
          · rw [List.length_map, List.length_take]
            exact small1000 (by omega)
          · exact same_set (s1.trans s2) hD
          · rw [upd_same, take_next ht, List.map_append]
            rfl
        · rintro H' ⟨s1, hL⟩
          rw [hl, List.take_length] at hL
          refine ⟨D, (naf x).map fun t => htF n t.2, rfl, ?_, ?_, fun m hm hle => ⟨_, _, rfl, rfl, ?_⟩⟩
          · rw [List.map_map]
            exact SqL.of hL
          · rw [List.length_map]
            cases e : naf x with
            | nil => rw [e] at hne; cases hne
            | cons _ _ => exact Nat.succ_pos _
          · have q := hQ H' s1
            unfold htF at q
            rw [hne, if_neg Bool.false_ne_true] at q
            have nn : ∀ y ∈ (naf x).map (fun t => htF n t.2), 0 ≤ y := fun y hy => by
              obtain ⟨t, _, e⟩ := List.mem_map.mp hy
              rw [← e]; exact htF_nn n t.2
            have e1 := mx_le m hm
            have e2 := hle _ (mx_mem (fun z => by rw [z] at hm; cases hm) nn)
            have e3 : m = mx ((naf x).map fun t => htF n t.2) := by omega
            rw [e3]
            exact q

/-! ### is_allowed, allowed -/
def okF (n : Nat) (x : Int) : Bool := decide (szF n x ≤ 300) && decide (htF n x ≤ 40)
def spIsAllowed (K : PySem.W.Frag) (n : Nat) : Sp := fun vs H Q _ => ∃ v x, vs = [v] ∧ IsN K H n v x ∧ ∀ H', Same H H' → Q (.bl (okF n x)) H'
theorem sc_is_allowed : FnScope ["number"] ["number"] (defScope s_is_allowed) := ⟨rfl, rfl, rfl, by decide +kernel, rfl, by decide +kernel, by decide +kernel⟩
theorem d_is_allowed (T : Txt K mg) (n : Nat) : Df P w K mg base CX0 (n + 2) "is_allowed" ["number"] (spIsAllowed K n) := by
  have G1 := d_size (P := P) (w := w) (base := base) T n
  have G2 := d_height (P := P) (w := w) (base := base) T n
  refine .mk' T.f_is_allowed T.g_is_allowed sc_is_allowed (fun _ _ _ _ _ _ us hl => match us, hl with | [_], _ => rfl) (fun vs H Q E h => ?_) (fun cdv A outer s H vs Q E hr h => ?_)
  · obtain ⟨v, x, rfl, _⟩ := h
    rfl
  · obtain ⟨v, x, rfl, hN, hQ⟩ := h
    obtain ⟨t1, m1⟩ := T.i_MAX_SIZE
    obtain ⟨t2, m2⟩ := T.i_MAX_HEIGHT
    refine ⟨_, pss_one (ps_ret (pe_and (pe_cmp (pc_le (pe_cl G1 hr pass0 (pa_cons (pv 0) pa_nil)) (pe_glob (v := .int 300) rfl m1 ⟨_, rfl⟩)) rfl)
      (pe_one (pe_cmp (pc_le (pe_cl G2 hr pass0 (pa_cons (pv 0) pa_nil)) (pe_glob (v := .int 40) rfl m2 ⟨_, rfl⟩)) rfl)))), ?_⟩
    refine ⟨_, rfl, v, x, rfl, hN, fun H1 s1 => ⟨_, _, rfl, rfl, _, rfl, ite2 (fun c => ?_) fun c => ?_⟩⟩
    · refine ⟨_, rfl, v, x, rfl, hN.tx (Tx.of s1), fun H2 s2 => ⟨_, _, rfl, rfl, ?_⟩⟩
      have q := hQ H2 (s1.trans s2)
      have c : decide (szF n x ≤ 300) = true := c
      unfold okF at q
      rw [c, Bool.true_and] at q
      exact q
    · have q := hQ H1 s1
      unfold okF at q
      have c : decide (szF n x ≤ 300) = false := by
        have c : ¬ decide (szF n x ≤ 300) = true := c
        simpa using c
      rw [c, Bool.false_and] at q
      exact q
/-- an error of the class x -/
abbrev eX (K : PySem.W.Frag) (x : Str) (E : XK) (H : Hp) : Prop := E (.ref (He.ga K x)) none H
def spAllowed (K : PySem.W.Frag) (n : Nat) : Sp := fun vs H Q E => ∃ v x, vs = [v] ∧ IsN K H n v x ∧ (okF n x = true → ∀ H', Same H H' → Q v H') ∧ (okF n x = false → ∀ H', Same H H' → eX K "TooLarge" E H')
theorem sc_allowed : FnScope ["number"] ["number"] (defScope s_allowed) := ⟨rfl, rfl, rfl, by decide +kernel, rfl, by decide +kernel, by decide +kernel⟩
theorem d_allowed (T : Txt K mg) (n : Nat) : Df P w K mg base (L2.CX P w) (n + 3) "allowed" ["number"] (spAllowed K n) := by
  have G := d_is_allowed (P := P) (w := w) (base := base) T n
  refine .mk' T.f_allowed T.g_allowed sc_allowed (fun _ _ _ _ _ _ us hl => match us, hl with | [_], _ => rfl) (fun vs H Q E h => ?_) (fun cdv A outer s H vs Q E hr h => ?_)
  · obtain ⟨v, x, rfl, _⟩ := h
    rfl
  · obtain ⟨v, x, rfl, hN, hQ, hE⟩ := h
    obtain ⟨x1, x2, x3, x4⟩ := T.e_TooLarge
    refine ⟨_, pss_cons (ps_if (pt_not (pt_val (pe_cl G hr pass0 (pa_cons (pv 0) pa_nil)))) (pss_one (ps_raise rfl (takes_of rfl rfl rfl rfl) (pmk_own PySem.F.excBase_ValueError x1 T.c_TooLarge x2 (raises_own x3 x4) rfl))) pss_nil)
      (pss_one (ps_ret (pv 0))), ?_⟩
    refine ⟨_, rfl, v, x, rfl, hN, fun H1 s1 => ⟨_, rfl, ?_⟩⟩
    cases c : okF n x with
    | true => exact iteF ⟨_, rfl, hQ c H1 s1⟩
    | false => exact iteT (hE c H1 s1)
end
end Sr
set_option Elab.async false
set_option linter.all false
set_option maxRecDepth 100000
set_option maxHeartbeats 4000000
/-! from_int -/
namespace Sr
open PySem PySem.Spec PyProof.Rows L2

theorem nafG_suf : ∀ (n : Nat) (v p : Int) (acc : Terms), ∃ l, nafG n v p acc = l ++ acc
  | 0, _, _, acc => ⟨[], rfl⟩
  | n + 1, v, p, acc => by
    unfold nafG
    by_cases h0 : v = 0
    · rw [if_pos h0]; exact ⟨[], rfl⟩
    · rw [if_neg h0]
      by_cases h1 : v % 2 = 1
      · rw [if_pos h1]
        by_cases h2 : v % 4 = 1
        · rw [if_pos h2]
          obtain ⟨l, e⟩ := nafG_suf n ((v - 1) / 2) (p + 1) ((1, p) :: acc)
          exact ⟨l ++ [(1, p)], by rw [e, List.append_assoc]; rfl⟩
        · rw [if_neg h2]
          obtain ⟨l, e⟩ := nafG_suf n ((v + 1) / 2) (p + 1) ((-1, p) :: acc)
          exact ⟨l ++ [(-1, p)], by rw [e, List.append_assoc]; rfl⟩
      · rw [if_neg h1]
        exact nafG_suf n (v / 2) (p + 1) acc
theorem nafG_even {n : Nat} {v p : Int} {acc : Terms} (h0 : v ≠ 0) (h1 : ¬ v % 2 = 1) : nafG (n + 1) v p acc = nafG n (v / 2) (p + 1) acc := by
  show (if v = 0 then acc else if v % 2 = 1 then _ else nafG n (v / 2) (p + 1) acc) = _
  rw [if_neg h0, if_neg h1]
theorem nafG_odd {n : Nat} {v p : Int} {acc : Terms} (h0 : v ≠ 0) (h1 : v % 2 = 1) : nafG (n + 1) v p acc = nafG n ((v - (if v % 4 = 1 then 1 else -1)) / 2) (p + 1) ((if v % 4 = 1 then 1 else -1, p) :: acc) := by
  show (if v = 0 then acc else if v % 2 = 1 then (if v % 4 = 1 then nafG n ((v - 1) / 2) (p + 1) ((1, p) :: acc) else nafG n ((v + 1) / 2) (p + 1) ((-1, p) :: acc)) else nafG n (v / 2) (p + 1) acc) = _
  rw [if_neg h0, if_pos h1]
  by_cases h2 : v % 4 = 1
  · rw [if_pos h2, if_pos h2]
  · rw [if_neg h2, if_neg h2, Int.sub_neg]
theorem paired_snoc {α β : Type} {F : α → β → Prop} {l : List α} {m : List β} {a : α} {b : β} (p : Paired F l m) (h : F a b) : Paired F (l ++ [a]) (m ++ [b]) := by
  induction p with
  | nil => exact .cons h .nil
  | cons q _ ih => exact .cons q ih
theorem paired_rev {α β : Type} {F : α → β → Prop} {l : List α} {m : List β} (p : Paired F l m) : Paired F l.reverse m.reverse := by
  induction p with
  | nil => exact .nil
  | cons q _ ih =>
    rw [List.reverse_cons, List.reverse_cons]
    exact paired_snoc ih q
theorem items_tx {K : PySem.W.Frag} {H H' : Hp} (t : Tx K H H') {n : Nat} {xs : List V} {l : Terms} (p : Paired (IsI K H n) xs l) : Paired (IsI K H' n) xs l := L2.Paired.mapP p fun _ _ q => q.tx t
theorem Tx.keep {K : PySem.W.Frag} {H H' : Hp} {L : Addr} {xs ys : List V} (t : Tx K H H') (h : H' L = some (.lst xs)) : Tx K H (upd H' L (.lst ys)) := t.trans (Tx.set h trivial)

/-- a pair is laid and listed -/
theorem push_item {K : PySem.W.Frag} {H1 H2 : Hp} {n : Nat} {xs : List V} {l : Terms} {L D : Addr} {e : V} {i p : Int} (s2 : Same H1 H2) (hD : H2 D = none) (hL1 : H1 L = some (.lst xs)) (hx : Paired (IsI K H1 n) xs l) (he : IsN K H2 n e p) :
    Paired (IsI K (upd (upd H2 D (.tup [.int i, e])) L (.lst (xs ++ [.ref D]))) n) (xs ++ [.ref D]) (l ++ [(i, p)]) := by
  have hL2 : (upd H2 D (.tup [.int i, e])) L = some (.lst xs) := (s2.trans (same_new hD)) _ _ hL1
  have t2 : Tx K (upd H2 D (.tup [.int i, e])) (upd (upd H2 D (.tup [.int i, e])) L (.lst (xs ++ [.ref D]))) := Tx.set hL2 trivial
  refine paired_snoc (items_tx ((Tx.of (s2.trans (same_new hD))).trans t2) hx) ⟨D, e, rfl, t2 _ _ (.inl (.inl upd_same)), he.tx ((Tx.of (same_new hD)).trans t2)⟩
theorem le2 {a b : V} : [a, b].length ≤ sizeLine := by show 2 ≤ sizeLine; decide +kernel
theorem pos2 : (0 : Int) < 2 := by decide
theorem pos4 : (0 : Int) < 4 := by decide
theorem div2 {v : Int} : CDiv v 2 := ⟨by decide, by decide⟩
section
variable {P : Program} {w : World} {K : PySem.W.Frag} {mg : Str → Option Value} {base : Heap}
def spFrom (K : PySem.W.Frag) (n : Nat) : Sp := fun vs H Q _ => ∃ x, vs = [.int x] ∧ Sr.dp n x = true ∧ (naf x).length ≤ 900 ∧ (∀ t ∈ naf x, 0 ≤ t.2 ∧ t.2 ≤ 900) ∧ ∀ H' v, Same H H' → IsN K H' n v x → Q v H'
theorem dp_len {n : Nat} {x p s : Int} {l acc : Terms} (h : Sr.dp (n + 1) x = true) (e : naf x = l ++ (s, p) :: acc) : Sr.dp n p = true := by
  have h : ((naf x).all fun t => Sr.dp n t.2) = true := h
  rw [List.all_eq_true] at h
  exact h (s, p) (by rw [e]; simp)
/-- exponents are at most as great as the number -/
theorem naf_short {p : Int} (h1 : 0 ≤ p) (h2 : p ≤ 900) : (naf p).length ≤ 900 := by
  have a : p < p2 900 := by
    have : (900 : Int) < p2 900 := by decide +kernel
    omega
  have := (naf_top (k := 900) (x := p) (by omega) (by omega) (by omega))
  have := this.len
  omega
theorem naf_exps {p : Int} (h1 : 0 ≤ p) (h2 : p ≤ 900) : ∀ t ∈ naf p, 0 ≤ t.2 ∧ t.2 ≤ 900 := fun t ht => by
  have a : p < p2 900 := by
    have : (900 : Int) < p2 900 := by decide +kernel
    omega
  have := (naf_top (k := 900) (x := p) (by omega) (by omega) (by omega)).mem t ht
  exact this.2
theorem sc_from_int : FnScope ["value", "terms", "place", "sign"] ["value"] (defScope s_from_int) := ⟨rfl, rfl, rfl, by decide +kernel, rfl, by decide +kernel, by decide +kernel⟩
theorem d_from (T : Txt K mg) : ∀ n, Df P w K mg base CX0 (n + 1) "from_int" ["value"] (spFrom K n)
  | 0 => by
    refine .mk' T.f_from_int T.g_from_int sc_from_int (fun _ _ _ _ _ _ us hl => match us, hl with | [_], _ => rfl) (fun vs H Q E h => ?_) (fun cdv A outer s H vs Q E hr h => ?_)
    · obtain ⟨x, rfl, _⟩ := h
      rfl
    · obtain ⟨x, rfl, h, _⟩ := h
      exact nomatch h
  | n + 1 => by
    have G_from_int := d_from T n
    refine .mk' T.f_from_int T.g_from_int sc_from_int (fun _ _ _ _ _ _ us hl => match us, hl with | [_], _ => rfl) (fun vs H Q E h => ?_) (fun cdv A outer s H vs Q E hr h => ?_)
    · obtain ⟨x, rfl, _⟩ := h
      rfl
    · obtain ⟨x, rfl, hd, hl, hsub, hQ⟩ := h
      refine ⟨_, pss_cons (ps_set (i := 1) sc_from_int.nd rfl (.inl rfl) (pe_lst pa_nil))
        (pss_cons (ps_set (i := 2) sc_from_int.nd rfl (.inl rfl) pe_int)
        (pss_cons (ps_while (passes_of rfl) (pt_cmpR op_ne (pv 0) pe_int (nomark _)) (pss_cons (ps_if (pt_cmpR op_eq (pe_op op_mod (pv 0) pe_int) pe_int (nomark _)) (pss_cons (ps_set (i := 3) sc_from_int.nd rfl (.inl rfl) (pe_ifExp (pt_cmpR op_eq (pe_op op_mod (pv 0) pe_int) pe_int (nomark _)) pe_int (pe_un un_neg pe_int)))
            (pss_cons (ps_expr (pe_bm PySem.F.plainAttrs_list PySem.F.slot_list_append PySem.F.type_list_append mt_append (pv 1) (pa_cons (pe_tup (pa_cons (pv 3) (pa_cons (pe_cl G_from_int hr pass0 (pa_cons (pv 2) pa_nil)) pa_nil))) pa_nil)))
            (pss_one (ps_aug (i := 0) sc_from_int.nd rfl (.inl rfl) (pv 3) ip_sub)))) pss_nil)
          (pss_cons (ps_aug (i := 0) sc_from_int.nd rfl (.inl rfl) pe_int iop_fdiv)
          (pss_one (ps_aug (i := 2) sc_from_int.nd rfl (.inl rfl) pe_int ip_add)))))
        (pss_one (ps_ret (pe_callTy call_tuple_of (by rfl) T.n_tuple (by decide +kernel) (pa_cons (pe_revL (pv 1)) pa_nil)))))), ?_⟩
      refine ⟨Nat.zero_le _, fun L hL => ?_⟩
      refine while_by (fun σ H' => ∃ m v p acc xs sg, σ = [some (.int v), some (.ref L), some (.int p), sg] ∧ v.natAbs < m ∧ 0 ≤ p ∧ nafG m v p acc = naf x ∧ Same H H' ∧ H' L = some (.lst xs) ∧ Paired (IsI K H' n) xs acc.reverse)
        (fun σ _ => match σ with | some (.int v) :: _ => v.natAbs | _ => 0) ⟨x.natAbs + 1, x, 0, [], [], none, rfl, by omega, Int.le_refl _, rfl, same_new hL, upd_same, .nil⟩ ?_
        (fun _ _ _ _ hq ⟨y, e, s, k, ek, q⟩ => ⟨y, e, s, k, ek, hq _ _ q⟩)
      rintro σ H1 ⟨m, v, p, acc, xs, sg, rfl, hm, hp, hg, s1, hL1, hx⟩
      refine ⟨_, rfl, rfl, _, rfl, ?_⟩
      obtain ⟨l, el⟩ := nafG_suf m v p acc
      have hxl : xs.length ≤ 900 := by
        have h1 := paired_len hx
        rw [hg] at el
        rw [el, List.length_append] at hl
        rw [List.length_reverse] at h1
        omega
      cases c0 : decide (v = 0) with
      | true =>
        have c0 := of_decide_eq_true c0
        rw [dec_int]
        subst c0
        refine iteF ?_
        have e : acc = naf x := by
          cases m with
          | zero => omega
          | succ m => exact hg
        rw [e] at hx
        refine ⟨_, rfl, L, xs, rfl, .inl (.inl hL1), fun R hR => ⟨R, xs.reverse, rfl, .inl ⟨.inl (.inl upd_same), fun D hD => ?_⟩⟩⟩
        have nd : D ≠ R := fun z => by rw [z, upd_same] at hD; cases hD
        have s2 : Same H1 (upd (upd H1 R (.lst xs.reverse)) D (.tup xs.reverse)) := (same_new hR).trans (same_new hD)
        refine hQ _ _ (s1.trans s2) (IsN.mk (.inl (.inl upd_same)) ?_ (by rw [List.length_reverse]; omega))
        have := paired_rev hx
        rw [List.reverse_reverse] at this
        exact items_tx (Tx.of s2) this
      | false =>
        have c0 : ¬ v = 0 := of_decide_eq_false c0
        have b : (!decide (V.int v = V.int 0)) = true := by rw [dec_int]; simpa using c0
        rw [b]
        refine iteT ?_
        obtain ⟨m, rfl⟩ : ∃ m', m = m' + 1 := ⟨m - 1, by omega⟩
        have next : ∀ (v' : Int) (acc' : Terms) (xs' : List V) (sg' : Option V) (H2 : Hp), (v' / 2).natAbs < m → (v' / 2).natAbs < v.natAbs → nafG m (v' / 2) (p + 1) acc' = naf x → Same H H2 → H2 L = some (.lst xs') → Paired (IsI K H2 n) xs' acc'.reverse →
            (∃ m2 v2 p2 acc2 xs2 sg2, [some (V.int (v' / 2)), some (V.ref L), some (V.int (p + 1)), sg'] = [some (V.int v2), some (V.ref L), some (V.int p2), sg2] ∧ v2.natAbs < m2 ∧ 0 ≤ p2 ∧ nafG m2 v2 p2 acc2 = naf x ∧ Same H H2 ∧ H2 L = some (.lst xs2) ∧ Paired (IsI K H2 n) xs2 acc2.reverse) ∧ (v' / 2).natAbs < v.natAbs := fun v' acc' xs' sg' H2 a1 a2 a4 a5 a6 a7 =>
          ⟨⟨m, v' / 2, p + 1, acc', xs', sg', rfl, a1, by omega, a4, a5, a6, a7⟩, a2⟩
        refine ⟨_, rfl, v, 2, rfl, rfl, pos2, rfl, _, rfl, ?_⟩
        refine ite2 (fun c => ?_) fun c => ?_
        · have c : v % 2 = 1 := by simpa using c
          rw [nafG_odd c0 c] at hg
          have dpp : Sr.dp n p = true := by
            obtain ⟨l, e⟩ := nafG_suf m ((v - (if v % 4 = 1 then 1 else -1)) / 2) (p + 1) ((if v % 4 = 1 then 1 else -1, p) :: acc)
            exact dp_len hd (hg.symm.trans e)
          have pl : (naf p).length ≤ 900 ∧ ∀ t ∈ naf p, 0 ≤ t.2 ∧ t.2 ≤ 900 := by
            obtain ⟨l, e⟩ := nafG_suf m ((v - (if v % 4 = 1 then 1 else -1)) / 2) (p + 1) ((if v % 4 = 1 then 1 else -1, p) :: acc)
            exact ⟨naf_short (hsub _ (by rw [← hg, e]; exact List.mem_append_right _ List.mem_cons_self)).1 (hsub _ (by rw [← hg, e]; exact List.mem_append_right _ List.mem_cons_self)).2, naf_exps (hsub _ (by rw [← hg, e]; exact List.mem_append_right _ List.mem_cons_self)).1 (hsub _ (by rw [← hg, e]; exact List.mem_append_right _ List.mem_cons_self)).2⟩
          refine ⟨_, rfl, v, 4, rfl, rfl, pos4, rfl, _, rfl, ?_⟩
          refine ite2 (fun c2 => ?_) fun c2 => ?_
          · have c2 : v % 4 = 1 := by simpa using c2
            simp only [if_pos c2] at hg
            refine ⟨_, rfl, .inl ⟨rfl, _, .inl (.inl hL1)⟩, _, rfl, _, rfl, p, rfl, dpp, pl.1, pl.2, fun H2 e s2 he => ⟨le2, fun D hD => ⟨L, xs, _, rfl, rfl, (s2.trans (same_new hD)) _ _ hL1, small1000 (by omega), ?_⟩⟩⟩
            refine ⟨_, rfl, _, rfl, v, 1, rfl, rfl, _, rfl, v - 1, 2, rfl, rfl, div2, _, rfl, p, 1, rfl, rfl, ?_⟩
            exact next (v - 1) ((1, p) :: acc) _ _ _ (by omega) (by omega) hg (same_set ((s1.trans s2).trans (same_new hD)) hL) upd_same (by
              rw [List.reverse_cons]
              exact push_item s2 hD hL1 hx he)
          · have c2 : ¬ v % 4 = 1 := by simpa using c2
            simp only [if_neg c2] at hg
            refine ⟨1, rfl, _, rfl, .inl ⟨rfl, _, .inl (.inl hL1)⟩, _, rfl, _, rfl, p, rfl, dpp, pl.1, pl.2, fun H2 e s2 he => ⟨le2, fun D hD => ⟨L, xs, _, rfl, rfl, (s2.trans (same_new hD)) _ _ hL1, small1000 (by omega), ?_⟩⟩⟩
            refine ⟨_, rfl, _, rfl, v, -1, rfl, rfl, _, rfl, v - -1, 2, rfl, rfl, div2, _, rfl, p, 1, rfl, rfl, ?_⟩
            exact next (v - -1) ((-1, p) :: acc) _ _ _ (by omega) (by omega) hg (same_set ((s1.trans s2).trans (same_new hD)) hL) upd_same (by
              rw [List.reverse_cons]
              exact push_item s2 hD hL1 hx he)
        · have c : ¬ v % 2 = 1 := by simpa using c
          rw [nafG_even c0 c] at hg
          refine ⟨_, rfl, v, 2, rfl, rfl, div2, _, rfl, p, 1, rfl, rfl, ?_⟩
          exact next v acc xs sg H1 (by omega) (by omega) hg s1 hL1 hx
end
end Sr
set_option Elab.async false
set_option linter.all false
set_option maxRecDepth 100000
set_option maxHeartbeats 4000000
/-! compare -/
namespace Sr
open PySem PySem.Spec PyProof.Rows L2

/-- a loop over zip of two tuples of any lengths -/
theorem for_zipT {K : PySem.W.Frag} {a b : Addr} {xs ys : List V} {g : TG} {tb : TS} {D : Ends} {σ : L2.St} {H : Hp} (Pv : Nat → L2.St → Hp → Prop) (h0 : Pv 0 σ H) (hq : ∀ i σ H, Pv i σ H → SqT K H a xs ∧ SqT K H b ys)
    (hs : ∀ (i : Nat) (x y : V) (T : Addr) (σ : L2.St) (H : Hp), xs[i]? = some x → ys[i]? = some y → Pv i σ H → H T = none → g (.ref T) σ (upd H T (.tup [x, y])) fun σ2 H2 => tb { D with nx := Pv (i + 1), ct := Pv (i + 1), bk := D.nx } σ2 H2)
    (hd : ∀ i σ H, i ≤ xs.length → i ≤ ys.length → (xs.length = i ∨ ys.length = i) → Pv i σ H → D.nx σ H) :
    ∃ W : Nat → Nat → L2.St → Hp → Prop, (∃ m, W 0 m σ H) ∧ ∀ i m σ H, W i m σ H →
      ((RZ.ItzT K a b).stop i H ∧ D.nx σ H) ∨ ((RZ.ItzT K a b).go i H ∧ ∃ N : L2.St → Hp → Prop, (∀ σ' H', N σ' H' → ∃ m', m' < m ∧ W (i + 1) m' σ' H') ∧ ∀ v H', (RZ.ItzT K a b).yld i H v H' → g v σ H' fun σ2 H2 => tb { D with nx := N, ct := N, bk := D.nx } σ2 H2) := by
  refine ⟨fun i m σ H => m = xs.length - i ∧ i ≤ xs.length ∧ i ≤ ys.length ∧ Pv i σ H, ⟨xs.length, rfl, Nat.zero_le _, Nat.zero_le _, h0⟩, ?_⟩
  rintro i m σ H ⟨rfl, hi, hi2, p⟩
  obtain ⟨qx, qy⟩ := hq i σ H p
  by_cases hlt : i < xs.length ∧ i < ys.length
  · obtain ⟨h1, h2⟩ := hlt
    have hx : xs[i]? = some xs[i] := List.getElem?_eq_getElem h1
    have hy : ys[i]? = some ys[i] := List.getElem?_eq_getElem h2
    refine .inr ⟨⟨xs, ys, _, _, qx, qy, hx, hy⟩, Pv (i + 1), fun σ' H' p' => ⟨xs.length - (i + 1), by omega, rfl, h1, h2, p'⟩, fun v H' y => ?_⟩
    obtain ⟨T, x, y, rfl, hT, rfl, f1, f2⟩ := y
    exact hs i x y T σ H (f1 _ qx) (f2 _ qy) p hT
  · exact .inl ⟨⟨xs, ys, qx, qy, by omega⟩, hd i σ H hi hi2 (by omega) p⟩
theorem drop_at {α : Type} {l : List α} {i : Nat} {t : α} (h : l[i]? = some t) : l.drop i = t :: l.drop (i + 1) := by
  obtain ⟨h1, h2⟩ := List.getElem?_eq_some_iff.mp h
  rw [← h2]
  exact List.drop_eq_getElem_cons h1
theorem sgn_small (x : Int) : sgn x = -1 ∨ sgn x = 0 ∨ sgn x = 1 := by
  unfold sgn
  split
  · exact .inl rfl
  · split
    · exact .inr (.inl rfl)
    · exact .inr (.inr rfl)
theorem sgn_eq0 {x : Int} (h : sgn x = 0) : x = 0 := by
  unfold sgn at h
  split at h
  · cases h
  · split at h
    · assumption
    · cases h
theorem cmul_small {a b : Int} (h : a = -1 ∨ a = 0 ∨ a = 1) : CMul a b := .inl (by
  constructor <;> rcases h with e | e | e <;> rw [e] <;> decide)

section
variable {P : Program} {w : World} {K : PySem.W.Frag} {mg : Str → Option Value} {base : Heap}
def spCmp (K : PySem.W.Frag) (n : Nat) : Sp := fun vs H Q _ => ∃ v u x y, vs = [v, u] ∧ IsN K H n v x ∧ IsN K H n u y ∧ n ≤ 30 ∧ ∀ H', Same H H' → Q (.int (sgn (x - y))) H'
theorem sc_compare : FnScope ["first", "second", "sign", "exponent", "other_sign", "other", "order"] ["first", "second"] (defScope s_compare) := ⟨rfl, rfl, rfl, by decide +kernel, rfl, by decide +kernel, by decide +kernel⟩
theorem d_compare (T : Txt K mg) : ∀ n, Df P w K mg base CX0 (n + 1) "compare" ["first", "second"] (spCmp K n)
  | 0 => by
    refine .mk' T.f_compare T.g_compare sc_compare (fun _ _ _ _ _ _ us hl => match us, hl with | [_, _], _ => rfl) (fun vs H Q E h => ?_) (fun cdv A outer s H vs Q E hr h => ?_)
    · obtain ⟨v, u, x, y, rfl, _⟩ := h
      rfl
    · obtain ⟨v, u, x, y, rfl, h, _⟩ := h
      exact h.elim
  | n + 1 => by
    have G_compare := d_compare T n
    refine .mk' T.f_compare T.g_compare sc_compare (fun _ _ _ _ _ _ us hl => match us, hl with | [_, _], _ => rfl) (fun vs H Q E h => ?_) (fun cdv A outer s H vs Q E hr h => ?_)
    · obtain ⟨v, u, x, y, rfl, _⟩ := h
      rfl
    · obtain ⟨v, u, x, y, rfl, hv, hu, hn, hQ⟩ := h
      obtain ⟨a, xs, ea, zx, qx, px⟩ := hv.open_
      obtain ⟨b, ys, eb, zy, qy, py⟩ := hu.open_
      refine ⟨_, pss_cons (ps_if (pt_cmpR (op_eqD hr.units) (pv 0) (pv 1) (nomark _)) (pss_one (ps_ret pe_int)) pss_nil)
        (pss_cons (ps_for (passes_of rfl) rfl (RZ.pi_zipA (by rfl) T.n_zip (pa_cons (pv 0) (pa_cons (pv 1) pa_nil))) (pg_tup rfl (pgs_cons (pg_tup rfl (pgs_cons (pg_name (i := 2) sc_compare.nd rfl (.inl rfl)) (pgs_cons (pg_name (i := 3) sc_compare.nd rfl (.inl rfl)) pgs_nil))) (pgs_cons (pg_tup rfl (pgs_cons (pg_name (i := 4) sc_compare.nd rfl (.inl rfl)) (pgs_cons (pg_name (i := 5) sc_compare.nd rfl (.inl rfl)) pgs_nil))) pgs_nil))) (pss_cons (ps_if (pt_cmpR op_ne (pv 2) (pv 4) (nomark _)) (pss_one (ps_ret (pv 2))) pss_nil)
          (pss_cons (ps_set (i := 6) sc_compare.nd rfl (.inl rfl) (pe_cl G_compare hr pass0 (pa_cons (pv 3) (pa_cons (pv 5) pa_nil))))
          (pss_one (ps_if (pt_cmpR op_ne (pv 6) pe_int (nomark _)) (pss_one (ps_ret (pe_op op_mul (pv 6) (pv 2)))) pss_nil)))))
        (pss_cons (ps_if (pt_cmpR op_gt (pe_callB call_len (by rfl) T.n_len PySem.boot_len (pa_cons (pv 0) pa_nil)) (pe_callB call_len (by rfl) T.n_len PySem.boot_len (pa_cons (pv 1) pa_nil)) (nomark _)) (pss_one (ps_ret (pe_ix ix_tup (pe_ix ix_tup (pv 0) (pe_callB call_len (by rfl) T.n_len PySem.boot_len (pa_cons (pv 1) pa_nil)) (fun _ _ => rfl)) pe_int (fun _ _ => rfl)))) pss_nil)
        (pss_one (ps_ret (pe_un un_neg (pe_ix ix_tup (pe_ix ix_tup (pv 1) (pe_callB call_len (by rfl) T.n_len PySem.boot_len (pa_cons (pv 0) pa_nil)) (fun _ _ => rfl)) pe_int (fun _ _ => rfl))))))), ?_⟩
      refine ⟨_, rfl, _, rfl, eqN hv hu hn ⟨_, rfl, ite2 (fun c => ?_) fun c => ?_⟩⟩
      · have c : x = y := by simpa using c
        have q := hQ H (Same.refl _)
        rw [c, Int.sub_self] at q
        exact q
      · have c : ¬ x = y := by simpa using c
        subst ea eb
        have hcmp := cmp_naf x y
        have lx := paired_len px
        have ly := paired_len py
        refine ⟨_, rfl, _, rfl, a, b, xs, ys, rfl, .inr ⟨qx, qy, for_zipT (xs := xs) (ys := ys) (fun i σ H' => ∃ y2 y3 y4 y5 y6, σ = [some (.ref a), some (.ref b), y2, y3, y4, y5, y6] ∧ Same H H' ∧ cmpL ((naf x).drop i) ((naf y).drop i) = sgn (x - y))
          ⟨none, none, none, none, none, rfl, Same.refl _, hcmp⟩ (fun i σ H' ⟨_, _, _, _, _, _, s1, _⟩ => ⟨(Tx.of s1) _ _ qx, (Tx.of s1) _ _ qy⟩) ?_ ?_⟩⟩
        · rintro i xi yi Tp σ H1 hx hy ⟨y2, y3, y4, y5, y6, rfl, s1, hc⟩ hT
          obtain ⟨t, ht, a1, e1, rfl, hb1, he1⟩ := item_at px hx
          obtain ⟨t', ht', a2, e2, rfl, hb2, he2⟩ := item_at py hy
          rw [drop_at ht, drop_at ht'] at hc
          have hc : (if t.1 ≠ t'.1 then t.1 else if t.2 ≠ t'.2 then sgn (t.2 - t'.2) * t.1 else cmpL ((naf x).drop (i + 1)) ((naf y).drop (i + 1))) = sgn (x - y) := hc
          have s2 : Same H (upd H1 Tp (.tup [.ref a1, .ref a2])) := s1.trans (same_new hT)
          have st : sgn (x - y) = sgn (x - y) := rfl
          refine ⟨Tp, [.ref a1, .ref a2], rfl, .inl (.inl upd_same), rfl, .ref a1, [.ref a2], rfl, ?_⟩
          refine ⟨a1, _, rfl, (Tx.of s2) _ _ hb1, rfl, _, _, rfl, _, _, rfl, rfl, .ref a2, [], rfl, ?_⟩
          refine ⟨a2, _, rfl, (Tx.of s2) _ _ hb2, rfl, _, _, rfl, _, _, rfl, rfl, rfl, ?_⟩
          refine ⟨_, rfl, _, rfl, rfl, _, rfl, ite2 (fun c1 => ?_) fun c1 => ?_⟩
          · have c1 : t.1 ≠ t'.1 := by simpa using c1
            rw [if_pos c1] at hc
            have q := hQ _ s2
            rw [← hc] at q
            exact ⟨_, rfl, q⟩
          · have c1 : ¬ t.1 ≠ t'.1 := by simpa using c1
            rw [if_neg c1] at hc
            refine ⟨_, rfl, _, rfl, e1, e2, t.2, t'.2, rfl, he1.tx (Tx.of s2), he2.tx (Tx.of s2), by omega, fun H2 s3 => ?_⟩
            refine ⟨_, rfl, rfl, _, rfl, ite2 (fun c2 => ?_) fun c2 => ?_⟩
            · have c2 : ¬ sgn (t.2 - t'.2) = 0 := by simpa using c2
              have c3 : t.2 ≠ t'.2 := fun z => c2 (by rw [z, Int.sub_self]; rfl)
              rw [if_pos c3] at hc
              have q := hQ _ (s2.trans s3)
              rw [← hc] at q
              exact ⟨_, rfl, _, rfl, _, _, rfl, rfl, cmul_small (sgn_small _), q⟩
            · have c2 : sgn (t.2 - t'.2) = 0 := by simpa using c2
              have c3 : ¬ t.2 ≠ t'.2 := fun z => by have := sgn_eq0 c2; omega
              rw [if_neg c3] at hc
              exact ⟨_, _, _, _, _, rfl, s2.trans s3, hc⟩
        · rintro i σ H1 hi hi2 hend ⟨y2, y3, y4, y5, y6, rfl, s1, hc⟩
          have qx1 := (Tx.of s1) _ _ qx
          have qy1 := (Tx.of s1) _ _ qy
          refine ⟨_, rfl, _, xs.length, rfl, .inr ⟨xs, qx1, rfl⟩, _, rfl, _, ys.length, rfl, .inr ⟨ys, qy1, rfl⟩, _, _, rfl, rfl, _, rfl, ite2 (fun c1 => ?_) fun c1 => ?_⟩
          · have c1 : ys.length < xs.length := by
              have c1 := of_decide_eq_true c1
              omega
            have ei : i = ys.length := by omega
            have hg : xs[ys.length]? = some xs[ys.length] := List.getElem?_eq_getElem c1
            obtain ⟨t, ht, a1, e1, ey, hb1, he1⟩ := item_at px hg
            rw [ei, drop_at ht, List.drop_of_length_le (l := naf y) (i := ys.length) (by omega)] at hc
            have hc : t.1 = sgn (x - y) := hc
            rw [ey] at hg
            have q := hQ _ s1
            rw [← hc] at q
            exact ⟨_, rfl, _, rfl, _, ys.length, rfl, .inr ⟨ys, qy1, rfl⟩, a, _, _, _, rfl, rfl, qx1, atI_nat hg, a1, _, _, _, rfl, rfl, (Tx.of s1) _ _ hb1, atI_nat rfl, q⟩
          · have c1 : ¬ ys.length < xs.length := by
              intro z
              exact c1 (decide_eq_true (by omega))
            have ei : i = xs.length := by omega
            by_cases c2 : xs.length < ys.length
            · have hg : ys[xs.length]? = some ys[xs.length] := List.getElem?_eq_getElem c2
              obtain ⟨t, ht, a1, e1, ey, hb1, he1⟩ := item_at py hg
              rw [ei, drop_at ht, List.drop_of_length_le (l := naf x) (i := xs.length) (by omega)] at hc
              have hc : -t.1 = sgn (x - y) := hc
              rw [ey] at hg
              have q := hQ _ s1
              rw [← hc] at q
              exact ⟨_, rfl, _, rfl, _, xs.length, rfl, .inr ⟨xs, qx1, rfl⟩, b, _, _, _, rfl, rfl, qy1, atI_nat hg, a1, _, _, _, rfl, rfl, (Tx.of s1) _ _ hb1, atI_nat rfl, _, rfl, q⟩
            · rw [List.drop_of_length_le (l := naf x) (i := i) (by omega), List.drop_of_length_le (l := naf y) (i := i) (by omega)] at hc
              have hc : (0 : Int) = sgn (x - y) := hc
              have := sgn_eq0 hc.symm
              omega
end
end Sr
set_option Elab.async false
set_option linter.all false
set_option maxRecDepth 100000
set_option maxHeartbeats 4000000
/-! in_order -/
namespace Sr
open PySem PySem.Spec PyProof.Rows L2

/-- pairs of a value and its number, ascending -/
def Asc (F : List (V × Int)) : Prop := F.Pairwise fun a b => a.2 < b.2
theorem asc_at {F : List (V × Int)} (h : Asc F) {i j : Nat} {a b : V × Int} (ha : F[i]? = some a) (hb : F[j]? = some b) (l : i < j) : a.2 < b.2 := by
  obtain ⟨h1, e1⟩ := List.getElem?_eq_some_iff.mp ha
  obtain ⟨h2, e2⟩ := List.getElem?_eq_some_iff.mp hb
  rw [← e1, ← e2]
  exact List.pairwise_iff_getElem.mp h i j h1 h2 l
theorem asc_ins {F : List (V × Int)} {z : V × Int} {k : Nat} (h : Asc F) (h1 : ∀ j y, F[j]? = some y → j < k → y.2 < z.2) (h2 : ∀ j y, F[j]? = some y → k ≤ j → z.2 < y.2) : Asc (F.take k ++ [z] ++ F.drop k) := by
  have a1 : ∀ y ∈ F.take k, y.2 < z.2 := fun y hy => by
    obtain ⟨j, hj⟩ := List.mem_iff_getElem?.mp hy
    rw [List.getElem?_take] at hj
    split at hj
    · exact h1 j y hj (by assumption)
    · cases hj
  have a2 : ∀ y ∈ F.drop k, z.2 < y.2 := fun y hy => by
    obtain ⟨j, hj⟩ := List.mem_iff_getElem?.mp hy
    rw [List.getElem?_drop] at hj
    exact h2 _ y hj (Nat.le_add_right _ _)
  unfold Asc
  rw [List.append_assoc, List.pairwise_append]
  refine ⟨h.sublist (List.take_sublist _ _), ?_, fun a ha b hb => ?_⟩
  · rw [List.singleton_append, List.pairwise_cons]
    exact ⟨a2, h.sublist (List.drop_sublist _ _)⟩
  · rcases List.mem_append.mp hb with q | q
    · rw [List.mem_singleton.mp q]; exact a1 a ha
    · have := a1 a ha
      have := a2 b q
      omega
theorem perm_ins {α : Type} (F : List α) (z : α) (k : Nat) : (F.take k ++ [z] ++ F.drop k).Perm (F ++ [z]) := by
  rw [List.append_assoc]
  have h1 : (F.take k ++ ([z] ++ F.drop k)).Perm (z :: (F.take k ++ F.drop k)) := List.perm_middle
  rw [List.take_append_drop] at h1
  exact h1.trans (List.perm_append_singleton z F).symm
theorem map_ins {α β : Type} (f : α → β) (F : List α) (z : α) (k : Nat) : (F.take k ++ [z] ++ F.drop k).map f = (F.map f).take k ++ [f z] ++ (F.map f).drop k := by
  rw [List.map_append, List.map_append, List.map_take, List.map_drop]; rfl

theorem atI_eq {α : Type} {xs : List α} {i : Int} {j : Nat} {v : α} (e : i = j) (h : xs[j]? = some v) : atI xs i = some v := by rw [e]; exact atI_nat h
section
variable {P : Program} {w : World} {K : PySem.W.Frag} {mg : Str → Option Value} {base : Heap}
def spOrder (K : PySem.W.Frag) (n : Nat) : Sp := fun vs H Q _ => ∃ l zs, vs = [.ref l] ∧ H l = some (.lst (zs.map (·.1))) ∧ (zs.map (·.2)).Nodup ∧ zs.length ≤ 900 ∧ n ≤ 30 ∧ (zs.length ≤ 1 ∨ ∀ z ∈ zs, IsN K H n z.1 z.2) ∧
  ∀ H' p F, Same H H' → H p = none → H' p = some (.lst (F.map (·.1))) → F.Perm zs → Asc F → Q (.ref p) H'
theorem sc_in_order : FnScope ["numbers", "found", "number", "low", "high", "middle"] ["numbers"] (defScope s_in_order) := ⟨rfl, rfl, rfl, by decide +kernel, rfl, by decide +kernel, by decide +kernel⟩
theorem d_in_order (T : Txt K mg) (n : Nat) : Df P w K mg base CX0 (n + 2) "in_order" ["numbers"] (spOrder K n) := by
  have G_compare := d_compare (P := P) (w := w) (base := base) T n
  refine .mk' T.f_in_order T.g_in_order sc_in_order (fun _ _ _ _ _ _ us hl => match us, hl with | [_], _ => rfl) (fun vs H Q E h => ?_) (fun cdv A outer s H vs Q E hr h => ?_)
  · obtain ⟨l, zs, rfl, _⟩ := h
    rfl
  · obtain ⟨l, zs, rfl, hl, nd, hz, hn, hI, hQ⟩ := h
    refine ⟨_, pss_cons (ps_set (i := 1) sc_in_order.nd rfl (.inl rfl) (pe_lst pa_nil))
      (pss_cons (ps_for (passes_of rfl) rfl (pi_list (pv 0)) (pg_name (i := 2) sc_in_order.nd rfl (.inl rfl)) (pss_cons (ps_set (i := 3) sc_in_order.nd rfl (.inl rfl) pe_int)
        (pss_cons (ps_set (i := 4) sc_in_order.nd rfl (.inl rfl) (pe_callB call_len (by rfl) T.n_len PySem.boot_len (pa_cons (pv 1) pa_nil)))
        (pss_cons (ps_while (passes_of rfl) (pt_cmpR op_lt (pv 3) (pv 4) (nomark _)) (pss_cons (ps_set (i := 5) sc_in_order.nd rfl (.inl rfl) (pe_op op_fdiv (pe_op op_add (pv 3) (pv 4)) pe_int))
          (pss_one (ps_if (pt_cmpR op_lt (pe_cl G_compare hr pass0 (pa_cons (pe_ix ix_list (pv 1) (pv 5) (fun _ _ => rfl)) (pa_cons (pv 2) pa_nil))) pe_int (nomark _)) (pss_one (ps_set (i := 3) sc_in_order.nd rfl (.inl rfl) (pe_op op_add (pv 5) pe_int))) (pss_one (ps_set (i := 4) sc_in_order.nd rfl (.inl rfl) (pv 5)))))))
        (pss_one (ps_expr (pe_bm PySem.F.plainAttrs_list PySem.F.slot_list_insert PySem.F.type_list_insert mt_insert (pv 1) (pa_cons (pv 3) (pa_cons (pv 2) pa_nil)))))))))
      (pss_one (ps_ret (pv 1)))), ?_⟩
    refine ⟨Nat.zero_le _, fun p hp => ?_⟩
    have npl : l ≠ p := ne_of_none hl hp
    refine ⟨_, rfl, l, rfl, ⟨zs.map (·.1), .inl (.inl ((same_new hp) _ _ hl))⟩, for_list (xs := zs.map (·.1)) (fun i σ H' => ∃ F y2 y3 y4 y5, σ = [some (.ref l), some (.ref p), y2, y3, y4, y5] ∧ Same H H' ∧ H' p = some (.lst (F.map (·.1))) ∧ Asc F ∧ F.Perm (zs.take i))
      ⟨[], none, none, none, none, rfl, same_new hp, upd_same, .nil, .refl _⟩ (fun i σ H' _ ⟨_, _, _, _, _, _, s1, _⟩ => .inl (.inl (s1 _ _ hl))) ?_ ?_⟩
    · rintro i x σ H1 hx ⟨F, y2, y3, y4, y5, rfl, s1, hpF, asc, perm⟩
      rw [List.getElem?_map] at hx
      obtain ⟨z, hz1, rfl⟩ : ∃ z, zs[i]? = some z ∧ z.1 = x := by
        cases e : zs[i]? with
        | none => rw [e] at hx; cases hx
        | some z => rw [e] at hx; exact ⟨z, rfl, Option.some.inj hx⟩
      have hlt : i < zs.length := (List.getElem?_eq_some_iff.mp hz1).1
      have lenF : F.length = i := by rw [perm.length_eq, List.length_take]; omega
      have ne : ∀ y ∈ F, y.2 ≠ z.2 := fun y hy e => by
        obtain ⟨j, hj⟩ := List.mem_iff_getElem?.mp (perm.mem_iff.mp hy)
        rw [List.getElem?_take] at hj
        split at hj
        · have := nd_ix nd (i := j) (j := i) (x := z.2) (by rw [List.getElem?_map, hj, ← e]; rfl) (by rw [List.getElem?_map, hz1]; rfl)
          omega
        · cases hj
      have hzm : z ∈ zs := List.mem_of_getElem? hz1
      have hFm : ∀ y ∈ F, y ∈ zs := fun y hy => List.mem_of_mem_take (perm.mem_iff.mp hy)
      have lenFm : (F.map (·.1)).length = F.length := List.length_map _
      refine ⟨_, rfl, _, (F.map (·.1)).length, rfl, .inl ⟨_, .inl (.inl hpF), rfl⟩, ?_⟩
      refine while_by (fun σ H' => ∃ lo hi : Nat, ∃ y5, σ = [some (.ref l), some (.ref p), some z.1, some (.int lo), some (.int hi), y5] ∧ Same H H' ∧ H' p = some (.lst (F.map (·.1))) ∧ lo ≤ hi ∧ hi ≤ F.length ∧
          (∀ j y, F[j]? = some y → j < lo → y.2 < z.2) ∧ (∀ j y, F[j]? = some y → hi ≤ j → z.2 < y.2))
        (fun σ _ => match σ with | [_, _, _, some (.int lo), some (.int hi), _] => (hi - lo).toNat | _ => 0) ⟨0, F.length, y5, by rw [lenFm]; rfl, s1, hpF, Nat.zero_le _, Nat.le_refl _, fun _ _ _ h => absurd h (Nat.not_lt_zero _), fun j y h h2 => by
          have := (List.getElem?_eq_some_iff.mp h).1
          omega⟩ ?_ (fun _ _ _ _ hq ⟨y, e, u, e2, i, j, e3, e4, k, ek, q⟩ => ⟨y, e, u, e2, i, j, e3, e4, k, ek, hq _ _ q⟩)
      rintro σ H2 ⟨lo, hi, y5', rfl, s2, hpF2, hlh, hhF, b1, b2⟩
      refine ⟨_, rfl, _, rfl, _, _, rfl, rfl, _, rfl, ite2 (fun c => ?_) fun c => ?_⟩
      · have c : lo < hi := by have := of_decide_eq_true c; omega
        have hm : ((lo : Int) + hi) / 2 = ((lo + hi) / 2 : Nat) := by omega
        have hmF : (lo + hi) / 2 < F.length := by omega
        have hg : F[(lo + hi) / 2]? = some F[(lo + hi) / 2] := List.getElem?_eq_getElem hmF
        generalize F[(lo + hi) / 2] = ym at hg
        have hI2 : ∀ z ∈ zs, IsN K H n z.1 z.2 := by
          rcases hI with q | q
          · omega
          · exact q
        have ymm := hFm ym (List.mem_of_getElem? hg)
        refine ⟨_, rfl, _, rfl, _, _, rfl, rfl, _, 2, rfl, rfl, div2, ?_⟩
        refine ⟨_, rfl, _, rfl, p, _, _, ym.1, rfl, rfl, .inl (.inl hpF2), atI_eq hm (by rw [List.getElem?_map, hg]; rfl), _, rfl, ym.1, z.1, ym.2, z.2, rfl, (hI2 _ ymm).tx (Tx.of s2), (hI2 _ hzm).tx (Tx.of s2), hn, fun H3 s3 => ?_⟩
        refine ⟨_, _, rfl, rfl, _, rfl, ite2 (fun c2 => ?_) fun c2 => ?_⟩
        · have c2 : ym.2 < z.2 := by
            have c2 := of_decide_eq_true c2
            unfold sgn at c2
            split at c2
            · omega
            · split at c2 <;> cases c2
          refine ⟨_, rfl, _, _, rfl, rfl, ⟨(lo + hi) / 2 + 1, hi, some (.int (((lo : Int) + hi) / 2)), congrArg (fun i : Int => [some (V.ref l), some (V.ref p), some z.1, some (V.int i), some (V.int hi), some (V.int (((lo : Int) + hi) / 2))]) (show ((lo : Int) + hi) / 2 + 1 = (((lo + hi) / 2 + 1 : Nat) : Int) by omega), s2.trans s3, s3 _ _ hpF2, by omega, hhF, fun j y hj hl => ?_, b2⟩, ?_⟩
          · by_cases e : j = (lo + hi) / 2
            · rw [e, hg] at hj
              cases hj
              exact c2
            · have := asc_at asc hj hg (by omega)
              omega
          · show ((hi : Int) - (((lo : Int) + hi) / 2 + 1)).toNat < ((hi : Int) - lo).toNat
            omega
        · have c2 : ¬ ym.2 < z.2 := fun h => c2 (decide_eq_true (by rw [sgn_neg (by omega)]; decide))
          have c3 := ne ym (List.mem_of_getElem? hg)
          refine ⟨_, rfl, ⟨lo, (lo + hi) / 2, some (.int (((lo : Int) + hi) / 2)), congrArg (fun i : Int => [some (V.ref l), some (V.ref p), some z.1, some (V.int lo), some (V.int i), some (V.int (((lo : Int) + hi) / 2))]) hm, s2.trans s3, s3 _ _ hpF2, by omega, by omega, b1, fun j y hj hl => ?_⟩, ?_⟩
          · by_cases e : j = (lo + hi) / 2
            · rw [e, hg] at hj
              cases hj
              omega
            · have := asc_at asc hg hj (by omega)
              omega
          · show (((lo : Int) + hi) / 2 - lo).toNat < ((hi : Int) - lo).toNat
            omega
      · have c : ¬ lo < hi := fun h => c (decide_eq_true (by omega))
        have e : lo = hi := by omega
        subst e
        refine ⟨_, rfl, .inl ⟨rfl, _, .inl (.inl hpF2)⟩, _, rfl, _, rfl, p, _, _, _, rfl, rfl, hpF2, small1000 (by rw [lenFm]; omega), by omega, by omega, ?_⟩
        refine ⟨F.take lo ++ [z] ++ F.drop lo, _, _, _, _, rfl, same_set s2 hp, ?_, asc_ins asc b1 b2, ?_⟩
        · rw [upd_same, map_ins]; rfl
        · rw [take_next hz1]
          exact (perm_ins F z lo).trans (perm.append_right _)
    · rintro σ H1 ⟨F, y2, y3, y4, y5, rfl, s1, hpF, asc, perm⟩
      rw [List.length_map, List.take_length] at perm
      exact ⟨_, rfl, hQ H1 p F s1 hp hpF perm asc⟩
end
end Sr
/-! The gathering of counts: plain Lean. -/
set_option maxRecDepth 10000
namespace Sr
/-- what waits, seen from the place q -/
def tot (cnt : Int → Int) (q : Int) : List Int → Int
  | [] => 0
  | w :: r => cnt w * p2 (w - q) + tot cnt q r
def absI (x : Int) : Int := if x < 0 then -x else x
def sumC (cnt : Int → Int) : List Int → Int
  | [] => 0
  | w :: r => absI (cnt w) + sumC cnt r
theorem absI_nn (x : Int) : 0 ≤ absI x := by unfold absI; split <;> omega
theorem sumC_nn (cnt : Int → Int) : ∀ l, 0 ≤ sumC cnt l
  | [] => Int.le_refl _
  | w :: r => by
    have := absI_nn (cnt w)
    have := sumC_nn cnt r
    show 0 ≤ absI (cnt w) + sumC cnt r
    omega
theorem tot_up {cnt : Int → Int} {q d : Int} (hd : 0 ≤ d) : ∀ {l : List Int}, (∀ w ∈ l, q + d ≤ w) → tot cnt q l = tot cnt (q + d) l * p2 d
  | [], _ => by show (0 : Int) = 0 * p2 d; omega
  | w :: r, h => by
    have h1 := h w List.mem_cons_self
    show cnt w * p2 (w - q) + tot cnt q r = (cnt w * p2 (w - (q + d)) + tot cnt (q + d) r) * p2 d
    rw [tot_up hd fun x hx => h x (List.mem_cons_of_mem _ hx), Int.add_mul, Int.mul_assoc, ← p2_add (by omega) hd, show w - (q + d) + d = w - q by omega]
theorem tot_one {cnt : Int → Int} {q : Int} {l : List Int} (h : ∀ w ∈ l, q < w) : tot cnt q l = 2 * tot cnt (q + 1) l := by
  rw [tot_up (q := q) (d := 1) (by decide) fun w hw => by have := h w hw; omega]
  show tot cnt (q + 1) l * 2 = _
  omega
/-- what the next place tells of the rest by 4 -/
def nxt (cnt : Int → Int) (c e : Int) : List Int → Int
  | [] => c
  | w :: _ => if w = e + 1 then c + 2 * cnt w else c
theorem tot_four {cnt : Int → Int} {c e : Int} {l : List Int} (h : ∀ w ∈ l, e < w) (s : l.Pairwise (· < ·)) : ∃ k, c + tot cnt e l = nxt cnt c e l + 4 * k := by
  cases l with
  | nil => exact ⟨0, by show c + 0 = c + 4 * 0; omega⟩
  | cons w r =>
    rw [List.pairwise_cons] at s
    have h1 := h w List.mem_cons_self
    show ∃ k, c + (cnt w * p2 (w - e) + tot cnt e r) = (if w = e + 1 then c + 2 * cnt w else c) + 4 * k
    rw [tot_up (q := e) (d := 2) (by decide) (l := r) fun x hx => by have := s.1 x hx; omega]
    rw [show p2 2 = 4 from rfl]
    by_cases e1 : w = e + 1
    · rw [if_pos e1, e1, show e + 1 - e = 1 by omega, show p2 1 = 2 from rfl]
      exact ⟨tot cnt (e + 2) r, by omega⟩
    · rw [if_neg e1, show w - e = (w - e - 2) + 2 by omega, p2_two (by omega)]
      refine ⟨cnt w * p2 (w - e - 2) + tot cnt (e + 2) r, ?_⟩
      rw [← Int.mul_assoc, Int.mul_comm (cnt w) 4, Int.mul_assoc]
      omega

section
variable (cnt : Int → Int) (es : List Int) (S C B : Int)
/-- at the head of the loop -/
structure GI (c e : Int) (ws : List Int) (acc : Terms) : Prop where
  ex : ∃ q, 0 ≤ q ∧ (c ≠ 0 → q = e) ∧ (∀ w ∈ ws, q ≤ w) ∧ Nf (q - 1) acc ∧ ((c + tot cnt q ws) % 2 = 1 → Nf (q - 2) acc) ∧ val acc + (c + tot cnt q ws) * p2 q = S
  e0 : 0 ≤ e
  asc : ws.Pairwise (· < ·)
  sum : absI c + sumC cnt ws ≤ C
  len : c ≠ 0 → ws.length < es.length
  top : es.length ≤ 1 ∨ ∀ w ∈ ws, w ≤ B + 1
  last : ws = [] → c ≠ 0 → ∃ M, M ∈ es ∧ M ≤ e ∧ (absI c - 1) * p2 (e - M) ≤ C - 1
  mem : ∀ w ∈ ws, w ∈ es
  le : ws.length ≤ es.length
/-- behind the taking -/
structure GM (c e : Int) (ws : List Int) (acc : Terms) : Prop where
  above : ∀ w ∈ ws, e < w
  nf : Nf (e - 1) acc
  odd : (c + tot cnt e ws) % 2 = 1 → Nf (e - 2) acc
  val : val acc + (c + tot cnt e ws) * p2 e = S
  e0 : 0 ≤ e
  asc : ws.Pairwise (· < ·)
  sum : absI c + sumC cnt ws ≤ C
  len : ws.length < es.length
  top : es.length ≤ 1 ∨ ∀ w ∈ ws, w ≤ B + 1
  last : ws = [] → ∃ M, M ∈ es ∧ M ≤ e ∧ (absI c - 1) * p2 (e - M) ≤ C - 1
  mem : ∀ w ∈ ws, w ∈ es
/-- behind the term -/
structure GX (c e : Int) (ws : List Int) (acc : Terms) : Prop where
  above : ∀ w ∈ ws, e < w
  even : c % 2 = 0
  nf : Nf e acc
  odd : (c / 2 + tot cnt (e + 1) ws) % 2 = 1 → Nf (e - 1) acc
  val : val acc + (c + tot cnt e ws) * p2 e = S
  e0 : 0 ≤ e
  asc : ws.Pairwise (· < ·)
  sum : absI (c / 2) + sumC cnt ws ≤ C
  len : ws.length < es.length
  top : es.length ≤ 1 ∨ ∀ w ∈ ws, w ≤ B + 1
  last : ws = [] → c ≠ 0 → e ≤ B ∧ ∃ M, M ∈ es ∧ M ≤ e ∧ (absI (c / 2) - 1) * p2 (e + 1 - M) ≤ C - 1
  mem : ∀ w ∈ ws, w ∈ es
end
section
variable {cnt : Int → Int} {es : List Int} {S C B : Int} {c e w : Int} {ws : List Int} {acc : Terms}
theorem GI.start (h0 : ∀ w ∈ ws, 0 ≤ w) (asc : ws.Pairwise (· < ·)) (hS : tot cnt 0 ws = S) (hC : sumC cnt ws ≤ C) (top : ws.length ≤ 1 ∨ ∀ w ∈ ws, w ≤ B + 1) : GI cnt ws S C B 0 0 ws [] where
  ex := ⟨0, Int.le_refl _, fun _ => rfl, h0, trivial, fun _ => trivial, by show 0 + (0 + tot cnt 0 ws) * 1 = S; omega⟩
  e0 := Int.le_refl _
  asc := asc
  sum := by show 0 + sumC cnt ws ≤ C; omega
  len := fun h => absurd rfl h
  top := top
  last := fun _ h => absurd rfl h
  mem := fun _ h => h
  le := Nat.le_refl _
theorem GI.pop (g : GI cnt es S C B c e (w :: ws) acc) (h : c = 0 ∨ w = e) : GM cnt es S C B (c + cnt w) w ws acc := by
  obtain ⟨q, q0, q1, q2, q3, q4, q5⟩ := g.ex
  have asc := g.asc
  rw [List.pairwise_cons] at asc
  have hw := q2 w List.mem_cons_self
  have hs : absI (c + cnt w) + sumC cnt ws ≤ C := by
    have := g.sum
    have this : absI c + (absI (cnt w) + sumC cnt ws) ≤ C := this
    unfold absI at this ⊢
    split <;> split at this <;> split at this <;> omega
  have et : tot cnt q (w :: ws) = tot cnt w (w :: ws) * p2 (w - q) := by
    have := tot_up (cnt := cnt) (q := q) (d := w - q) (by omega) (l := w :: ws) fun x hx => by
      rcases List.mem_cons.mp hx with z | z
      · omega
      · have := asc.1 x z; omega
    rw [show q + (w - q) = w by omega] at this
    exact this
  have e1 : tot cnt w (w :: ws) = cnt w + tot cnt w ws := by
    show cnt w * p2 (w - w) + tot cnt w ws = _
    rw [Int.sub_self, p2_zero]; omega
  rw [e1] at et
  have key : c + tot cnt q (w :: ws) = (c + cnt w + tot cnt w ws) * p2 (w - q) := by
    by_cases hc : c = 0
    · rw [et, hc, Int.zero_add, Int.zero_add]
    · have hq : w - q = 0 := by
        have := q1 hc
        rcases h with z | z
        · exact absurd z hc
        · omega
      rw [et, hq, p2_zero]; omega
  refine ⟨asc.1, q3.mono (by omega), fun ho => ?_, ?_, by omega, asc.2, hs, ?_, ?_, fun hn => ?_, fun x hx => g.mem x (List.mem_cons_of_mem _ hx)⟩
  · by_cases hq : w = q
    · subst hq
      rw [key, Int.sub_self, p2_zero, Int.mul_one] at q4
      exact q4 ho
    · exact q3.mono (by omega)
  · rw [key, Int.mul_assoc, ← p2_add (by omega) q0, show w - q + q = w by omega] at q5
    exact q5
  · have := g.le
    rw [List.length_cons] at this
    omega
  · exact g.top.imp_right fun h x hx => h x (List.mem_cons_of_mem _ hx)
  · refine ⟨w, g.mem w List.mem_cons_self, Int.le_refl _, ?_⟩
    rw [Int.sub_self, p2_zero, Int.mul_one]
    have := sumC_nn cnt ws
    omega
theorem GI.stay (g : GI cnt es S C B c e ws acc) (hc : c ≠ 0) (h : ∀ w, ws.head? = some w → w ≠ e) : GM cnt es S C B c e ws acc := by
  obtain ⟨q, q0, q1, q2, q3, q4, q5⟩ := g.ex
  obtain rfl := q1 hc
  refine ⟨fun x hx => ?_, q3, q4, q5, q0, g.asc, g.sum, g.len hc, g.top, fun hn => g.last hn hc, g.mem⟩
  cases ws with
  | nil => exact nomatch hx
  | cons w r =>
    have h1 := h w rfl
    have h2 := q2 w List.mem_cons_self
    have asc := g.asc
    rw [List.pairwise_cons] at asc
    rcases List.mem_cons.mp hx with z | z
    · omega
    · have := asc.1 x z; omega
/-- what a place that asks for the next one is bounded by -/
theorem GM.bound (g : GM cnt es S C B c e ws acc) (h : ws ≠ []) : e ≤ B ∧ ∀ w ∈ ws, w ≤ B + 1 := by
  cases ws with
  | nil => exact absurd rfl h
  | cons w r =>
    have h1 := g.above w List.mem_cons_self
    have h2 := g.len
    rw [List.length_cons] at h2
    rcases g.top with z | z
    · omega
    · have := z w List.mem_cons_self
      exact ⟨by omega, z⟩
theorem half_last {c d f M C : Int} (hd : absI d ≤ absI c + 1) (he : d % 2 = 0) (hM : M ≤ f) (h : (absI c - 1) * p2 (f - M) ≤ C - 1) : (absI (d / 2) - 1) * p2 (f + 1 - M) ≤ C - 1 := by
  have e1 : p2 (f + 1 - M) = 2 * p2 (f - M) := by
    rw [show f + 1 - M = (f - M) + 1 by omega]; exact p2_succ (by omega)
  have pp := p2_pos (f - M)
  rw [e1, ← Int.mul_assoc]
  have h2 : (absI (d / 2) - 1) * 2 ≤ absI c - 1 := by
    unfold absI at hd ⊢
    split <;> split at hd <;> omega
  exact Int.le_trans (Int.mul_le_mul_of_nonneg_right h2 (Int.le_of_lt pp)) h
theorem GM.even (g : GM cnt es S C B c e ws acc) (hc : c % 2 = 0) (hB : ∀ k, 0 ≤ k → p2 k ≤ C - 1 → ∀ w ∈ es, w + k ≤ B) : GX cnt es S C B c e ws acc := by
  have ht := tot_one (cnt := cnt) g.above
  refine ⟨g.above, hc, g.nf.mono (by omega), fun _ => g.nf, g.val, g.e0, g.asc, ?_, g.len, g.top, fun hn h0 => ?_, g.mem⟩
  · have := g.sum
    unfold absI at this ⊢
    split <;> split at this <;> omega
  · obtain ⟨M, m1, m2, m3⟩ := g.last hn
    refine ⟨?_, M, m1, m2, half_last (c := c) (by omega) hc m2 m3⟩
    have pp := p2_pos (e - M)
    have h1 : 1 ≤ absI c - 1 := by unfold absI; split <;> omega
    have := Int.mul_le_mul_of_nonneg_right h1 (Int.le_of_lt pp)
    have := hB (e - M) (by omega) (by omega) M m1
    omega
theorem GM.odd' (g : GM cnt es S C B c e ws acc) (hc : c % 2 = 1) (hB : ∀ k, 0 ≤ k → p2 k ≤ C - 1 → ∀ w ∈ es, w + k ≤ B) {s : Int} (hs : s = if nxt cnt c e ws % 4 = 1 then 1 else -1) :
    GX cnt es S C B (c - s) e ws ((s, e) :: acc) := by
  have ht := tot_one (cnt := cnt) g.above
  obtain ⟨k, hk⟩ := tot_four (cnt := cnt) (c := c) g.above g.asc
  have hs2 : s = 1 ∨ s = -1 := by rw [hs]; split <;> simp
  have ho : (c + tot cnt e ws) % 2 = 1 := by omega
  have h4 : (c + tot cnt e ws - s) % 4 = 0 := by
    rw [hk, hs]
    have : nxt cnt c e ws % 2 = 1 := by omega
    split <;> omega
  refine ⟨g.above, by omega, ⟨hs2, g.e0, Int.le_refl _, g.odd ho⟩, fun h => ?_, ?_, g.e0, g.asc, ?_, g.len, g.top, fun hn h0 => ?_, g.mem⟩
  · exfalso; omega
  · rw [← g.val]
    show s * p2 e + Sr.val acc + (c - s + tot cnt e ws) * p2 e = _
    rw [show c - s + tot cnt e ws = (c + tot cnt e ws) - s by omega, Int.sub_mul]; omega
  · have := g.sum
    unfold absI at this ⊢
    split <;> split at this <;> omega
  · obtain ⟨M, m1, m2, m3⟩ := g.last hn
    refine ⟨?_, M, m1, m2, half_last (c := c) (by unfold absI; split <;> split <;> omega) (by omega) m2 m3⟩
    have pp := p2_pos (e - M)
    have h1 : 1 ≤ absI c - 1 := by
      subst hn
      have hs : s = if c % 4 = 1 then 1 else -1 := hs
      unfold absI
      split at hs <;> split <;> omega
    have := Int.mul_le_mul_of_nonneg_right h1 (Int.le_of_lt pp)
    have := hB (e - M) (by omega) (by omega) M m1
    omega
theorem GX.bound (g : GX cnt es S C B c e ws acc) (hc : c ≠ 0) : e ≤ B := by
  cases ws with
  | nil => exact (g.last rfl hc).1
  | cons w r =>
    have h1 := g.above w List.mem_cons_self
    have h2 := g.len
    rw [List.length_cons] at h2
    rcases g.top with z | z
    · omega
    · have := z w List.mem_cons_self
      omega
theorem GX.val2 (g : GX cnt es S C B c e ws acc) : Sr.val acc + (c / 2 + tot cnt (e + 1) ws) * p2 (e + 1) = S := by
  rw [← g.val, p2_succ g.e0, tot_one g.above, ← Int.mul_assoc]
  congr 2
  have := g.even
  omega
theorem GX.next (g : GX cnt es S C B c e ws acc) (hc : c ≠ 0) : GI cnt es S C B (c / 2) (e + 1) ws acc :=
  ⟨⟨e + 1, by have := g.e0; omega, fun _ => rfl, fun w hw => by have := g.above w hw; omega, g.nf.mono (by omega), fun h => (g.odd h).mono (by omega), g.val2⟩, by have := g.e0; omega, g.asc, g.sum, fun _ => g.len, g.top,
    fun hn _ => let ⟨_, M, m1, m2, m3⟩ := g.last hn hc; ⟨M, m1, by omega, m3⟩, g.mem, Nat.le_of_lt g.len⟩
theorem GX.zero (g : GX cnt es S C B c e ws acc) (hc : c = 0) : GI cnt es S C B c e ws acc := by
  subst hc
  have v := g.val2
  have h0 : (0 : Int) / 2 = 0 := rfl
  have s := g.sum
  have o := g.odd
  rw [h0] at v s o
  exact ⟨⟨e + 1, by have := g.e0; omega, fun h => absurd rfl h, fun w hw => by have := g.above w hw; omega, g.nf.mono (by omega), fun h => (o h).mono (by omega), v⟩, g.e0, g.asc, s, fun h => absurd rfl h, g.top, fun _ h => absurd rfl h, g.mem, Nat.le_of_lt g.len⟩
theorem GI.done (g : GI cnt es S C B 0 e [] acc) : acc = naf S := by
  obtain ⟨q, _, _, _, q3, _, q5⟩ := g.ex
  have h : Sr.val acc = S := by
    rw [← q5]
    show _ = Sr.val acc + (0 + 0) * p2 q
    omega
  obtain ⟨b, hb⟩ := naf_nf S
  exact nf_one q3 hb (by rw [h, val_naf])
/-! the measure -/
def gmu (cnt : Int → Int) (c e : Int) (ws : List Int) : Int := sumC cnt ws + 2 * ws.length + absI c + (if ws.head? = some e then 0 else 1)
theorem gmu_nn (cnt : Int → Int) (c e : Int) (ws : List Int) : 0 ≤ gmu cnt c e ws := by
  unfold gmu
  have := sumC_nn cnt ws
  have := absI_nn c
  split <;> omega
theorem gmu_pop {d : Int} {f : Int} (hd : absI d ≤ absI (c + cnt w)) : gmu cnt d f ws < gmu cnt c e (w :: ws) := by
  unfold gmu
  rw [List.length_cons]
  have : absI (c + cnt w) ≤ absI c + absI (cnt w) := by unfold absI; split <;> split <;> split <;> omega
  show _ < absI (cnt w) + sumC cnt ws + _ + _ + _
  split <;> split <;> omega
theorem half_le {s : Int} (h : c % 2 = 0 ∧ s = 0 ∨ c % 2 = 1 ∧ (s = 1 ∨ s = -1)) : absI ((c - s) / 2) ≤ absI c := by
  unfold absI
  split <;> split <;> omega
theorem gmu_stay {s : Int} (hc : c ≠ 0) (h : c % 2 = 0 ∧ s = 0 ∨ c % 2 = 1 ∧ s = (if nxt cnt c e ws % 4 = 1 then 1 else -1)) (hh : ws.head? ≠ some e) :
    gmu cnt ((c - s) / 2) (if c - s = 0 then e else e + 1) ws < gmu cnt c e ws := by
  unfold gmu
  rw [if_neg hh]
  rcases h with ⟨h1, h2⟩ | ⟨h1, h2⟩
  · have : absI ((c - s) / 2) < absI c := by unfold absI; split <;> split <;> omega
    split <;> omega
  · by_cases hb : absI ((c - s) / 2) < absI c
    · split <;> omega
    · have hs : s = 1 ∨ s = -1 := by rw [h2]; split <;> simp
      have h3 : c - s = 2 ∧ c = 1 ∨ c - s = -2 ∧ c = -1 := by
        unfold absI at hb
        split at hb <;> split at hb <;> omega
      have h4 : absI ((c - s) / 2) ≤ absI c := half_le (.inr ⟨h1, hs⟩)
      have h5 : ws.head? = some (e + 1) := by
        cases ws with
        | nil =>
          have h2 : s = if c % 4 = 1 then 1 else -1 := h2
          split at h2 <;> omega
        | cons w r =>
          have h2 : s = if (if w = e + 1 then c + 2 * cnt w else c) % 4 = 1 then 1 else -1 := h2
          by_cases hw : w = e + 1
          · rw [hw]; rfl
          · rw [if_neg hw] at h2
            split at h2 <;> omega
      rw [if_neg (show ¬ c - s = 0 by omega), if_pos h5]
      omega
end
end Sr
set_option Elab.async false
set_option linter.all false
set_option maxRecDepth 100000
set_option maxHeartbeats 4000000
/-! Counting the exponents. -/
namespace Sr
open PySem PySem.Spec PyProof.Rows L2

/-- a sum over the entries -/
def sumG (g : Int → Int → Int) : List Ent → Int
  | [] => 0
  | q :: r => g q.1 q.2.2 + sumG g r
theorem sumG_app (g : Int → Int → Int) : ∀ (l m : List Ent), sumG g (l ++ m) = sumG g l + sumG g m
  | [], m => by show sumG g m = 0 + sumG g m; omega
  | q :: r, m => by
    show g q.1 q.2.2 + sumG g (r ++ m) = g q.1 q.2.2 + sumG g r + sumG g m
    rw [sumG_app g r m]; omega
theorem map_off {e v : Int} : ∀ {xs : List Ent}, hasD xs e = false → xs.map (fun p => if p.1 = e then (p.1, p.2.1, v) else p) = xs
  | [], _ => rfl
  | q :: r, h => by
    have h : (decide (q.1 = e) || hasD r e) = false := h
    rw [Bool.or_eq_false_iff] at h
    rw [List.map_cons, map_off h.2, if_neg (of_decide_eq_false h.1)]
theorem has_mem {xs : List Ent} {e : Int} : hasD xs e = true ↔ e ∈ xs.map (·.1) := by
  unfold hasD
  rw [List.any_eq_true, List.mem_map]
  constructor
  · rintro ⟨p, h1, h2⟩; exact ⟨p, h1, of_decide_eq_true h2⟩
  · rintro ⟨p, h1, h2⟩; exact ⟨p, h1, decide_eq_true h2⟩
theorem sumG_upd {g : Int → Int → Int} {e v : Int} : ∀ {xs : List Ent}, (xs.map (·.1)).Nodup → hasD xs e = true → sumG g (xs.map fun p => if p.1 = e then (p.1, p.2.1, v) else p) = sumG g xs - g e (lkD xs e) + g e v
  | [], _, h => nomatch h
  | q :: r, nd, h => by
    rw [List.map_cons, List.nodup_cons] at nd
    by_cases c : q.1 = e
    · have hr : hasD r e = false := by
        cases z : hasD r e with
        | false => rfl
        | true => rw [← c] at z; exact absurd (has_mem.mp z) nd.1
      have hl : lkD (q :: r) e = q.2.2 := by
        unfold lkD
        rw [List.find?_cons, decide_eq_true c]; rfl
      rw [List.map_cons, map_off hr, if_pos c, hl]
      show g q.1 v + sumG g r = g q.1 q.2.2 + sumG g r - g e q.2.2 + g e v
      rw [c]; omega
    · have hr : hasD r e = true := by
        have h : (decide (q.1 = e) || hasD r e) = true := h
        rw [decide_eq_false c, Bool.false_or] at h
        exact h
      have hl : lkD (q :: r) e = lkD r e := by
        unfold lkD
        rw [List.find?_cons, decide_eq_false c]
      rw [List.map_cons, if_neg c, hl]
      show g q.1 q.2.2 + sumG g _ = g q.1 q.2.2 + sumG g r - _ + _
      rw [sumG_upd nd.2 hr]; omega
theorem sumG_st {g : Int → Int → Int} {xs : List Ent} {e : Int} {a : Addr} {v : Int} (nd : (xs.map (·.1)).Nodup) (g0 : g e 0 = 0) : sumG g (stD xs e a v) = sumG g xs - g e (lkD xs e) + g e v := by
  unfold stD
  cases h : hasD xs e with
  | true => rw [if_pos rfl]; exact sumG_upd nd h
  | false =>
    rw [if_neg Bool.false_ne_true, sumG_app, lkD_no h, g0]
    show _ + (g e v + 0) = _
    omega
theorem keys_st {xs : List Ent} {e : Int} {a : Addr} {v : Int} : (stD xs e a v).map (·.1) = if hasD xs e = true then xs.map (·.1) else xs.map (·.1) ++ [e] := by
  unfold stD
  cases h : hasD xs e with
  | true =>
    rw [if_pos rfl, if_pos rfl, List.map_map]
    refine List.map_congr_left fun q _ => ?_
    show (if q.1 = e then (q.1, q.2.1, v) else q).1 = q.1
    split <;> rfl
  | false => rw [if_neg Bool.false_ne_true, if_neg Bool.false_ne_true, List.map_append]; rfl
theorem nodup_st {xs : List Ent} {e : Int} {a : Addr} {v : Int} (nd : (xs.map (·.1)).Nodup) : ((stD xs e a v).map (·.1)).Nodup := by
  rw [keys_st]
  cases h : hasD xs e with
  | true => rw [if_pos rfl]; exact nd
  | false =>
    rw [if_neg Bool.false_ne_true, List.nodup_append]
    refine ⟨nd, by simp, fun x hx y hy => ?_⟩
    rw [List.mem_singleton.mp hy]
    intro z
    rw [z] at hx
    rw [has_mem.mpr hx] at h
    cases h
theorem mem_st {xs : List Ent} {e : Int} {a : Addr} {v : Int} {p : Ent} (h : p ∈ stD xs e a v) : (∃ q ∈ xs, q.1 = p.1 ∧ q.2.1 = p.2.1) ∨ (p.1 = e ∧ p.2.1 = a) := by
  unfold stD at h
  split at h
  · obtain ⟨q, hq, e1⟩ := List.mem_map.mp h
    refine .inl ⟨q, hq, ?_⟩
    rw [← e1]
    split <;> exact ⟨rfl, rfl⟩
  · rcases List.mem_append.mp h with z | z
    · exact .inl ⟨p, z, rfl, rfl⟩
    · rw [List.mem_singleton.mp z]; exact .inr ⟨rfl, rfl⟩
theorem lkD_mem {xs : List Ent} (nd : (xs.map (·.1)).Nodup) {p : Ent} (h : p ∈ xs) : lkD xs p.1 = p.2.2 := by
  obtain ⟨j, hj⟩ := List.mem_iff_getElem?.mp h
  exact lkD_at nd hj rfl
/-- without the places -/
def era (xs : List Ent) : List Ent := xs.map fun q => (q.1, 0, q.2.2)
theorem era_lk : ∀ (xs : List Ent) (e : Int), lkD (era xs) e = lkD xs e
  | [], _ => rfl
  | q :: r, e => by
    have ih := era_lk r e
    unfold lkD at ih ⊢
    show ((((q.1, 0, q.2.2) :: era r).find? fun p => decide (p.1 = e)).map fun p => p.2.2).getD 0 = _
    rw [List.find?_cons, List.find?_cons]
    cases decide (q.1 = e) with
    | true => rfl
    | false => exact ih
theorem era_has (xs : List Ent) (e : Int) : hasD (era xs) e = hasD xs e := by
  unfold hasD era
  rw [List.any_map]; rfl
theorem era_st (xs : List Ent) (e : Int) (a : Addr) (v : Int) : era (stD xs e a v) = stD (era xs) e 0 v := by
  unfold stD
  rw [era_has]
  cases hasD xs e with
  | true =>
    rw [if_pos rfl, if_pos rfl]
    unfold era
    rw [List.map_map, List.map_map]
    refine List.map_congr_left fun q _ => ?_
    show ((if q.1 = e then (q.1, q.2.1, v) else q).1, (0 : Addr), (if q.1 = e then (q.1, q.2.1, v) else q).2.2) = if q.1 = e then (q.1, 0, v) else (q.1, 0, q.2.2)
    split <;> rfl
  | false =>
    rw [if_neg Bool.false_ne_true, if_neg Bool.false_ne_true]
    unfold era
    rw [List.map_append]; rfl
theorem era_keys (xs : List Ent) : (era xs).map (·.1) = xs.map (·.1) := by unfold era; rw [List.map_map]; rfl
theorem era_sum (g : Int → Int → Int) : ∀ xs, sumG g (era xs) = sumG g xs
  | [] => rfl
  | q :: r => by
    show g q.1 q.2.2 + sumG g (era r) = _
    rw [era_sum g r]; rfl

/-! ### the counts of pairs -/
def put1 (xs : List Ent) (t : Int × Int) : List Ent := stD xs t.2 0 (lkD xs t.2 + t.1)
def entS (ps : Terms) : List Ent := ps.foldl put1 []
theorem entS_snoc (ps : Terms) (t : Int × Int) : entS (ps ++ [t]) = put1 (entS ps) t := by unfold entS; rw [List.foldl_append]; rfl
theorem snoc_ind {α : Type} {p : List α → Prop} (h0 : p []) (hs : ∀ l a, p l → p (l ++ [a])) : ∀ l, p l := by
  have h : ∀ l : List α, p l.reverse := by
    intro l
    induction l with
    | nil => exact h0
    | cons a r ih => rw [List.reverse_cons]; exact hs _ _ ih
  intro l
  have := h l.reverse
  rw [List.reverse_reverse] at this
  exact this
theorem entS_nodup : ∀ ps : Terms, ((entS ps).map (·.1)).Nodup := snoc_ind (by simp [entS]) fun l a h => by rw [entS_snoc]; exact nodup_st h
theorem entS_keys : ∀ ps : Terms, ∀ e ∈ (entS ps).map (·.1), ∃ t ∈ ps, t.2 = e := snoc_ind (fun e h => by simp [entS] at h) fun l a ih e h => by
  rw [entS_snoc] at h
  unfold put1 at h
  rw [keys_st] at h
  split at h
  · obtain ⟨t, h1, h2⟩ := ih e h
    exact ⟨t, List.mem_append_left _ h1, h2⟩
  · rcases List.mem_append.mp h with z | z
    · obtain ⟨t, h1, h2⟩ := ih e z
      exact ⟨t, List.mem_append_left _ h1, h2⟩
    · exact ⟨a, by simp, (List.mem_singleton.mp z).symm⟩
theorem val_app : ∀ (l m : Terms), val (l ++ m) = val l + val m
  | [], m => by show val m = 0 + val m; omega
  | t :: r, m => by
    show t.1 * p2 t.2 + val (r ++ m) = t.1 * p2 t.2 + val r + val m
    rw [val_app r m]; omega
theorem entS_val : ∀ ps : Terms, sumG (fun e c => c * p2 e) (entS ps) = val ps := snoc_ind rfl fun l a ih => by
  rw [entS_snoc, val_app]
  unfold put1
  rw [sumG_st (g := fun e c => c * p2 e) (entS_nodup l) (Int.zero_mul _), ih, Int.add_mul]
  show val l - lkD (entS l) a.2 * p2 a.2 + _ = val l + (a.1 * p2 a.2 + 0)
  omega
theorem entS_len : ∀ ps : Terms, (entS ps).length ≤ ps.length := snoc_ind (Nat.le_refl _) fun l a ih => by
  rw [entS_snoc, List.length_append]
  have := stD_len (entS l) a.2 0 (lkD (entS l) a.2 + a.1)
  show (stD _ _ _ _).length ≤ _
  show _ ≤ l.length + 1
  omega
def absS : Terms → Int
  | [] => 0
  | t :: r => absI t.1 + absS r
theorem absS_app : ∀ (l m : Terms), absS (l ++ m) = absS l + absS m
  | [], m => by show absS m = 0 + absS m; omega
  | t :: r, m => by
    show absI t.1 + absS (r ++ m) = absI t.1 + absS r + absS m
    rw [absS_app r m]; omega
def cC (ps : Terms) : Int := sumG (fun _ c => absI c) (entS ps)
theorem cC_le : ∀ ps : Terms, cC ps ≤ absS ps := snoc_ind (Int.le_refl _) fun l a ih => by
  unfold cC at ih ⊢
  rw [entS_snoc, absS_app]
  unfold put1
  rw [sumG_st (g := fun _ c => absI c) (entS_nodup l) rfl]
  show sumG (fun _ c => absI c) (entS l) - absI (lkD (entS l) a.2) + absI (lkD (entS l) a.2 + a.1) ≤ absS l + (absI a.1 + 0)
  have : absI (lkD (entS l) a.2 + a.1) ≤ absI (lkD (entS l) a.2) + absI a.1 := by unfold absI; split <;> split <;> split <;> omega
  omega

/-! ### permutations -/
theorem tot_perm {cnt : Int → Int} {q : Int} {l m : List Int} (h : l.Perm m) : tot cnt q l = tot cnt q m := by
  induction h with
  | nil => rfl
  | cons x _ ih => show _ + tot cnt q _ = _ + tot cnt q _; rw [ih]
  | swap x y l =>
    show cnt y * p2 (y - q) + (cnt x * p2 (x - q) + tot cnt q l) = cnt x * p2 (x - q) + (cnt y * p2 (y - q) + tot cnt q l)
    omega
  | trans _ _ h1 h2 => rw [h1, h2]
theorem sumC_perm {cnt : Int → Int} {l m : List Int} (h : l.Perm m) : sumC cnt l = sumC cnt m := by
  induction h with
  | nil => rfl
  | cons x _ ih => show _ + sumC cnt _ = _ + sumC cnt _; rw [ih]
  | swap x y l =>
    show absI (cnt y) + (absI (cnt x) + sumC cnt l) = absI (cnt x) + (absI (cnt y) + sumC cnt l)
    omega
  | trans _ _ h1 h2 => rw [h1, h2]
theorem tot_keys {cnt : Int → Int} : ∀ {xs : List Ent}, (∀ p ∈ xs, cnt p.1 = p.2.2) → tot cnt 0 (xs.map (·.1)) = sumG (fun e c => c * p2 e) xs
  | [], _ => rfl
  | q :: r, h => by
    show cnt q.1 * p2 (q.1 - 0) + tot cnt 0 (r.map (·.1)) = q.2.2 * p2 q.1 + _
    rw [tot_keys fun p hp => h p (List.mem_cons_of_mem _ hp), h q List.mem_cons_self, Int.sub_zero]
theorem sumC_keys {cnt : Int → Int} : ∀ {xs : List Ent}, (∀ p ∈ xs, cnt p.1 = p.2.2) → sumC cnt (xs.map (·.1)) = sumG (fun _ c => absI c) xs
  | [], _ => rfl
  | q :: r, h => by
    show absI (cnt q.1) + sumC cnt (r.map (·.1)) = absI q.2.2 + _
    rw [sumC_keys fun p hp => h p (List.mem_cons_of_mem _ hp), h q List.mem_cons_self]

/-! ### what gathered asks of its pairs -/
structure Cond (B : Int) (ps : Terms) : Prop where
  pos : ∀ t ∈ ps, 0 ≤ t.2
  keys : (∀ t ∈ ps, t.2 ≤ B + 1 ∧ t.2 ≤ 100) ∨ ∃ e0, ∀ t ∈ ps, t.2 = e0
  grow : ∀ k, 0 ≤ k → p2 k ≤ cC ps - 1 → ∀ t ∈ ps, t.2 + k ≤ B
  sum : cC ps ≤ 500
  len : ps.length ≤ 200
/-- a test of it -/
def condB (B : Int) (ps : Terms) : Bool := (ps.all fun t => decide (0 ≤ t.2)) && ((ps.all fun t => decide (t.2 ≤ B + 1) && decide (t.2 ≤ 100)) || (ps.all fun t => decide (t.2 = (ps.headD (0, 0)).2))) && decide (cC ps ≤ 500)
  && ((List.range 11).all fun k => decide (p2 k > cC ps - 1) || ps.all fun t => decide (t.2 + k ≤ B)) && decide (ps.length ≤ 200)
theorem cond_of {B : Int} {ps : Terms} (h : condB B ps = true) : Cond B ps := by
  unfold condB at h
  simp only [Bool.and_eq_true, Bool.or_eq_true, List.all_eq_true, decide_eq_true_eq] at h
  obtain ⟨⟨⟨⟨h1, h2⟩, h3⟩, h4⟩, h5⟩ := h
  refine ⟨h1, h2.imp_right fun z => ⟨_, z⟩, fun k k0 hk t ht => ?_, h3, h5⟩
  by_cases c : k < 11
  · rcases h4 k.toNat (List.mem_range.mpr (by omega)) with z | z
    · rw [show ((k.toNat : Nat) : Int) = k by omega] at z; omega
    · have := z t ht
      omega
  · have := p2_mono (show (11 : Int) ≤ k by omega)
    rw [show p2 11 = 2048 from rfl] at this
    omega
/-- the bounds, level by level -/
def Tb : Nat → Int
  | 0 => -1
  | 1 => 0
  | 2 => 1
  | 3 => 3
  | 4 => 5
  | 5 => 21
  | _ => 99
theorem cond_next : ∀ n : Nat, n < 6 → ∀ x : Int, 0 ≤ x → x ≤ Tb (n + 1) → Cond (Tb n) (naf x ++ [(1, 0)]) := by
  have h : (List.range 6).all (fun n => (List.range 100).all fun x => decide ((x : Int) > Tb (n + 1)) || condB (Tb n) (naf (x : Nat) ++ [(1, 0)])) = true := by decide +kernel
  intro n hn x h0 hx
  have hT0 : ∀ m : Fin 6, Tb (m.val + 1) ≤ 99 := by decide
  have hT : Tb (n + 1) ≤ 99 := hT0 ⟨n, hn⟩
  rw [List.all_eq_true] at h
  have h1 := h n (List.mem_range.mpr hn)
  rw [List.all_eq_true] at h1
  have h2 := h1 x.toNat (List.mem_range.mpr (by omega))
  rw [show ((x.toNat : Nat) : Int) = x by omega, Bool.or_eq_true] at h2
  rcases h2 with z | z
  · have := of_decide_eq_true z
    omega
  · exact cond_of z
/-- at the top -/
theorem cond_top {ps : Terms} (h : ∀ t ∈ ps, 0 ≤ t.2 ∧ t.2 ≤ 90) (ha : absS ps ≤ 500) (hl : ps.length ≤ 200) : Cond 99 ps where
  pos := fun t ht => (h t ht).1
  keys := .inl fun t ht => by have := h t ht; omega
  grow := fun k k0 hk t ht => by
    have := h t ht
    have := cC_le ps
    by_cases c : k < 9
    · omega
    · have := p2_mono (show (9 : Int) ≤ k by omega)
      rw [show p2 9 = 512 from rfl] at this
      omega
  sum := by have := cC_le ps; omega
  len := hl
theorem cond_one {e c : Int} (h : 0 ≤ e) (hc : c = 1 ∨ c = -1) : Cond 99 [(c, e)] where
  pos := fun t ht => by rw [List.mem_singleton.mp ht]; exact h
  keys := .inr ⟨e, fun t ht => by rw [List.mem_singleton.mp ht]⟩
  grow := fun k k0 hk => by
    have h1 := cC_le [(c, e)]
    have h2 : absS [(c, e)] = 1 := by
      show absI c + 0 = 1
      rcases hc with z | z <;> rw [z] <;> rfl
    have := p2_pos k
    omega
  sum := by
    have h1 := cC_le [(c, e)]
    have h2 : absS [(c, e)] = 1 := by
      show absI c + 0 = 1
      rcases hc with z | z <;> rw [z] <;> rfl
    omega
  len := by show 1 ≤ 200; omega
end Sr
set_option Elab.async false
set_option linter.all false
set_option maxRecDepth 100000
set_option maxHeartbeats 4000000
/-! sign_at -/
namespace Sr
open PySem PySem.Spec PyProof.Rows L2

/-- the dict of the counts, whole -/
structure DK (K : PySem.W.Frag) (H : Hp) (n : Nat) (d : Addr) (xs : List Ent) : Prop where
  there : H d = some (oDN d xs)
  all : ∀ p ∈ xs, IsN K H n (.ref p.2.1) p.1
  inj : ∀ p ∈ xs, ∀ q ∈ xs, hx p.1 = hx q.1 → p.1 = q.1
  nd : (xs.map (·.1)).Nodup
theorem DK.tx {K : PySem.W.Frag} {H H' : Hp} {n : Nat} {d : Addr} {xs : List Ent} (k : DK K H n d xs) (t : Tx K H H') (e : H' d = H d) : DK K H' n d xs := ⟨e.trans k.there, fun p hp => (k.all p hp).tx t, k.inj, k.nd⟩
theorem DK.same {K : PySem.W.Frag} {H H' : Hp} {n : Nat} {d : Addr} {xs : List Ent} (k : DK K H n d xs) (s : Same H H') : DK K H' n d xs := k.tx (Tx.of s) ((s _ _ k.there).trans k.there.symm)
theorem DK.key {K : PySem.W.Frag} {H : Hp} {n : Nat} {d a : Addr} {xs : List Ent} {e : Int} (k : DK K H n d xs) (hn : n ≤ 60) (h : IsN K H n (.ref a) e) (he : e ∈ xs.map (·.1)) : KeyH K H d xs e a := by
  obtain ⟨q, hq, rfl⟩ := List.mem_map.mp he
  exact ⟨k.there, h.up hn, fun p hp => (k.all p hp).up hn, fun p hp => k.inj p hp q hq, k.nd⟩
theorem IsN.isref {K : PySem.W.Frag} {H : Hp} {n : Nat} {v : V} {x : Int} (h : IsN K H n v x) : ∃ a, v = .ref a := by
  cases n with
  | zero => exact h.elim
  | succ n =>
    obtain ⟨a, _, e, _⟩ := h.open_
    exact ⟨a, e⟩
theorem atI_last {α β : Type} {f : α → β} {z : α} {r : List α} : atI ((z :: r).reverse.map f) (-1) = some (f z) := by
  unfold atI ixN
  have l : ((z :: r).reverse.map f).length = r.length + 1 := by simp
  rw [l, if_neg (by decide), if_pos (by omega)]
  show ((z :: r).reverse.map f)[((-1 : Int) + ((r.length + 1 : Nat) : Int)).toNat]? = _
  rw [show ((-1 : Int) + ((r.length + 1 : Nat) : Int)).toNat = r.length by omega, List.getElem?_map, List.reverse_cons, List.getElem?_append_right (by simp)]
  simp
/-- a loop, by a word and a measure -/
theorem while_in {c : TT} {tb : TS} {D : Ends} {σ : L2.St} {H : Hp} (Pv : L2.St → Hp → Prop) (μ : L2.St → Hp → Nat) (h0 : Pv σ H)
    (hs : ∀ σ H, Pv σ H → c σ H fun b H1 => if b = true then ∃ N : L2.St → Hp → Prop, (∀ σ' H', N σ' H' → ∃ m', m' < μ σ H ∧ (m' = μ σ' H' ∧ Pv σ' H')) ∧ tb { D with nx := N, ct := N, bk := D.nx } σ H1 else D.nx σ H1) : tWhile c tb D σ H :=
  ⟨fun m σ H => m = μ σ H ∧ Pv σ H, ⟨_, rfl, h0⟩, fun m σ H ⟨e, p⟩ => by subst e; exact hs σ H p⟩

section
variable {P : Program} {w : World} {K : PySem.W.Frag} {mg : Str → Option Value} {base : Heap}
def spNext (K : PySem.W.Frag) (B : Int) : Sp := fun vs H Q _ => ∃ v x, vs = [v] ∧ IsN K H 6 v x ∧ 0 ≤ x ∧ x ≤ B ∧ ∀ H' v', Same H H' → IsN K H' 6 v' (x + 1) → Q v' H'
def spSignAt (K : PySem.W.Frag) (B : Int) : Sp := fun vs H Q _ => ∃ (c e : Int) (ev : V) (d : Addr) (xs : List Ent) (wl : Addr) (ws : List (V × Int)), vs = [.int c, ev, .ref d, .ref wl] ∧ H wl = some (.lst (ws.reverse.map (·.1))) ∧
  (ws ≠ [] → IsN K H 6 ev e ∧ 0 ≤ e ∧ e ≤ B ∧ (∀ z ∈ ws, IsN K H 6 z.1 z.2 ∧ z.2 ∈ xs.map (·.1)) ∧ DK K H 60 d xs) ∧ ∀ H', Same H H' → Q (.int (if nxt (lkD xs) c e (ws.map (·.2)) % 4 = 1 then 1 else -1)) H'
theorem sc_sign_at : FnScope ["count", "exponent", "counts", "waiting"] ["count", "exponent", "counts", "waiting"] (defScope s_sign_at) := ⟨rfl, rfl, rfl, by decide +kernel, rfl, by decide +kernel, by decide +kernel⟩
theorem cmul2 {x : Int} : CMul 2 x := .inl ⟨by decide, by decide⟩
theorem d_sign_at (T : Txt K mg) {k : Nat} {B : Int} (G_next_of : Df P w K mg base CX0 k "next_of" ["number"] (spNext K B)) : Df P w K mg base CX0 (k + 1) "sign_at" ["count", "exponent", "counts", "waiting"] (spSignAt K B) := by
  refine .mk' T.f_sign_at T.g_sign_at sc_sign_at (fun _ _ _ _ _ _ us hl => match us, hl with | [_, _, _, _], _ => rfl) (fun vs H Q E h => ?_) (fun cdv A outer s H vs Q E hr h => ?_)
  · obtain ⟨c, e, ev, d, xs, wl, ws, rfl, _⟩ := h
    rfl
  · obtain ⟨c, e, ev, d, xs, wl, ws, rfl, hw, hS, hQ⟩ := h
    have hu : (A.deeper (envOfC "sign_at" (defScope s_sign_at) s.heap.objs.size (He.ga K "sign_at") cdv)).units + 131 < cLine := by have := hr.un; omega
    refine ⟨_, pss_cons (ps_if (pw_and (pt_cmpR op_gt (pe_callB call_len (by rfl) T.n_len PySem.boot_len (pa_cons (pv 3) pa_nil)) pe_int (nomark _)) (pw_and1 (pt_cmpR (op_eqD hr.units) (pe_ix ix_list (pv 3) (pe_un un_neg pe_int) (fun _ _ => rfl)) (pe_cl G_next_of hr pass0 (pa_cons (pv 1) pa_nil)) (nomark _)))).pt (pss_one (ps_aug (i := 0) sc_sign_at.nd rfl (.inl rfl) (pe_op op_mul pe_int (pe_nsub hu (pv 2) (pe_ix ix_list (pv 3) (pe_un un_neg pe_int) (fun _ _ => rfl)) (by exact (fun _ _ => rfl)))) ip_add)) pss_nil)
      (pss_cons (ps_if (pt_cmpR op_eq (pe_op op_mod (pv 0) pe_int) pe_int (nomark _)) (pss_one (ps_ret pe_int)) pss_nil)
      (pss_one (ps_ret (pe_un un_neg pe_int)))), ?_⟩
    -- the end
    have fin : ∀ (c2 : Int) (H1 : Hp), c2 = nxt (lkD xs) c e (ws.map (·.2)) → Same H H1 → if decide (V.int (c2 % 4) = V.int 1) = true then Q (.int 1) H1 else Q (.int (-1)) H1 := fun c2 H1 ec s1 => by
      have q := hQ H1 s1
      rw [← ec] at q
      refine ite2 (fun h => ?_) fun h => ?_
      · have h : c2 % 4 = 1 := by simpa using h
        rw [if_pos h] at q
        exact q
      · have h : ¬ c2 % 4 = 1 := by simpa using h
        rw [if_neg h] at q
        exact q
    refine ⟨_, rfl, _, _, rfl, .inl ⟨_, .inl (.inl hw), rfl⟩, _, _, rfl, rfl, _, rfl, ?_⟩
    cases ws with
    | nil =>
      refine iteF (iteF ?_)
      refine ⟨_, rfl, c, 4, rfl, rfl, pos4, rfl, _, rfl, ?_⟩
      exact ite2 (fun h => by have q := fin c H rfl (Same.refl _); rw [if_pos h] at q; exact q) fun h => ⟨1, rfl, by have q := fin c H rfl (Same.refl _); rw [if_neg h] at q; exact q⟩
    | cons z r =>
      obtain ⟨h1, h2, h3, h4, h5⟩ := hS (by simp)
      obtain ⟨hz, hm⟩ := h4 z List.mem_cons_self
      obtain ⟨a, ea⟩ := hz.isref
      have b : decide ((0 : Int) < ((((z :: r).reverse.map (·.1)).length : Nat) : Int)) = true := by
        refine decide_eq_true ?_
        rw [List.length_map, List.length_reverse, List.length_cons]
        omega
      rw [b]
      refine iteT ⟨_, rfl, 1, rfl, wl, _, _, z.1, rfl, rfl, .inl (.inl hw), atI_last, _, rfl, ev, e, rfl, h1, h2, h3, fun H1 v s1 hv => eqN (hz.tx (Tx.of s1)) hv (by decide) ⟨_, rfl, ?_⟩⟩
      refine ite2 (fun h => ?_) fun h => ?_
      · have h : z.2 = e + 1 := by simpa using h
        have hw1 : H1 wl = _ := s1 _ _ hw
        rw [ea] at hz
        refine ⟨_, rfl, _, rfl, _, rfl, 1, rfl, wl, _, _, z.1, rfl, rfl, .inl (.inl hw1), atI_last, d, xs, z.2, a, rfl, ea, (h5.same s1).key (by decide) ((hz.tx (Tx.of s1)).up (by decide)) hm, has_mem.mpr hm, 2, _, rfl, rfl, cmul2, c, _, rfl, rfl, ?_⟩
        refine ⟨_, rfl, _, 4, rfl, rfl, pos4, rfl, _, rfl, ?_⟩
        have ec : c + 2 * lkD xs z.2 = nxt (lkD xs) c e ((z :: r).map (·.2)) := by
          show _ = if z.2 = e + 1 then c + 2 * lkD xs z.2 else c
          rw [if_pos h]
        exact ite2 (fun h => by have q := fin _ H1 ec s1; rw [if_pos h] at q; exact q) fun h => ⟨1, rfl, by have q := fin _ H1 ec s1; rw [if_neg h] at q; exact q⟩
      · have h : ¬ z.2 = e + 1 := by simpa using h
        refine ⟨_, rfl, c, 4, rfl, rfl, pos4, rfl, _, rfl, ?_⟩
        have ec : c = nxt (lkD xs) c e ((z :: r).map (·.2)) := by
          show _ = if z.2 = e + 1 then c + 2 * lkD xs z.2 else c
          rw [if_neg h]
        exact ite2 (fun h => by have q := fin _ H1 ec s1; rw [if_pos h] at q; exact q) fun h => ⟨1, rfl, by have q := fin _ H1 ec s1; rw [if_neg h] at q; exact q⟩
end
end Sr
set_option Elab.async false
set_option linter.all false
set_option maxRecDepth 100000
set_option maxHeartbeats 8000000
/-! gathered -/
namespace Sr
open PySem PySem.Spec PyProof.Rows L2

theorem Cond.inj {B : Int} {ps : Terms} (c : Cond B ps) {t u : Int × Int} (ht : t ∈ ps) (hu : u ∈ ps) (h : hx t.2 = hx u.2) : t.2 = u.2 := by
  rcases c.keys with k | ⟨e0, k⟩
  · exact hx_inj (c.pos t ht) (k t ht).2 (c.pos u hu) (k u hu).2 h
  · rw [k t ht, k u hu]
/-- the dict through the counting -/
structure CK (K : PySem.W.Frag) (H : Hp) (n : Nat) (d : Addr) (ps : Terms) (xs : List Ent) : Prop where
  there : H d = some (oDN d xs)
  all : ∀ p ∈ xs, IsN K H n (.ref p.2.1) p.1
  era : Sr.era xs = entS ps
theorem CK.nd {K : PySem.W.Frag} {H : Hp} {n : Nat} {d : Addr} {ps : Terms} {xs : List Ent} (k : CK K H n d ps xs) : (xs.map (·.1)).Nodup := by
  rw [← era_keys, k.era]; exact entS_nodup ps
theorem CK.mem {K : PySem.W.Frag} {H : Hp} {n : Nat} {d : Addr} {ps : Terms} {xs : List Ent} (k : CK K H n d ps xs) {e : Int} (h : e ∈ xs.map (·.1)) : ∃ t ∈ ps, t.2 = e := by
  rw [← era_keys, k.era] at h; exact entS_keys ps e h
theorem CK.len {K : PySem.W.Frag} {H : Hp} {n : Nat} {d : Addr} {ps : Terms} {xs : List Ent} (k : CK K H n d ps xs) : xs.length ≤ ps.length := by
  have h := entS_len ps
  rw [← k.era] at h
  unfold Sr.era at h
  rw [List.length_map] at h; exact h
/-- what the loop over the waiting keeps of the heap -/
structure LH (K : PySem.W.Frag) (H0 H : Hp) (n : Nat) (d wl tl : Addr) (xs : List Ent) (e : Int) (ev : V) (ws : List (V × Int)) (acc : Terms) (ts : List V) : Prop where
  same : Same H0 H
  dk : DK K H n d xs
  hw : H wl = some (.lst (ws.reverse.map (·.1)))
  ht : H tl = some (.lst ts)
  items : Paired (IsI K H n) ts acc.reverse
  isE : IsN K H n ev e
  isW : ∀ z ∈ ws, IsN K H n z.1 z.2
theorem DK.ne {K : PySem.W.Frag} {H : Hp} {n : Nat} {d a : Addr} {xs : List Ent} {ys : List V} (k : DK K H n d xs) (h : H a = some (.lst ys)) : d ≠ a := fun e => by
  have := k.there
  rw [e, h] at this
  cases this
theorem LH.pop {K : PySem.W.Frag} {H0 H : Hp} {n : Nat} {d wl tl : Addr} {xs : List Ent} {e : Int} {ev : V} {z : V × Int} {ws : List (V × Int)} {acc : Terms} {ts : List V} (h : LH K H0 H n d wl tl xs e ev (z :: ws) acc ts) (ne : tl ≠ wl) (nw : H0 wl = none) :
    LH K H0 (upd H wl (.lst (((z :: ws).reverse.map (·.1)).dropLast))) n d wl tl xs z.2 z.1 ws acc ts := by
  have t : Tx K H (upd H wl (.lst (((z :: ws).reverse.map (·.1)).dropLast))) := Tx.set h.hw trivial
  refine ⟨same_set h.same nw, h.dk.tx t (upd_ne (h.dk.ne h.hw)), ?_, by rw [upd_ne ne]; exact h.ht, items_tx t h.items, (h.isW z List.mem_cons_self).tx t, fun y hy => (h.isW y (List.mem_cons_of_mem _ hy)).tx t⟩
  rw [upd_same, List.reverse_cons, List.map_append, List.map_singleton, List.dropLast_concat]
theorem LH.sames {K : PySem.W.Frag} {H0 H H' : Hp} {n : Nat} {d wl tl : Addr} {xs : List Ent} {e : Int} {ev : V} {ws : List (V × Int)} {acc : Terms} {ts : List V} (h : LH K H0 H n d wl tl xs e ev ws acc ts) (s : Same H H') : LH K H0 H' n d wl tl xs e ev ws acc ts :=
  ⟨h.same.trans s, h.dk.same s, s _ _ h.hw, s _ _ h.ht, items_tx (Tx.of s) h.items, h.isE.tx (Tx.of s), fun z hz => (h.isW z hz).tx (Tx.of s)⟩
theorem LH.push {K : PySem.W.Frag} {H0 H : Hp} {n : Nat} {d wl tl D : Addr} {xs : List Ent} {e i : Int} {ev : V} {ws : List (V × Int)} {acc : Terms} {ts : List V} (h : LH K H0 H n d wl tl xs e ev ws acc ts) (ne : tl ≠ wl) (nt : H0 tl = none) (hD : H D = none) :
    LH K H0 (upd (upd H D (.tup [.int i, ev])) tl (.lst (ts ++ [.ref D]))) n d wl tl xs e ev ws ((i, e) :: acc) (ts ++ [.ref D]) := by
  have h2 := h.sames (same_new (o := .tup [.int i, ev]) hD)
  have t : Tx K (upd H D (.tup [.int i, ev])) (upd (upd H D (.tup [.int i, ev])) tl (.lst (ts ++ [.ref D]))) := Tx.set h2.ht trivial
  refine ⟨same_set h2.same nt, h2.dk.tx t (upd_ne (h2.dk.ne h2.ht)), by rw [upd_ne ne.symm]; exact h2.hw, upd_same, ?_, h2.isE.tx t, fun z hz => (h2.isW z hz).tx t⟩
  rw [List.reverse_cons]
  exact push_item (Same.refl _) hD h.ht h.items h.isE
theorem DK.up {K : PySem.W.Frag} {H : Hp} {n m : Nat} {d : Addr} {xs : List Ent} (k : DK K H n d xs) (h : n ≤ m) : DK K H m d xs := ⟨k.there, fun p hp => (k.all p hp).up h, k.inj, k.nd⟩
/-- a statement whose end is a word of one's own -/
def tMid (t : TS) : TS := fun D σ H => ∃ M : L2.St → Hp → Prop, (∀ σ' H', M σ' H' → D.nx σ' H') ∧ t { D with nx := M } σ H
theorem ps_mid {X : Cx} {st : Stmt} {t : TS} (h : PS X st t) : PS X st (tMid t) := ⟨fun pins s σ H D I ⟨M, hM, ht⟩ => thn (h.run pins s σ H { D with nx := M } I ht) fun f s' q => by
  cases f with
  | next =>
    obtain ⟨σ', H', I', m⟩ := q
    exact ⟨σ', H', I', hM _ _ m⟩
  | cont => exact q
  | brk => exact q
  | ret v => exact q⟩
theorem or_go {X Y U : Prop} {b b2 : Bool} (h1 : b = true ∨ b2 = true → X) (h2 : b = false → b2 = false → Y) (hu : b = false → (if b2 = true then X else Y) → U) : if b = true then (if true = true then X else Y) else U := by
  cases b with
  | true => exact iteT (iteT (h1 (.inl rfl)))
  | false =>
    refine iteF (hu rfl ?_)
    cases b2 with
    | true => exact iteT (h1 (.inr rfl))
    | false => exact iteF (h2 rfl rfl)
theorem Same.none {H H' : Hp} {a : Addr} (s : Same H H') (h : H' a = none) : H a = none := by
  cases e : H a with
  | none => rfl
  | some o => rw [s _ _ e] at h; cases h
section
variable {P : Program} {w : World} {K : PySem.W.Frag} {mg : Str → Option Value} {base : Heap}
def spGath (K : PySem.W.Frag) (n : Nat) (B : Int) : Sp := fun vs H Q _ => ∃ (l : Addr) (vsP : List V) (ps : Terms), vs = [.ref l] ∧ H l = some (.lst vsP) ∧ Paired (IsI K H n) vsP ps ∧ Cond B ps ∧ ∀ H' v, Same H H' → IsN K H' (n + 1) v (val ps) → Q v H'
theorem sc_gathered : FnScope ["pairs", "counts", "count", "exponent", "waiting", "terms", "sign"] ["pairs"] (defScope s_gathered) := ⟨rfl, rfl, rfl, by decide +kernel, rfl, by decide +kernel, by decide +kernel⟩
theorem d_gathered (T : Txt K mg) {k n : Nat} {B : Int} (hB : B ≤ 99) (hn : 6 ≤ n) (hn2 : n ≤ 60) (hk : 8 ≤ k) (G_next_of : Df P w K mg base CX0 k "next_of" ["number"] (spNext K B)) (G_sign_at : Df P w K mg base CX0 k "sign_at" ["count", "exponent", "counts", "waiting"] (spSignAt K B)) :
    Df P w K mg base CX0 (k + 1) "gathered" ["pairs"] (spGath K n B) := by
  have G_in_order := (d_in_order (P := P) (w := w) (base := base) T 6).mono hk
  refine .mk' T.f_gathered T.g_gathered sc_gathered (fun _ _ _ _ _ _ us hl => match us, hl with | [_], _ => rfl) (fun vs H Q E h => ?_) (fun cdv A outer s H vs Q E hr h => ?_)
  · obtain ⟨l, vsP, ps, rfl, _⟩ := h
    rfl
  · obtain ⟨l, vsP, ps, rfl, hl, hp, hc, hQ⟩ := h
    have hu : (A.deeper (envOfC "gathered" (defScope s_gathered) s.heap.objs.size (He.ga K "gathered") cdv)).units + 131 < cLine := by have := hr.un; omega
    have lenP := paired_len hp
    refine ⟨_, pss_cons (ps_set (i := 1) sc_gathered.nd rfl (.inl rfl) pe_nnew)
      (pss_cons (ps_for (passes_of rfl) rfl (pi_list (pv 0)) (pg_tup rfl (pgs_cons (pg_name (i := 2) sc_gathered.nd rfl (.inl rfl)) (pgs_cons (pg_name (i := 3) sc_gathered.nd rfl (.inl rfl)) pgs_nil))) (pss_one (ps_nput hu (pv 1) (pv 3) (pe_op op_add (pe_nget hu (pv 1) (pv 3) pe_int ⟨rfl, rfl, rfl, rfl⟩) (pv 2)) rfl)))
      (pss_cons (ps_set (i := 4) sc_gathered.nd rfl (.inl rfl) (pe_revL (pe_cl G_in_order hr pass0 (pa_cons (pe_callTy (call_nlist (by rfl)) (by rfl) T.n_list (by decide +kernel) (pa_cons (pv 1) pa_nil)) pa_nil))))
      (pss_cons (ps_set (i := 5) sc_gathered.nd rfl (.inl rfl) (pe_lst pa_nil))
      (pss_cons (ps_set (i := 2) sc_gathered.nd rfl (.inl rfl) pe_int)
      (pss_cons (ps_set (i := 3) sc_gathered.nd rfl (.inl rfl) (pe_tup pa_nil))
      (pss_cons (ps_while (passes_of rfl) (pw_or (pt_cmpR op_gt (pe_callB call_len (by rfl) T.n_len PySem.boot_len (pa_cons (pv 4) pa_nil)) pe_int (nomark _)) (pw_or1 (pt_cmpR op_ne (pv 2) pe_int (nomark _)))).pt (pss_cons (ps_mid (ps_if (pw_and (pt_cmpR op_gt (pe_callB call_len (by rfl) T.n_len PySem.boot_len (pa_cons (pv 4) pa_nil)) pe_int (nomark _)) (pw_and1 (pw_or (pt_cmpR op_eq (pv 2) pe_int (nomark _)) (pw_or1 (pt_cmpR (op_eqD hr.units) (pe_ix ix_list (pv 4) (pe_un un_neg pe_int) (fun _ _ => rfl)) (pv 3) (nomark _)))).pt)).pt (pss_cons (ps_set (i := 3) sc_gathered.nd rfl (.inl rfl) (pe_bm0 PySem.F.plainAttrs_list PySem.F.slot_list_pop PySem.F.type_list_pop mt_pop (pv 4)))
          (pss_one (ps_aug (i := 2) sc_gathered.nd rfl (.inl rfl) (pe_nsub hu (pv 1) (pv 3) (by exact (fun _ _ => rfl))) ip_add))) pss_nil))
        (pss_cons (ps_mid (ps_if (pt_cmpR op_eq (pe_op op_mod (pv 2) pe_int) pe_int (nomark _)) (pss_cons (ps_set (i := 6) sc_gathered.nd rfl (.inl rfl) (pe_cl G_sign_at hr pass0 (pa_cons (pv 2) (pa_cons (pv 3) (pa_cons (pv 1) (pa_cons (pv 4) pa_nil))))))
          (pss_cons (ps_expr (pe_bm PySem.F.plainAttrs_list PySem.F.slot_list_append PySem.F.type_list_append mt_append (pv 5) (pa_cons (pe_tup (pa_cons (pv 6) (pa_cons (pv 3) pa_nil))) pa_nil)))
          (pss_one (ps_aug (i := 2) sc_gathered.nd rfl (.inl rfl) (pv 6) ip_sub)))) pss_nil))
        (pss_one (ps_if (pt_cmpR op_ne (pv 2) pe_int (nomark _)) (pss_cons (ps_aug (i := 2) sc_gathered.nd rfl (.inl rfl) pe_int iop_fdiv)
          (pss_one (ps_set (i := 3) sc_gathered.nd rfl (.inl rfl) (pe_cl G_next_of hr pass0 (pa_cons (pv 3) pa_nil))))) pss_nil)))))
      (pss_one (ps_ret (pe_callTy call_tuple_of (by rfl) T.n_tuple (by decide +kernel) (pa_cons (pe_revL (pv 5)) pa_nil)))))))))), ?_⟩
    -- counts = {}
    refine fun d hd => ?_
    have ndl : l ≠ d := ne_of_none hl hd
    refine ⟨_, rfl, l, rfl, ⟨vsP, .inl (.inl ((same_new hd) _ _ hl))⟩, for_list (xs := vsP) (fun i σ H' => ∃ xs y2 y3, σ = [some (.ref l), some (.ref d), y2, y3, none, none, none] ∧ Same H H' ∧ CK K H' n d (ps.take i) xs)
      ⟨[], none, none, rfl, same_new hd, upd_same, fun p h => (nomatch h), rfl⟩ (fun i σ H' _ ⟨_, _, _, _, s1, _⟩ => .inl (.inl (s1 _ _ hl))) ?_ ?_⟩
    · rintro i x σ H1 hxi ⟨xs, y2, y3, rfl, s1, ck⟩
      obtain ⟨t, ht, b, e, rfl, hb, he⟩ := item_at hp hxi
      obtain ⟨a, rfl⟩ := he.isref
      have htm : t ∈ ps := List.mem_of_getElem? ht
      have he1 := he.tx (Tx.of s1)
      have ky : KeyH K H1 d xs t.2 a := ⟨ck.there, he1.up hn2, fun p hp => (ck.all p hp).up hn2, fun p hp h => by
        obtain ⟨u, hu1, hu2⟩ := ck.mem (List.mem_map.mpr ⟨p, hp, rfl⟩)
        rw [← hu2] at h ⊢
        exact hc.inj (List.mem_of_mem_take hu1) htm h, ck.nd⟩
      have lx := ck.len
      rw [List.length_take] at lx
      have hcl := hc.len
      refine ⟨b, _, rfl, (Tx.of s1) _ _ hb, rfl, _, _, rfl, _, _, rfl, rfl, ?_⟩
      refine ⟨_, rfl, d, rfl, ⟨xs, ck.there⟩, _, rfl, xs, t.2, a, rfl, rfl, ky, _, rfl, _, t.1, rfl, rfl, _, rfl, _, rfl, d, xs, t.2, a, _, rfl, rfl, rfl, ky, ?_, ?_⟩
      · exact small1000 (by omega)
      · refine ⟨stD xs t.2 a (lkD xs t.2 + t.1), _, _, rfl, same_set s1 hd, upd_same, fun p hp => ?_, ?_⟩
        · have tx : Tx K H1 (upd H1 d (oDN d (stD xs t.2 a (lkD xs t.2 + t.1)))) := Tx.set ck.there trivial
          rcases mem_st hp with ⟨q, hq, e1, e2⟩ | ⟨e1, e2⟩
          · rw [← e1, ← e2]; exact (ck.all q hq).tx tx
          · rw [e1, e2]; exact he1.tx tx
        · rw [era_st, ck.era, take_next ht, entS_snoc]
          show _ = stD (entS (ps.take i)) t.2 0 (lkD (entS (ps.take i)) t.2 + t.1)
          rw [← ck.era, era_lk]
    · rintro σ H1 ⟨xs, y2, y3, rfl, s1, ck⟩
      rw [lenP, List.take_length] at ck
      have hcl := hc.len
      have hcs := hc.sum
      have lx := ck.len
      have keyOf : ∀ e ∈ xs.map (·.1), ∃ t ∈ ps, t.2 = e := fun e h => ck.mem h
      have inj : ∀ p ∈ xs, ∀ q ∈ xs, hx p.1 = hx q.1 → p.1 = q.1 := fun p hp q hq h => by
        obtain ⟨u, hu1, hu2⟩ := keyOf p.1 (List.mem_map.mpr ⟨p, hp, rfl⟩)
        obtain ⟨v, hv1, hv2⟩ := keyOf q.1 (List.mem_map.mpr ⟨q, hq, rfl⟩)
        rw [← hu2, ← hv2] at h ⊢
        exact hc.inj hu1 hv1 h
      have few : (∀ t ∈ ps, t.2 ≤ B + 1 ∧ t.2 ≤ 100) ∨ xs.length ≤ 1 := by
        rcases hc.keys with z | ⟨e0, z⟩
        · exact .inl z
        · refine .inr ?_
          have nd := ck.nd
          match xs, nd, keyOf with
          | [], _, _ => exact Nat.zero_le _
          | [_], _, _ => exact Nat.le_refl _
          | p :: q :: r, nd, keyOf =>
            exfalso
            obtain ⟨u, hu1, hu2⟩ := keyOf p.1 (by simp)
            obtain ⟨v, hv1, hv2⟩ := keyOf q.1 (by simp)
            rw [List.map_cons, List.map_cons, List.nodup_cons] at nd
            exact nd.1 (by rw [← hu2, ← z u hu1 |>.symm, ← z v hv1, hv2]; simp)
      have mapz : (xs.map fun q => (V.ref q.2.1, q.1)).map (·.2) = xs.map (·.1) := by rw [List.map_map]; rfl
      refine ⟨_, rfl, d, xs, rfl, ck.there, fun q hq => ⟨q, xs.map fun q => (V.ref q.2.1, q.1), rfl, ?_, by rw [mapz]; exact ck.nd, by rw [List.length_map]; omega, by decide, ?_, fun H2 p F s2 hp2 hF perm asc => ⟨p, _, rfl, .inl (.inl hF), fun wl hwl => ?_⟩⟩⟩
      · rw [upd_same, List.map_map]; rfl
      · rcases few with z | z
        · refine .inr fun y hy => ?_
          obtain ⟨q1, hq1, rfl⟩ := List.mem_map.mp hy
          obtain ⟨u, hu1, hu2⟩ := keyOf q1.1 (List.mem_map.mpr ⟨q1, hq1, rfl⟩)
          have h0 := hc.pos u hu1
          have h1 := (z u hu1).2
          exact ((ck.all q1 hq1).tx (Tx.of (same_new hq))).cut (dp_small (by omega) (by omega))
        · exact .inl (by rw [List.length_map]; exact z)
      · refine ⟨Nat.zero_le _, fun tl htl => ⟨Nat.zero_le _, fun ea hea => ?_⟩⟩
        have sA : Same H1 H2 := (same_new hq).trans s2
        have sB := ((sA.trans (same_new hwl)).trans (same_new htl)).trans (same_new (o := .tup []) hea)
        have nwl : H wl = none := Same.none (s1.trans sA) hwl
        have ntl : H tl = none := Same.none (s1.trans (sA.trans (same_new hwl))) htl
        have nea : H ea = none := Same.none (s1.trans ((sA.trans (same_new hwl)).trans (same_new htl))) hea
        have ne : tl ≠ wl := fun z => by rw [z, upd_same] at htl; cases htl
        have nd5 : (upd (upd (upd H2 wl (.lst (F.map (·.1)).reverse)) tl (.lst [])) ea (.tup [])) tl = some (.lst []) := (same_new hea) _ _ upd_same
        have nw5 : (upd (upd (upd H2 wl (.lst (F.map (·.1)).reverse)) tl (.lst [])) ea (.tup [])) wl = some (.lst (F.map (·.1)).reverse) := (same_new hea) _ _ ((same_new htl) _ _ upd_same)
        have permK : (F.map (·.2)).Perm (xs.map (·.1)) := by
          have := perm.map (·.2)
          rw [mapz] at this; exact this
        have lenF : F.length = xs.length := by
          have := perm.length_eq
          rw [List.length_map] at this; exact this
        have cntE : ∀ p ∈ xs, lkD xs p.1 = p.2.2 := fun p hp => lkD_mem ck.nd hp
        have hS : tot (lkD xs) 0 (F.map (·.2)) = val ps := by
          rw [tot_perm permK, tot_keys cntE, ← era_sum, ck.era, entS_val]
        have hC : sumC (lkD xs) (F.map (·.2)) = cC ps := by
          rw [sumC_perm permK, sumC_keys cntE, ← era_sum, ck.era]; rfl
        have keyF : ∀ w ∈ F.map (·.2), ∃ t ∈ ps, t.2 = w := fun w hw => keyOf w (permK.mem_iff.mp hw)
        have hgrow : ∀ k, 0 ≤ k → p2 k ≤ cC ps - 1 → ∀ w ∈ F.map (·.2), w + k ≤ B := fun k k0 hk w hw => by
          obtain ⟨t, ht1, ht2⟩ := keyF w hw
          rw [← ht2]; exact hc.grow k k0 hk t ht1
        have ascK : (F.map (·.2)).Pairwise (· < ·) := List.pairwise_map.mpr asc
        have topK : (F.map (·.2)).length ≤ 1 ∨ ∀ w ∈ F.map (·.2), w ≤ B + 1 := by
          rcases few with z | z
          · refine .inr fun w hw => ?_
            obtain ⟨t, ht1, ht2⟩ := keyF w hw
            rw [← ht2]; exact (z t ht1).1
          · exact .inl (by rw [List.length_map, lenF]; exact z)
        have smallK : (F.map (·.2)).length ≤ 1 ∨ ∀ w ∈ F.map (·.2), w ≤ 100 := by
          rcases few with z | z
          · refine .inr fun w hw => ?_
            obtain ⟨t, ht1, ht2⟩ := keyF w hw
            rw [← ht2]; exact (z t ht1).2
          · exact .inl (by rw [List.length_map, lenF]; exact z)
        have posK : ∀ w ∈ F.map (·.2), 0 ≤ w := fun w hw => by
          obtain ⟨t, ht1, ht2⟩ := keyF w hw
          rw [← ht2]; exact hc.pos t ht1
        have inK : ∀ w ∈ F.map (·.2), w ∈ xs.map (·.1) := fun w hw => permK.mem_iff.mp hw
        have g0 := GI.start (cnt := lkD xs) (S := val ps) (C := cC ps) (B := B) posK ascK hS (by rw [hC]; exact Int.le_refl _) topK
        obtain ⟨n, rfl⟩ : ∃ m, n = m + 1 := ⟨n - 1, by omega⟩
        refine ⟨fun m σ H' => ∃ c e ev ws acc ts y6, (m : Int) = gmu (lkD xs) c e (ws.map (·.2)) ∧ σ = [some (.ref l), some (.ref d), some (.int c), some ev, some (.ref wl), some (.ref tl), y6] ∧ LH K H H' (n + 1) d wl tl xs e ev ws acc ts ∧
            GI (lkD xs) (F.map (·.2)) (val ps) (cC ps) B c e (ws.map (·.2)) acc ∧ (acc.length : Int) + m ≤ 901 ∧ (∀ z ∈ ws, z ∈ F),
          ⟨(gmu (lkD xs) 0 0 (F.map (·.2))).toNat, 0, 0, .ref ea, F, [], [], none, ?_, rfl, ⟨s1.trans sB, ?_, ?_, nd5, .nil, IsN.zero (.inl (.inl upd_same)), ?_⟩, g0, ?_, fun _ h => h⟩, ?_⟩
        · have := gmu_nn (lkD xs) 0 0 (F.map (·.2)); omega
        · exact ⟨sB _ _ ck.there, fun p hp => (ck.all p hp).tx (Tx.of sB), inj, ck.nd⟩
        · rw [nw5, List.map_reverse]
        · intro z hz
          obtain ⟨q1, hq1, rfl⟩ := List.mem_map.mp (perm.mem_iff.mp hz)
          exact (ck.all q1 hq1).tx (Tx.of sB)
        · have h0 := gmu_nn (lkD xs) 0 0 (F.map (·.2))
          have h1 : gmu (lkD xs) 0 0 (F.map (·.2)) ≤ 901 := by
            unfold gmu
            rw [hC, List.length_map, lenF]
            show cC ps + 2 * (xs.length : Int) + 0 + _ ≤ 901
            split <;> omega
          show (0 : Int) + _ ≤ 901
          omega
        · rintro m σ H6 ⟨c, e, ev, ws, acc, ts, y6, hm, rfl, lh, gi, hroom, hsub⟩
          have lts : ts.length = acc.length := by have := paired_len lh.items; rw [List.length_reverse] at this; exact this
          refine ⟨_, rfl, _, _, rfl, .inl ⟨_, .inl (.inl lh.hw), rfl⟩, _, _, rfl, rfl, _, rfl, or_go (b2 := !decide (V.int c = V.int 0)) (fun hgo => ?_) (fun h1 h2 => ?_) (fun _ h => ⟨_, rfl, rfl, _, rfl, h⟩)⟩
          · have hgo : ws ≠ [] ∨ c ≠ 0 := by
              rcases hgo with z | z
              · have z := of_decide_eq_true z
                refine .inl fun y => ?_
                rw [y] at z
                exact absurd z (by decide)
              · exact .inr (by simpa using z)
            refine ⟨_, fun σ' H' h => h, ?_⟩
            refine ⟨fun σ H' => ∃ c1 e1 ev1 ws1 y6, σ = [some (.ref l), some (.ref d), some (.int c1), some ev1, some (.ref wl), some (.ref tl), y6] ∧ LH K H H' (n + 1) d wl tl xs e1 ev1 ws1 acc ts ∧
              GM (lkD xs) (F.map (·.2)) (val ps) (cC ps) B c1 e1 (ws1.map (·.2)) acc ∧ (∀ z ∈ ws1, z ∈ F) ∧ ((∀ d f, absI d ≤ absI c1 → gmu (lkD xs) d f (ws1.map (·.2)) < m) ∨ (c1 ≠ 0 ∧ (ws1.map (·.2)).head? ≠ some e1 ∧ gmu (lkD xs) c1 e1 (ws1.map (·.2)) = m)), ?_, ?_⟩
            · rintro σ1 H7 ⟨c1, e1, ev1, ws1, y7, rfl, lh1, gm, hsub1, hμ⟩
              have six : ws1 ≠ [] → IsN K H7 6 ev1 e1 ∧ 0 ≤ e1 ∧ e1 ≤ B ∧ (∀ z ∈ ws1, IsN K H7 6 z.1 z.2 ∧ z.2 ∈ xs.map (·.1)) ∧ DK K H7 60 d xs := fun hne => by
                have hne2 : ws1.map (·.2) ≠ [] := fun h => hne (List.map_eq_nil_iff.mp h)
                obtain ⟨b1, b2⟩ := gm.bound hne2
                have e0 := gm.e0
                refine ⟨lh1.isE.cut (dp_small e0 (by omega)), e0, b1, fun z hz => ⟨(lh1.isW z hz).cut (dp_small ?_ ?_), inK _ (List.mem_map.mpr ⟨z, hsub1 z hz, rfl⟩)⟩, lh1.dk.up (by omega)⟩
                · exact posK _ (List.mem_map.mpr ⟨z, hsub1 z hz, rfl⟩)
                · have := b2 z.2 (List.mem_map.mpr ⟨z, hz, rfl⟩); omega
              refine ⟨fun σ H' => ∃ c2 acc2 ts2 y6, σ = [some (.ref l), some (.ref d), some (.int c2), some ev1, some (.ref wl), some (.ref tl), y6] ∧ LH K H H' (n + 1) d wl tl xs e1 ev1 ws1 acc2 ts2 ∧
                GX (lkD xs) (F.map (·.2)) (val ps) (cC ps) B c2 e1 (ws1.map (·.2)) acc2 ∧ acc2.length ≤ acc.length + 1 ∧ gmu (lkD xs) (c2 / 2) (if c2 = 0 then e1 else e1 + 1) (ws1.map (·.2)) < m, ?_, ?_⟩
              · rintro σ2 H9 ⟨c2, acc2, ts2, y8, rfl, lh2, gx, hl2, hμ2⟩
                refine ⟨_, rfl, rfl, _, rfl, ite2 (fun h => ?_) fun h => ?_⟩
                · have h : ¬ c2 = 0 := by simpa using h
                  rw [if_neg h] at hμ2
                  have e0 := gx.e0
                  have eB := gx.bound h
                  refine ⟨_, rfl, c2, 2, rfl, rfl, div2, _, rfl, ev1, e1, rfl, lh2.isE.cut (dp_small e0 (by omega)), e0, eB, fun H10 v s10 hv => ?_⟩
                  have nn := gmu_nn (lkD xs) (c2 / 2) (e1 + 1) (ws1.map (·.2))
                  have lh3 := lh2.sames s10
                  exact ⟨(gmu (lkD xs) (c2 / 2) (e1 + 1) (ws1.map (·.2))).toNat, by omega, c2 / 2, e1 + 1, v, ws1, acc2, ts2, y8, by omega, rfl, ⟨lh3.same, lh3.dk, lh3.hw, lh3.ht, lh3.items, hv.up (by omega), lh3.isW⟩, gx.next h, by omega, hsub1⟩
                · have h : c2 = 0 := by simpa using h
                  subst h
                  rw [if_pos rfl] at hμ2
                  have hμ2 : gmu (lkD xs) 0 e1 (ws1.map (·.2)) < m := hμ2
                  have nn := gmu_nn (lkD xs) 0 e1 (ws1.map (·.2))
                  exact ⟨(gmu (lkD xs) 0 e1 (ws1.map (·.2))).toNat, by omega, 0, e1, ev1, ws1, acc2, ts2, y8, by omega, rfl, lh2, gx.zero rfl, by omega, hsub1⟩
              · refine ⟨_, rfl, c1, 2, rfl, rfl, pos2, rfl, _, rfl, ite2 (fun h => ?_) fun h => ?_⟩
                · have h : c1 % 2 = 1 := by simpa using h
                  refine ⟨_, rfl, _, rfl, _, rfl, _, rfl, c1, e1, ev1, d, xs, wl, ws1, rfl, lh1.hw, six, fun H8 s8 => ?_⟩
                  have lh8 := lh1.sames s8
                  have hsg : ∀ sg : Int, sg = (if nxt (lkD xs) c1 e1 (ws1.map (·.2)) % 4 = 1 then 1 else -1) → sg = 1 ∨ sg = -1 := fun sg z => by rw [z]; split <;> simp
                  have g2 := fun sg hs => gm.odd' h hgrow (s := sg) hs
                  generalize hsd : (if nxt (lkD xs) c1 e1 (ws1.map (·.2)) % 4 = 1 then (1 : Int) else -1) = sg
                  refine ⟨_, rfl, .inl ⟨rfl, _, .inl (.inl lh8.ht)⟩, _, rfl, _, rfl, le2, fun D hD => ⟨tl, ts, _, rfl, rfl, ((same_new hD) _ _ lh8.ht), small1000 (by omega), ?_⟩⟩
                  refine ⟨_, rfl, _, rfl, c1, sg, rfl, rfl, ?_⟩
                  refine ⟨c1 - sg, (sg, e1) :: acc, _, _, rfl, lh8.push ne ntl hD, g2 sg hsd.symm, Nat.le_refl _, ?_⟩
                  rcases hμ with f | ⟨f1, f2, f3⟩
                  · exact f _ _ (half_le (.inr ⟨h, hsg sg hsd.symm⟩))
                  · rw [← f3]
                    exact gmu_stay f1 (.inr ⟨h, hsd.symm⟩) f2
                · have h : c1 % 2 = 0 := by
                    have h : ¬ c1 % 2 = 1 := by simpa using h
                    omega
                  refine ⟨c1, acc, ts, y7, rfl, lh1, gm.even h hgrow, by omega, ?_⟩
                  rcases hμ with f | ⟨f1, f2, f3⟩
                  · refine f _ _ ?_
                    have := half_le (c := c1) (s := 0) (.inl ⟨h, rfl⟩)
                    rw [Int.sub_zero] at this
                    exact this
                  · rw [← f3]
                    have := gmu_stay (cnt := lkD xs) (c := c1) (e := e1) (ws := ws1.map (·.2)) (s := 0) f1 (.inl ⟨h, rfl⟩) f2
                    rw [Int.sub_zero] at this
                    exact this
            · refine ⟨_, rfl, _, _, rfl, .inl ⟨_, .inl (.inl lh.hw), rfl⟩, _, _, rfl, rfl, _, rfl, ?_⟩
              cases ws with
              | nil =>
                have hc0 : c ≠ 0 := hgo.resolve_left (fun h => h rfl)
                exact iteF (iteF ⟨c, e, ev, [], y6, rfl, lh, gi.stay hc0 (fun w h => nomatch h), hsub, .inr ⟨hc0, (fun h => nomatch h), hm.symm⟩⟩)
              | cons z r =>
                have hz := lh.isW z List.mem_cons_self
                obtain ⟨a, ea⟩ := hz.isref
                have bt : decide ((0 : Int) < ((((z :: r).reverse.map (·.1)).length : Nat) : Int)) = true := by
                  refine decide_eq_true ?_
                  rw [List.length_map, List.length_reverse, List.length_cons]
                  omega
                rw [bt]
                have zF := hsub z List.mem_cons_self
                have zK : z.2 ∈ F.map (·.2) := List.mem_map.mpr ⟨z, zF, rfl⟩
                refine iteT ⟨_, rfl, rfl, _, rfl, or_go (b2 := decide (z.2 = e)) (fun hg => ?_) (fun h1 h2 => ?_) (fun h1 h => ?_)⟩
                · have hg : c = 0 ∨ z.2 = e := by
                    rcases hg with y | y
                    · exact .inl (by simpa using y)
                    · exact .inr (of_decide_eq_true y)
                  have lp := lh.pop ne nwl
                  refine ⟨_, rfl, .inl ⟨rfl, _, .inl (.inl lh.hw)⟩, wl, _, z.1, rfl, rfl, lh.hw, ?_, ?_⟩
                  · rw [List.length_map, List.length_reverse, List.length_cons, List.getElem?_map, List.reverse_cons, List.getElem?_append_right (by simp)]
                    simp
                  · refine ⟨_, rfl, _, rfl, _, rfl, d, xs, z.2, a, rfl, ea, (lp.dk.up (m := 60) (by omega)).key (by omega) ((ea ▸ lp.isE).up (by omega)) (inK _ zK), has_mem.mpr (inK _ zK), c, _, rfl, rfl, ?_⟩
                    exact ⟨c + lkD xs z.2, z.2, z.1, r, y6, rfl, lp, gi.pop hg, fun y hy => hsub y (List.mem_cons_of_mem _ hy), .inl fun d f hd => by rw [hm]; exact gmu_pop hd⟩
                · have hc0 : ¬ c = 0 := by simpa using h1
                  have hne : ¬ z.2 = e := of_decide_eq_false h2
                  refine ⟨c, e, ev, z :: r, y6, rfl, lh, gi.stay hc0 (fun w h => ?_), hsub, .inr ⟨hc0, fun h => ?_, hm.symm⟩⟩
                  · have h : some z.2 = some w := h
                    cases h; exact hne
                  · have h : some z.2 = some e := h
                    cases h; exact hne rfl
                · have hc0 : ¬ c = 0 := by simpa using h1
                  have h2 := gi.len hc0
                  have h3 : ∀ w ∈ F.map (·.2), w ≤ 100 := by
                    rcases smallK with y | y
                    · rw [List.map_cons, List.length_cons] at h2; omega
                    · exact y
                  obtain ⟨q, q0, q1, q2, _⟩ := gi.ex
                  have h4 := q1 hc0
                  have h5 := q2 z.2 List.mem_cons_self
                  have h6 := h3 z.2 zK
                  exact ⟨_, rfl, 1, rfl, wl, _, _, z.1, rfl, rfl, .inl (.inl lh.hw), atI_last, _, rfl, eqN (hz.cut (dp_small (by omega) h6)) (lh.isE.cut (dp_small (by omega) (by omega))) (by decide) ⟨_, rfl, h⟩⟩
          · have w0 : ws = [] := by
              cases ws with
              | nil => rfl
              | cons z r =>
                exfalso
                have h1 := of_decide_eq_false h1
                rw [List.length_map, List.length_reverse, List.length_cons] at h1
                omega
            have c0 : c = 0 := by simpa using h2
            subst w0 c0
            have ea := gi.done
            refine ⟨_, rfl, tl, ts, rfl, .inl (.inl lh.ht), fun R hR => ⟨R, ts.reverse, rfl, .inl ⟨.inl (.inl upd_same), fun D hD => ?_⟩⟩⟩
            have sE : Same H6 (upd (upd H6 R (.lst ts.reverse)) D (.tup ts.reverse)) := (same_new hR).trans (same_new hD)
            refine hQ _ _ (lh.same.trans sE) (IsN.mk (.inl (.inl upd_same)) ?_ (by rw [List.length_reverse]; omega))
            have := paired_rev lh.items
            rw [List.reverse_reverse, ea] at this
            exact items_tx (Tx.of sE) this
end
end Sr
set_option Elab.async false
set_option linter.all false
set_option maxRecDepth 100000
set_option maxHeartbeats 4000000
/-! next_of by its levels, negate, plus, minus -/
namespace Sr
open PySem PySem.Spec PyProof.Rows L2

/-- small numbers -/
def Sm (x : Int) : Prop := -(p2 90) < x ∧ x < p2 90
theorem Sm.nf {x : Int} (h : Sm x) : Nf 90 (naf x) := naf_top h.2 h.1 (by decide)
theorem Sm.dp {x : Int} (h : Sm x) : Sr.dp 7 x = true := dp_of h.nf (by decide)
theorem Sm.len {x : Int} (h : Sm x) : (naf x).length ≤ 46 := by have := h.nf.len (by decide); omega
theorem Sm.exps {x : Int} (h : Sm x) : ∀ t ∈ naf x, 0 ≤ t.2 ∧ t.2 ≤ 90 := fun t ht => (h.nf.mem t ht).2
theorem Nf.absS : ∀ {l : Terms} {b : Int}, Nf b l → Sr.absS l = l.length
  | [], _, _ => rfl
  | t :: r, b, ⟨h1, h2, h3, h4⟩ => by
    show absI t.1 + Sr.absS r = ((r.length + 1 : Nat) : Int)
    rw [Nf.absS h4]
    rcases h1 with e | e <;> rw [e]
    · show (1 : Int) + _ = _; omega
    · show (1 : Int) + _ = _; omega
theorem cond_sum {x y : Int} (hx : Sm x) (hy : Sm y) : Cond 99 (naf x ++ naf y) := by
  have h1 := hx.len
  have h2 := hy.len
  refine cond_top (fun t ht => ?_) ?_ ?_
  · rcases List.mem_append.mp ht with z | z
    · exact hx.exps t z
    · exact hy.exps t z
  · rw [absS_app, hx.nf.absS, hy.nf.absS]; omega
  · rw [List.length_append]; omega
theorem sm_of {x k : Int} (h : -(p2 k) < x) (h2 : x < p2 k) (hk : k ≤ 90) : Sm x := by
  have := p2_mono hk
  exact ⟨by omega, by omega⟩
theorem sm_small {x : Int} (h : -100000 < x) (h2 : x < 100000) : Sm x := by
  have : (100000 : Int) < p2 90 := by decide +kernel
  exact ⟨by omega, by omega⟩
theorem sm_exp {x : Int} (h : Sm x) {t : Int × Int} (ht : t ∈ naf x) : Sm t.2 := by have := h.exps t ht; exact sm_small (by omega) (by omega)
theorem naf_zero_add (x : Int) : naf 0 ++ naf x = naf x := by rw [naf_zero]; rfl

section
variable {P : Program} {w : World} {K : PySem.W.Frag} {mg : Str → Option Value} {base : Heap}
theorem sc_next_of : FnScope ["number"] ["number"] (defScope s_next_of) := ⟨rfl, rfl, rfl, by decide +kernel, rfl, by decide +kernel, by decide +kernel⟩
/-- a pair's tuple in the heap -/
theorem isI_mk {H : Hp} {n : Nat} {b : Addr} {e : V} {i p : Int} (h : SqT K H b [.int i, e]) (he : IsN K H n e p) : IsI K H n (.ref b) (i, p) := ⟨b, e, rfl, h, he⟩
theorem items_app {H : Hp} {n : Nat} {xs ys : List V} {l m : Terms} (p : Paired (IsI K H n) xs l) (q : Paired (IsI K H n) ys m) : Paired (IsI K H n) (xs ++ ys) (l ++ m) := by
  induction p with
  | nil => exact q
  | cons h _ ih => exact .cons h ih
theorem items_up {H : Hp} {n m : Nat} {xs : List V} {l : Terms} (p : Paired (IsI K H n) xs l) (h : n ≤ m) : Paired (IsI K H m) xs l := L2.Paired.mapP p fun _ _ q => q.up h
theorem small16 {n : Nat} (h : n ≤ 4000) : n ≤ sizeLine := by rw [sizeLine_eq]; omega
theorem d_next_of (T : Txt K mg) {k : Nat} {B B' : Int} (G_gathered : Df P w K mg base CX0 k "gathered" ["pairs"] (spGath K 6 B)) (hB : ∀ x, 0 ≤ x → x ≤ B' → Cond B (naf x ++ [(1, 0)])) (hs : B' ≤ 99) :
    Df P w K mg base CX0 (k + 1) "next_of" ["number"] (spNext K B') := by
  refine .mk' T.f_next_of T.g_next_of sc_next_of (fun _ _ _ _ _ _ us hl => match us, hl with | [_], _ => rfl) (fun vs H Q E h => ?_) (fun cdv A outer s H vs Q E hr h => ?_)
  · obtain ⟨v, x, rfl, _⟩ := h
    rfl
  · obtain ⟨v, x, rfl, hN, h0, hb, hQ⟩ := h
    obtain ⟨a, xs, rfl, hz, hq, hp⟩ := hN.open_
    refine ⟨_, pss_one (ps_ret (pe_cl G_gathered hr pass0 (pa_cons (pe_op op_cat (pe_callTy call_list_of (by rfl) T.n_list (by decide +kernel) (pa_cons (pv 0) pa_nil)) (pe_lst (pa_cons (pe_tup (pa_cons pe_int (pa_cons (pe_tup pa_nil) pa_nil))) pa_nil))) pa_nil))), ?_⟩
    refine ⟨_, rfl, a, xs, rfl, .inr hq, fun l hl => ⟨Nat.zero_le _, fun ea hea => ⟨le2, fun b hb2 => ⟨small16 (by show 1 ≤ 4000; omega), fun q hq2 => ?_⟩⟩⟩⟩
    have s1 := same_new (o := .lst xs) hl
    have s2 := same_new (o := .tup []) hea
    have s3 := same_new (o := .tup [.int 1, .ref ea]) hb2
    have s4 := same_new (o := .lst [.ref b]) hq2
    have s24 := (s2.trans s3).trans s4
    refine ⟨l, q, xs, [.ref b], rfl, rfl, s24 _ _ upd_same, upd_same, small16 (by show xs.length + 1 ≤ 4000; omega), fun r hr2 => ?_⟩
    have s5 := same_new (o := .lst (xs ++ [.ref b])) hr2
    have sA := (s1.trans s24).trans s5
    refine ⟨r, xs ++ [.ref b], naf x ++ [(1, 0)], rfl, upd_same, items_app (items_up (items_tx (Tx.of sA) hp) (by decide)) (.cons (isI_mk (e := .ref ea) ?_ ?_) .nil), hB x h0 hb, fun H' v' s' hv => ?_⟩
    · exact .inl (.inl (s5 _ _ (s4 _ _ upd_same)))
    · exact IsN.zero (.inl (.inl (s5 _ _ (s4 _ _ (s3 _ _ upd_same)))))
    · refine hQ H' v' (sA.trans s') ?_
      have ev : val (naf x ++ [(1, 0)]) = x + 1 := by
        rw [val_app, val_naf]; rfl
      rw [ev] at hv
      exact hv.cut (dp_small (by omega) (by omega))
/-- the levels -/
theorem lev (T : Txt K mg) : ∀ j, j ≤ 6 → Df P w K mg base CX0 (9 + 3 * j) "next_of" ["number"] (spNext K (Tb j))
  | 0, _ => by
    refine .mk' T.f_next_of T.g_next_of sc_next_of (fun _ _ _ _ _ _ us hl => match us, hl with | [_], _ => rfl) (fun vs H Q E h => ?_) (fun cdv A outer s H vs Q E hr h => ?_)
    · obtain ⟨v, x, rfl, _⟩ := h
      rfl
    · obtain ⟨v, x, rfl, hN, h0, hb, hQ⟩ := h
      have hb : x ≤ -1 := hb
      omega
  | j + 1, hj => by
    have G := lev T j (by omega)
    have hT : ∀ m : Fin 7, Tb m.val ≤ 99 := by decide
    have h2 := hT ⟨j + 1, by omega⟩
    have S := d_sign_at T G
    have R := d_gathered T (n := 6) (hT ⟨j, by omega⟩) (by decide) (by decide) (by omega) (G.mono (Nat.le_succ _)) S
    exact d_next_of T R (fun x => cond_next j (by omega) x) h2
theorem g_next (T : Txt K mg) : Df P w K mg base CX0 27 "next_of" ["number"] (spNext K 99) := lev T 6 (by decide)
theorem g_gath (T : Txt K mg) {n : Nat} (h : 6 ≤ n) (h2 : n ≤ 60) : Df P w K mg base CX0 29 "gathered" ["pairs"] (spGath K n 99) :=
  d_gathered T (by decide) h h2 (by decide) ((g_next T).mono (Nat.le_succ _)) (d_sign_at T (g_next T))

/-! ### plus -/
def spPlus (K : PySem.W.Frag) (n : Nat) : Sp := fun vs H Q _ => ∃ v u x y, vs = [v, u] ∧ IsN K H (n + 1) v x ∧ IsN K H (n + 1) u y ∧ Cond 99 (naf x ++ naf y) ∧ ∀ H' v', Same H H' → IsN K H' (n + 1) v' (x + y) → Q v' H'
theorem sc_plus : FnScope ["first", "second"] ["first", "second"] (defScope s_plus) := ⟨rfl, rfl, rfl, by decide +kernel, rfl, by decide +kernel, by decide +kernel⟩
theorem d_plus (T : Txt K mg) {n : Nat} (hn : 6 ≤ n) (hn2 : n ≤ 60) : Df P w K mg base CX0 30 "plus" ["first", "second"] (spPlus K n) := by
  have G_gathered := g_gath (P := P) (w := w) (base := base) T hn hn2
  refine .mk' T.f_plus T.g_plus sc_plus (fun _ _ _ _ _ _ us hl => match us, hl with | [_, _], _ => rfl) (fun vs H Q E h => ?_) (fun cdv A outer s H vs Q E hr h => ?_)
  · obtain ⟨v, u, x, y, rfl, _⟩ := h
    rfl
  · obtain ⟨v, u, x, y, rfl, hv, hu, hc, hQ⟩ := h
    obtain ⟨a, xs, rfl, zx, qx, px⟩ := hv.open_
    obtain ⟨b, ys, rfl, zy, qy, py⟩ := hu.open_
    refine ⟨_, pss_one (ps_ret (pe_cl G_gathered hr pass0 (pa_cons (pe_op op_cat (pe_callTy call_list_of (by rfl) T.n_list (by decide +kernel) (pa_cons (pv 0) pa_nil)) (pe_callTy call_list_of (by rfl) T.n_list (by decide +kernel) (pa_cons (pv 1) pa_nil))) pa_nil))), ?_⟩
    refine ⟨_, rfl, a, xs, rfl, .inr qx, fun l hl => ⟨_, rfl, b, ys, rfl, .inr ((Tx.of (same_new hl)) _ _ qy), fun q hq => ?_⟩⟩
    have s1 := same_new (o := .lst xs) hl
    have s2 := same_new (o := .lst ys) hq
    refine ⟨l, q, xs, ys, rfl, rfl, s2 _ _ upd_same, upd_same, small16 (by omega), fun r hr2 => ?_⟩
    have s5 := same_new (o := .lst (xs ++ ys)) hr2
    have sA := (s1.trans s2).trans s5
    refine ⟨r, xs ++ ys, naf x ++ naf y, rfl, upd_same, items_app (items_tx (Tx.of sA) px) (items_tx (Tx.of sA) py), hc, fun H' v' s' hv' => hQ H' v' (sA.trans s') ?_⟩
    rw [val_app, val_naf, val_naf] at hv'
    exact hv'
/-! ### negate -/
def spNegate (K : PySem.W.Frag) (n : Nat) : Sp := fun vs H Q _ => ∃ v x, vs = [v] ∧ IsN K H (n + 1) v x ∧ ∀ H' v', Same H H' → IsN K H' (n + 1) v' (-x) → Q v' H'
theorem sc_negate : FnScope ["number", "sign", "exponent"] ["number"] (defScope s_negate) := ⟨rfl, rfl, rfl, by decide +kernel, rfl, by decide +kernel, by decide +kernel⟩
theorem d_negate (T : Txt K mg) (n : Nat) : Df P w K mg base CX0 1 "negate" ["number"] (spNegate K n) := by
  refine .mk' T.f_negate T.g_negate sc_negate (fun _ _ _ _ _ _ us hl => match us, hl with | [_], _ => rfl) (fun vs H Q E h => ?_) (fun cdv A outer s H vs Q E hr h => ?_)
  · obtain ⟨v, x, rfl, _⟩ := h
    rfl
  · obtain ⟨v, x, rfl, hN, hQ⟩ := h
    obtain ⟨a, xs, rfl, hz, hq, hp⟩ := hN.open_
    have hl := paired_len hp
    refine ⟨_, pss_one (ps_ret (pe_callTy call_tuple_of (by rfl) T.n_tuple (by decide +kernel) (pa_cons
        (by exact (pe_lc (own := [("sign", 1), ("exponent", 2)]) (g := gTup K 2 (gCons (gName 1) (gCons (gName 2) gNil))) (tt := tYes) rfl sc_negate.nd (pi_tup (pv 0)) (blkOk_by (N := ["number", "sign", "exponent"]) (sc := defScope s_negate) (by decide +kernel))
          (fun _ _ _ _ _ => pg_tup rfl (pgs_cons (pg_name (i := 1) sc_negate.nd rfl (Or.inl rfl)) (pgs_cons (pg_name (i := 2) sc_negate.nd rfl (Or.inl rfl)) pgs_nil)))
          (fun _ _ _ _ _ => pts_nil) (fun _ _ _ _ _ => pe_tup (pa_cons (pe_un un_neg (pv 1)) (pa_cons (pv 2) pa_nil))))) pa_nil))), ?_⟩
    refine ⟨_, rfl, a, rfl, ⟨xs, hq⟩, fun D hD => lc_tup (xs := xs) (fun i H' => Same H H' ∧ ∃ ys, H' D = some (.lst ys) ∧ Paired (IsI K H' n) ys (negL ((naf x).take i)))
      ⟨same_new hD, [], upd_same, .nil⟩ (fun i H' _ ⟨s1, _⟩ => (Tx.of s1) _ _ hq) ?_ ?_⟩
    · rintro i y H' hy ⟨s1, ys, hL, hys⟩
      obtain ⟨t, ht, b, e, rfl, hb, he⟩ := item_at hp hy
      refine ⟨b, _, rfl, (Tx.of s1) _ _ hb, rfl, _, _, rfl, _, _, rfl, rfl, rfl, lc_yes ?_⟩
      have ly : ys.length ≤ 1000 := by
        have h1 := paired_len hys
        have h2 : (negL ((naf x).take i)).length = min i (naf x).length := by unfold negL; rw [List.length_map, List.length_take]
        omega
      refine ⟨_, rfl, _, rfl, _, rfl, le2, fun B hB => ⟨ys, same_new hB _ _ hL, small1000 (by omega), same_set (s1.trans (same_new hB)) hD, ys ++ [.ref B], upd_same, ?_⟩⟩
      have e1 : negL ((naf x).take (i + 1)) = negL ((naf x).take i) ++ [(-t.1, t.2)] := by
        rw [take_next ht]; unfold negL; rw [List.map_append]; rfl
      rw [e1]
      exact push_item (Same.refl _) hB hL hys (he.tx (Tx.of s1))
    · rintro H' ⟨s1, ys, hL, hys⟩
      rw [hl, List.take_length] at hys
      refine ⟨D, ys, rfl, .inl ⟨.inl (.inl hL), fun R hR => hQ _ _ (s1.trans (same_new hR)) (IsN.mk (.inl (.inl upd_same)) ?_ ?_)⟩⟩
      · rw [naf_neg]; exact items_tx (Tx.of (same_new hR)) hys
      · have h1 := paired_len hys
        have h2 : (negL (naf x)).length = (naf x).length := by unfold negL; rw [List.length_map]
        omega
/-! ### minus -/
def spMinus (K : PySem.W.Frag) (n : Nat) : Sp := fun vs H Q _ => ∃ v u x y, vs = [v, u] ∧ IsN K H (n + 1) v x ∧ IsN K H (n + 1) u y ∧ Cond 99 (naf x ++ naf (-y)) ∧ ∀ H' v', Same H H' → IsN K H' (n + 1) v' (x - y) → Q v' H'
theorem sc_minus : FnScope ["first", "second"] ["first", "second"] (defScope s_minus) := ⟨rfl, rfl, rfl, by decide +kernel, rfl, by decide +kernel, by decide +kernel⟩
theorem d_minus (T : Txt K mg) {n : Nat} (hn : 6 ≤ n) (hn2 : n ≤ 60) : Df P w K mg base CX0 31 "minus" ["first", "second"] (spMinus K n) := by
  have G_plus := d_plus (P := P) (w := w) (base := base) T hn hn2
  have G_negate := (d_negate (P := P) (w := w) (base := base) T n).mono (show 1 ≤ 30 by decide)
  refine .mk' T.f_minus T.g_minus sc_minus (fun _ _ _ _ _ _ us hl => match us, hl with | [_, _], _ => rfl) (fun vs H Q E h => ?_) (fun cdv A outer s H vs Q E hr h => ?_)
  · obtain ⟨v, u, x, y, rfl, _⟩ := h
    rfl
  · obtain ⟨v, u, x, y, rfl, hv, hu, hc, hQ⟩ := h
    refine ⟨_, pss_one (ps_ret (pe_cl G_plus hr pass0 (pa_cons (pv 0) (pa_cons (pe_cl G_negate hr pass0 (pa_cons (pv 1) pa_nil)) pa_nil)))), ?_⟩
    refine ⟨_, rfl, _, rfl, u, y, rfl, hu, fun H1 u' s1 hu' => ⟨v, u', x, -y, rfl, hv.tx (Tx.of s1), hu', hc, fun H2 v' s2 hv' => hQ H2 v' (s1.trans s2) (by rw [Int.sub_eq_add_neg]; exact hv')⟩⟩
end
end Sr
set_option Elab.async false
set_option linter.all false
set_option maxRecDepth 100000
set_option maxHeartbeats 4000000
/-! of_int, power_of_two, to_int, add, subtract, check_place -/
namespace Sr
open PySem PySem.Spec PyProof.Rows L2

/-- numbers below 2 ** 40 -/
def T40 (x : Int) : Prop := -(p2 40) < x ∧ x < p2 40
theorem T40.nf {x : Int} (h : T40 x) : Nf 40 (naf x) := naf_top h.2 h.1 (by decide)
theorem T40.sm {x : Int} (h : T40 x) : Sm x := sm_of h.1 h.2 (by decide)
theorem p2_40 : p2 40 = 1099511627776 := rfl
theorem t40_of {x : Int} (h : -1000000 < x) (h2 : x < 1000000) : T40 x := by
  unfold T40; rw [p2_40]; omega
theorem szF_small {e : Int} (h1 : 0 ≤ e) (h2 : e ≤ 40) : szF 6 e ≤ 13 := by
  have h : ∀ i : Fin 41, szF 6 (i.val : Nat) ≤ 13 := by decide +kernel
  have := h ⟨e.toNat, by omega⟩
  rw [show ((e.toNat : Nat) : Int) = e by omega] at this
  exact this
theorem sum_le {f : Int × Int → Int} {c : Int} : ∀ {l : Terms}, (∀ t ∈ l, f t ≤ c) → (l.map f).sum ≤ c * l.length
  | [], _ => by simp
  | t :: r, h => by
    rw [List.map_cons, List.sum_cons, List.length_cons]
    have h1 := h t List.mem_cons_self
    have h2 := sum_le (l := r) fun u hu => h u (List.mem_cons_of_mem _ hu)
    have : c * ((r.length + 1 : Nat) : Int) = c * r.length + c := by rw [Int.natCast_add, Int.mul_add]; simp
    omega
theorem ok40 {x : Int} (h : T40 x) : okF 7 x = true := by
  unfold okF
  rw [Bool.and_eq_true]
  constructor
  · refine decide_eq_true ?_
    have h1 := h.nf.len (by decide)
    have h2 := sum_le (f := fun t => szF 6 t.2) (c := 13) (l := naf x) fun t ht => by
      have := (h.nf.mem t ht).2
      exact szF_small this.1 this.2
    show 1 + ((naf x).map fun t => szF 6 t.2).sum ≤ 300
    omega
  · refine decide_eq_true ?_
    have : htF 7 x ≤ ((6 : Nat) : Int) + 1 := htF_le 6 x
    have e : ((6 : Nat) : Int) + 1 = 7 := rfl
    omega

section
variable {P : Program} {w : World} {K : PySem.W.Frag} {mg : Str → Option Value} {base : Heap}
/-! ### of_int -/
def spOfInt (K : PySem.W.Frag) : Sp := fun vs H Q _ => ∃ x, vs = [.int x] ∧ T40 x ∧ ∀ H' v, Same H H' → IsN K H' 7 v x → Q v H'
theorem sc_of_int : FnScope ["value"] ["value"] (defScope s_of_int) := ⟨rfl, rfl, rfl, by decide +kernel, rfl, by decide +kernel, by decide +kernel⟩
theorem bits40 {x : Int} (h : T40 x) : Builtin.Int.intBits x ≤ 64 := by
  obtain ⟨h1, h2⟩ := h
  rw [p2_40] at h1 h2
  exact intBits_le_64 (by omega) (by omega)
theorem d_of_int (T : Txt K mg) : Df P w K mg base (L2.CX P w) 11 "of_int" ["value"] (spOfInt K) := by
  have G_from_int := (d_from (P := P) (w := w) (base := base) T 7).mono (show 8 ≤ 10 by decide)
  have G_allowed := d_allowed (P := P) (w := w) (base := base) T 7
  refine .mk' T.f_of_int T.g_of_int sc_of_int (fun _ _ _ _ _ _ us hl => match us, hl with | [_], _ => rfl) (fun vs H Q E h => ?_) (fun cdv A outer s H vs Q E hr h => ?_)
  · obtain ⟨x, rfl, _⟩ := h
    rfl
  · obtain ⟨x, rfl, hx, hQ⟩ := h
    obtain ⟨t_MAX_DIGITS, m_MAX_DIGITS⟩ := T.i_MAX_DIGITS
    obtain ⟨x1, x2, x3, x4⟩ := T.e_NotAllowed
    refine ⟨_, pss_cons (ps_if (pt_cmpR op_gt (pe_bits (pv 0)) (pe_glob (v := .int 2900) rfl m_MAX_DIGITS ⟨_, rfl⟩) (nomark _)) (pss_one (ps_raise rfl (takes_of rfl rfl rfl rfl) (pmk_own PySem.F.excBase_ValueError x1 T.c_NotAllowed x2 (raises_own x3 x4) rfl))) pss_nil)
      (pss_one (ps_ret (pe_cl G_allowed hr (passes_call (takes_of rfl rfl rfl rfl) (fun _ _ _ _ h => h)) (pa_cons (pe_cl G_from_int hr pass0 (pa_cons (pv 0) pa_nil)) pa_nil)))), ?_⟩
    have hb := bits40 hx
    refine ⟨_, rfl, x, rfl, _, _, rfl, rfl, _, rfl, ite2 (fun c => ?_) fun c => ?_⟩
    · have c := of_decide_eq_true c
      omega
    · refine ⟨_, rfl, x, rfl, hx.sm.dp, ?_, fun t ht => ?_, fun H1 v s1 hv => ⟨v, x, rfl, hv, fun _ H2 s2 => hQ H2 v (s1.trans s2) (hv.tx (Tx.of s2)), fun c => ?_⟩⟩
      · have := hx.sm.len; omega
      · have := hx.sm.exps t ht; omega
      · rw [ok40 hx] at c; cases c
/-! ### power_of_two -/
def spPow2 : Sp := fun vs H Q _ => ∃ c, vs = [.int c] ∧ 0 ≤ c ∧ c ≤ 64 ∧ Q (.int (p2 c)) H
theorem sc_power_of_two : FnScope ["count", "value", "_"] ["count"] (defScope s_power_of_two) := ⟨rfl, rfl, rfl, by decide +kernel, rfl, by decide +kernel, by decide +kernel⟩
theorem d_power_of_two (T : Txt K mg) : Df P w K mg base CX0 1 "power_of_two" ["count"] spPow2 := by
  refine .mk' T.f_power_of_two T.g_power_of_two sc_power_of_two (fun _ _ _ _ _ _ us hl => match us, hl with | [_], _ => rfl) (fun vs H Q E h => ?_) (fun cdv A outer s H vs Q E hr h => ?_)
  · obtain ⟨x, rfl, _⟩ := h
    rfl
  · obtain ⟨c, rfl, h0, h1, hQ⟩ := h
    refine ⟨_, pss_cons (ps_set (i := 1) sc_power_of_two.nd rfl (.inl rfl) pe_int)
      (pss_cons (ps_for (passes_of rfl) rfl (pi_range1 (by rfl) T.n_range (pa_cons (pv 0) pa_nil)) (pg_name (i := 2) sc_power_of_two.nd rfl (.inl rfl)) (pss_one (ps_aug (i := 1) sc_power_of_two.nd rfl (.inl rfl) pe_int iop_mul)))
      (pss_one (ps_ret (pv 1)))), ?_⟩
    refine ⟨_, rfl, c, rfl, by omega, by omega, for_range (fun i σ H' => ∃ y, σ = [some (.int c), some (.int (p2 i)), y] ∧ H' = H) ⟨none, rfl, rfl⟩ ?_ ?_⟩
    · rintro i σ H' hi ⟨y, rfl, rfl⟩
      refine ⟨_, rfl, p2 i, 2, rfl, rfl, .inr ⟨by decide, by decide⟩, ⟨_, congrArg (fun z : Int => [some (V.int c), some (V.int z), _]) (show p2 i * 2 = p2 ((i + 1 : Nat) : Int) by
        rw [show ((i + 1 : Nat) : Int) = (i : Int) + 1 by omega, p2_succ (by omega)]; omega), rfl⟩⟩
    · rintro σ H' ⟨y, rfl, rfl⟩
      rw [show ((c.toNat : Nat) : Int) = c by omega]
      exact ⟨_, rfl, hQ⟩
/-! ### to_int -/
def spToInt (K : PySem.W.Frag) (n : Nat) : Sp := fun vs H Q _ => ∃ v x, vs = [v] ∧ IsN K H n v x ∧ -(p2 64) < x ∧ x < p2 64 ∧ ∀ H', Same H H' → Q (.int x) H'
theorem sc_to_int : FnScope ["number", "most", "value", "sign", "exponent"] ["number"] (defScope s_to_int) := ⟨rfl, rfl, rfl, by decide +kernel, rfl, by decide +kernel, by decide +kernel⟩
theorem val_take {l : Terms} {i : Nat} {t : Int × Int} (h : l[i]? = some t) : val (l.take (i + 1)) = val (l.take i) + t.1 * p2 t.2 := by
  rw [take_next h, val_app]
  show _ + (t.1 * p2 t.2 + 0) = _
  omega
theorem d_to_int (T : Txt K mg) : ∀ n, Df P w K mg base (L2.CX P w) (n + 9) "to_int" ["number"] (spToInt K n)
  | 0 => by
    refine .mk' T.f_to_int T.g_to_int sc_to_int (fun _ _ _ _ _ _ us hl => match us, hl with | [_], _ => rfl) (fun vs H Q E h => ?_) (fun cdv A outer s H vs Q E hr h => ?_)
    · obtain ⟨v, x, rfl, _⟩ := h
      rfl
    · obtain ⟨v, x, rfl, h, _⟩ := h
      exact h.elim
  | n + 1 => by
    have G_from_int := (d_from (P := P) (w := w) (base := base) T 7).mono (show 8 ≤ n + 9 by omega)
    have G_compare := (d_compare (P := P) (w := w) (base := base) T 7).mono (show 8 ≤ n + 9 by omega)
    have G_power_of_two := (d_power_of_two (P := P) (w := w) (base := base) T).mono (show 1 ≤ n + 9 by omega)
    have G_to_int := d_to_int T n
    refine .mk' T.f_to_int T.g_to_int sc_to_int (fun _ _ _ _ _ _ us hl => match us, hl with | [_], _ => rfl) (fun vs H Q E h => ?_) (fun cdv A outer s H vs Q E hr h => ?_)
    · obtain ⟨v, x, rfl, _⟩ := h
      rfl
    · obtain ⟨v, x, rfl, hN, h1, h2, hQ⟩ := h
      obtain ⟨a, xs, rfl, hz, hq, hp⟩ := hN.open_
      have hl := paired_len hp
      obtain ⟨t_MAX_BINARY, m_MAX_BINARY⟩ := T.i_MAX_BINARY
      obtain ⟨x1, x2, x3, x4⟩ := T.e_NotAllowed
      have s64 : Sm 64 := sm_small (by decide) (by decide)
      have nf := naf_top (x := x) (k := 64) h2 h1 (by decide)
      have e64 : (64 : Int) < p2 64 := by decide +kernel
      refine ⟨_, pss_cons (ps_set (i := 1) sc_to_int.nd rfl (.inl rfl) (pe_cl G_from_int hr pass0 (pa_cons (pe_glob (v := .int 64) rfl m_MAX_BINARY ⟨_, rfl⟩) pa_nil)))
        (pss_cons (ps_set (i := 2) sc_to_int.nd rfl (.inl rfl) pe_int)
        (pss_cons (ps_for (passes_of rfl) rfl (pi_tup (pv 0)) (pg_tup rfl (pgs_cons (pg_name (i := 3) sc_to_int.nd rfl (.inl rfl)) (pgs_cons (pg_name (i := 4) sc_to_int.nd rfl (.inl rfl)) pgs_nil))) (pss_cons (ps_if (pt_cmpR op_gt (pe_cl G_compare hr pass0 (pa_cons (pv 4) (pa_cons (pv 1) pa_nil))) pe_int (nomark _)) (pss_one (ps_raise rfl (takes_of rfl rfl rfl rfl) (pmk_own PySem.F.excBase_ValueError x1 T.c_NotAllowed x2 (raises_own x3 x4) rfl))) pss_nil)
          (pss_one (ps_aug (i := 2) sc_to_int.nd rfl (.inl rfl) (pe_op op_mul (pv 3) (pe_cl G_power_of_two hr pass0 (pa_cons (pe_cl G_to_int hr (passes_call (takes_of rfl rfl rfl rfl) (fun _ _ _ _ h => h)) (pa_cons (pv 4) pa_nil)) pa_nil))) ip_add))))
        (pss_cons (ps_if (pt_cmpR op_ge (pe_callB call_abs (by rfl) T.n_abs (by decide +kernel) (pa_cons (pv 2) pa_nil)) (pe_cl G_power_of_two hr pass0 (pa_cons (pe_glob (v := .int 64) rfl m_MAX_BINARY ⟨_, rfl⟩) pa_nil)) (nomark _)) (pss_one (ps_raise rfl (takes_of rfl rfl rfl rfl) (pmk_own PySem.F.excBase_ValueError x1 T.c_NotAllowed x2 (raises_own x3 x4) rfl))) pss_nil)
        (pss_one (ps_ret (pv 2)))))), ?_⟩
      refine ⟨64, rfl, s64.dp, by have := s64.len; omega, fun t ht => by have := s64.exps t ht; omega, fun H1 v1 s1 hv1 => ?_⟩
      refine ⟨_, rfl, a, rfl, ⟨xs, (Tx.of s1) _ _ hq⟩, for_tup (xs := xs) (fun i σ H' => ∃ y3 y4, σ = [some (.ref a), some v1, some (.int (val ((naf x).take i))), y3, y4] ∧ Same H1 H') ⟨none, none, rfl, Same.refl _⟩
        (fun i σ H' _ ⟨_, _, _, s2⟩ => (Tx.of (s1.trans s2)) _ _ hq) ?_ ?_⟩
      · rintro i y σ H2 hy ⟨y3, y4, rfl, s2⟩
        obtain ⟨t, ht, b, e, rfl, hb, he⟩ := item_at hp hy
        obtain ⟨ts, te0, te1⟩ := nf.mem t (List.mem_of_getElem? ht)
        have s12 := s1.trans s2
        have he2 := he.tx (Tx.of s12)
        refine ⟨b, _, rfl, (Tx.of s12) _ _ hb, rfl, _, _, rfl, _, _, rfl, rfl, ?_⟩
        refine ⟨_, rfl, _, rfl, e, v1, t.2, 64, rfl, (he2.cut (dp_small te0 (by omega))).up (by decide), hv1.tx (Tx.of s2), by decide, fun H3 s3 => ⟨_, _, rfl, rfl, _, rfl, ite2 (fun c => ?_) fun c => ?_⟩⟩
        · exfalso
          have c := of_decide_eq_true c
          unfold sgn at c
          split at c
          · exact absurd c (by decide)
          · split at c
            · exact absurd c (by decide)
            · omega
        · have he3 := he2.tx (Tx.of s3)
          refine ⟨_, rfl, _, rfl, _, rfl, e, t.2, rfl, he3, by omega, by omega, fun H4 s4 => ⟨t.2, rfl, te0, te1, t.1, _, rfl, rfl, cmul_small (by rcases ts with z | z <;> simp [z]), _, _, rfl, rfl, ?_⟩⟩
          exact ⟨_, _, by rw [val_take ht]; rfl, (s2.trans s3).trans s4⟩
      · rintro σ H2 ⟨y3, y4, rfl, s2⟩
        rw [hl, List.take_length, val_naf]
        refine ⟨_, rfl, x, rfl, 64, rfl, by decide, by decide, _, _, rfl, rfl, _, rfl, ite2 (fun c => ?_) fun c => ?_⟩
        · exfalso
          have c := of_decide_eq_true c
          split at c <;> omega
        · exact ⟨_, rfl, hQ H2 (s1.trans s2)⟩
/-! ### add, subtract -/
def spAdd (K : PySem.W.Frag) : Sp := fun vs H Q _ => ∃ v u x y, vs = [v, u] ∧ IsN K H 7 v x ∧ IsN K H 7 u y ∧ T40 x ∧ T40 y ∧ T40 (x + y) ∧ ∀ H' v', Same H H' → IsN K H' 7 v' (x + y) → Q v' H'
theorem sc_add : FnScope ["first", "second"] ["first", "second"] (defScope s_add) := ⟨rfl, rfl, rfl, by decide +kernel, rfl, by decide +kernel, by decide +kernel⟩
theorem d_add (T : Txt K mg) : Df P w K mg base (L2.CX P w) 32 "add" ["first", "second"] (spAdd K) := by
  have G_allowed := (d_allowed (P := P) (w := w) (base := base) T 7).mono (show 10 ≤ 31 by decide)
  have G_plus := (d_plus (P := P) (w := w) (base := base) T (n := 6) (by decide) (by decide)).mono (show 30 ≤ 31 by decide)
  refine .mk' T.f_add T.g_add sc_add (fun _ _ _ _ _ _ us hl => match us, hl with | [_, _], _ => rfl) (fun vs H Q E h => ?_) (fun cdv A outer s H vs Q E hr h => ?_)
  · obtain ⟨v, u, x, y, rfl, _⟩ := h
    rfl
  · obtain ⟨v, u, x, y, rfl, hv, hu, hx, hy, hz, hQ⟩ := h
    refine ⟨_, pss_one (ps_ret (pe_cl G_allowed hr (passes_call (takes_of rfl rfl rfl rfl) (fun _ _ _ _ h => h)) (pa_cons (pe_cl G_plus hr pass0 (pa_cons (pv 0) (pa_cons (pv 1) pa_nil))) pa_nil))), ?_⟩
    refine ⟨_, rfl, _, rfl, v, u, x, y, rfl, hv, hu, cond_sum hx.sm hy.sm, fun H1 z s1 h1 => ⟨z, x + y, rfl, h1, fun _ H2 s2 => hQ H2 z (s1.trans s2) (h1.tx (Tx.of s2)), fun c => ?_⟩⟩
    rw [ok40 hz] at c; cases c
def spSubtract (K : PySem.W.Frag) : Sp := fun vs H Q _ => ∃ v u x y, vs = [v, u] ∧ IsN K H 7 v x ∧ IsN K H 7 u y ∧ T40 x ∧ T40 y ∧ T40 (x - y) ∧ ∀ H' v', Same H H' → IsN K H' 7 v' (x - y) → Q v' H'
theorem sc_subtract : FnScope ["first", "second"] ["first", "second"] (defScope s_subtract) := ⟨rfl, rfl, rfl, by decide +kernel, rfl, by decide +kernel, by decide +kernel⟩
theorem T40.neg {x : Int} (h : T40 x) : T40 (-x) := by obtain ⟨h1, h2⟩ := h; exact ⟨by omega, by omega⟩
theorem d_subtract (T : Txt K mg) : Df P w K mg base (L2.CX P w) 32 "subtract" ["first", "second"] (spSubtract K) := by
  have G_allowed := (d_allowed (P := P) (w := w) (base := base) T 7).mono (show 10 ≤ 31 by decide)
  have G_minus := (d_minus (P := P) (w := w) (base := base) T (n := 6) (by decide) (by decide))
  refine .mk' T.f_subtract T.g_subtract sc_subtract (fun _ _ _ _ _ _ us hl => match us, hl with | [_, _], _ => rfl) (fun vs H Q E h => ?_) (fun cdv A outer s H vs Q E hr h => ?_)
  · obtain ⟨v, u, x, y, rfl, _⟩ := h
    rfl
  · obtain ⟨v, u, x, y, rfl, hv, hu, hx, hy, hz, hQ⟩ := h
    refine ⟨_, pss_one (ps_ret (pe_cl G_allowed hr (passes_call (takes_of rfl rfl rfl rfl) (fun _ _ _ _ h => h)) (pa_cons (pe_cl G_minus hr pass0 (pa_cons (pv 0) (pa_cons (pv 1) pa_nil))) pa_nil))), ?_⟩
    refine ⟨_, rfl, _, rfl, v, u, x, y, rfl, hv, hu, cond_sum hx.sm hy.neg.sm, fun H1 z s1 h1 => ⟨z, x - y, rfl, h1, fun _ H2 s2 => hQ H2 z (s1.trans s2) (h1.tx (Tx.of s2)), fun c => ?_⟩⟩
    rw [ok40 hz] at c; cases c
/-! ### check_place -/
def spCheckPlace (K : PySem.W.Frag) : Sp := fun vs H Q E => ∃ v n x, vs = [v] ∧ IsN K H (n + 1) v x ∧ (x < 0 → eX K "NotAllowed" E H) ∧ (0 ≤ x → Q .non H)
theorem sgn_lt {x : Int} : sgn x < 0 ↔ x < 0 := by
  unfold sgn
  constructor
  · intro h
    split at h
    · assumption
    · split at h <;> exact absurd h (by decide)
  · intro h; rw [if_pos h]; decide
theorem sc_check_place : FnScope ["place"] ["place"] (defScope s_check_place) := ⟨rfl, rfl, rfl, by decide +kernel, rfl, by decide +kernel, by decide +kernel⟩
theorem d_check_place (T : Txt K mg) : Df P w K mg base (L2.CX P w) 2 "check_place" ["place"] (spCheckPlace K) := by
  have G_sign_of := d_sign (P := P) (w := w) (base := base) T
  refine .mk' T.f_check_place T.g_check_place sc_check_place (fun _ _ _ _ _ _ us hl => match us, hl with | [_], _ => rfl) (fun vs H Q E h => ?_) (fun cdv A outer s H vs Q E hr h => ?_)
  · obtain ⟨v, n, x, rfl, _⟩ := h
    rfl
  · obtain ⟨v, n, x, rfl, hN, hE, hQ⟩ := h
    obtain ⟨x1, x2, x3, x4⟩ := T.e_NotAllowed
    refine ⟨_, pss_one (ps_if (pt_cmpR op_lt (pe_cl G_sign_of hr pass0 (pa_cons (pv 0) pa_nil)) pe_int (nomark _)) (pss_one (ps_raise rfl (takes_of rfl rfl rfl rfl) (pmk_own PySem.F.excBase_ValueError x1 T.c_NotAllowed x2 (raises_own x3 x4) rfl))) pss_nil), ?_⟩
    refine ⟨_, rfl, v, n, x, rfl, hN, _, _, rfl, rfl, _, rfl, ite2 (fun c => ?_) fun c => ?_⟩
    · exact hE (sgn_lt.mp (of_decide_eq_true c))
    · exact hQ (by
        by_cases z : x < 0
        · exact absurd (decide_eq_true (sgn_lt.mpr z)) c
        · omega)
end
end Sr
set_option Elab.async false
set_option linter.all false
set_option maxRecDepth 100000
set_option maxHeartbeats 4000000
/-! is_borrowed, floored, floor_shift, digit, digit_at, length_of, length, low -/
namespace Sr
open PySem PySem.Spec PyProof.Rows L2

theorem borrow_lt {y : Int} {t : Int × Int} {r : Terms} (h : t.2 < y) : borrow y (t :: r) = decide (t.1 < 0) := by
  unfold borrow loL
  rw [List.filter_cons, if_pos (decide_eq_true h)]
theorem borrow_ge {y : Int} {t : Int × Int} {r : Terms} (h : ¬ t.2 < y) : borrow y (t :: r) = borrow y r := by
  unfold borrow loL
  rw [List.filter_cons, if_neg (by simpa using h)]
theorem sgn_sub_lt {a b : Int} : sgn (a - b) < 0 ↔ a < b := by rw [sgn_lt]; omega
theorem hiL_next {y : Int} {l : Terms} {i : Nat} {t : Int × Int} (h : l[i]? = some t) : hiL y (l.take (i + 1)) = hiL y (l.take i) ++ (if y ≤ t.2 then [t] else []) := by
  rw [take_next h]
  unfold hiL
  rw [List.filter_append, List.filter_cons]
  split
  · rename_i c; rw [if_pos (of_decide_eq_true c)]; rfl
  · rename_i c; rw [if_neg (by simpa using c)]; rfl
theorem sm_val {l : Terms} {b : Int} (h : Nf b l) (hb : b ≤ 60) : Sm (val l) := by
  have := val_lt h
  have h2 := p2_mono (show b + 2 ≤ 90 by omega)
  exact ⟨by omega, by omega⟩
theorem t40_floor {x y : Int} (h : T40 x) : T40 (x / p2 y) := by
  have pp := p2_pos y
  obtain ⟨h1, h2⟩ := h
  by_cases c : 0 ≤ x
  · have a := Int.ediv_nonneg c (Int.le_of_lt pp)
    have b := Int.ediv_le_self (p2 y) c
    have := p2_pos 40
    exact ⟨by omega, by omega⟩
  · have a : x / p2 y < 0 := Int.ediv_neg_of_neg_of_pos (by omega) pp
    have b : x ≤ x / p2 y := (Int.le_ediv_iff_mul_le pp).mpr (by
      have := Int.mul_le_mul_of_nonpos_left (a := x) (b := p2 y) (c := 1) (by omega) (by omega)
      omega)
    have := p2_pos 40
    exact ⟨by omega, by omega⟩
theorem cond_exp {e y : Int} (h0 : 0 ≤ e) (h1 : e ≤ 90) (hy : Sm y) : Cond 99 (naf e ++ naf y) := cond_sum (sm_small (by omega) (by omega)) hy
theorem Sm.neg {x : Int} (h : Sm x) : Sm (-x) := by obtain ⟨h1, h2⟩ := h; exact ⟨by omega, by omega⟩
theorem shL_app (k : Int) (l m : Terms) : shL k (l ++ m) = shL k l ++ shL k m := List.map_append
theorem atI_neg1 {α : Type} {xs : List α} {y : α} (h : xs.getLast? = some y) : atI xs (-1) = some y := by
  cases xs with
  | nil => cases h
  | cons a r =>
    unfold atI ixN
    rw [List.length_cons, if_neg (by decide), if_pos (by omega)]
    show (a :: r)[((-1 : Int) + ((r.length + 1 : Nat) : Int)).toNat]? = _
    rw [show ((-1 : Int) + ((r.length + 1 : Nat) : Int)).toNat = (a :: r).length - 1 by rw [List.length_cons]; omega, ← List.getLast?_eq_getElem?]
    exact h
section
variable {P : Program} {w : World} {K : PySem.W.Frag} {mg : Str → Option Value} {base : Heap}
/-! ### is_borrowed -/
def spBorrow (K : PySem.W.Frag) : Sp := fun vs H Q _ => ∃ v u x y, vs = [v, u] ∧ IsN K H 7 v x ∧ IsN K H 7 u y ∧ ∀ H', Same H H' → Q (.bl (borrow y (naf x))) H'
theorem sc_is_borrowed : FnScope ["x", "place", "sign", "exponent"] ["x", "place"] (defScope s_is_borrowed) := ⟨rfl, rfl, rfl, by decide +kernel, rfl, by decide +kernel, by decide +kernel⟩
theorem d_is_borrowed (T : Txt K mg) : Df P w K mg base CX0 9 "is_borrowed" ["x", "place"] (spBorrow K) := by
  have G_compare := d_compare (P := P) (w := w) (base := base) T 7
  refine .mk' T.f_is_borrowed T.g_is_borrowed sc_is_borrowed (fun _ _ _ _ _ _ us hl => match us, hl with | [_, _], _ => rfl) (fun vs H Q E h => ?_) (fun cdv A outer s H vs Q E hr h => ?_)
  · obtain ⟨v, u, x, y, rfl, _⟩ := h
    rfl
  · obtain ⟨v, u, x, y, rfl, hv, hu, hQ⟩ := h
    obtain ⟨a, xs, rfl, zx, qx, px⟩ := hv.open_
    have hl := paired_len px
    refine ⟨_, pss_cons (ps_for (passes_of rfl) rfl (pi_tup (pv 0)) (pg_tup rfl (pgs_cons (pg_name (i := 2) sc_is_borrowed.nd rfl (.inl rfl)) (pgs_cons (pg_name (i := 3) sc_is_borrowed.nd rfl (.inl rfl)) pgs_nil))) (pss_one (ps_if (pt_cmpR op_lt (pe_cl G_compare hr pass0 (pa_cons (pv 3) (pa_cons (pv 1) pa_nil))) pe_int (nomark _)) (pss_one (ps_ret (pe_cmpR op_lt (pv 2) pe_int (nomark _)))) pss_nil)))
      (pss_one (ps_ret pe_bl)), ?_⟩
    refine ⟨_, rfl, a, rfl, ⟨xs, qx⟩, for_tup (xs := xs) (fun i σ H' => ∃ y2 y3, σ = [some (.ref a), some u, y2, y3] ∧ Same H H' ∧ borrow y (naf x) = borrow y ((naf x).drop i)) ⟨none, none, rfl, Same.refl _, rfl⟩
      (fun i σ H' _ ⟨_, _, _, s2, _⟩ => (Tx.of s2) _ _ qx) ?_ ?_⟩
    · rintro i xi σ H1 hx ⟨y2, y3, rfl, s1, hb⟩
      obtain ⟨t, ht, b, e, rfl, hb1, he⟩ := item_at px hx
      rw [drop_at ht] at hb
      refine ⟨b, _, rfl, (Tx.of s1) _ _ hb1, rfl, _, _, rfl, _, _, rfl, rfl, ?_⟩
      refine ⟨_, rfl, _, rfl, e, u, t.2, y, rfl, (he.tx (Tx.of s1)).up (by decide), hu.tx (Tx.of s1), by decide, fun H2 s2 => ⟨_, _, rfl, rfl, _, rfl, ite2 (fun c => ?_) fun c => ?_⟩⟩
      · have c := sgn_sub_lt.mp (of_decide_eq_true c)
        have q := hQ H2 (s1.trans s2)
        rw [hb, borrow_lt c] at q
        exact ⟨_, rfl, _, _, rfl, rfl, q⟩
      · have c : ¬ t.2 < y := fun z => c (decide_eq_true (sgn_sub_lt.mpr z))
        rw [borrow_ge c] at hb
        exact ⟨_, _, rfl, s1.trans s2, hb⟩
    · rintro σ H1 ⟨y2, y3, rfl, s1, hb⟩
      have q := hQ H1 s1
      rw [hb, hl, List.drop_length] at q
      exact q
/-! ### floored -/
def spFloored (K : PySem.W.Frag) : Sp := fun vs H Q _ => ∃ v u x y, vs = [v, u] ∧ IsN K H 7 v x ∧ IsN K H 7 u y ∧ T40 x ∧ Sm y ∧ 0 ≤ y ∧ ∀ H' v', Same H H' → IsN K H' 7 v' (x / p2 y) → Q v' H'
theorem sc_floored : FnScope ["x", "y", "terms", "sign", "exponent"] ["x", "y"] (defScope s_floored) := ⟨rfl, rfl, rfl, by decide +kernel, rfl, by decide +kernel, by decide +kernel⟩
theorem d_floored (T : Txt K mg) : Df P w K mg base CX0 32 "floored" ["x", "y"] (spFloored K) := by
  have G_compare := (d_compare (P := P) (w := w) (base := base) T 7).mono (show 8 ≤ 31 by decide)
  have G_minus := d_minus (P := P) (w := w) (base := base) T (n := 6) (by decide) (by decide)
  have G_plus := (d_plus (P := P) (w := w) (base := base) T (n := 6) (by decide) (by decide)).mono (show 30 ≤ 31 by decide)
  have G_is_borrowed := (d_is_borrowed (P := P) (w := w) (base := base) T).mono (show 9 ≤ 31 by decide)
  have G_from_int := (d_from (P := P) (w := w) (base := base) T 7).mono (show 8 ≤ 31 by decide)
  refine .mk' T.f_floored T.g_floored sc_floored (fun _ _ _ _ _ _ us hl => match us, hl with | [_, _], _ => rfl) (fun vs H Q E h => ?_) (fun cdv A outer s H vs Q E hr h => ?_)
  · obtain ⟨v, u, x, y, rfl, _⟩ := h
    rfl
  · obtain ⟨v, u, x, y, rfl, hv, hu, hx, hy, h0, hQ⟩ := h
    obtain ⟨a, xs, rfl, zx, qx, px⟩ := hv.open_
    have hl := paired_len px
    refine ⟨_, pss_cons (by exact (ps_setLc (i := 2) (own := [("sign", 3), ("exponent", 4)]) (g := gTup K 2 (gCons (gName 3) (gCons (gName 4) gNil))) rfl sc_floored.nd rfl rfl rfl (pi_tup (pv 0)) (blkOk_by (N := ["x", "y", "terms", "sign", "exponent"]) (sc := defScope s_floored) (by decide +kernel))
          (fun _ _ _ _ _ => pg_tup rfl (pgs_cons (pg_name (i := 3) sc_floored.nd rfl (Or.inl rfl)) (pgs_cons (pg_name (i := 4) sc_floored.nd rfl (Or.inl rfl)) pgs_nil)))
          (fun _ _ _ _ _ => pts_one (pt_cmpR op_ge (pe_cl G_compare hr pass0 (pa_cons (pv 4) (pa_cons (pv 1) pa_nil))) pe_int (nomark _))) (fun _ _ _ _ _ => pe_tup (pa_cons (pv 3) (pa_cons (pe_cl G_minus hr pass0 (pa_cons (pv 4) (pa_cons (pv 1) pa_nil))) pa_nil)))))
      (pss_cons (ps_if (pt_val (pe_cl G_is_borrowed hr pass0 (pa_cons (pv 0) (pa_cons (pv 1) pa_nil)))) (pss_one (ps_ret (pe_cl G_plus hr pass0 (pa_cons (pe_callTy call_tuple_of (by rfl) T.n_tuple (by decide +kernel) (pa_cons (pv 2) pa_nil)) (pa_cons (pe_cl G_from_int hr pass0 (pa_cons (pe_un un_neg pe_int) pa_nil)) pa_nil))))) pss_nil)
      (pss_one (ps_ret (pe_callTy call_tuple_of (by rfl) T.n_tuple (by decide +kernel) (pa_cons (pv 2) pa_nil))))), ?_⟩
    obtain ⟨f1, f2⟩ := floor_val hx.nf h0
    rw [val_naf] at f2
    have lh : (hiL y (naf x)).length ≤ 1000 := by
      have h1 := List.length_filter_le (fun t : Int × Int => decide (y ≤ t.2)) (naf x)
      have h1 : (hiL y (naf x)).length ≤ (naf x).length := h1
      omega
    refine ⟨_, rfl, a, rfl, ⟨xs, qx⟩, fun D hD => lc_tup (xs := xs) (fun i H' => Same H H' ∧ ∃ ys, H' D = some (.lst ys) ∧ Paired (IsI K H' 6) ys (shL (-y) (hiL y ((naf x).take i))))
      ⟨same_new hD, [], upd_same, .nil⟩ (fun i H' _ ⟨s1, _⟩ => (Tx.of s1) _ _ qx) ?_ ?_⟩
    · rintro i xi H1 hxi ⟨s1, ys, hL, hys⟩
      obtain ⟨t, ht, b, e, rfl, hb1, he⟩ := item_at px hxi
      obtain ⟨ts, te0, te1⟩ := hx.nf.mem t (List.mem_of_getElem? ht)
      refine ⟨b, _, rfl, (Tx.of s1) _ _ hb1, rfl, _, _, rfl, _, _, rfl, rfl, rfl, ?_⟩
      refine ⟨_, rfl, _, rfl, e, u, t.2, y, rfl, (he.tx (Tx.of s1)).up (by decide), hu.tx (Tx.of s1), by decide, fun H2 s2 => ⟨_, _, rfl, rfl, _, rfl, ite2 (fun c => ?_) fun c => ?_⟩⟩
      · have c : y ≤ t.2 := by
          have c := of_decide_eq_true c
          by_cases z : t.2 < y
          · have := sgn_sub_lt.mpr z; omega
          · omega
        have s12 := s1.trans s2
        refine ⟨_, rfl, _, rfl, _, rfl, e, u, t.2, y, rfl, (he.tx (Tx.of s12)).up (by decide), hu.tx (Tx.of s12), cond_exp te0 (by omega) hy.neg, fun H3 v3 s3 hv3 => ⟨le2, fun B hB => ⟨ys, same_new hB _ _ (s3 _ _ (s2 _ _ hL)), ?_, same_set ((s12.trans s3).trans (same_new hB)) hD, ys ++ [.ref B], upd_same, ?_⟩⟩⟩
        · have h1 := paired_len hys
          have h2 := List.length_filter_le (fun t : Int × Int => decide (y ≤ t.2)) ((naf x).take i)
          have h3 : (shL (-y) (hiL y ((naf x).take i))).length ≤ ((naf x).take i).length := by unfold shL; rw [List.length_map]; exact h2
          rw [List.length_take] at h3
          exact small1000 (by omega)
        · rw [hiL_next ht, if_pos c, shL_app]
          exact push_item (s2.trans s3) hB hL hys (by rw [← Int.sub_eq_add_neg]; exact hv3.cut (dp_small (by omega) (by omega)))
      · have c : ¬ y ≤ t.2 := fun z => c (decide_eq_true (by
          by_cases z2 : sgn (t.2 - y) < 0
          · have := sgn_sub_lt.mp z2; omega
          · omega))
        refine ⟨s1.trans s2, ys, s2 _ _ hL, ?_⟩
        rw [hiL_next ht, if_neg c, List.append_nil]
        exact items_tx (Tx.of s2) hys
    · rintro H1 ⟨s1, ys, hL, hys⟩
      rw [hl, List.take_length] at hys
      have lys : ys.length ≤ 1000 := by
        have h1 := paired_len hys
        have h2 : (shL (-y) (hiL y (naf x))).length = (hiL y (naf x)).length := by unfold shL; rw [List.length_map]
        omega
      have isT : ∀ (H2 : Hp) (R : Addr), Same H1 H2 → H2 R = none → IsN K (upd H2 R (.tup ys)) 7 (.ref R) (val (shL (-y) (hiL y (naf x)))) := fun H2 R s2 hR => by
        refine IsN.mk (.inl (.inl upd_same)) ?_ lys
        rw [naf_is f1 rfl]
        exact items_tx (Tx.of (s2.trans (same_new hR))) hys
      refine ⟨_, rfl, _, rfl, .ref a, u, x, y, rfl, hv.tx (Tx.of s1), hu.tx (Tx.of s1), fun H2 s2 => ⟨_, rfl, ite2 (fun c => ?_) fun c => ?_⟩⟩
      · rw [if_pos c] at f2
        refine ⟨_, rfl, D, ys, rfl, .inl ⟨.inl (.inl (s2 _ _ hL)), fun R hR => ?_⟩⟩
        have hT := isT H2 R s2 hR
        have sm1 : Sm (-1) := sm_small (by decide) (by decide)
        have smv : Sm (val (shL (-y) (hiL y (naf x)))) := sm_val f1 (by omega)
        refine ⟨1, rfl, -1, rfl, sm1.dp, by have := sm1.len; omega, fun t ht => by have := sm1.exps t ht; omega, fun H3 v3 s3 hv3 => ?_⟩
        refine ⟨.ref R, v3, _, -1, rfl, hT.tx (Tx.of s3), hv3, cond_sum smv sm1, fun H4 v4 s4 hv4 => hQ H4 v4 ((((s1.trans s2).trans (same_new hR)).trans s3).trans s4) ?_⟩
        rw [f2]; exact hv4
      · rw [if_neg c] at f2
        refine ⟨_, rfl, D, ys, rfl, .inl ⟨.inl (.inl (s2 _ _ hL)), fun R hR => hQ _ _ ((s1.trans s2).trans (same_new hR)) ?_⟩⟩
        have hT := isT H2 R s2 hR
        rw [f2, Int.add_zero]; exact hT
/-! ### floor_shift -/
def spFloorShift (K : PySem.W.Frag) : Sp := fun vs H Q E => ∃ v u x y, vs = [v, u] ∧ IsN K H 7 v x ∧ IsN K H 7 u y ∧ T40 x ∧ Sm y ∧ (y < 0 → eX K "NotAllowed" E H) ∧ (0 ≤ y → ∀ H' v', Same H H' → IsN K H' 7 v' (x / p2 y) → Q v' H')
theorem sc_floor_shift : FnScope ["x", "y"] ["x", "y"] (defScope s_floor_shift) := ⟨rfl, rfl, rfl, by decide +kernel, rfl, by decide +kernel, by decide +kernel⟩
theorem d_floor_shift (T : Txt K mg) : Df P w K mg base (L2.CX P w) 33 "floor_shift" ["x", "y"] (spFloorShift K) := by
  have G_check_place := (d_check_place (P := P) (w := w) (base := base) T).mono (show 2 ≤ 32 by decide)
  have G_allowed := (d_allowed (P := P) (w := w) (base := base) T 7).mono (show 10 ≤ 32 by decide)
  have G_floored := d_floored (P := P) (w := w) (base := base) T
  refine .mk' T.f_floor_shift T.g_floor_shift sc_floor_shift (fun _ _ _ _ _ _ us hl => match us, hl with | [_, _], _ => rfl) (fun vs H Q E h => ?_) (fun cdv A outer s H vs Q E hr h => ?_)
  · obtain ⟨v, u, x, y, rfl, _⟩ := h
    rfl
  · obtain ⟨v, u, x, y, rfl, hv, hu, hx, hy, hE, hQ⟩ := h
    refine ⟨_, pss_cons (ps_expr (pe_cl G_check_place hr (passes_call (takes_of rfl rfl rfl rfl) (fun _ _ _ _ h => h)) (pa_cons (pv 1) pa_nil)))
      (pss_one (ps_ret (pe_cl G_allowed hr (passes_call (takes_of rfl rfl rfl rfl) (fun _ _ _ _ h => h)) (pa_cons (pe_cl G_floored hr pass0 (pa_cons (pv 0) (pa_cons (pv 1) pa_nil))) pa_nil)))), ?_⟩
    refine ⟨_, rfl, u, 6, y, rfl, hu, hE, fun h0 => ?_⟩
    refine ⟨_, rfl, _, rfl, v, u, x, y, rfl, hv, hu, hx, hy, h0, fun H1 z s1 h1 => ⟨z, _, rfl, h1, fun _ H2 s2 => hQ h0 H2 z (s1.trans s2) (h1.tx (Tx.of s2)), fun c => ?_⟩⟩
    rw [ok40 (t40_floor hx)] at c; cases c
/-! ### digit -/
def spDigit (K : PySem.W.Frag) : Sp := fun vs H Q _ => ∃ v u x y, vs = [v, u] ∧ IsN K H 7 v x ∧ IsN K H 7 u y ∧ 0 ≤ y ∧ ∀ H', Same H H' → Q (.int (x / p2 y % 2)) H'
theorem sc_digit : FnScope ["x", "place", "found", "_", "exponent"] ["x", "place"] (defScope s_digit) := ⟨rfl, rfl, rfl, by decide +kernel, rfl, by decide +kernel, by decide +kernel⟩
theorem d_digit (T : Txt K mg) : Df P w K mg base CX0 10 "digit" ["x", "place"] (spDigit K) := by
  have G_is_borrowed := d_is_borrowed (P := P) (w := w) (base := base) T
  refine .mk' T.f_digit T.g_digit sc_digit (fun _ _ _ _ _ _ us hl => match us, hl with | [_, _], _ => rfl) (fun vs H Q E h => ?_) (fun cdv A outer s H vs Q E hr h => ?_)
  · obtain ⟨v, u, x, y, rfl, _⟩ := h
    rfl
  · obtain ⟨v, u, x, y, rfl, hv, hu, h0, hQ⟩ := h
    obtain ⟨a, xs, rfl, zx, qx, px⟩ := hv.open_
    have hl := paired_len px
    refine ⟨_, pss_cons (by exact (ps_setLc (i := 2) (own := [("_", 3), ("exponent", 4)]) (g := gTup K 2 (gCons (gName 3) (gCons (gName 4) gNil))) (tt := tTest (tOp (rEqD K) (tVar 4) (tVar 1))) rfl sc_digit.nd rfl rfl rfl (pi_tup (pv 0)) (blkOk_by (N := ["x", "place", "found", "_", "exponent"]) (sc := defScope s_digit) (by decide +kernel))
          (fun _ _ _ _ _ => pg_tup rfl (pgs_cons (pg_name (i := 3) sc_digit.nd rfl (Or.inl rfl)) (pgs_cons (pg_name (i := 4) sc_digit.nd rfl (Or.inl rfl)) pgs_nil)))
          (fun _ _ _ _ _ => pts_one (pt_cmpR (op_eqD hr.units) (pv 4) (pv 1) (nomark _))) (fun _ _ _ _ _ => pv 4)))
      (pss_one (ps_ret (pe_op op_mod (pe_op op_add (pe_callB call_len (by rfl) T.n_len PySem.boot_len (pa_cons (pv 2) pa_nil)) (pe_callTy call_int1 (by rfl) T.n_int (by decide +kernel) (pa_cons (pe_cl G_is_borrowed hr pass0 (pa_cons (pv 0) (pa_cons (pv 1) pa_nil))) pa_nil))) pe_int))), ?_⟩
    obtain ⟨b, nf⟩ := naf_nf x
    have dv := digit_val nf h0
    rw [val_naf] at dv
    refine ⟨_, rfl, a, rfl, ⟨xs, qx⟩, fun D hD => lc_tup (xs := xs) (fun i H' => Same H H' ∧ ∃ ys, H' D = some (.lst ys) ∧ ys.length = (((naf x).take i).filter fun t => decide (t.2 = y)).length)
      ⟨same_new hD, [], upd_same, rfl⟩ (fun i H' _ ⟨s1, _⟩ => (Tx.of s1) _ _ qx) ?_ ?_⟩
    · rintro i xi H1 hxi ⟨s1, ys, hL, hys⟩
      obtain ⟨t, ht, b, e, rfl, hb1, he⟩ := item_at px hxi
      refine ⟨b, _, rfl, (Tx.of s1) _ _ hb1, rfl, _, _, rfl, _, _, rfl, rfl, rfl, ?_⟩
      have lt : ys.length ≤ 1000 := by
        have h2 := List.length_filter_le (fun t : Int × Int => decide (t.2 = y)) ((naf x).take i)
        rw [List.length_take] at h2
        omega
      refine ⟨_, rfl, _, rfl, eqN ((he.tx (Tx.of s1)).up (show 6 ≤ 7 by decide)) (hu.tx (Tx.of s1)) (by decide) ⟨_, rfl, ite2 (fun c => ?_) fun c => ?_⟩⟩
      · refine ⟨_, rfl, ys, hL, small1000 (by omega), same_set s1 hD, _, upd_same, ?_⟩
        rw [take_next ht, List.filter_append, List.length_append, List.length_append, hys, List.filter_cons, if_pos c]
        rfl
      · refine ⟨s1, ys, hL, ?_⟩
        rw [take_next ht, List.filter_append, List.length_append, hys, List.filter_cons, if_neg c]
        rfl
    · rintro H1 ⟨s1, ys, hL, hys⟩
      rw [hl, List.take_length] at hys
      refine ⟨_, rfl, _, ys.length, rfl, .inl ⟨ys, .inl (.inl hL), rfl⟩, _, rfl, _, rfl, .ref a, u, x, y, rfl, hv.tx (Tx.of s1), hu.tx (Tx.of s1), fun H2 s2 => .inr ⟨_, rfl, _, _, rfl, rfl, _, 2, rfl, rfl, pos2, ?_⟩⟩
      have q := hQ H2 (s1.trans s2)
      rw [dv, ← hys] at q
      exact q
def spDigitAt (K : PySem.W.Frag) : Sp := fun vs H Q E => ∃ v u x y, vs = [v, u] ∧ IsN K H 7 v x ∧ IsN K H 7 u y ∧ (y < 0 → eX K "NotAllowed" E H) ∧ (0 ≤ y → ∀ H', Same H H' → Q (.int (x / p2 y % 2)) H')
theorem sc_digit_at : FnScope ["x", "place"] ["x", "place"] (defScope s_digit_at) := ⟨rfl, rfl, rfl, by decide +kernel, rfl, by decide +kernel, by decide +kernel⟩
theorem d_digit_at (T : Txt K mg) : Df P w K mg base (L2.CX P w) 11 "digit_at" ["x", "place"] (spDigitAt K) := by
  have G_check_place := (d_check_place (P := P) (w := w) (base := base) T).mono (show 2 ≤ 10 by decide)
  have G_digit := d_digit (P := P) (w := w) (base := base) T
  refine .mk' T.f_digit_at T.g_digit_at sc_digit_at (fun _ _ _ _ _ _ us hl => match us, hl with | [_, _], _ => rfl) (fun vs H Q E h => ?_) (fun cdv A outer s H vs Q E hr h => ?_)
  · obtain ⟨v, u, x, y, rfl, _⟩ := h
    rfl
  · obtain ⟨v, u, x, y, rfl, hv, hu, hE, hQ⟩ := h
    refine ⟨_, pss_cons (ps_expr (pe_cl G_check_place hr (passes_call (takes_of rfl rfl rfl rfl) (fun _ _ _ _ h => h)) (pa_cons (pv 1) pa_nil)))
      (pss_one (ps_ret (pe_cl G_digit hr pass0 (pa_cons (pv 0) (pa_cons (pv 1) pa_nil))))), ?_⟩
    refine ⟨_, rfl, u, 6, y, rfl, hu, hE, fun h0 => ?_⟩
    exact ⟨_, rfl, _, rfl, v, u, x, y, rfl, hv, hu, h0, hQ h0⟩
end
end Sr
set_option Elab.async false
set_option linter.all false
set_option maxRecDepth 100000
set_option maxHeartbeats 4000000
/-! length_of, length, low, shifted, shift -/
namespace Sr
open PySem PySem.Spec PyProof.Rows L2

/-- the number of binary digits -/
def lenF (x : Int) : Int := (Builtin.Int.intBits x : Nat)
theorem p2_cast {e : Int} (h : 0 ≤ e) : p2 e = ((2 ^ e.toNat : Nat) : Int) := by
  unfold p2
  rw [Int.natCast_pow]; rfl
theorem lenF_is {x e : Int} (h0 : 1 ≤ e) (h1 : p2 (e - 1) ≤ (x.natAbs : Int)) (h2 : (x.natAbs : Int) < p2 e) : lenF x = e := by
  rw [p2_cast (by omega)] at h1 h2
  have a : Builtin.Int.intBits x ≤ e.toNat := intBits_le_iff.mpr (by omega)
  have b : ¬ Builtin.Int.intBits x ≤ (e - 1).toNat := fun z => by
    have := intBits_le_iff.mp z
    omega
  unfold lenF
  omega
theorem lenF_zero : lenF 0 = 0 := by decide +kernel
theorem abs_top {t : Int × Int} {v : Int} (h : t.1 = 1 ∨ t.1 = -1) (h2 : 0 ≤ t.1 * v) : t.1 * v = (v.natAbs : Int) := by
  rcases h with e | e <;> rw [e] at h2 ⊢ <;> omega
section
variable {P : Program} {w : World} {K : PySem.W.Frag} {mg : Str → Option Value} {base : Heap}
def spLengthOf (K : PySem.W.Frag) : Sp := fun vs H Q _ => ∃ v x, vs = [v] ∧ IsN K H 7 v x ∧ T40 x ∧ ∀ H' v', Same H H' → IsN K H' 7 v' (lenF x) → Q v' H'
theorem sc_length_of : FnScope ["x"] ["x"] (defScope s_length_of) := ⟨rfl, rfl, rfl, by decide +kernel, rfl, by decide +kernel, by decide +kernel⟩
theorem d_length_of (T : Txt K mg) : Df P w K mg base CX0 28 "length_of" ["x"] (spLengthOf K) := by
  have G_next_of := g_next (P := P) (w := w) (base := base) T
  refine .mk' T.f_length_of T.g_length_of sc_length_of (fun _ _ _ _ _ _ us hl => match us, hl with | [_], _ => rfl) (fun vs H Q E h => ?_) (fun cdv A outer s H vs Q E hr h => ?_)
  · obtain ⟨v, x, rfl, _⟩ := h
    rfl
  · obtain ⟨v, x, rfl, hv, hx, hQ⟩ := h
    obtain ⟨a, xs, rfl, zx, qx, px⟩ := hv.open_
    have hl := paired_len px
    have nf := hx.nf
    have va := val_naf x
    refine ⟨_, pss_cons (ps_if (pt_cmpR op_eq (pe_callB call_len (by rfl) T.n_len PySem.boot_len (pa_cons (pv 0) pa_nil)) pe_int (nomark _)) (pss_one (ps_ret (pe_tup pa_nil))) pss_nil)
      (pss_cons (ps_if (pw_and (pt_cmpR op_gt (pe_callB call_len (by rfl) T.n_len PySem.boot_len (pa_cons (pv 0) pa_nil)) pe_int (nomark _)) (pw_and1 (pt_cmpR op_ne (pe_ix ix_tup (pe_ix ix_tup (pv 0) pe_int (fun _ _ => rfl)) pe_int (fun _ _ => rfl)) (pe_ix ix_tup (pe_ix ix_tup (pv 0) pe_int (fun _ _ => rfl)) pe_int (fun _ _ => rfl)) (nomark _)))).pt (pss_one (ps_ret (pe_ix ix_tup (pe_ix ix_tup (pv 0) pe_int (fun _ _ => rfl)) pe_int (fun _ _ => rfl)))) pss_nil)
      (pss_one (ps_ret (pe_cl G_next_of hr pass0 (pa_cons (pe_ix ix_tup (pe_ix ix_tup (pv 0) pe_int (fun _ _ => rfl)) pe_int (fun _ _ => rfl)) pa_nil))))), ?_⟩
    refine ⟨_, rfl, _, xs.length, rfl, .inr ⟨xs, qx, rfl⟩, rfl, _, rfl, ite2 (fun c => ?_) fun c => ?_⟩
    · have c : (xs.length : Int) = 0 := by simpa using c
      have e : naf x = [] := List.length_eq_zero_iff.mp (by omega)
      have e2 := naf_nil e
      refine ⟨Nat.zero_le _, fun p hp => hQ _ _ (same_new hp) ?_⟩
      rw [e2, lenF_zero]
      exact IsN.zero (.inl (.inl upd_same))
    · have c : ¬ (xs.length : Int) = 0 := by simpa using c
      cases hn : naf x with
      | nil => rw [hn] at hl; exact absurd (by rw [hl]; rfl) c
      | cons t r =>
        rw [hn] at px nf va
        have tv := top_val nf
        rw [va] at tv
        obtain ⟨n1, n2, n3, n4⟩ := nf
        have z0 := p2_pos t.2
        have z1 := p2_pos (t.2 - 1)
        cases px with
        | @cons y0 _ xr _ hi pr =>
        obtain ⟨b, e, rfl, hb, he⟩ := hi
        have i0 : ∀ {A : Prop}, A → A := fun h => h
        -- the end by next_of
        have up : p2 t.2 ≤ t.1 * x ∧ t.1 * x < p2 (t.2 + 1) → ∀ H' v', Same H H' → IsN K H' 6 v' (t.2 + 1) → Q v' H' := fun h H' v' s' hv' => by
          have ab := abs_top (v := x) n1 (by omega)
          have := lenF_is (x := x) (e := t.2 + 1) (by omega) (by rw [show t.2 + 1 - 1 = t.2 by omega]; omega) (by omega)
          exact hQ H' v' s' (by rw [this]; exact hv'.up (by decide))
        cases pr with
        | nil =>
          refine ⟨_, rfl, _, _, rfl, .inr ⟨_, qx, rfl⟩, _, _, rfl, rfl, _, rfl, iteF (iteF ?_)⟩
          exact ⟨_, rfl, a, _, _, _, rfl, rfl, qx, atI_nat (j := 0) rfl, b, _, _, _, rfl, rfl, hb, atI_nat (j := 1) rfl, e, t.2, rfl, he, n2, by omega, up tv⟩
        | @cons y1 u xr2 q hi1 pr1 =>
          obtain ⟨b1, e1, rfl, hb1, he1⟩ := hi1
          have bt : decide ((0 : Int) + 1 < (((V.ref b :: V.ref b1 :: xr2).length : Nat) : Int)) = true := decide_eq_true (by rw [List.length_cons, List.length_cons]; omega)
          refine ⟨_, rfl, _, _, rfl, .inr ⟨_, qx, rfl⟩, _, _, rfl, rfl, _, rfl, ?_⟩
          refine ite2 (fun _ => ?_) fun c => absurd bt c
          refine ⟨_, rfl, a, _, _, _, rfl, rfl, qx, atI_nat (j := 1) rfl, b1, _, _, _, rfl, rfl, hb1, atI_nat (j := 0) rfl, _, rfl, a, _, _, _, rfl, rfl, qx, atI_nat (j := 0) rfl, b, _, _, _, rfl, rfl, hb, atI_nat (j := 0) rfl, rfl, _, rfl, ite2 (fun c => ?_) fun c => ?_⟩
          · have c : u.1 ≠ t.1 := by simpa using c
            have tv : p2 (t.2 - 1) ≤ t.1 * x ∧ t.1 * x < p2 t.2 := by
              have tv : if u.1 ≠ t.1 then p2 (t.2 - 1) ≤ t.1 * x ∧ t.1 * x < p2 t.2 else p2 t.2 ≤ t.1 * x ∧ t.1 * x < p2 (t.2 + 1) := tv
              rw [if_pos c] at tv; exact tv
            have ab := abs_top (v := x) n1 (by omega)
            obtain ⟨_, m2, m3, _⟩ := n4
            have := lenF_is (x := x) (e := t.2) (by omega) (by omega) (by omega)
            exact ⟨_, rfl, a, _, _, _, rfl, rfl, qx, atI_nat (j := 0) rfl, b, _, _, _, rfl, rfl, hb, atI_nat (j := 1) rfl, hQ H e (Same.refl _) (by rw [this]; exact he.up (by decide))⟩
          · have c : ¬ u.1 ≠ t.1 := by simpa using c
            have tv : p2 t.2 ≤ t.1 * x ∧ t.1 * x < p2 (t.2 + 1) := by
              have tv : if u.1 ≠ t.1 then p2 (t.2 - 1) ≤ t.1 * x ∧ t.1 * x < p2 t.2 else p2 t.2 ≤ t.1 * x ∧ t.1 * x < p2 (t.2 + 1) := tv
              rw [if_neg c] at tv; exact tv
            exact ⟨_, rfl, a, _, _, _, rfl, rfl, qx, atI_nat (j := 0) rfl, b, _, _, _, rfl, rfl, hb, atI_nat (j := 1) rfl, e, t.2, rfl, he, n2, by omega, up tv⟩
theorem lenF_small {x : Int} (h : T40 x) : 0 ≤ lenF x ∧ lenF x ≤ 64 := by
  have := bits40 h
  unfold lenF
  omega
def spLength (K : PySem.W.Frag) : Sp := fun vs H Q _ => ∃ v x, vs = [v] ∧ IsN K H 7 v x ∧ T40 x ∧ ∀ H' v', Same H H' → IsN K H' 7 v' (lenF x) → Q v' H'
theorem sc_length : FnScope ["x"] ["x"] (defScope s_length) := ⟨rfl, rfl, rfl, by decide +kernel, rfl, by decide +kernel, by decide +kernel⟩
theorem d_length (T : Txt K mg) : Df P w K mg base (L2.CX P w) 29 "length" ["x"] (spLength K) := by
  have G_allowed := (d_allowed (P := P) (w := w) (base := base) T 7).mono (show 10 ≤ 28 by decide)
  have G_length_of := d_length_of (P := P) (w := w) (base := base) T
  refine .mk' T.f_length T.g_length sc_length (fun _ _ _ _ _ _ us hl => match us, hl with | [_], _ => rfl) (fun vs H Q E h => ?_) (fun cdv A outer s H vs Q E hr h => ?_)
  · obtain ⟨v, x, rfl, _⟩ := h
    rfl
  · obtain ⟨v, x, rfl, hv, hx, hQ⟩ := h
    refine ⟨_, pss_one (ps_ret (pe_cl G_allowed hr (passes_call (takes_of rfl rfl rfl rfl) (fun _ _ _ _ h => h)) (pa_cons (pe_cl G_length_of hr pass0 (pa_cons (pv 0) pa_nil)) pa_nil))), ?_⟩
    have ls := lenF_small hx
    refine ⟨_, rfl, v, x, rfl, hv, hx, fun H1 z s1 h1 => ⟨z, _, rfl, h1, fun _ H2 s2 => hQ H2 z (s1.trans s2) (h1.tx (Tx.of s2)), fun c => ?_⟩⟩
    rw [ok40 (t40_of (by omega) (by omega))] at c; cases c
/-! ### low -/
def spLow (K : PySem.W.Frag) : Sp := fun vs H Q E => ∃ v x, vs = [v] ∧ IsN K H 7 v x ∧ (x = 0 → eX K "Missing" E H) ∧ (∀ t, (naf x).getLast? = some t → ∀ v', IsN K H 7 v' t.2 → Q v' H)
theorem sc_low : FnScope ["x"] ["x"] (defScope s_low) := ⟨rfl, rfl, rfl, by decide +kernel, rfl, by decide +kernel, by decide +kernel⟩
theorem paired_last {α β : Type} {F : α → β → Prop} {l : List α} {m : List β} {b : β} (p : Paired F l m) (h : m.getLast? = some b) : ∃ a, l.getLast? = some a ∧ F a b := by
  rw [List.getLast?_eq_getElem?] at h
  obtain ⟨a, h1, h2⟩ := paired_at p h
  refine ⟨a, ?_, h2⟩
  rw [List.getLast?_eq_getElem?, paired_len p]; exact h1
theorem d_low (T : Txt K mg) : Df P w K mg base (L2.CX P w) 1 "low" ["x"] (spLow K) := by
  refine .mk' T.f_low T.g_low sc_low (fun _ _ _ _ _ _ us hl => match us, hl with | [_], _ => rfl) (fun vs H Q E h => ?_) (fun cdv A outer s H vs Q E hr h => ?_)
  · obtain ⟨v, x, rfl, _⟩ := h
    rfl
  · obtain ⟨v, x, rfl, hv, hE, hQ⟩ := h
    obtain ⟨a, xs, rfl, zx, qx, px⟩ := hv.open_
    have hl := paired_len px
    obtain ⟨x1, x2, x3, x4⟩ := T.e_Missing
    refine ⟨_, pss_cons (ps_if (pt_cmpR op_eq (pe_callB call_len (by rfl) T.n_len PySem.boot_len (pa_cons (pv 0) pa_nil)) pe_int (nomark _)) (pss_one (ps_raise rfl (takes_of rfl rfl rfl rfl) (pmk_own PySem.F.excBase_ValueError x1 T.c_Missing x2 (raises_own x3 x4) rfl))) pss_nil)
      (pss_one (ps_ret (pe_ix ix_tup (pe_ix ix_tup (pv 0) (pe_un un_neg pe_int) (fun _ _ => rfl)) pe_int (fun _ _ => rfl)))), ?_⟩
    refine ⟨_, rfl, _, xs.length, rfl, .inr ⟨xs, qx, rfl⟩, rfl, _, rfl, ite2 (fun c => ?_) fun c => ?_⟩
    · have c : (xs.length : Int) = 0 := by simpa using c
      have e : naf x = [] := List.length_eq_zero_iff.mp (by omega)
      exact hE (naf_nil e)
    · have c : ¬ (xs.length : Int) = 0 := by simpa using c
      cases hn : (naf x).getLast? with
      | none =>
        rw [List.getLast?_eq_none_iff] at hn
        rw [hn] at hl
        exact absurd (by rw [hl]; rfl) c
      | some t =>
        obtain ⟨y, hy, b, e, rfl, hb, he⟩ := paired_last px hn
        exact ⟨_, rfl, 1, rfl, a, _, _, _, rfl, rfl, qx, atI_neg1 hy, b, _, _, _, rfl, rfl, hb, atI_nat (j := 1) rfl, hQ t hn e (he.up (by decide))⟩
/-! ### shifted, shift -/
def spShifted (K : PySem.W.Frag) (n : Nat) : Sp := fun vs H Q E => ∃ v u x y, vs = [v, u] ∧ IsN K H (n + 2) v x ∧ IsN K H (n + 1) u y ∧ (∀ t ∈ naf x, Cond 99 (naf t.2 ++ naf y)) ∧
  (∀ t, (naf x).getLast? = some t → t.2 + y < 0 → ∀ H', Same H H' → eX K "BadRange" E H') ∧ ((∀ t ∈ naf x, 0 ≤ t.2 + y) → ∀ H' v', Same H H' → IsN K H' (n + 2) v' (val (shL y (naf x))) → Q v' H')
theorem sc_shifted : FnScope ["number", "places", "terms", "sign", "exponent"] ["number", "places"] (defScope s_shifted) := ⟨rfl, rfl, rfl, by decide +kernel, rfl, by decide +kernel, by decide +kernel⟩
theorem last_all {l : Terms} {b y : Int} {t : Int × Int} (h : Nf b l) (ht : l.getLast? = some t) (h0 : 0 ≤ t.2 + y) : ∀ u ∈ l, 0 ≤ u.2 + y := fun u hu => by
  have := (last_spec h ht).1 u hu
  omega
theorem d_shifted (T : Txt K mg) {n : Nat} (hn : 6 ≤ n) (hn2 : n ≤ 60) : Df P w K mg base (L2.CX P w) 31 "shifted" ["number", "places"] (spShifted K n) := by
  have G_plus := d_plus (P := P) (w := w) (base := base) T hn hn2
  have G_sign_of := (d_sign (P := P) (w := w) (base := base) T).mono (show 1 ≤ 30 by decide)
  refine .mk' T.f_shifted T.g_shifted sc_shifted (fun _ _ _ _ _ _ us hl => match us, hl with | [_, _], _ => rfl) (fun vs H Q E h => ?_) (fun cdv A outer s H vs Q E hr h => ?_)
  · obtain ⟨v, u, x, y, rfl, _⟩ := h
    rfl
  · obtain ⟨v, u, x, y, rfl, hv, hu, hc, hE, hQ⟩ := h
    obtain ⟨a, xs, rfl, zx, qx, px⟩ := hv.open_
    have hl := paired_len px
    obtain ⟨x1, x2, x3, x4⟩ := T.e_BadRange
    refine ⟨_, pss_cons (by exact (ps_setLc (i := 2) (own := [("sign", 3), ("exponent", 4)]) (g := gTup K 2 (gCons (gName 3) (gCons (gName 4) gNil))) (tt := tYes) rfl sc_shifted.nd rfl rfl rfl (pi_tup (pv 0)) (blkOk_by (N := ["number", "places", "terms", "sign", "exponent"]) (sc := defScope s_shifted) (by decide +kernel))
          (fun _ _ _ _ _ => pg_tup rfl (pgs_cons (pg_name (i := 3) sc_shifted.nd rfl (Or.inl rfl)) (pgs_cons (pg_name (i := 4) sc_shifted.nd rfl (Or.inl rfl)) pgs_nil)))
          (fun _ _ _ _ _ => pts_nil) (fun _ _ _ _ _ => pe_tup (pa_cons (pv 3) (pa_cons (pe_cl G_plus hr pass0 (pa_cons (pv 4) (pa_cons (pv 1) pa_nil))) pa_nil)))))
      (pss_cons (ps_if (pw_and (pt_cmpR op_gt (pe_callB call_len (by rfl) T.n_len PySem.boot_len (pa_cons (pv 2) pa_nil)) pe_int (nomark _)) (pw_and1 (pt_cmpR op_lt (pe_cl G_sign_of hr pass0 (pa_cons (pe_ix ix_tup (pe_ix ix_list (pv 2) (pe_un un_neg pe_int) (fun _ _ => rfl)) pe_int (fun _ _ => rfl)) pa_nil)) pe_int (nomark _)))).pt (pss_one (ps_raise rfl (takes_of rfl rfl rfl rfl) (pmk_own PySem.F.excBase_ValueError x1 T.c_BadRange x2 (raises_own x3 x4) rfl))) pss_nil)
      (pss_one (ps_ret (pe_callTy call_tuple_of (by rfl) T.n_tuple (by decide +kernel) (pa_cons (pv 2) pa_nil))))), ?_⟩
    refine ⟨_, rfl, a, rfl, ⟨xs, qx⟩, fun D hD => lc_tup (xs := xs) (fun i H' => Same H H' ∧ ∃ ys, H' D = some (.lst ys) ∧ Paired (IsI K H' (n + 1)) ys (shL y ((naf x).take i)))
      ⟨same_new hD, [], upd_same, .nil⟩ (fun i H' _ ⟨s1, _⟩ => (Tx.of s1) _ _ qx) ?_ ?_⟩
    · rintro i xi H1 hxi ⟨s1, ys, hL, hys⟩
      obtain ⟨t, ht, b, e, rfl, hb1, he⟩ := item_at px hxi
      refine ⟨b, _, rfl, (Tx.of s1) _ _ hb1, rfl, _, _, rfl, _, _, rfl, rfl, rfl, lc_yes ?_⟩
      refine ⟨_, rfl, _, rfl, _, rfl, e, u, t.2, y, rfl, he.tx (Tx.of s1), hu.tx (Tx.of s1), hc t (List.mem_of_getElem? ht), fun H3 v3 s3 hv3 => ⟨le2, fun B hB => ⟨ys, same_new hB _ _ (s3 _ _ hL), ?_, same_set ((s1.trans s3).trans (same_new hB)) hD, ys ++ [.ref B], upd_same, ?_⟩⟩⟩
      · have h1 := paired_len hys
        have h3 : (shL y ((naf x).take i)).length = ((naf x).take i).length := by unfold shL; rw [List.length_map]
        rw [List.length_take] at h3
        exact small1000 (by omega)
      · rw [take_next ht, shL_app]
        exact push_item s3 hB hL hys hv3
    · rintro H1 ⟨s1, ys, hL, hys⟩
      rw [hl, List.take_length] at hys
      have lys : ys.length = xs.length := by
        have h1 := paired_len hys
        have h2 : (shL y (naf x)).length = (naf x).length := by unfold shL; rw [List.length_map]
        omega
      obtain ⟨b, nf⟩ := naf_nf x
      have fin : (∀ t ∈ naf x, 0 ≤ t.2 + y) → ∀ R, H1 R = none → Q (.ref R) (upd H1 R (.tup ys)) := fun h R hR => by
        refine hQ h _ _ (s1.trans (same_new hR)) (IsN.mk (.inl (.inl upd_same)) ?_ (by omega))
        rw [naf_is (shL_nf nf h) rfl]
        exact items_tx (Tx.of (same_new hR)) hys
      refine ⟨_, rfl, _, ys.length, rfl, .inl ⟨ys, .inl (.inl hL), rfl⟩, _, _, rfl, rfl, _, rfl, ?_⟩
      cases hn : (naf x).getLast? with
      | none =>
        rw [List.getLast?_eq_none_iff] at hn
        have e : ys.length = 0 := by rw [lys, hl, hn]; rfl
        rw [e]
        refine iteF (iteF ⟨_, rfl, D, ys, rfl, .inl ⟨.inl (.inl hL), fin (fun t ht => by rw [hn] at ht; cases ht)⟩⟩)
      | some t =>
        have hsl : (shL y (naf x)).getLast? = some (t.1, t.2 + y) := by
          unfold shL
          rw [List.getLast?_map, hn]; rfl
        obtain ⟨yv, hy, b2, e2, rfl, hb2, he2⟩ := paired_last hys hsl
        have bt : decide ((0 : Int) < (ys.length : Int)) = true := by
          refine decide_eq_true ?_
          cases ys with
          | nil => cases hy
          | cons _ _ => rw [List.length_cons]; omega
        rw [bt]
        refine iteT ⟨_, rfl, 1, rfl, D, _, _, _, rfl, rfl, .inl (.inl hL), atI_neg1 hy, b2, _, _, _, rfl, rfl, hb2, atI_nat (j := 1) rfl, e2, n, t.2 + y, rfl, he2, _, _, rfl, rfl, _, rfl, ite2 (fun c => ?_) fun c => ?_⟩
        · exact hE t hn (sgn_lt.mp (of_decide_eq_true c)) H1 s1
        · have c : 0 ≤ t.2 + y := by
            by_cases z : t.2 + y < 0
            · exact absurd (decide_eq_true (sgn_lt.mpr z)) c
            · omega
          exact ⟨_, rfl, D, ys, rfl, .inl ⟨.inl (.inl hL), fin (last_all nf hn c)⟩⟩
def spShift (K : PySem.W.Frag) (n : Nat) : Sp := fun vs H Q E => ∃ v u x y, vs = [v, u] ∧ IsN K H (n + 2) v x ∧ IsN K H (n + 1) u y ∧ (∀ t ∈ naf x, Cond 99 (naf t.2 ++ naf y)) ∧
  (∀ t, (naf x).getLast? = some t → t.2 + y < 0 → ∀ H', Same H H' → eX K "BadRange" E H') ∧
  ((∀ t ∈ naf x, 0 ≤ t.2 + y) → ((okF (n + 2) (val (shL y (naf x))) = true → ∀ H' v', Same H H' → IsN K H' (n + 2) v' (val (shL y (naf x))) → Q v' H') ∧ (okF (n + 2) (val (shL y (naf x))) = false → ∀ H', Same H H' → eX K "TooLarge" E H')))
theorem sc_shift : FnScope ["number", "places"] ["number", "places"] (defScope s_shift) := ⟨rfl, rfl, rfl, by decide +kernel, rfl, by decide +kernel, by decide +kernel⟩
theorem d_shift (T : Txt K mg) {n : Nat} (hn : 6 ≤ n) (hn2 : n ≤ 60) : Df P w K mg base (L2.CX P w) 70 "shift" ["number", "places"] (spShift K n) := by
  have G_allowed := (d_allowed (P := P) (w := w) (base := base) T (n + 2)).mono (show n + 5 ≤ 69 by omega)
  have G_shifted := (d_shifted (P := P) (w := w) (base := base) T hn hn2).mono (show 31 ≤ 69 by decide)
  refine .mk' T.f_shift T.g_shift sc_shift (fun _ _ _ _ _ _ us hl => match us, hl with | [_, _], _ => rfl) (fun vs H Q E h => ?_) (fun cdv A outer s H vs Q E hr h => ?_)
  · obtain ⟨v, u, x, y, rfl, _⟩ := h
    rfl
  · obtain ⟨v, u, x, y, rfl, hv, hu, hc, hE, hQ⟩ := h
    refine ⟨_, pss_one (ps_ret (pe_cl G_allowed hr (passes_call (takes_of rfl rfl rfl rfl) (fun _ _ _ _ h => h)) (pa_cons (pe_cl G_shifted hr (passes_call (takes_of rfl rfl rfl rfl) (fun _ _ _ _ h => h)) (pa_cons (pv 0) (pa_cons (pv 1) pa_nil))) pa_nil))), ?_⟩
    exact ⟨_, rfl, _, rfl, v, u, x, y, rfl, hv, hu, hc, hE, fun h H1 z s1 h1 => ⟨z, _, rfl, h1, fun c H2 s2 => (hQ h).1 c H2 z (s1.trans s2) (h1.tx (Tx.of s2)), fun c H2 s2 => (hQ h).2 c H2 (s1.trans s2)⟩⟩
end
end Sr
set_option Elab.async false
set_option linter.all false
set_option maxRecDepth 100000
set_option maxHeartbeats 4000000
/-! product, multiply -/
namespace Sr
open PySem PySem.Spec PyProof.Rows L2

def rowL (t : Int × Int) (m : Terms) : Terms := m.map fun u => (t.1 * u.1, t.2 + u.2)
def prodL : Terms → Terms → Terms
  | [], _ => []
  | t :: r, m => rowL t m ++ prodL r m
theorem prodL_app : ∀ (l k m : Terms), prodL (l ++ k) m = prodL l m ++ prodL k m
  | [], _, _ => rfl
  | t :: r, k, m => by
    show rowL t m ++ prodL (r ++ k) m = _
    rw [prodL_app r k m, ← List.append_assoc]; rfl
theorem rowL_val {t : Int × Int} (h0 : 0 ≤ t.2) : ∀ {m : Terms} {b : Int}, Nf b m → val (rowL t m) = t.1 * p2 t.2 * val m
  | [], _, _ => by show (0 : Int) = _ * 0; omega
  | u :: r, b, ⟨h1, h2, h3, h4⟩ => by
    show t.1 * u.1 * p2 (t.2 + u.2) + val (rowL t r) = t.1 * p2 t.2 * (u.1 * p2 u.2 + val r)
    rw [rowL_val h0 h4, p2_add h0 h2, Int.mul_add]
    congr 1
    rw [Int.mul_assoc, Int.mul_assoc, Int.mul_left_comm u.1]
theorem prodL_val {m : Terms} {c : Int} (hm : Nf c m) : ∀ {l : Terms} {b : Int}, Nf b l → val (prodL l m) = val l * val m
  | [], _, _ => by show (0 : Int) = 0 * _; omega
  | t :: r, b, ⟨h1, h2, h3, h4⟩ => by
    show val (rowL t m ++ prodL r m) = (t.1 * p2 t.2 + val r) * val m
    rw [val_app, rowL_val h2 hm, prodL_val hm h4, Int.add_mul]
theorem rowL_len (t : Int × Int) (m : Terms) : (rowL t m).length = m.length := List.length_map _
theorem prodL_len : ∀ (l m : Terms), (prodL l m).length = l.length * m.length
  | [], m => by show 0 = 0 * _; omega
  | t :: r, m => by
    show (rowL t m ++ prodL r m).length = (r.length + 1) * m.length
    rw [List.length_append, rowL_len, prodL_len r m, Nat.add_mul]; omega
theorem prodL_mem {l m : Terms} {x : Int × Int} (h : x ∈ prodL l m) : ∃ t ∈ l, ∃ u ∈ m, x = (t.1 * u.1, t.2 + u.2) := by
  induction l with
  | nil => cases h
  | cons t r ih =>
    rcases List.mem_append.mp (show x ∈ rowL t m ++ prodL r m from h) with z | z
    · obtain ⟨u, hu, e⟩ := List.mem_map.mp z
      exact ⟨t, List.mem_cons_self, u, hu, e.symm⟩
    · obtain ⟨t', h1, h2⟩ := ih z
      exact ⟨t', List.mem_cons_of_mem _ h1, h2⟩
theorem absS_len {l : Terms} (h : ∀ t ∈ l, t.1 = 1 ∨ t.1 = -1) : absS l = l.length := by
  induction l with
  | nil => rfl
  | cons t r ih =>
    show absI t.1 + absS r = ((r.length + 1 : Nat) : Int)
    rw [ih fun u hu => h u (List.mem_cons_of_mem _ hu)]
    rcases h t List.mem_cons_self with e | e <;> rw [e]
    · show (1 : Int) + _ = _; omega
    · show (1 : Int) + _ = _; omega
theorem cond_prod {x y : Int} (hx : T40 x) (hy : T40 y) (hl : (naf x).length * (naf y).length ≤ 200) : Cond 99 (prodL (naf x) (naf y)) := by
  refine cond_top (fun t ht => ?_) ?_ (by rw [prodL_len]; exact hl)
  · obtain ⟨a, ha, b, hb, e⟩ := prodL_mem ht
    have h1 := (hx.nf.mem a ha).2
    have h2 := (hy.nf.mem b hb).2
    rw [e]
    exact ⟨by show 0 ≤ a.2 + b.2; omega, by show a.2 + b.2 ≤ 90; omega⟩
  · rw [absS_len, prodL_len]
    · omega
    · intro t ht
      obtain ⟨a, ha, b, hb, e⟩ := prodL_mem ht
      rw [e]
      show a.1 * b.1 = 1 ∨ a.1 * b.1 = -1
      rcases (hx.nf.mem a ha).1 with h1 | h1 <;> rcases (hy.nf.mem b hb).1 with h2 | h2 <;> rw [h1, h2] <;> decide
/-- a number is at least as great as its length tells -/
theorem len_val {x : Int} {n : Nat} (h : (naf x).length = n + 2) : p2 (2 * n + 1) ≤ (x.natAbs : Int) := by
  obtain ⟨b, nf⟩ := naf_nf x
  have va := val_naf x
  cases hn : naf x with
  | nil => rw [hn] at h; exact absurd h (by simp)
  | cons t r =>
    rw [hn] at nf va h
    have tv := top_val nf
    rw [va] at tv
    obtain ⟨n1, n2, n3, n4⟩ := nf
    have hr : r.length = n + 1 := by rw [List.length_cons] at h; omega
    cases r with
    | nil => exact absurd hr (by simp)
    | cons u q =>
      have hlen := n4.len (by obtain ⟨_, m2, m3, _⟩ := n4; omega)
      rw [hr] at hlen
      have z0 := p2_pos t.2
      have z1 := p2_pos (t.2 - 1)
      have tv : if u.1 ≠ t.1 then p2 (t.2 - 1) ≤ t.1 * x ∧ t.1 * x < p2 t.2 else p2 t.2 ≤ t.1 * x ∧ t.1 * x < p2 (t.2 + 1) := tv
      have m := p2_mono (show 2 * (n : Int) + 1 ≤ t.2 - 1 by omega)
      have m2 := p2_mono (show t.2 - 1 ≤ t.2 by omega)
      split at tv
      · have ab := abs_top (v := x) n1 (by omega); omega
      · have ab := abs_top (v := x) n1 (by omega); omega
theorem prod_few {x y : Int} (hx : T40 x) (hy : T40 y) (hz : T40 (x * y)) : (naf x).length * (naf y).length ≤ 200 := by
  have h1 := hx.nf.len (by decide)
  have h2 := hy.nf.len (by decide)
  by_cases c : (naf x).length < 2
  · have : (naf x).length * (naf y).length ≤ 1 * 21 := Nat.mul_le_mul (by omega) (by omega)
    omega
  · by_cases d : (naf y).length < 2
    · have : (naf x).length * (naf y).length ≤ 21 * 1 := Nat.mul_le_mul (by omega) (by omega)
      omega
    · obtain ⟨n, hn⟩ : ∃ n, (naf x).length = n + 2 := ⟨(naf x).length - 2, by omega⟩
      obtain ⟨m, hm⟩ : ∃ m, (naf y).length = m + 2 := ⟨(naf y).length - 2, by omega⟩
      have a := len_val hn
      have b := len_val hm
      have hab : p2 (2 * n + 1) * p2 (2 * m + 1) ≤ (x.natAbs : Int) * (y.natAbs : Int) := Int.mul_le_mul a b (Int.le_of_lt (p2_pos _)) (Int.natCast_nonneg _)
      rw [← p2_add (by omega) (by omega), ← Int.natCast_mul, ← Int.natAbs_mul] at hab
      have hlt : ((x * y).natAbs : Int) < p2 40 := by
        obtain ⟨z1, z2⟩ := hz
        omega
      have := p2_lt_of (Int.lt_of_le_of_lt hab hlt)
      have hnm : n + m ≤ 18 := by omega
      rw [hn, hm]
      have e1 : (n + 2) * (m + 2) ≤ (n + 2) * (20 - n) := Nat.mul_le_mul_left _ (by omega)
      have e2 : ∀ k : Fin 19, (k.val + 2) * (20 - k.val) ≤ 200 := by decide
      have e3 : (n + 2) * (20 - n) ≤ 200 := e2 ⟨n, by omega⟩
      exact Nat.le_trans e1 e3

section
variable {P : Program} {w : World} {K : PySem.W.Frag} {mg : Str → Option Value} {base : Heap}
def spProduct (K : PySem.W.Frag) : Sp := fun vs H Q _ => ∃ v u x y, vs = [v, u] ∧ IsN K H 7 v x ∧ IsN K H 7 u y ∧ T40 x ∧ T40 y ∧ (naf x).length * (naf y).length ≤ 200 ∧ ∀ H' v', Same H H' → IsN K H' 7 v' (x * y) → Q v' H'
theorem sc_product : FnScope ["first", "second", "terms", "sign", "exponent", "other_sign", "other"] ["first", "second"] (defScope s_product) := ⟨rfl, rfl, rfl, by decide +kernel, rfl, by decide +kernel, by decide +kernel⟩
theorem d_product (T : Txt K mg) : Df P w K mg base CX0 31 "product" ["first", "second"] (spProduct K) := by
  have G_plus := d_plus (P := P) (w := w) (base := base) T (n := 6) (by decide) (by decide)
  have G_gathered := (g_gath (P := P) (w := w) (base := base) T (n := 6) (by decide) (by decide)).mono (show 29 ≤ 30 by decide)
  refine .mk' T.f_product T.g_product sc_product (fun _ _ _ _ _ _ us hl => match us, hl with | [_, _], _ => rfl) (fun vs H Q E h => ?_) (fun cdv A outer s H vs Q E hr h => ?_)
  · obtain ⟨v, u, x, y, rfl, _⟩ := h
    rfl
  · obtain ⟨v, u, x, y, rfl, hv, hu, hx, hy, hfew, hQ⟩ := h
    obtain ⟨a, xs, rfl, zx, qx, px⟩ := hv.open_
    obtain ⟨b, ys, rfl, zy, qy, py⟩ := hu.open_
    have lx := paired_len px
    have ly := paired_len py
    refine ⟨_, pss_cons (ps_set (i := 2) sc_product.nd rfl (.inl rfl) (pe_lst pa_nil))
      (pss_cons (ps_for (passes_of rfl) rfl (pi_tup (pv 0)) (pg_tup rfl (pgs_cons (pg_name (i := 3) sc_product.nd rfl (.inl rfl)) (pgs_cons (pg_name (i := 4) sc_product.nd rfl (.inl rfl)) pgs_nil))) (pss_one (ps_for (passes_of rfl) rfl (pi_tup (pv 1)) (pg_tup rfl (pgs_cons (pg_name (i := 5) sc_product.nd rfl (.inl rfl)) (pgs_cons (pg_name (i := 6) sc_product.nd rfl (.inl rfl)) pgs_nil))) (pss_one (ps_expr (pe_bm PySem.F.plainAttrs_list PySem.F.slot_list_append PySem.F.type_list_append mt_append (pv 2) (pa_cons (pe_tup (pa_cons (pe_op op_mul (pv 3) (pv 5)) (pa_cons (pe_cl G_plus hr pass0 (pa_cons (pv 4) (pa_cons (pv 6) pa_nil))) pa_nil))) pa_nil)))))))
      (pss_one (ps_ret (pe_cl G_gathered hr pass0 (pa_cons (pv 2) pa_nil))))), ?_⟩
    refine ⟨Nat.zero_le _, fun L hL => ?_⟩
    have nx := hx.nf
    have ny := hy.nf
    refine ⟨_, rfl, a, rfl, ⟨xs, (Tx.of (same_new hL)) _ _ qx⟩, for_tup (xs := xs) (fun i σ H' => ∃ y3 y4 y5 y6 zs, σ = [some (.ref a), some (.ref b), some (.ref L), y3, y4, y5, y6] ∧ Same H H' ∧ H' L = some (.lst zs) ∧ Paired (IsI K H' 6) zs (prodL ((naf x).take i) (naf y)))
      ⟨none, none, none, none, [], rfl, same_new hL, upd_same, .nil⟩ (fun i σ H' _ ⟨_, _, _, _, _, _, s1, _⟩ => (Tx.of s1) _ _ qx) ?_ ?_⟩
    · rintro i xi σ H1 hxi ⟨y3, y4, y5, y6, zs, rfl, s1, hz, hzs⟩
      obtain ⟨t, ht, b1, e1, rfl, hb1, he1⟩ := item_at px hxi
      obtain ⟨ts, t0, t1⟩ := nx.mem t (List.mem_of_getElem? ht)
      refine ⟨b1, _, rfl, (Tx.of s1) _ _ hb1, rfl, _, _, rfl, _, _, rfl, rfl, ?_⟩
      have lt1 : i + 1 ≤ (naf x).length := (List.getElem?_eq_some_iff.mp ht).1
      refine ⟨_, rfl, b, rfl, ⟨ys, (Tx.of s1) _ _ qy⟩, for_tup (xs := ys) (fun j σ H' => ∃ y5 y6 zs, σ = [some (.ref a), some (.ref b), some (.ref L), some (.int t.1), some e1, y5, y6] ∧ Same H H' ∧ H' L = some (.lst zs) ∧ Paired (IsI K H' 6) zs (prodL ((naf x).take i) (naf y) ++ rowL t ((naf y).take j)))
        ⟨y5, y6, zs, rfl, s1, hz, by rw [show rowL t ((naf y).take 0) = [] from rfl, List.append_nil]; exact hzs⟩ (fun i σ H' _ ⟨_, _, _, _, s1, _⟩ => (Tx.of s1) _ _ qy) ?_ ?_⟩
      · rintro j yj σ H2 hyj ⟨y5, y6, zs, rfl, s2, hz, hzs⟩
        obtain ⟨u, hu1, b2, e2, rfl, hb2, he2⟩ := item_at py hyj
        obtain ⟨us, u0, u1⟩ := ny.mem u (List.mem_of_getElem? hu1)
        refine ⟨b2, _, rfl, (Tx.of s2) _ _ hb2, rfl, _, _, rfl, _, _, rfl, rfl, ?_⟩
        have lz : zs.length ≤ 4000 := by
          have h1 := paired_len hzs
          rw [List.length_append, prodL_len, rowL_len, List.length_take, List.length_take] at h1
          have h2 : min i (naf x).length * (naf y).length ≤ (naf x).length * (naf y).length := Nat.mul_le_mul_right _ (Nat.min_le_right _ _)
          omega
        refine ⟨_, rfl, .inl ⟨rfl, _, .inl (.inl hz)⟩, _, rfl, _, rfl, t.1, u.1, rfl, rfl, cmul_small (by rcases ts with z | z <;> simp [z]), _, rfl, _, rfl, e1, e2, t.2, u.2, rfl, (he1.tx (Tx.of s2)).up (by decide), (he2.tx (Tx.of s2)).up (by decide), cond_exp t0 (by omega) (sm_small (by omega) (by omega)), fun H3 v3 s3 hv3 => ⟨le2, fun B hB => ⟨L, zs, _, rfl, rfl, (s3.trans (same_new hB)) _ _ hz, ?_, ?_⟩⟩⟩
        · have hs := sizeLine_eq; omega
        · refine ⟨_, _, zs ++ [.ref B], rfl, same_set ((s2.trans s3).trans (same_new hB)) hL, upd_same, ?_⟩
          have e : rowL t ((naf y).take (j + 1)) = rowL t ((naf y).take j) ++ [(t.1 * u.1, t.2 + u.2)] := by
            rw [take_next hu1]; unfold rowL; rw [List.map_append]; rfl
          rw [e, ← List.append_assoc]
          exact push_item s3 hB hz hzs (hv3.cut (dp_small (by omega) (by omega)))
      · rintro σ H2 ⟨y5, y6, zs, rfl, s2, hz, hzs⟩
        refine ⟨_, _, _, _, zs, rfl, s2, hz, ?_⟩
        rw [ly, List.take_length] at hzs
        rw [take_next ht, prodL_app]
        rw [show prodL [t] (naf y) = rowL t (naf y) from List.append_nil _]
        exact hzs
    · rintro σ H1 ⟨y3, y4, y5, y6, zs, rfl, s1, hz, hzs⟩
      rw [lx, List.take_length] at hzs
      refine ⟨_, rfl, L, zs, _, rfl, hz, hzs, cond_prod hx hy hfew, fun H2 v2 s2 hv2 => hQ H2 v2 (s1.trans s2) ?_⟩
      rw [prodL_val ny nx, val_naf, val_naf] at hv2
      exact hv2
def spMultiply (K : PySem.W.Frag) : Sp := fun vs H Q _ => ∃ v u x y, vs = [v, u] ∧ IsN K H 7 v x ∧ IsN K H 7 u y ∧ T40 x ∧ T40 y ∧ T40 (x * y) ∧ ∀ H' v', Same H H' → IsN K H' 7 v' (x * y) → Q v' H'
theorem sc_multiply : FnScope ["first", "second"] ["first", "second"] (defScope s_multiply) := ⟨rfl, rfl, rfl, by decide +kernel, rfl, by decide +kernel, by decide +kernel⟩
theorem d_multiply (T : Txt K mg) : Df P w K mg base (L2.CX P w) 32 "multiply" ["first", "second"] (spMultiply K) := by
  have G_allowed := (d_allowed (P := P) (w := w) (base := base) T 7).mono (show 10 ≤ 31 by decide)
  have G_product := d_product (P := P) (w := w) (base := base) T
  refine .mk' T.f_multiply T.g_multiply sc_multiply (fun _ _ _ _ _ _ us hl => match us, hl with | [_, _], _ => rfl) (fun vs H Q E h => ?_) (fun cdv A outer s H vs Q E hr h => ?_)
  · obtain ⟨v, u, x, y, rfl, _⟩ := h
    rfl
  · obtain ⟨v, u, x, y, rfl, hv, hu, hx, hy, hz, hQ⟩ := h
    obtain ⟨a, xs, rfl, zx, qx, px⟩ := hv.open_
    obtain ⟨b, ys, rfl, zy, qy, py⟩ := hu.open_
    have lx := paired_len px
    have ly := paired_len py
    have few := prod_few hx hy hz
    obtain ⟨t_MAX_PRODUCT, m_MAX_PRODUCT⟩ := T.i_MAX_PRODUCT
    obtain ⟨x1, x2, x3, x4⟩ := T.e_TooLarge
    refine ⟨_, pss_cons (ps_if (pt_cmpR op_gt (pe_op op_mul (pe_callB call_len (by rfl) T.n_len PySem.boot_len (pa_cons (pv 0) pa_nil)) (pe_callB call_len (by rfl) T.n_len PySem.boot_len (pa_cons (pv 1) pa_nil))) (pe_glob (v := .int 400) rfl m_MAX_PRODUCT ⟨_, rfl⟩) (nomark _)) (pss_one (ps_raise rfl (takes_of rfl rfl rfl rfl) (pmk_own PySem.F.excBase_ValueError x1 T.c_TooLarge x2 (raises_own x3 x4) rfl))) pss_nil)
      (pss_one (ps_ret (pe_cl G_allowed hr (passes_call (takes_of rfl rfl rfl rfl) (fun _ _ _ _ h => h)) (pa_cons (pe_cl G_product hr pass0 (pa_cons (pv 0) (pa_cons (pv 1) pa_nil))) pa_nil)))), ?_⟩
    refine ⟨_, rfl, _, xs.length, rfl, .inr ⟨xs, qx, rfl⟩, _, rfl, _, ys.length, rfl, .inr ⟨ys, qy, rfl⟩, xs.length, ys.length, rfl, rfl, .inl ⟨by omega, by omega⟩, _, _, rfl, rfl, _, rfl, ite2 (fun c => ?_) fun c => ?_⟩
    · exfalso
      have c : (400 : Int) < (xs.length : Int) * (ys.length : Int) := of_decide_eq_true c
      rw [lx, ly, ← Int.natCast_mul] at c
      omega
    · refine ⟨_, rfl, _, rfl, .ref a, .ref b, x, y, rfl, hv, hu, hx, hy, few, fun H1 z s1 h1 => ⟨z, x * y, rfl, h1, fun _ H2 s2 => hQ H2 z (s1.trans s2) (h1.tx (Tx.of s2)), fun c => ?_⟩⟩
      rw [ok40 hz] at c; cases c
end
end Sr
set_option Elab.async false
set_option linter.all false
set_option maxRecDepth 100000
set_option maxHeartbeats 4000000
/-! check_modulus, row_of_two -/
namespace Sr
open PySem PySem.Spec PyProof.Rows L2

/-- 2 ** i by m -/
def pw (m : Int) (i : Nat) : Int := (2 : Int) ^ i % m
theorem pw_lt {m : Int} (h : 1 ≤ m) (i : Nat) : 0 ≤ pw m i ∧ pw m i < m := ⟨Int.emod_nonneg _ (by omega), Int.emod_lt_of_pos _ (by omega)⟩
theorem pw_succ (m : Int) (i : Nat) : pw m i * 2 % m = pw m (i + 1) := by
  unfold pw
  rw [Int.pow_succ, Int.mul_emod, Int.emod_emod, ← Int.mul_emod]
theorem pw_add (m : Int) (i j : Nat) : pw m (i + j) = pw m i * pw m j % m := by
  unfold pw
  rw [Int.pow_add, Int.mul_emod]
theorem pw_per {m : Int} {a p : Nat} (h : pw m (a + p) = pw m a) (j : Nat) : pw m (a + p + j) = pw m (a + j) := by
  rw [pw_add m (a + p) j, h, ← pw_add]
theorem pw_pers {m : Int} {a p : Nat} (h : pw m (a + p) = pw m a) (j : Nat) : ∀ q : Nat, pw m (a + p * q + j) = pw m (a + j)
  | 0 => by rw [Nat.mul_zero, Nat.add_zero]
  | q + 1 => by
    rw [Nat.mul_succ, show a + (p * q + p) + j = a + p + (p * q + j) by omega, pw_per h, show a + (p * q + j) = a + p * q + j by omega]
    exact pw_pers h j q
/-- no more different numbers below m than m -/
theorem php : ∀ (m : Nat) (l : List Int), l.Nodup → (∀ x ∈ l, 0 ≤ x ∧ x < m) → l.length ≤ m
  | 0, l, _, h => by
    cases l with
    | nil => exact Nat.le_refl _
    | cons a r => have := h a List.mem_cons_self; omega
  | m + 1, l, nd, h => by
    by_cases c : (m : Int) ∈ l
    · have e := List.length_erase_of_mem c
      have ih := php m (l.erase (m : Int)) (nd.erase _) fun x hx => by
        have h1 := h x (List.mem_of_mem_erase hx)
        have h2 : x ≠ m := fun z => by rw [z] at hx; exact (nd.not_mem_erase) hx
        omega
      omega
    · have ih := php m l nd fun x hx => by
        have h1 := h x hx
        have h2 : x ≠ m := fun z => by rw [z] at hx; exact c hx
        omega
      omega
/-- the row of k remainders, going on at lead -/
def PR (m : Int) (k lead : Nat) : Prop := lead < k ∧ (k : Int) ≤ m ∧ pw m k = pw m lead
def rowV (m : Int) (k : Nat) : List V := (List.range k).map fun i => V.int (pw m i)
theorem rowV_at {m : Int} {k i : Nat} (h : i < k) : (rowV m k)[i]? = some (V.int (pw m i)) := by
  unfold rowV
  rw [List.getElem?_map, List.getElem?_range h]; rfl
theorem rowV_len (m : Int) (k : Nat) : (rowV m k).length = k := by unfold rowV; simp
def seekP (m : Int) (k : Nat) (x : Int) : Option Nat := (List.range k).find? fun i => decide (pw m i = x)
theorem seekP_succ (m : Int) (k : Nat) (x : Int) : seekP m (k + 1) x = (seekP m k x).or (if pw m k = x then some k else none) := by
  unfold seekP
  rw [List.range_succ, List.find?_append]
  congr 1
  rw [List.find?_cons]
  by_cases c : pw m k = x
  · rw [if_pos c, decide_eq_true c]
  · rw [if_neg c, decide_eq_false c]; rfl
section
variable {P : Program} {w : World} {K : PySem.W.Frag} {mg : Str → Option Value} {base : Heap}
def spCheckMod (K : PySem.W.Frag) : Sp := fun vs H Q E => ∃ m, vs = [.int m] ∧ ((m < 1 ∨ 10000 < m) → eX K "NotAllowed" E H) ∧ (1 ≤ m → m ≤ 10000 → Q .non H)
theorem sc_check_modulus : FnScope ["m"] ["m"] (defScope s_check_modulus) := ⟨rfl, rfl, rfl, by decide +kernel, rfl, by decide +kernel, by decide +kernel⟩
theorem d_check_modulus (T : Txt K mg) : Df P w K mg base (L2.CX P w) 1 "check_modulus" ["m"] (spCheckMod K) := by
  refine .mk' T.f_check_modulus T.g_check_modulus sc_check_modulus (fun _ _ _ _ _ _ us hl => match us, hl with | [_], _ => rfl) (fun vs H Q E h => ?_) (fun cdv A outer s H vs Q E hr h => ?_)
  · obtain ⟨m, rfl, _⟩ := h
    rfl
  · obtain ⟨m, rfl, hE, hQ⟩ := h
    obtain ⟨t_MAX_MODULUS, m_MAX_MODULUS⟩ := T.i_MAX_MODULUS
    obtain ⟨x1, x2, x3, x4⟩ := T.e_NotAllowed
    refine ⟨_, pss_one (ps_if (PW.pt (pw_or (pt_cmpR op_lt (pv 0) pe_int (nomark _)) (pw_or1 (pt_cmpR op_gt (pv 0) (pe_glob (v := .int 10000) rfl m_MAX_MODULUS ⟨_, rfl⟩) (nomark _))))) (pss_one (ps_raise rfl (takes_of rfl rfl rfl rfl) (pmk_own PySem.F.excBase_ValueError x1 T.c_NotAllowed x2 (raises_own x3 x4) rfl))) pss_nil), ?_⟩
    refine ⟨_, rfl, _, _, rfl, rfl, _, rfl, or_go (b2 := decide ((10000 : Int) < m)) (fun h => ?_) (fun h1 h2 => ?_) (fun _ h => ⟨_, rfl, _, _, rfl, rfl, _, rfl, h⟩)⟩
    · refine hE ?_
      rcases h with z | z
      · exact .inl (of_decide_eq_true z)
      · exact .inr (of_decide_eq_true z)
    · have h1 := of_decide_eq_false h1
      have h2 := of_decide_eq_false h2
      exact hQ (by omega) (by omega)
/-! ### row_of_two -/
def spRow2 : Sp := fun vs H Q _ => ∃ m, vs = [.int m] ∧ 1 ≤ m ∧ m ≤ 10000 ∧ ∀ H' Tp R k lead, Same H H' → H Tp = none → H R = none → H' Tp = some (.tup [.ref R, .int ((lead : Nat) : Int)]) → H' R = some (.lst (rowV m k)) → PR m k lead → Q (.ref Tp) H'
theorem sc_row_of_two : FnScope ["m", "row", "seen", "power"] ["m"] (defScope s_row_of_two) := ⟨rfl, rfl, rfl, by decide +kernel, rfl, by decide +kernel, by decide +kernel⟩
theorem d_row_of_two (T : Txt K mg) : Df P w K mg base CX0 1 "row_of_two" ["m"] spRow2 := by
  refine .mk' T.f_row_of_two T.g_row_of_two sc_row_of_two (fun _ _ _ _ _ _ us hl => match us, hl with | [_], _ => rfl) (fun vs H Q E h => ?_) (fun cdv A outer s H vs Q E hr h => ?_)
  · obtain ⟨m, rfl, _⟩ := h
    rfl
  · obtain ⟨m, rfl, h1, h2, hQ⟩ := h
    have hu : (A.deeper (envOfC "row_of_two" (defScope s_row_of_two) s.heap.objs.size (He.ga K "row_of_two") cdv)).units + 1 < cLine := by have := hr.un; omega
    refine ⟨_, pss_cons (ps_set (i := 1) sc_row_of_two.nd rfl (.inl rfl) (pe_lst pa_nil))
      (pss_cons (ps_set (i := 2) sc_row_of_two.nd rfl (.inl rfl) pe_dnewK)
      (pss_cons (ps_set (i := 3) sc_row_of_two.nd rfl (.inl rfl) (pe_op op_mod pe_int (pv 0)))
      (pss_cons (ps_while (passes_of rfl) (pt_cmp (pc_dnotin hu (pv 3) (pv 2)) rfl) (pss_cons (ps_dput hu (pv 2) (pv 3) (pe_callB call_len (by rfl) T.n_len PySem.boot_len (pa_cons (pv 1) pa_nil)) rfl)
        (pss_cons (ps_expr (pe_bm PySem.F.plainAttrs_list PySem.F.slot_list_append PySem.F.type_list_append mt_append (pv 1) (pa_cons (pv 3) pa_nil)))
        (pss_one (ps_set (i := 3) sc_row_of_two.nd rfl (.inl rfl) (pe_op op_mod (pe_op op_mul (pv 3) pe_int) (pv 0)))))))
      (pss_one (ps_ret (pe_tup (pa_cons (pv 1) (pa_cons (pe_dget hu (pv 2) (pv 3) (fun _ _ => rfl)) pa_nil)))))))), ?_⟩
    refine ⟨Nat.zero_le _, fun R hR => fun d hd => ?_⟩
    have nRd : R ≠ d := ne_of_none upd_same hd
    refine ⟨_, rfl, 1, m, rfl, rfl, by show 0 < m; omega, ?_⟩
    have hd0 : H d = none := Same.none (same_new hR) hd
    refine ⟨fun n σ H' => ∃ k kvs, σ = [some (.int m), some (.ref R), some (.ref d), some (.int (pw m k))] ∧ n + k = m.toNat ∧ Same H H' ∧ H' R = some (.lst (rowV m k)) ∧ H' d = some (.dK kvs) ∧ kvs.length ≤ k ∧
        (∀ x, valV kvs (.inl x) = (seekP m k x).map fun i => V.int (i : Nat)) ∧ ((List.range k).map (pw m)).Nodup,
      ⟨m.toNat, 0, [], rfl, rfl, (same_new hR).trans (same_new hd), ?_, upd_same, Nat.le_refl _, fun x => rfl, List.nodup_nil⟩, ?_⟩
    · rw [upd_ne nRd, upd_same]; rfl
    · rintro n σ H1 ⟨k, kvs, rfl, hnk, s1, hR1, hd1, hlen, hval, nd⟩
      have hk : k ≤ 10000 := by omega
      refine ⟨_, rfl, _, rfl, d, _, rfl, DGet.k (k := .inl (pw m k)) hd1, _, rfl, ?_⟩
      rw [hval]
      cases hs : seekP m k (pw m k) with
      | none =>
        have hno : ∀ i, i < k → pw m i ≠ pw m k := fun i hi e => by
          unfold seekP at hs
          exact (List.find?_eq_none.mp hs i (List.mem_range.mpr hi)) (decide_eq_true e)
        have nd' : ((List.range (k + 1)).map (pw m)).Nodup := by
          rw [List.range_succ, List.map_append, List.nodup_append]
          refine ⟨nd, by simp, fun x hx y hy => ?_⟩
          obtain ⟨i, hi, rfl⟩ := List.mem_map.mp hx
          rw [List.map_singleton, List.mem_singleton] at hy
          rw [hy]; exact hno i (List.mem_range.mp hi)
        have hkm := php m.toNat _ nd' fun x hx => by
          obtain ⟨i, hi, rfl⟩ := List.mem_map.mp hx
          have := pw_lt h1 i
          omega
        rw [List.length_map, List.length_range] at hkm
        refine iteT ⟨_, fun σ' H' h => h, ?_⟩
        have hd2 : (upd H1 d (.dK (putK kvs (.inl (pw m k)) (.int k)))) R = some (.lst (rowV m k)) := by rw [upd_ne nRd]; exact hR1
        refine ⟨_, rfl, _, (rowV m k).length, rfl, .inl ⟨_, .inl (.inl hR1), rfl⟩, _, rfl, _, rfl, d, _, rfl, DPut.k (k := .inl (pw m k)) hd1 (by have := sizeLine_eq; omega), ?_⟩
        rw [rowV_len]
        refine ⟨_, rfl, .inl ⟨rfl, _, .inl (.inl hd2)⟩, _, rfl, R, _, _, rfl, rfl, hd2, by rw [rowV_len]; have := sizeLine_eq; omega, ?_⟩
        refine ⟨_, rfl, pw m k, 2, rfl, rfl, .inr ⟨by decide, by decide⟩, _, rfl, _, m, rfl, rfl, by show 0 < m; omega, ?_⟩
        refine ⟨n - 1, by omega, k + 1, putK kvs (.inl (pw m k)) (.int k), congrArg (fun z : Int => [some (V.int m), some (V.ref R), some (V.ref d), some (V.int z)]) (pw_succ m k), by omega, same_set (same_set s1 hd0) hR, ?_, ?_, ?_, fun x => ?_, nd'⟩
        · rw [upd_same]
          unfold rowV
          rw [List.range_succ, List.map_append]; rfl
        · rw [upd_ne nRd.symm, upd_same]
        · have := length_putK kvs (.inl (pw m k)) (.int k); omega
        · rw [valV_put, hval, seekP_succ]
          by_cases c : x = pw m k
          · subst c
            rw [if_pos rfl, if_pos rfl, hs]; rfl
          · rw [if_neg (fun z => c (by injection z)), if_neg (fun z => c z.symm), Option.or_none]
      | some lead =>
        have hl : lead < k ∧ pw m lead = pw m k := by
          unfold seekP at hs
          exact ⟨List.mem_range.mp (List.mem_of_find?_eq_some hs), by simpa using List.find?_some hs⟩
        refine iteF ⟨_, rfl, _, rfl, _, rfl, d, .int lead, rfl, ?_, le2, fun Tp hT => ?_⟩
        · have := DGet.k (k := .inl (pw m k)) hd1
          rw [hval, hs] at this
          exact this
        · refine hQ _ Tp R k lead (s1.trans (same_new hT)) (Same.none s1 hT) hR upd_same (same_new hT _ _ hR1) ⟨hl.1, ?_, hl.2.symm⟩
          have hkm := php m.toNat _ nd fun x hx => by
            obtain ⟨i, hi, rfl⟩ := List.mem_map.mp hx
            have := pw_lt h1 i
            omega
          rw [List.length_map, List.length_range] at hkm
          omega
end
end Sr
set_option Elab.async false
set_option linter.all false
set_option maxRecDepth 100000
set_option maxHeartbeats 4000000
/-! Powers, remainder -/
namespace Sr
open PySem PySem.Spec PyProof.Rows L2

/-- a method's promise -/
structure Dm (P : Program) (w : World) (K : PySem.W.Frag) (mg : Str → Option Value) (base : Heap) (CX : CXT) (k : Nat) (f : Addr) (ps : List Str) (sp : Sp) : Prop where
  ex : ∃ fd, Binds K fd ps [] ∧ FnOk P w K mg base CX k f fd ps sp
section
variable {P : Program} {w : World} {K : PySem.W.Frag} {mg : Str → Option Value} {base : Heap} {CX : CXT}
theorem Dm.mono {j k : Nat} {f : Addr} {ps : List Str} {sp : Sp} (D : Dm P w K mg base CX j f ps sp) (h : j ≤ k) : Dm P w K mg base CX k f ps sp := let ⟨fd, b, F⟩ := D.ex; ⟨⟨fd, b, F.mono h⟩⟩
theorem Dm.mk' {x qual : Str} {st : Stmt} {p : Str × Option Str} {N ps : List Str} {k : Nat} {sp : Sp} (F : At K x qual st p) (S : FnScope N ps (defScope st))
    (hb : ∀ (kV doc pm : Value) (an : Option Addr) (cdv ct : Value) (us : List Value), us.length = ps.length → bindArgs (PySem.W.fnOf x qual (defArgs st) (defBody st) (defScope st) .none kV doc pm an cdv ct) ⟨us, []⟩ = pure (ps.zip us))
    (len : ∀ vs H Q E, sp vs H Q E → vs.length = ps.length)
    (hbody : ∀ (cdv : Value) (A : Around) (outer : List Env) (s : Shared) (H : Hp) (vs : List V) (Q : VK) (E : XK), Room k (A.deeper (envOfC qual (defScope st) s.heap.objs.size (He.fAd K p) cdv)) → sp vs H Q E →
      ∃ t, PSs (cxOf CX P w K mg base N qual (defScope st) (He.fAd K p) cdv A outer s H E) (defBody st) t ∧ t { nx := fun _ H' => Q .non H', rt := Q } (start N vs) H) : Dm P w K mg base CX (k + 1) (He.fAd K p) ps sp :=
  let ⟨_, F⟩ := F
  ⟨⟨_, F.bindsN hb, F.ok S len hbody⟩⟩
end
section
variable {X : Cx} {CX : CXT} {k : Nat} {ps : List Str} {sp : Sp} {E : XK} {m : Str} {C f : Addr} {apos pos : Pos} {o e : Expr} {es : List Expr} {ta : TE} {t : TA}
/-- a call of a method -/
theorem pe_cm {pl : Sem Bool} (D : Dm X.prog X.w X.K X.mg X.base CX k f ps sp) (he : PE X o ta) (c : Cls X.K C) (hm : Meth X.K C m f) (hr : Room k X.A) (hx : Passes CX X E) (ha : PA X (e :: es) t)
    (hst : starEach (e :: es) X.env = (false, eval e X.env) :: starEach es X.env := by rfl) (hpl : (backTo pos (starEach es X.env)).any (·.1) = false := by rfl)
    (ht : eval (.Call (.Attribute o m apos) (e :: es) [] pos) X.env = (do
      let ov ← eval o X.env
      standAt apos.atName
      let (f, first) ← holding [ov] (getMethod ov m pl)
      callWith pos f first (backTo pos (starEach (e :: es) X.env)) (backToKw pos (keywordEach [] X.env))) := by rfl) :
    PE X (.Call (.Attribute o m apos) (e :: es) [] pos) (tMeth C m sp [] E ta t) :=
  let ⟨_, b, F⟩ := D.ex
  pe_meth he c hm F hr b .nil hx ha hst hpl ht
end

/-- all but the dict at d stands -/
def Fr (d : Addr) (H H' : Hp) : Prop := ∀ a o, a ≠ d → H a = some o → H' a = some o
theorem Fr.of {d : Addr} {H H' : Hp} (s : Same H H') : Fr d H H' := fun a o _ e => s a o e
theorem Fr.trans {d : Addr} {H H1 H2 : Hp} (a : Fr d H H1) (b : Fr d H1 H2) : Fr d H H2 := fun x o n e => b x o n (a x o n e)
theorem Fr.tx {K : PySem.W.Frag} {d : Addr} {H H' : Hp} {kvs : List (Key × V)} (f : Fr d H H') (h : H d = some (.dK kvs)) : Tx K H H' := fun a xs q => by
  rcases q with (q | ⟨ob, q⟩) | q
  · refine .inl (.inl (f a _ (fun z => ?_) q))
    rw [z, h] at q; cases q
  · refine .inl (.inr ⟨ob, f a _ (fun z => ?_) q⟩)
    rw [z, h] at q; cases q
  · exact .inr q
/-- a row that was found -/
def EntOk (H : Hp) (m : Int) (v : V) : Prop := ∃ Tp R k lead, v = .ref Tp ∧ H Tp = some (.tup [.ref R, .int ((lead : Nat) : Int)]) ∧ H R = some (.lst (rowV m k)) ∧ PR m k lead
structure Ents (H : Hp) (kvs : List (Key × V)) : Prop where
  keys : ∃ ms : List Int, kvs.map (·.1) = ms.map Sum.inl ∧ ms.Nodup ∧ ∀ m ∈ ms, 0 ≤ m ∧ m < (10001 : Nat)
  ok : ∀ m v, valV kvs (.inl m) = some v → EntOk H m v
theorem EntOk.fr {d : Addr} {H H' : Hp} {m : Int} {v : V} {kvs : List (Key × V)} (h : EntOk H m v) (f : Fr d H H') (hd : H d = some (.dK kvs)) : EntOk H' m v := by
  obtain ⟨Tp, R, k, lead, e, h1, h2, pr⟩ := h
  refine ⟨Tp, R, k, lead, e, f _ _ (fun z => ?_) h1, f _ _ (fun z => ?_) h2, pr⟩
  · rw [z, hd] at h1; cases h1
  · rw [z, hd] at h2; cases h2
/-- the instance -/
structure PwS (K : PySem.W.Frag) (H : Hp) (me d : Addr) : Prop where
  ins : ∃ dx, H me = some (.ins (He.ga K "Powers") dx [("rows", .ref d)])
  dict : ∃ kvs, H d = some (.dK kvs) ∧ Ents H kvs
theorem PwS.same {K : PySem.W.Frag} {H H' : Hp} {self d : Addr} (p : PwS K H self d) (s : Same H H') : PwS K H' self d := by
  obtain ⟨dx, h1⟩ := p.ins
  obtain ⟨kvs, h2, h3⟩ := p.dict
  exact ⟨⟨dx, s _ _ h1⟩, ⟨kvs, s _ _ h2, h3.keys, fun m v e => (h3.ok m v e).fr (Fr.of s) h2⟩⟩
theorem no_row {d : V} : ([("rows", d)] : List (Str × V)).lookup ("row" : Str) = none := by rfl
theorem no_power {d : V} : ([("rows", d)] : List (Str × V)).lookup ("power" : Str) = none := by rfl
theorem no_number {d : V} : ([("rows", d)] : List (Str × V)).lookup ("number" : Str) = none := by rfl
theorem mod_step {a b s p m : Int} (h : a % m = b % m) : (a + s * (p % m)) % m = (b + s * p) % m := by
  rw [Int.add_emod, h, Int.mul_emod, Int.emod_emod, ← Int.mul_emod, ← Int.add_emod]
theorem mod_sub {a b m : Int} : (a % m - b) % m = (a - b) % m := by
  rw [Int.sub_emod, Int.emod_emod, ← Int.sub_emod]

section
variable {P : Program} {w : World} {K : PySem.W.Frag} {mg : Str → Option Value} {base : Heap}
/-! ### row -/
def spRowM (K : PySem.W.Frag) : Sp := fun vs H Q _ => ∃ self d m, vs = [.ref self, .int m] ∧ PwS K H self d ∧ 1 ≤ m ∧ m ≤ 10000 ∧ ∀ H' v, Fr d H H' → PwS K H' self d → EntOk H' m v → Q v H'
theorem sc_row : FnScope ["self", "m"] ["self", "m"] (defScope s_Powers_row) := ⟨rfl, rfl, rfl, by decide +kernel, rfl, by decide +kernel, by decide +kernel⟩
theorem d_row (T : Txt K mg) : Dm P w K mg base CX0 2 (He.fAd K ("Powers", some "row")) ["self", "m"] (spRowM K) := by
  have G_row_of_two := d_row_of_two (P := P) (w := w) (base := base) T
  refine .mk' T.f_Powers_row sc_row (fun _ _ _ _ _ _ us hl => match us, hl with | [_, _], _ => rfl) (fun vs H Q E h => ?_) (fun cdv A outer s H vs Q E hr h => ?_)
  · obtain ⟨self, d, m, rfl, _⟩ := h
    rfl
  · obtain ⟨self, d, m, rfl, hp, h1, h2, hQ⟩ := h
    have hu : (A.deeper (envOfC "Powers.row" (defScope s_Powers_row) s.heap.objs.size (He.fAd K ("Powers", some "row")) cdv)).units + 1 < cLine := by have := hr.un; omega
    refine ⟨_, pss_cons (ps_mid (ps_if (pt_cmp (pc_dnotin hu (pv 1) (pe_fld (pv 0) rfl)) rfl) (pss_one (ps_dput hu (pe_fld (pv 0) rfl) (pv 1) (pe_cl G_row_of_two hr pass0 (pa_cons (pv 1) pa_nil)) rfl)) pss_nil))
      (pss_one (ps_ret (pe_dget hu (pe_fld (pv 0) rfl) (pv 1) (fun _ _ => rfl)))), ?_⟩
    obtain ⟨dx, hi⟩ := hp.ins
    obtain ⟨kvs, hd, hk⟩ := hp.dict
    refine ⟨fun σ H' => σ = [some (.ref self), some (.int m)] ∧ Fr d H H' ∧ PwS K H' self d ∧ ∃ kvs v, H' d = some (.dK kvs) ∧ valV kvs (.inl m) = some v ∧ EntOk H' m v, ?_, ?_⟩
    · rintro σ H1 ⟨rfl, fr, hp1, kvs1, v, hd1, hv1, he1⟩
      obtain ⟨dx1, hi1⟩ := hp1.ins
      refine ⟨_, rfl, self, _, dx1, _, .ref d, rfl, hi1, T.clP, T.noP, rfl, _, rfl, d, v, rfl, ?_, hQ H1 v fr hp1 he1⟩
      have := DGet.k (k := .inl m) hd1
      rw [hv1] at this
      exact this
    · refine ⟨_, rfl, _, rfl, self, _, dx, _, .ref d, rfl, hi, T.clP, T.noP, rfl, d, _, rfl, DGet.k (k := .inl m) hd, _, rfl, ?_⟩
      cases hs : valV kvs (.inl m) with
      | some v => exact iteF ⟨rfl, fun _ _ _ e => e, hp, kvs, v, hd, hs, hk.ok m v hs⟩
      | none =>
        obtain ⟨ms, k1, k2, k3⟩ := hk.keys
        have lk : kvs.length ≤ 10001 := by
          have a := php 10001 ms k2 k3
          have b := congrArg List.length k1
          rw [List.length_map, List.length_map] at b
          omega
        refine iteT ⟨_, rfl, m, rfl, h1, h2, fun H1 Tp R k lead s1 nT nR hT hR pr => ?_⟩
        have hd1 := s1 _ _ hd
        have hi1 := s1 _ _ hi
        refine ⟨_, rfl, self, _, dx, _, .ref d, rfl, hi1, T.clP, T.noP, rfl, _, rfl, d, _, rfl, DPut.k (k := .inl m) hd1 (by have := sizeLine_eq; omega), ?_⟩
        have nself : self ≠ d := fun z => by rw [z, hd] at hi; cases hi
        have fr : Fr d H1 (upd H1 d (.dK (putK kvs (.inl m) (.ref Tp)))) := fun a o n e => by rw [upd_ne n]; exact e
        have ent : EntOk H1 m (.ref Tp) := ⟨Tp, R, k, lead, rfl, hT, hR, pr⟩
        have val : ∀ j, valV (putK kvs (.inl m) (.ref Tp)) (.inl j) = if (Sum.inl j : Key) = .inl m then some (.ref Tp) else valV kvs (.inl j) := fun j => valV_put _ _ _ _
        refine ⟨rfl, (Fr.of s1).trans fr, ⟨⟨dx, fr _ _ nself hi1⟩, _, upd_same, ⟨ms ++ [m], ?_, ?_, ?_⟩, fun j v e => ?_⟩, _, .ref Tp, upd_same, ?_, ent.fr fr hd1⟩
        · rw [putK_new _ hs, List.map_append, k1, List.map_append]; rfl
        · rw [List.nodup_append]
          refine ⟨k2, by simp, fun x hx y hy => ?_⟩
          rw [List.mem_singleton.mp hy]
          intro z
          have : (Sum.inl m : Key) ∈ kvs.map (·.1) := by rw [k1, ← z]; exact List.mem_map.mpr ⟨x, hx, rfl⟩
          obtain ⟨p, hp, e⟩ := List.mem_map.mp this
          have hn : valV kvs (.inl m) = none := hs
          unfold valV at hn
          rw [Option.map_eq_none_iff] at hn
          exact (List.find?_eq_none.mp hn p hp) (decide_eq_true e)
        · intro x hx
          rcases List.mem_append.mp hx with z | z
          · exact k3 x z
          · rw [List.mem_singleton.mp z]; omega
        · rw [val] at e
          split at e
          · rename_i c
            cases c
            cases e
            exact ent.fr fr hd1
          · exact ((hk.ok j v e).fr (Fr.of s1) hd).fr fr hd1
        · rw [val, if_pos rfl]
/-! ### power, number -/
def spPower (K : PySem.W.Frag) (n : Nat) : Sp := fun vs H Q _ => ∃ self d v e m, vs = [.ref self, v, .int m] ∧ PwS K H self d ∧ IsN K H n v e ∧ n ≤ 10 ∧ 0 ≤ e ∧ 1 ≤ m ∧ m ≤ 10000 ∧ ∀ H', Fr d H H' → PwS K H' self d → Q (.int (p2 e % m)) H'
def spNumber (K : PySem.W.Frag) (n : Nat) : Sp := fun vs H Q _ => ∃ self d v x m, vs = [.ref self, v, .int m] ∧ PwS K H self d ∧ IsN K H n v x ∧ n ≤ 10 ∧ 1 ≤ m ∧ m ≤ 10000 ∧ ∀ H', Fr d H H' → PwS K H' self d → Q (.int (x % m)) H'
theorem sc_power : FnScope ["self", "exponent", "m", "row", "lead", "period"] ["self", "exponent", "m"] (defScope s_Powers_power) := ⟨rfl, rfl, rfl, by decide +kernel, rfl, by decide +kernel, by decide +kernel⟩
theorem pr_at {m e : Int} {k lead : Nat} (pr : PR m k lead) (he : (k : Int) ≤ e) : ∃ i : Nat, i < k ∧ (lead : Int) + (e - lead) % ((k : Int) - lead) = i ∧ pw m i = pw m e.toNat := by
  obtain ⟨h1, h2, h3⟩ := pr
  obtain ⟨p, hp⟩ : ∃ p, k = lead + p := ⟨k - lead, by omega⟩
  subst hp
  obtain ⟨f, hf⟩ : ∃ f : Nat, e = (lead : Int) + (f : Int) := ⟨(e - lead).toNat, by omega⟩
  subst hf
  have hp0 : 0 < p := by omega
  refine ⟨lead + f % p, ?_, ?_, ?_⟩
  · have := Nat.mod_lt f hp0; omega
  · rw [show (lead : Int) + (f : Int) - lead = f by omega, show ((lead + p : Nat) : Int) - lead = p by omega, ← Int.natCast_emod]; omega
  · have e1 : ((lead : Int) + (f : Int)).toNat = lead + p * (f / p) + f % p := by
      have := Nat.div_add_mod f p
      omega
    rw [e1, pw_pers h3]
theorem d_power (T : Txt K mg) {n : Nat} (hn : n ≤ 10) (G_number : Dm P w K mg base (L2.CX P w) (30 + 2 * n) (He.fAd K ("Powers", some "number")) ["self", "number", "m"] (spNumber K n)) :
    Dm P w K mg base (L2.CX P w) (31 + 2 * n) (He.fAd K ("Powers", some "power")) ["self", "exponent", "m"] (spPower K n) := by
  have G_row := (d_row (P := P) (w := w) (base := base) T).mono (show 2 ≤ 30 + 2 * n by omega)
  have G_compare := (d_compare (P := P) (w := w) (base := base) T 10).mono (show 11 ≤ 30 + 2 * n by omega)
  have G_from_int := (d_from (P := P) (w := w) (base := base) T 7).mono (show 8 ≤ 30 + 2 * n by omega)
  have G_to_int := (d_to_int (P := P) (w := w) (base := base) T n).mono (show n + 9 ≤ 30 + 2 * n by omega)
  have R : Dm P w K mg base (L2.CX P w) (30 + 2 * n + 1) (He.fAd K ("Powers", some "power")) ["self", "exponent", "m"] (spPower K n) := by
    refine .mk' T.f_Powers_power sc_power (fun _ _ _ _ _ _ us hl => match us, hl with | [_, _, _], _ => rfl) (fun vs H Q E h => ?_) (fun cdv A outer s H vs Q E hr h => ?_)
    · obtain ⟨self, d, v, e, m, rfl, _⟩ := h
      rfl
    · obtain ⟨self, d, v, e, m, rfl, hp, hv, _, h0, h1, h2, hQ⟩ := h
      refine ⟨_, pss_cons (ps_asg (pe_cm G_row (pv 0) T.clP T.m_row hr pass0 (pa_cons (pv 2) pa_nil)) (pg_tup rfl (pgs_cons (pg_name (i := 3) sc_power.nd rfl (.inl rfl)) (pgs_cons (pg_name (i := 4) sc_power.nd rfl (.inl rfl)) pgs_nil))))
        (pss_cons (ps_if (pt_cmpR op_lt (pe_cl G_compare hr pass0 (pa_cons (pv 1) (pa_cons (pe_cl G_from_int hr pass0 (pa_cons (pe_callB call_len (by rfl) T.n_len PySem.boot_len (pa_cons (pv 3) pa_nil)) pa_nil)) pa_nil))) pe_int (nomark _)) (pss_one (ps_ret (pe_ix ix_list (pv 3) (pe_cl G_to_int hr (passes_call (takes_of rfl rfl rfl rfl) (fun _ _ _ _ h => h)) (pa_cons (pv 1) pa_nil)) (fun _ _ => rfl)))) pss_nil)
        (pss_cons (ps_set (i := 5) sc_power.nd rfl (.inl rfl) (pe_op op_sub (pe_callB call_len (by rfl) T.n_len PySem.boot_len (pa_cons (pv 3) pa_nil)) (pv 4)))
        (pss_one (ps_ret (pe_ix ix_list (pv 3) (pe_op op_add (pv 4) (pe_op op_mod (pe_op op_sub (pe_cm G_number (pv 0) T.clP T.m_number hr (passes_call (takes_of rfl rfl rfl rfl) (fun _ _ _ _ h => h)) (pa_cons (pv 1) (pa_cons (pv 5) pa_nil))) (pv 4)) (pv 5))) (fun _ _ => rfl)))))), ?_⟩
      obtain ⟨dx, hi⟩ := hp.ins
      obtain ⟨kvs0, hd0, _⟩ := hp.dict
      refine ⟨_, rfl, self, dx, _, rfl, hi, no_row, _, rfl, self, d, m, rfl, hp, h1, h2, fun H1 v1 fr1 hp1 he1 => ?_⟩
      obtain ⟨Tp, R, k, lead, rfl, hT, hR, pr⟩ := he1
      refine ⟨Tp, _, rfl, .inl (.inl hT), rfl, _, _, rfl, _, _, rfl, rfl, ?_⟩
      have kk : (k : Int) ≤ 10000 := by have := pr.2.1; omega
      have sk : Sm k := sm_small (by omega) (by omega)
      have hv1 := hv.tx (fr1.tx hd0)
      refine ⟨_, rfl, _, rfl, _, (rowV m k).length, rfl, .inl ⟨_, .inl (.inl hR), rfl⟩, _, rfl, ?_, ?_, ?_, fun H2 v2 s2 hv2 => ?_⟩
      · rw [rowV_len]; exact sk.dp
      · rw [rowV_len]; have := sk.len; omega
      · rw [rowV_len]; intro t ht; have := sk.exps t ht; omega
      · rw [rowV_len] at hv2
        have hR2 := s2 _ _ hR
        refine ⟨v, v2, e, k, rfl, (hv1.tx (Tx.of s2)).up hn, hv2.up (by decide), by decide, fun H3 s3 => ⟨_, _, rfl, rfl, _, rfl, ite2 (fun c => ?_) fun c => ?_⟩⟩
        · have c := sgn_sub_lt.mp (of_decide_eq_true c)
          have big : (10000 : Int) < p2 64 := by decide +kernel
          refine ⟨_, rfl, _, rfl, v, e, rfl, hv1.tx (Tx.of (s2.trans s3)), by have := p2_pos 64; omega, by omega, fun H4 s4 => ?_⟩
          refine ⟨R, rowV m k, e, _, rfl, rfl, .inl (.inl (s4 _ _ (s3 _ _ hR2))), atI_eq (j := e.toNat) (by omega) (rowV_at (by omega)), ?_⟩
          have sA := (s2.trans s3).trans s4
          exact hQ H4 (fr1.trans (Fr.of sA)) (hp1.same sA)
        · have c : (k : Int) ≤ e := by
            by_cases z : e < k
            · exact absurd (decide_eq_true (sgn_sub_lt.mpr z)) c
            · omega
          have hR3 := s3 _ _ hR2
          have s23 := s2.trans s3
          have hp3 := hp1.same s23
          obtain ⟨dx3, hi3⟩ := hp3.ins
          obtain ⟨kvs3, hd3, _⟩ := hp3.dict
          have pk := pr.1
          refine ⟨_, rfl, _, (rowV m k).length, rfl, .inl ⟨_, .inl (.inl hR3), rfl⟩, _, rfl, _, _, rfl, rfl, ?_⟩
          rw [rowV_len]
          refine ⟨_, rfl, _, rfl, _, rfl, self, dx3, _, rfl, hi3, no_number, _, rfl, _, rfl, self, d, v, e, (k : Int) - lead, rfl, hp3, hv1.tx (Tx.of s23), hn, by omega, by omega, fun H4 fr4 hp4 => ?_⟩
          have hR4 : H4 R = some (.lst (rowV m k)) := fr4 _ _ (fun z => by rw [z, hd3] at hR3; cases hR3) hR3
          obtain ⟨i, i1, i2, i3⟩ := pr_at pr c
          refine ⟨_, rfl, _, _, rfl, rfl, _, rfl, _, _, rfl, rfl, by show 0 < (k : Int) - lead; omega, _, _, rfl, rfl, R, rowV m k, _, _, rfl, rfl, .inl (.inl hR4), atI_eq (j := i) (by rw [mod_sub]; exact i2) (rowV_at i1), ?_⟩
          rw [i3]
          exact hQ H4 ((fr1.trans (Fr.of s23)).trans fr4) hp4
  exact R.mono (by omega)
theorem sc_number : FnScope ["self", "number", "m", "total", "sign", "exponent"] ["self", "number", "m"] (defScope s_Powers_number) := ⟨rfl, rfl, rfl, by decide +kernel, rfl, by decide +kernel, by decide +kernel⟩
theorem d_number (T : Txt K mg) : ∀ n, n ≤ 10 → Dm P w K mg base (L2.CX P w) (30 + 2 * n) (He.fAd K ("Powers", some "number")) ["self", "number", "m"] (spNumber K n)
  | 0, _ => by
    refine .mk' T.f_Powers_number sc_number (fun _ _ _ _ _ _ us hl => match us, hl with | [_, _, _], _ => rfl) (fun vs H Q E h => ?_) (fun cdv A outer s H vs Q E hr h => ?_)
    · obtain ⟨self, d, v, e, m, rfl, _⟩ := h
      rfl
    · obtain ⟨self, d, v, e, m, rfl, hp, hv, _⟩ := h
      exact hv.elim
  | n + 1, hn => by
    have G_power := d_power T (by omega) (d_number T n (by omega))
    have R : Dm P w K mg base (L2.CX P w) (31 + 2 * n + 1) (He.fAd K ("Powers", some "number")) ["self", "number", "m"] (spNumber K (n + 1)) := by
      refine .mk' T.f_Powers_number sc_number (fun _ _ _ _ _ _ us hl => match us, hl with | [_, _, _], _ => rfl) (fun vs H Q E h => ?_) (fun cdv A outer s H vs Q E hr h => ?_)
      · obtain ⟨self, d, v, e, m, rfl, _⟩ := h
        rfl
      · obtain ⟨self, d, v, x, m, rfl, hp, hv, _, h1, h2, hQ⟩ := h
        obtain ⟨a, xs, rfl, zx, qx, px⟩ := hv.open_
        have hl := paired_len px
        obtain ⟨b0, nf⟩ := naf_nf x
        obtain ⟨kvs0, hd0, _⟩ := hp.dict
        refine ⟨_, pss_cons (ps_set (i := 3) sc_number.nd rfl (.inl rfl) pe_int)
          (pss_cons (ps_for (passes_of rfl) rfl (pi_tup (pv 1)) (pg_tup rfl (pgs_cons (pg_name (i := 4) sc_number.nd rfl (.inl rfl)) (pgs_cons (pg_name (i := 5) sc_number.nd rfl (.inl rfl)) pgs_nil))) (pss_one (ps_aug (i := 3) sc_number.nd rfl (.inl rfl) (pe_op op_mul (pv 4) (pe_cm G_power (pv 0) T.clP T.m_power hr (passes_call (takes_of rfl rfl rfl rfl) (fun _ _ _ _ h => h)) (pa_cons (pv 5) (pa_cons (pv 2) pa_nil)))) ip_add)))
          (pss_one (ps_ret (pe_op op_mod (pv 3) (pv 2))))), ?_⟩
        refine ⟨_, rfl, a, rfl, ⟨xs, qx⟩, for_tup (xs := xs) (fun i σ H' => ∃ tot y4 y5, σ = [some (.ref self), some (.ref a), some (.int m), some (.int tot), y4, y5] ∧ tot % m = val ((naf x).take i) % m ∧ Fr d H H' ∧ PwS K H' self d)
          ⟨0, none, none, rfl, rfl, fun _ _ _ e => e, hp⟩ (fun i σ H' _ ⟨_, _, _, _, _, fr, _⟩ => (fr.tx hd0) _ _ qx) ?_ ?_⟩
        · rintro i xi σ H1 hxi ⟨tot, y4, y5, rfl, ht0, fr, hp1⟩
          obtain ⟨t, ht, b, e, rfl, hb1, he⟩ := item_at px hxi
          obtain ⟨ts, te0, _⟩ := nf.mem t (List.mem_of_getElem? ht)
          obtain ⟨dx1, hi1⟩ := hp1.ins
          refine ⟨b, _, rfl, (fr.tx hd0) _ _ hb1, rfl, _, _, rfl, _, _, rfl, rfl, ?_⟩
          refine ⟨_, rfl, _, rfl, _, rfl, self, dx1, _, rfl, hi1, no_power, _, rfl, _, rfl, self, d, e, t.2, m, rfl, hp1, he.tx (fr.tx hd0), by omega, te0, h1, h2, fun H2 fr2 hp2 => ?_⟩
          refine ⟨t.1, _, rfl, rfl, cmul_small (by rcases ts with z | z <;> simp [z]), tot, _, rfl, rfl, ?_⟩
          exact ⟨tot + t.1 * (p2 t.2 % m), _, _, rfl, by rw [val_take ht]; exact mod_step ht0, fr.trans fr2, hp2⟩
        · rintro σ H1 ⟨tot, y4, y5, rfl, ht0, fr, hp1⟩
          rw [hl, List.take_length, val_naf] at ht0
          refine ⟨_, rfl, _, rfl, tot, m, rfl, rfl, by show 0 < m; omega, ?_⟩
          have q := hQ H1 fr hp1
          rw [← ht0] at q
          exact q
    exact R.mono (by omega)
/-! ### the instance made -/
def spPInit (K : PySem.W.Frag) : Sp := fun vs H Q _ => ∃ self dx, vs = [.ref self] ∧ H self = some (.ins (He.ga K "Powers") dx []) ∧ ∀ d, H d = none → Q .non (upd (upd H d (.dK [])) self (.ins (He.ga K "Powers") dx [("rows", .ref d)]))
theorem sc_pinit : FnScope ["self"] ["self"] (defScope s_Powers_init) := ⟨rfl, rfl, rfl, by decide +kernel, rfl, by decide +kernel, by decide +kernel⟩
theorem d_pinit (T : Txt K mg) : Dm P w K mg base CX0 1 (He.fAd K ("Powers", some "__init__")) ["self"] (spPInit K) := by
  refine .mk' T.f_Powers_init sc_pinit (fun _ _ _ _ _ _ us hl => match us, hl with | [_], _ => rfl) (fun vs H Q E h => ?_) (fun cdv A outer s H vs Q E hr h => ?_)
  · obtain ⟨self, dx, rfl, _⟩ := h
    rfl
  · obtain ⟨self, dx, rfl, hs, hQ⟩ := h
    refine ⟨_, pss_one (ps_fld (pv 0) pe_dnewK rfl), ?_⟩
    intro d hd
    exact ⟨_, rfl, self, _, dx, [], rfl, by rw [upd_ne (ne_of_none hs hd)]; exact hs, T.clP, T.noP, by show 0 < 1000; decide, hQ d hd⟩
/-! ### remainder -/
def spRem (K : PySem.W.Frag) : Sp := fun vs H Q E => ∃ v x m, vs = [v, .int m] ∧ IsN K H 7 v x ∧ ((m < 1 ∨ 10000 < m) → eX K "NotAllowed" E H) ∧ (1 ≤ m → m ≤ 10000 → ∀ H', Same H H' → Q (.int (x % m)) H')
theorem sc_remainder : FnScope ["x", "m"] ["x", "m"] (defScope s_remainder) := ⟨rfl, rfl, rfl, by decide +kernel, rfl, by decide +kernel, by decide +kernel⟩
theorem d_remainder (T : Txt K mg) : Df P w K mg base (L2.CX P w) 45 "remainder" ["x", "m"] (spRem K) := by
  have G_check_modulus := (d_check_modulus (P := P) (w := w) (base := base) T).mono (show 1 ≤ 44 by decide)
  have G_number := d_number (P := P) (w := w) (base := base) T 7 (by decide)
  obtain ⟨fi, bi, Fi⟩ := (d_pinit (P := P) (w := w) (base := base) T).ex
  refine .mk' T.f_remainder T.g_remainder sc_remainder (fun _ _ _ _ _ _ us hl => match us, hl with | [_, _], _ => rfl) (fun vs H Q E h => ?_) (fun cdv A outer s H vs Q E hr h => ?_)
  · obtain ⟨v, x, m, rfl, _⟩ := h
    rfl
  · obtain ⟨v, x, m, rfl, hv, hE, hQ⟩ := h
    refine ⟨_, pss_cons (ps_expr (pe_cl G_check_modulus hr (passes_call (takes_of rfl rfl rfl rfl) (fun _ _ _ _ h => h)) (pa_cons (pv 1) pa_nil)))
      (pss_one (ps_ret (pe_cm G_number (pe_make0 T.mkP Fi (hr.mono (by decide)) rfl T.c_Powers bi .nil pass0) T.clP T.m_number hr (passes_call (takes_of rfl rfl rfl rfl) (fun _ _ _ _ h => h)) (pa_cons (pv 0) (pa_cons (pv 1) pa_nil)) rfl rfl (mcall_of (abase_call (by decide)) (fun _ => rfl))))), ?_⟩
    refine ⟨_, rfl, m, rfl, hE, fun h1 h2 => ?_⟩
    intro self dx nself ndx ne
    have hself : (upd (upd H dx (.own self)) self (.ins (He.ga K "Powers") dx [])) self = some (.ins (He.ga K "Powers") dx []) := upd_same
    have s1 : Same H (upd (upd H dx (.own self)) self (.ins (He.ga K "Powers") dx [])) := same_set (same_new ndx) nself
    refine ⟨self, dx, rfl, upd_same, fun d hd => ⟨rfl, ?_⟩⟩
    have nd0 : H d = none := Same.none s1 hd
    have nsd : self ≠ d := fun z => by rw [← z, upd_same] at hd; cases hd
    have s2 : Same H (upd (upd (upd (upd H dx (.own self)) self (.ins (He.ga K "Powers") dx [])) d (.dK [])) self (.ins (He.ga K "Powers") dx [("rows", .ref d)])) := same_set (s1.trans (same_new hd)) nself
    have hp : PwS K (upd (upd (upd (upd H dx (.own self)) self (.ins (He.ga K "Powers") dx [])) d (.dK [])) self (.ins (He.ga K "Powers") dx [("rows", .ref d)])) self d :=
      ⟨⟨dx, upd_same⟩, [], by rw [upd_ne nsd.symm, upd_same], ⟨[], rfl, List.nodup_nil, fun m h => (nomatch h)⟩, fun m v e => by cases e⟩
    refine ⟨self, dx, _, rfl, upd_same, no_number, _, rfl, _, rfl, self, d, v, x, m, rfl, hp, hv.tx (Tx.of s2), by decide, h1, h2, fun H' fr _ => hQ h1 h2 H' fun a o e => fr a o (ne_of_none e nd0) (s2 a o e)⟩
end
end Sr
set_option Elab.async false
set_option linter.all false
set_option maxRecDepth 100000
set_option maxHeartbeats 4000000
/-! What the law expects: whole numbers, plain. -/
namespace Sr
open PySem PySem.Spec PyProof.Rows L2

/-- an answer -/
inductive R where
  | v (z : Int)
  | great
  | refused
  | missing
  | range
def whole : R → R
  | .v z => if p2 40 ≤ absI z then .great else .v z
  | r => r
theorem whole_v {r : R} {z : Int} (h : whole r = .v z) : r = .v z ∧ T40 z := by
  cases r with
  | v y =>
    have h : (if p2 40 ≤ absI y then R.great else .v y) = .v z := h
    split at h
    · cases h
    · rename_i c
      cases h
      refine ⟨rfl, ?_⟩
      unfold absI at c
      have := p2_pos 40
      split at c
      · exact ⟨by omega, by omega⟩
      · exact ⟨by omega, by omega⟩
  | _ => cases h
inductive Op where
  | add
  | sub
  | mul
  | up
  | down
inductive Fn where
  | rem
  | bit
  | len
  | low
  | abs
  | min
  | max
  | tower
def Op.str : Op → Str
  | .add => "add"
  | .sub => "sub"
  | .mul => "mul"
  | .up => "up"
  | .down => "down"
def Fn.str : Fn → Str
  | .rem => "rem"
  | .bit => "bit"
  | .len => "len"
  | .low => "low"
  | .abs => "abs"
  | .min => "min"
  | .max => "max"
  | .tower => "tower"
def Fn.two : Fn → Bool
  | .rem => true
  | .bit => true
  | .min => true
  | .max => true
  | _ => false
def lowP (x : Int) : Int := match (naf x).getLast? with
  | some t => t.2
  | none => 0
def shP (x y : Int) : R :=
  if x = 0 then .v 0
  else if 60 < y then .great
  else if 0 ≤ y then .v (x * 2 ^ y.toNat)
  else if y < -60 ∨ x / 2 ^ (-y).toNat * 2 ^ (-y).toNat ≠ x then .range
  else .v (x / 2 ^ (-y).toNat)
def opP : Op → Int → Int → R
  | .add, x, y => .v (x + y)
  | .sub, x, y => .v (x - y)
  | .mul, x, y => .v (x * y)
  | .up, x, y => shP x y
  | .down, x, y => if y < 0 then .refused else .v (x / 2 ^ (if y < 60 then y else 60).toNat)
/-- y is 0 where there is no second argument -/
def fnP : Fn → Int → Int → R
  | .rem, x, y => if 1 ≤ y ∧ y ≤ 10000 then .v (x % y) else .refused
  | .bit, x, y => if y < 0 then .refused else if 60 < y then .v (if x < 0 then 1 else 0) else .v (x / 2 ^ y.toNat % 2)
  | .len, x, _ => .v (lenF x)
  | .low, x, _ => if x = 0 then .missing else .v (lowP x)
  | .abs, x, _ => .v (absI x)
  | .min, x, y => .v (if y < x then y else x)
  | .max, x, y => .v (if x < y then y else x)
  | .tower, x, _ => if 0 ≤ x ∧ x ≤ 40 then (if x = 0 then .v 1 else if x = 1 then .v 2 else if x = 2 then .v 4 else if x = 3 then .v 16 else if x = 4 then .v 65536 else .great) else .refused
/-- a tree -/
inductive Tr where
  | int (z : Int)
  | name (s : Str)
  | bin (w : Op) (a b : Tr)
  | neg (a : Tr)
  | pow (a : Tr)
  | fn1 (f : Fn) (a : Tr)
  | fn2 (f : Fn) (a b : Tr)
def R.bind (r : R) (f : Int → R) : R := match r with
  | .v z => f z
  | r => r
def valP (env : Str → Option Int) : Tr → R
  | .int z => whole (.v z)
  | .name s => match env s with
    | some z => .v z
    | none => .missing
  | .bin w a b => (valP env a).bind fun x => (valP env b).bind fun y => whole (opP w x y)
  | .neg a => (valP env a).bind fun x => whole (.v (-x))
  | .pow a => (valP env a).bind fun x => whole (shP 1 x)
  | .fn1 f a => (valP env a).bind fun x => whole (fnP f x 0)
  | .fn2 f a b => (valP env a).bind fun x => (valP env b).bind fun y => whole (fnP f x y)

/-- what is due of the program -/
def Due (K : PySem.W.Frag) (r : R) (Q : VK) (E : XK) (H : Hp) : Prop := match r with
  | .v z => ∀ H' v, Same H H' → IsN K H' 7 v z → Q v H'
  | .great => False
  | .refused => ∀ H', Same H H' → eX K "NotAllowed" E H'
  | .missing => ∀ H', Same H H' → eX K "Missing" E H'
  | .range => ∀ H', Same H H' → eX K "BadRange" E H'
theorem Due.same {K : PySem.W.Frag} {r : R} {Q : VK} {E : XK} {H H' : Hp} (d : Due K r Q E H) (s : Same H H') : Due K r Q E H' := by
  cases r with
  | v z => exact fun H2 v s2 => d H2 v (s.trans s2)
  | great => exact d.elim
  | refused => exact fun H2 s2 => d H2 (s.trans s2)
  | missing => exact fun H2 s2 => d H2 (s.trans s2)
  | range => exact fun H2 s2 => d H2 (s.trans s2)

/-! ### plain facts -/
theorem p2_nat {y : Int} : (2 : Int) ^ y.toNat = p2 y := rfl
theorem floor_60 {x y : Int} (hx : T40 x) (h : 60 ≤ y) : x / p2 y = x / p2 60 := by
  have m := p2_mono h
  have m2 : p2 40 < p2 60 := by decide +kernel
  obtain ⟨h1, h2⟩ := hx
  by_cases c : 0 ≤ x
  · rw [Int.ediv_eq_zero_of_lt c (by omega), Int.ediv_eq_zero_of_lt c (by omega)]
  · have e : ∀ p : Int, p2 40 < p → x / p = -1 := fun p hp => by
      have e1 : x = (x + p) + (-1) * p := by omega
      rw [e1, Int.add_mul_ediv_right _ _ (by have := p2_pos 40; omega), Int.ediv_eq_zero_of_lt (by omega) (by omega)]; rfl
    rw [e _ (by omega), e _ (by omega)]
theorem bit_60 {x y : Int} (hx : T40 x) (h : 60 < y) : x / p2 y % 2 = if x < 0 then 1 else 0 := by
  have m := p2_mono (show (60 : Int) ≤ y by omega)
  have m2 : p2 40 < p2 60 := by decide +kernel
  obtain ⟨h1, h2⟩ := hx
  by_cases c : x < 0
  · have e1 : x = (x + p2 y) + (-1) * p2 y := by omega
    rw [if_pos c]
    have : x / p2 y = -1 := by
      rw [e1, Int.add_mul_ediv_right _ _ (by have := p2_pos 40; omega), Int.ediv_eq_zero_of_lt (by omega) (by omega)]; rfl
    rw [this]; rfl
  · rw [if_neg c, Int.ediv_eq_zero_of_lt (by omega) (by omega)]; rfl
theorem odd_pow {a b o q : Int} (ha : 0 ≤ a) (hb : 0 ≤ b) (h : p2 a * o = p2 b * q) (ho : o % 2 = 1) (hq : q % 2 = 1) : a = b := by
  have half : ∀ {a b o q : Int}, 0 ≤ a → a < b → p2 a * o = p2 b * q → o % 2 = 1 → False := fun {a b o q} ha hl h ho => by
    have e : p2 b = p2 a * (2 * p2 (b - a - 1)) := by
      rw [← p2_succ (by omega), show b - a - 1 + 1 = b - a by omega, ← p2_add ha (by omega), show a + (b - a) = b by omega]
    rw [e, Int.mul_assoc] at h
    have h2 := Int.eq_of_mul_eq_mul_left (Int.ne_of_gt (p2_pos a)) h
    rw [Int.mul_assoc] at h2
    omega
  by_cases c : a < b
  · exact (half ha c h ho).elim
  · by_cases d : b < a
    · exact (half hb d h.symm hq).elim
    · omega
theorem low_is {x a o : Int} (ha : 0 ≤ a) (h : x = p2 a * o) (ho : o % 2 = 1) : lowP x = a := by
  obtain ⟨b, nf⟩ := naf_nf x
  unfold lowP
  cases hn : (naf x).getLast? with
  | none =>
    rw [List.getLast?_eq_none_iff] at hn
    have e := naf_nil hn
    rw [e] at h
    have pp := p2_pos a
    rcases Int.mul_eq_zero.mp h.symm with z | z <;> omega
  | some t =>
    obtain ⟨_, t0, q, e, hq⟩ := last_spec nf hn
    rw [val_naf] at e
    exact (odd_pow ha t0 (h.symm.trans e) ho hq).symm
/-- a shift down that is whole -/
theorem sh_down {x k : Int} (hk : 0 ≤ k) {t : Int × Int} (ht : (naf x).getLast? = some t) : (x / p2 k * p2 k = x ↔ k ≤ t.2) := by
  obtain ⟨b, nf⟩ := naf_nf x
  obtain ⟨_, t0, o, e, ho⟩ := last_spec nf ht
  rw [val_naf] at e
  constructor
  · intro h
    by_cases c : k ≤ t.2
    · exact c
    · exfalso
      have e2 : p2 k = p2 t.2 * (2 * p2 (k - t.2 - 1)) := by
        rw [← p2_succ (by omega), show k - t.2 - 1 + 1 = k - t.2 by omega, ← p2_add t0 (by omega), show t.2 + (k - t.2) = k by omega]
      generalize x / p2 k = z at h
      rw [e, e2, Int.mul_left_comm] at h
      have h2 := Int.eq_of_mul_eq_mul_left (Int.ne_of_gt (p2_pos t.2)) h
      rw [Int.mul_left_comm] at h2
      omega
  · intro h
    have e2 : p2 t.2 = p2 (t.2 - k) * p2 k := by rw [← p2_add (by omega) hk, show t.2 - k + k = t.2 by omega]
    have e3 : x = p2 (t.2 - k) * o * p2 k := by rw [e, e2, Int.mul_assoc, Int.mul_comm (p2 k) o, ← Int.mul_assoc]
    rw [e3, Int.mul_ediv_cancel _ (Int.ne_of_gt (p2_pos k))]
end Sr
set_option Elab.async false
set_option linter.all false
set_option maxRecDepth 100000
set_option maxHeartbeats 4000000
/-! tower, small_modulus, operated -/
namespace Sr
open PySem PySem.Spec PyProof.Rows L2

/-- the towers -/
def tw : Nat → Int
  | 0 => 1
  | k + 1 => p2 (tw k)
theorem tw_pos : ∀ k, 0 < tw k
  | 0 => by show (0 : Int) < 1; decide
  | k + 1 => p2_pos _
def twT : Nat → Terms
  | 0 => [(1, 0)]
  | k + 1 => [(1, tw k)]
theorem naf_tw : ∀ k, naf (tw k) = twT k
  | 0 => naf_one
  | k + 1 => naf_p2 (Int.le_of_lt (tw_pos k))
theorem dp_tw : ∀ k n, Sr.dp (k + 2 + n) (tw k) = true
  | 0, n => by
    rw [show 0 + 2 + n = (0 + 1 + n) + 1 by omega]
    show ((naf (tw 0)).all fun t => Sr.dp (0 + 1 + n) t.2) = true
    rw [naf_tw 0]
    have : Sr.dp (0 + 1 + n) 0 = true := dp_le (n := 1) (by decide +kernel) (by omega)
    show (Sr.dp (0 + 1 + n) 0 && true) = true
    rw [this]; rfl
  | k + 1, n => by
    rw [show k + 1 + 2 + n = (k + 2 + n) + 1 by omega]
    show ((naf (tw (k + 1))).all fun t => Sr.dp (k + 2 + n) t.2) = true
    rw [naf_tw (k + 1)]
    show (Sr.dp (k + 2 + n) (tw k) && true) = true
    rw [dp_tw k n]; rfl
theorem szF_zero (n : Nat) : szF (n + 1) 0 = 1 := by
  show 1 + ((naf 0).map fun t => szF n t.2).sum = 1
  rw [naf_zero]; rfl
theorem szF_tw : ∀ k n, szF (k + 2 + n) (tw k) = k + 2
  | 0, n => by
    rw [show 0 + 2 + n = (0 + 1 + n) + 1 by omega]
    show 1 + ((naf (tw 0)).map fun t => szF (0 + 1 + n) t.2).sum = _
    rw [naf_tw 0]
    have := szF_zero (0 + n)
    show 1 + (szF (0 + 1 + n) 0 + 0) = _
    rw [show 0 + 1 + n = 0 + n + 1 by omega, this]; rfl
  | k + 1, n => by
    rw [show k + 1 + 2 + n = (k + 2 + n) + 1 by omega]
    show 1 + ((naf (tw (k + 1))).map fun t => szF (k + 2 + n) t.2).sum = _
    rw [naf_tw (k + 1)]
    show 1 + (szF (k + 2 + n) (tw k) + 0) = _
    rw [szF_tw k n]; omega
theorem htF_zero (n : Nat) : htF (n + 1) 0 = 0 := by
  show (if (naf 0).isEmpty = true then 0 else _) = 0
  rw [naf_zero]; rfl
theorem htF_tw : ∀ k n, htF (k + 2 + n) (tw k) = k + 1
  | 0, n => by
    rw [show 0 + 2 + n = (0 + 1 + n) + 1 by omega]
    show (if (naf (tw 0)).isEmpty = true then 0 else 1 + mx ((naf (tw 0)).map fun t => htF (0 + 1 + n) t.2)) = _
    rw [naf_tw 0]
    have := htF_zero (0 + n)
    rw [show 0 + 1 + n = 0 + n + 1 by omega]
    show 1 + mx [htF (0 + n + 1) 0] = _
    rw [this]; rfl
  | k + 1, n => by
    rw [show k + 1 + 2 + n = (k + 2 + n) + 1 by omega]
    show (if (naf (tw (k + 1))).isEmpty = true then 0 else 1 + mx ((naf (tw (k + 1))).map fun t => htF (k + 2 + n) t.2)) = _
    rw [naf_tw (k + 1)]
    show 1 + mx [htF (k + 2 + n) (tw k)] = _
    rw [htF_tw k n]
    show 1 + (if ((k : Int) + 1) < 0 then 0 else (k : Int) + 1) = _
    rw [if_neg (by omega)]; omega
theorem ok_tw {k n : Nat} (h : k + 2 ≤ n) (h2 : k ≤ 39) : okF n (tw k) = true := by
  obtain ⟨m, rfl⟩ : ∃ m, n = k + 2 + m := ⟨n - (k + 2), by omega⟩
  unfold okF
  rw [szF_tw, htF_tw, decide_eq_true (by omega), decide_eq_true (by omega)]; rfl
theorem ok_tw40 {k n : Nat} (h : k + 2 ≤ n) (h2 : k = 40) : okF n (tw k) = false := by
  obtain ⟨m, rfl⟩ : ∃ m, n = k + 2 + m := ⟨n - (k + 2), by omega⟩
  unfold okF
  rw [szF_tw, htF_tw, decide_eq_true (by omega), decide_eq_false (by omega)]; rfl
theorem cond_tw (k : Nat) : Cond 99 (naf 0 ++ naf (tw k)) := by
  rw [naf_zero_add, naf_tw]
  cases k with
  | zero => exact cond_one (Int.le_refl _) (.inl rfl)
  | succ k => exact cond_one (Int.le_of_lt (tw_pos k)) (.inl rfl)
theorem one_shift {y : Int} : val (shL y (naf 1)) = p2 y := by
  rw [naf_one]
  show 1 * p2 (0 + y) + 0 = p2 y
  rw [Int.zero_add]; omega

section
variable {P : Program} {w : World} {K : PySem.W.Frag} {mg : Str → Option Value} {base : Heap}
/-! ### tower -/
def spTower (K : PySem.W.Frag) : Sp := fun vs H Q E => ∃ v x, vs = [v] ∧ IsN K H 7 v x ∧ T40 x ∧ ((x < 0 ∨ 40 < x) → ∀ H', Same H H' → eX K "NotAllowed" E H') ∧ (x = 40 → ∀ H', Same H H' → eX K "TooLarge" E H') ∧
  (∀ k : Nat, x = k → k ≤ 39 → ∀ H' v', Same H H' → IsN K H' 50 v' (tw k) → Q v' H')
theorem sc_tower : FnScope ["number", "value", "_"] ["number"] (defScope s_tower) := ⟨rfl, rfl, rfl, by decide +kernel, rfl, by decide +kernel, by decide +kernel⟩
theorem d_tower (T : Txt K mg) : Df P w K mg base (L2.CX P w) 71 "tower" ["number"] (spTower K) := by
  have G_sign_of := (d_sign (P := P) (w := w) (base := base) T).mono (show 1 ≤ 70 by decide)
  have G_compare := (d_compare (P := P) (w := w) (base := base) T 7).mono (show 8 ≤ 70 by decide)
  have G_of_int := (d_of_int (P := P) (w := w) (base := base) T).mono (show 11 ≤ 70 by decide)
  have G_to_int := (d_to_int (P := P) (w := w) (base := base) T 7).mono (show 16 ≤ 70 by decide)
  have G_shift := d_shift (P := P) (w := w) (base := base) T (n := 49) (by decide) (by decide)
  refine .mk' T.f_tower T.g_tower sc_tower (fun _ _ _ _ _ _ us hl => match us, hl with | [_], _ => rfl) (fun vs H Q E h => ?_) (fun cdv A outer s H vs Q E hr h => ?_)
  · obtain ⟨v, x, rfl, _⟩ := h
    rfl
  · obtain ⟨v, x, rfl, hv, hx, hE, hL, hQ⟩ := h
    obtain ⟨t_MAX_TOWER, m_MAX_TOWER⟩ := T.i_MAX_TOWER
    obtain ⟨x1, x2, x3, x4⟩ := T.e_NotAllowed
    refine ⟨_, pss_cons (ps_if (PW.pt (pw_or (pt_cmpR op_lt (pe_cl G_sign_of hr pass0 (pa_cons (pv 0) pa_nil)) pe_int (nomark _)) (pw_or1 (pt_cmpR op_gt (pe_cl G_compare hr pass0 (pa_cons (pv 0) (pa_cons (pe_cl G_of_int hr (passes_call (takes_of rfl rfl rfl rfl) (fun _ _ _ _ h => h)) (pa_cons (pe_glob (v := .int 40) rfl m_MAX_TOWER ⟨_, rfl⟩) pa_nil)) pa_nil))) pe_int (nomark _))))) (pss_one (ps_raise rfl (takes_of rfl rfl rfl rfl) (pmk_own PySem.F.excBase_ValueError x1 T.c_NotAllowed x2 (raises_own x3 x4) rfl))) pss_nil)
      (pss_cons (ps_set (i := 1) sc_tower.nd rfl (.inl rfl) (pe_cl G_of_int hr (passes_call (takes_of rfl rfl rfl rfl) (fun _ _ _ _ h => h)) (pa_cons pe_int pa_nil)))
      (pss_cons (ps_for (passes_of rfl) rfl (pi_range1 (by rfl) T.n_range (pa_cons (pe_cl G_to_int hr (passes_call (takes_of rfl rfl rfl rfl) (fun _ _ _ _ h => h)) (pa_cons (pv 0) pa_nil)) pa_nil)) (pg_name (i := 2) sc_tower.nd rfl (.inl rfl)) (pss_one (ps_set (i := 1) sc_tower.nd rfl (.inl rfl) (pe_cl G_shift hr (passes_call (takes_of rfl rfl rfl rfl) (fun _ _ _ _ h => h)) (pa_cons (pe_cl G_of_int hr (passes_call (takes_of rfl rfl rfl rfl) (fun _ _ _ _ h => h)) (pa_cons pe_int pa_nil)) (pa_cons (pv 1) pa_nil))))))
      (pss_one (ps_ret (pv 1))))), ?_⟩
    have t1 : T40 1 := t40_of (by decide) (by decide)
    have t4 : T40 40 := t40_of (by decide) (by decide)
    refine ⟨_, rfl, v, 6, x, rfl, hv, _, _, rfl, rfl, _, rfl, ?_⟩
    by_cases c : x < 0
    · have b : decide (sgn x < 0) = true := decide_eq_true (sgn_lt.mpr c)
      rw [b]
      exact iteT (iteT (hE (.inl c) H (Same.refl _)))
    · have b : decide (sgn x < 0) = false := decide_eq_false (fun z => c (sgn_lt.mp z))
      rw [b]
      refine iteF ⟨_, rfl, 40, rfl, t4, fun H1 v1 s1 hv1 => ⟨v, v1, x, 40, rfl, hv.tx (Tx.of s1), hv1, by decide, fun H2 s2 => ⟨_, _, rfl, rfl, _, rfl, ite2 (fun c2 => ?_) fun c2 => ?_⟩⟩⟩
      · have c2 : 0 < sgn (x - 40) := of_decide_eq_true c2
        refine hE (.inr ?_) H2 (s1.trans s2)
        by_cases z : 40 < x
        · exact z
        · exfalso
          unfold sgn at c2
          split at c2
          · exact absurd c2 (by decide)
          · split at c2
            · exact absurd c2 (by decide)
            · omega
      · have c2 : x ≤ 40 := by
          by_cases z : 40 < x
          · exact absurd (decide_eq_true (by rw [sgn_pos (by omega)]; decide)) c2
          · omega
        have s12 := s1.trans s2
        have big : (100 : Int) < p2 64 := by decide +kernel
        refine ⟨1, rfl, t1, fun H3 v3 s3 hv3 => ?_⟩
        refine ⟨_, rfl, v, x, rfl, hv.tx (Tx.of (s12.trans s3)), by omega, by omega, fun H4 s4 => ⟨x, rfl, by omega, by omega, for_range (fun i σ H' => ∃ u y2, σ = [some v, some u, y2] ∧ Same H H' ∧ IsN K H' 50 u (tw i) ∧ (i ≤ 39 ∨ x < i)) ⟨v3, none, rfl, (s12.trans s3).trans s4, (hv3.tx (Tx.of s4)).up (by decide), .inl (by decide)⟩ ?_ ?_⟩⟩
        · rintro i σ H5 hi ⟨u, y2, rfl, s5, hu, hi3⟩
          have hi2 : (i : Int) < x := by omega
          refine ⟨1, rfl, t1, fun H6 v6 s6 hv6 => ⟨_, rfl, v6, u, 1, tw i, rfl, hv6.up (by decide), hu.tx (Tx.of s6), fun t ht => ?_, fun t ht h0 => ?_, fun _ => ⟨fun hok H7 v7 s7 hv7 => ?_, fun hf H7 s7 => ?_⟩⟩⟩
          · rw [naf_one, List.mem_singleton] at ht
            rw [ht]; exact cond_tw i
          · rw [naf_one] at ht
            have e : (1, 0) = t := Option.some.inj ht
            rw [← e] at h0
            have h0 : 0 + tw i < 0 := h0
            have := tw_pos i
            omega
          · rw [one_shift] at hv7
            refine ⟨v7, _, rfl, (s5.trans s6).trans s7, ?_, ?_⟩
            · have := dp_tw (i + 1) (50 - (i + 1 + 2))
              rw [show i + 1 + 2 + (50 - (i + 1 + 2)) = 50 by omega] at this
              exact hv7.cut this
            · by_cases z : i + 1 ≤ 39
              · exact .inl z
              · exfalso
                rw [one_shift] at hok
                have hok : okF (49 + 2) (tw (i + 1)) = true := hok
                rw [ok_tw40 (k := i + 1) (n := 49 + 2) (by omega) (by omega)] at hok
                cases hok
          · rw [one_shift] at hf
            by_cases z : i + 1 ≤ 39
            · have := ok_tw (k := i + 1) (n := 49 + 2) (by omega) z
              have hf : okF (49 + 2) (tw (i + 1)) = false := hf
              rw [this] at hf; cases hf
            · exact hL (by omega) H7 ((s5.trans s6).trans s7)
        · rintro σ H5 ⟨u, y2, rfl, s5, hu, hi3⟩
          have e : x = ((x.toNat : Nat) : Int) := by omega
          refine ⟨_, rfl, hQ x.toNat e (by omega) H5 u s5 hu⟩
end
end Sr
set_option Elab.async false
set_option linter.all false
set_option maxRecDepth 100000
set_option maxHeartbeats 4000000
/-! small_modulus, operated, called -/
namespace Sr
open PySem PySem.Spec PyProof.Rows L2

theorem no_s {A B : Prop} {a b : Str} (k : B) (h : decide (V.str a = V.str b) = false := by decide +kernel) : if decide (V.str a = V.str b) = true then A else B := by rw [h]; exact iteF k
theorem yes_s {A B : Prop} {a b : Str} (k : A) (h : decide (V.str a = V.str b) = true := by decide +kernel) : if decide (V.str a = V.str b) = true then A else B := by rw [h]; exact iteT k
theorem due_v {K : PySem.W.Frag} {z : Int} {Q : VK} {E : XK} {H : Hp} (d : Due K (whole (.v z)) Q E H) : T40 z ∧ ∀ H' v, Same H H' → IsN K H' 7 v z → Q v H' := by
  have d : Due K (if p2 40 ≤ absI z then .great else .v z) Q E H := d
  split at d
  · exact d.elim
  · rename_i c
    refine ⟨?_, d⟩
    unfold absI at c
    have := p2_pos 40
    split at c
    · exact ⟨by omega, by omega⟩
    · exact ⟨by omega, by omega⟩
theorem ok48 {x : Int} (h : T40 x) : okF 8 x = true := by
  have sz : ∀ i : Fin 41, szF 7 (i.val : Nat) ≤ 13 := by decide +kernel
  unfold okF
  rw [Bool.and_eq_true]
  constructor
  · refine decide_eq_true ?_
    have h1 := h.nf.len (by decide)
    have h2 := sum_le (f := fun t => szF 7 t.2) (c := 13) (l := naf x) fun t ht => by
      have := (h.nf.mem t ht).2
      have s := sz ⟨t.2.toNat, by omega⟩
      rw [show ((t.2.toNat : Nat) : Int) = t.2 by omega] at s
      exact s
    show 1 + ((naf x).map fun t => szF 7 t.2).sum ≤ 300
    omega
  · refine decide_eq_true ?_
    have : htF 8 x ≤ ((7 : Nat) : Int) + 1 := htF_le 7 x
    omega
section
variable {P : Program} {w : World} {K : PySem.W.Frag} {mg : Str → Option Value} {base : Heap}
/-! ### small_modulus -/
def spSmallMod (K : PySem.W.Frag) : Sp := fun vs H Q E => ∃ v x, vs = [v] ∧ IsN K H 7 v x ∧ T40 x ∧ (x ≤ 0 → eX K "NotAllowed" E H) ∧ (0 < x → ∀ H', Same H H' → Q (.int x) H')
theorem sc_small_modulus : FnScope ["number"] ["number"] (defScope s_small_modulus) := ⟨rfl, rfl, rfl, by decide +kernel, rfl, by decide +kernel, by decide +kernel⟩
theorem sgn_le0 {x : Int} : sgn x ≤ 0 ↔ x ≤ 0 := by
  unfold sgn
  constructor
  · intro h
    split at h
    · omega
    · split at h
      · omega
      · exact absurd h (by decide)
  · intro h
    split
    · decide
    · split
      · decide
      · omega
theorem d_small_modulus (T : Txt K mg) : Df P w K mg base (L2.CX P w) 17 "small_modulus" ["number"] (spSmallMod K) := by
  have G_sign_of := (d_sign (P := P) (w := w) (base := base) T).mono (show 1 ≤ 16 by decide)
  have G_to_int := (d_to_int (P := P) (w := w) (base := base) T 7)
  refine .mk' T.f_small_modulus T.g_small_modulus sc_small_modulus (fun _ _ _ _ _ _ us hl => match us, hl with | [_], _ => rfl) (fun vs H Q E h => ?_) (fun cdv A outer s H vs Q E hr h => ?_)
  · obtain ⟨v, x, rfl, _⟩ := h
    rfl
  · obtain ⟨v, x, rfl, hv, hx, hE, hQ⟩ := h
    obtain ⟨x1, x2, x3, x4⟩ := T.e_NotAllowed
    refine ⟨_, pss_cons (ps_if (pt_cmpR op_le (pe_cl G_sign_of hr pass0 (pa_cons (pv 0) pa_nil)) pe_int (nomark _)) (pss_one (ps_raise rfl (takes_of rfl rfl rfl rfl) (pmk_own PySem.F.excBase_ValueError x1 T.c_NotAllowed x2 (raises_own x3 x4) rfl))) pss_nil)
      (pss_one (ps_ret (pe_cl G_to_int hr (passes_call (takes_of rfl rfl rfl rfl) (fun _ _ _ _ h => h)) (pa_cons (pv 0) pa_nil)))), ?_⟩
    have m := p2_mono (show (40 : Int) ≤ 64 by decide)
    obtain ⟨b1, b2⟩ := hx
    refine ⟨_, rfl, v, 6, x, rfl, hv, _, _, rfl, rfl, _, rfl, ite2 (fun c => ?_) fun c => ?_⟩
    · exact hE (sgn_le0.mp (of_decide_eq_true c))
    · refine ⟨_, rfl, v, x, rfl, hv, by omega, by omega, hQ ?_⟩
      by_cases z : x ≤ 0
      · exact absurd (decide_eq_true (sgn_le0.mpr z)) c
      · omega
/-! ### operated -/
theorem sh_due {K : PySem.W.Frag} {x y : Int} {v u : V} {Q : VK} {E : XK} {H : Hp} (hv : IsN K H 7 v x) (hu : IsN K H 7 u y) (hx : T40 x) (hy : T40 y) (d : Due K (whole (shP x y)) Q E H) : spShift K 6 [v, u] H Q E := by
  obtain ⟨b, nf⟩ := naf_nf x
  have n40 := hx.nf
  refine ⟨v, u, x, y, rfl, hv.up (by decide), hu, fun t ht => cond_sum (sm_exp hx.sm ht) hy.sm, fun t ht h0 => ?_, fun hall => ?_⟩
  · have tm := (n40.mem t (List.mem_of_getLast? ht)).2
    have xn : x ≠ 0 := fun z => by rw [z, naf_zero] at ht; cases ht
    have e : shP x y = .range := by
      unfold shP
      rw [if_neg xn, if_neg (by omega), if_neg (by omega), if_pos]
      refine .inr fun z => ?_
      have := (sh_down (k := -y) (by omega) ht).mp z
      omega
    rw [e] at d
    exact d
  · have key : shP x y = .v (val (shL y (naf x))) ∨ shP x y = .great := by
      by_cases xn : x = 0
      · refine .inl ?_
        unfold shP
        rw [if_pos xn, xn, naf_zero]; rfl
      · by_cases c : 60 < y
        · refine .inr ?_
          unfold shP
          rw [if_neg xn, if_pos c]
        · refine .inl ?_
          unfold shP
          rw [if_neg xn, if_neg c]
          by_cases c2 : 0 ≤ y
          · rw [if_pos c2, shL_up c2 nf, val_naf]; rfl
          · rw [if_neg c2]
            cases ht : (naf x).getLast? with
            | none =>
              rw [List.getLast?_eq_none_iff] at ht
              exact absurd (naf_nil ht) xn
            | some t =>
              have tm := (n40.mem t (List.mem_of_getLast? ht)).2
              have h0 := hall t (List.mem_of_getLast? ht)
              have dv := (sh_down (k := -y) (by omega) ht).mpr (by omega)
              rw [if_neg (by
                rintro (z | z)
                · omega
                · exact z dv)]
              have sd := shL_down (k := -y) (by omega) nf (fun t ht => by rw [Int.neg_neg]; exact hall t ht)
              rw [val_naf, Int.neg_neg] at sd
              congr 1
              show x / p2 (-y) = _
              generalize val (shL y (naf x)) = k at sd ⊢
              rw [← sd, Int.mul_ediv_cancel _ (Int.ne_of_gt (p2_pos _))]
    rcases key with k | k
    · rw [k] at d
      obtain ⟨tz, dz⟩ := due_v d
      refine ⟨fun _ H' v' s' hv' => dz H' v' s' (hv'.cut tz.sm.dp), fun c => ?_⟩
      have c : okF 8 (val (shL y (naf x))) = false := c
      rw [ok48 tz] at c; cases c
    · rw [k] at d
      exact d.elim
def spOperated (K : PySem.W.Frag) : Sp := fun vs H Q E => ∃ (o : Op) (a b : V) (x y : Int), vs = [.str o.str, a, b] ∧ IsN K H 7 a x ∧ IsN K H 7 b y ∧ T40 x ∧ T40 y ∧ Due K (whole (opP o x y)) Q E H
theorem sc_operated : FnScope ["word", "first", "second"] ["word", "first", "second"] (defScope s_operated) := ⟨rfl, rfl, rfl, by decide +kernel, rfl, by decide +kernel, by decide +kernel⟩
theorem d_operated (T : Txt K mg) : Df P w K mg base (L2.CX P w) 71 "operated" ["word", "first", "second"] (spOperated K) := by
  have G_add := (d_add (P := P) (w := w) (base := base) T).mono (show 32 ≤ 70 by decide)
  have G_subtract := (d_subtract (P := P) (w := w) (base := base) T).mono (show 32 ≤ 70 by decide)
  have G_multiply := (d_multiply (P := P) (w := w) (base := base) T).mono (show 32 ≤ 70 by decide)
  have G_shift := d_shift (P := P) (w := w) (base := base) T (n := 6) (by decide) (by decide)
  have G_floor_shift := (d_floor_shift (P := P) (w := w) (base := base) T).mono (show 33 ≤ 70 by decide)
  refine .mk' T.f_operated T.g_operated sc_operated (fun _ _ _ _ _ _ us hl => match us, hl with | [_, _, _], _ => rfl) (fun vs H Q E h => ?_) (fun cdv A outer s H vs Q E hr h => ?_)
  · obtain ⟨o, a, b, x, y, rfl, _⟩ := h
    rfl
  · obtain ⟨o, a, b, x, y, rfl, ha, hb, hx, hy, hD⟩ := h
    refine ⟨_, pss_cons (ps_if (pt_cmpR op_eq (pv 0) pe_str (nomark _)) (pss_one (ps_ret (pe_cl G_add hr (passes_call (takes_of rfl rfl rfl rfl) (fun _ _ _ _ h => h)) (pa_cons (pv 1) (pa_cons (pv 2) pa_nil))))) pss_nil)
      (pss_cons (ps_if (pt_cmpR op_eq (pv 0) pe_str (nomark _)) (pss_one (ps_ret (pe_cl G_subtract hr (passes_call (takes_of rfl rfl rfl rfl) (fun _ _ _ _ h => h)) (pa_cons (pv 1) (pa_cons (pv 2) pa_nil))))) pss_nil)
      (pss_cons (ps_if (pt_cmpR op_eq (pv 0) pe_str (nomark _)) (pss_one (ps_ret (pe_cl G_multiply hr (passes_call (takes_of rfl rfl rfl rfl) (fun _ _ _ _ h => h)) (pa_cons (pv 1) (pa_cons (pv 2) pa_nil))))) pss_nil)
      (pss_cons (ps_if (pt_cmpR op_eq (pv 0) pe_str (nomark _)) (pss_one (ps_ret (pe_cl G_shift hr (passes_call (takes_of rfl rfl rfl rfl) (fun _ _ _ _ h => h)) (pa_cons (pv 1) (pa_cons (pv 2) pa_nil))))) pss_nil)
      (pss_one (ps_ret (pe_cl G_floor_shift hr (passes_call (takes_of rfl rfl rfl rfl) (fun _ _ _ _ h => h)) (pa_cons (pv 1) (pa_cons (pv 2) pa_nil)))))))), ?_⟩
    refine ⟨_, rfl, rfl, _, rfl, ?_⟩
    cases o with
    | add =>
      obtain ⟨tz, dz⟩ := due_v (z := x + y) hD
      exact yes_s ⟨_, rfl, _, rfl, a, b, x, y, rfl, ha, hb, hx, hy, tz, dz⟩
    | sub =>
      obtain ⟨tz, dz⟩ := due_v (z := x - y) hD
      exact no_s ⟨_, rfl, rfl, _, rfl, yes_s ⟨_, rfl, _, rfl, a, b, x, y, rfl, ha, hb, hx, hy, tz, dz⟩⟩
    | mul =>
      obtain ⟨tz, dz⟩ := due_v (z := x * y) hD
      exact no_s ⟨_, rfl, rfl, _, rfl, no_s ⟨_, rfl, rfl, _, rfl, yes_s ⟨_, rfl, _, rfl, a, b, x, y, rfl, ha, hb, hx, hy, tz, dz⟩⟩⟩
    | up =>
      exact no_s ⟨_, rfl, rfl, _, rfl, no_s ⟨_, rfl, rfl, _, rfl, no_s ⟨_, rfl, rfl, _, rfl, yes_s ⟨_, rfl, _, rfl, sh_due ha hb hx hy hD⟩⟩⟩⟩
    | down =>
      refine no_s ⟨_, rfl, rfl, _, rfl, no_s ⟨_, rfl, rfl, _, rfl, no_s ⟨_, rfl, rfl, _, rfl, no_s ⟨_, rfl, _, rfl, a, b, x, y, rfl, ha, hb, hx, hy.sm, fun h0 => ?_, fun h0 => ?_⟩⟩⟩⟩
      · have e : opP .down x y = .refused := if_pos h0
        rw [e] at hD
        exact hD H (Same.refl _)
      · have e : opP .down x y = .v (x / p2 y) := by
          show (if y < 0 then R.refused else .v (x / 2 ^ (if y < 60 then y else 60).toNat)) = _
          rw [if_neg (by omega)]
          by_cases c : y < 60
          · rw [if_pos c]; rfl
          · rw [if_neg c, floor_60 hx (by omega)]; rfl
        rw [e] at hD
        exact (due_v hD).2
/-! ### called -/
/-- what is due of a function, with the great towers that are told -/
def DueF (K : PySem.W.Frag) (f : Fn) (x y : Int) (Q : VK) (E : XK) (H : Hp) : Prop := (f = .tower ∧ x = 39 ∧ ∀ H' v, Same H H' → Q v H') ∨ (f = .tower ∧ x = 40 ∧ ∀ H', Same H H' → eX K "TooLarge" E H') ∨ Due K (whole (fnP f x y)) Q E H
theorem DueF.std {K : PySem.W.Frag} {f : Fn} {x y : Int} {Q : VK} {E : XK} {H : Hp} (d : DueF K f x y Q E H) (h : f ≠ .tower) : Due K (whole (fnP f x y)) Q E H := by
  rcases d with ⟨e, _⟩ | ⟨e, _⟩ | d
  · exact absurd e h
  · exact absurd e h
  · exact d
def spCalled (K : PySem.W.Frag) : Sp := fun vs H Q E => ∃ (f : Fn) (l : Addr) (as : List V) (a b : V) (x y : Int), vs = [.str f.str, .ref l] ∧ H l = some (.lst as) ∧ as[0]? = some a ∧ IsN K H 7 a x ∧ T40 x ∧ (f.two = true → as[1]? = some b ∧ IsN K H 7 b y ∧ T40 y) ∧ DueF K f x y Q E H
theorem sc_called : FnScope ["function", "args", "first_is_less"] ["function", "args"] (defScope s_called) := ⟨rfl, rfl, rfl, by decide +kernel, rfl, by decide +kernel, by decide +kernel⟩
theorem bl_eq (a b : Bool) : decide (V.bl a = V.bl b) = (a == b) := by cases a <;> cases b <;> rfl
theorem d_called (T : Txt K mg) : Df P w K mg base (L2.CX P w) 72 "called" ["function", "args"] (spCalled K) := by
  have G_of_int := (d_of_int (P := P) (w := w) (base := base) T).mono (show 11 ≤ 71 by decide)
  have G_remainder := (d_remainder (P := P) (w := w) (base := base) T).mono (show 45 ≤ 71 by decide)
  have G_small_modulus := (d_small_modulus (P := P) (w := w) (base := base) T).mono (show 17 ≤ 71 by decide)
  have G_digit_at := (d_digit_at (P := P) (w := w) (base := base) T).mono (show 11 ≤ 71 by decide)
  have G_length := (d_length (P := P) (w := w) (base := base) T).mono (show 29 ≤ 71 by decide)
  have G_low := (d_low (P := P) (w := w) (base := base) T).mono (show 1 ≤ 71 by decide)
  have G_tower := d_tower (P := P) (w := w) (base := base) T
  have G_sign_of := (d_sign (P := P) (w := w) (base := base) T).mono (show 1 ≤ 71 by decide)
  have G_negate := (d_negate (P := P) (w := w) (base := base) T 6).mono (show 1 ≤ 71 by decide)
  have G_compare := (d_compare (P := P) (w := w) (base := base) T 7).mono (show 8 ≤ 71 by decide)
  refine .mk' T.f_called T.g_called sc_called (fun _ _ _ _ _ _ us hl => match us, hl with | [_, _], _ => rfl) (fun vs H Q E h => ?_) (fun cdv A outer s H vs Q E hr h => ?_)
  · obtain ⟨f, l, as, a, b, x, y, rfl, _⟩ := h
    rfl
  · obtain ⟨f, l, as, a, b, x, y, rfl, hl, h0, ha, hx, hb, hD⟩ := h
    refine ⟨_, pss_cons (ps_if (pt_cmpR op_eq (pv 0) pe_str (nomark _)) (pss_one (ps_ret (pe_cl G_of_int hr (passes_call (takes_of rfl rfl rfl rfl) (fun _ _ _ _ h => h)) (pa_cons (pe_cl G_remainder hr (passes_call (takes_of rfl rfl rfl rfl) (fun _ _ _ _ h => h)) (pa_cons (pe_ix ix_list (pv 1) pe_int (fun _ _ => rfl)) (pa_cons (pe_cl G_small_modulus hr (passes_call (takes_of rfl rfl rfl rfl) (fun _ _ _ _ h => h)) (pa_cons (pe_ix ix_list (pv 1) pe_int (fun _ _ => rfl)) pa_nil)) pa_nil))) pa_nil)))) pss_nil)
      (pss_cons (ps_if (pt_cmpR op_eq (pv 0) pe_str (nomark _)) (pss_one (ps_ret (pe_cl G_of_int hr (passes_call (takes_of rfl rfl rfl rfl) (fun _ _ _ _ h => h)) (pa_cons (pe_cl G_digit_at hr (passes_call (takes_of rfl rfl rfl rfl) (fun _ _ _ _ h => h)) (pa_cons (pe_ix ix_list (pv 1) pe_int (fun _ _ => rfl)) (pa_cons (pe_ix ix_list (pv 1) pe_int (fun _ _ => rfl)) pa_nil))) pa_nil)))) pss_nil)
      (pss_cons (ps_if (pt_cmpR op_eq (pv 0) pe_str (nomark _)) (pss_one (ps_ret (pe_cl G_length hr (passes_call (takes_of rfl rfl rfl rfl) (fun _ _ _ _ h => h)) (pa_cons (pe_ix ix_list (pv 1) pe_int (fun _ _ => rfl)) pa_nil)))) pss_nil)
      (pss_cons (ps_if (pt_cmpR op_eq (pv 0) pe_str (nomark _)) (pss_one (ps_ret (pe_cl G_low hr (passes_call (takes_of rfl rfl rfl rfl) (fun _ _ _ _ h => h)) (pa_cons (pe_ix ix_list (pv 1) pe_int (fun _ _ => rfl)) pa_nil)))) pss_nil)
      (pss_cons (ps_if (pt_cmpR op_eq (pv 0) pe_str (nomark _)) (pss_one (ps_ret (pe_cl G_tower hr (passes_call (takes_of rfl rfl rfl rfl) (fun _ _ _ _ h => h)) (pa_cons (pe_ix ix_list (pv 1) pe_int (fun _ _ => rfl)) pa_nil)))) pss_nil)
      (pss_cons (ps_if (pt_cmpR op_eq (pv 0) pe_str (nomark _)) (pss_cons (ps_if (pt_cmpR op_lt (pe_cl G_sign_of hr pass0 (pa_cons (pe_ix ix_list (pv 1) pe_int (fun _ _ => rfl)) pa_nil)) pe_int (nomark _)) (pss_one (ps_ret (pe_cl G_negate hr pass0 (pa_cons (pe_ix ix_list (pv 1) pe_int (fun _ _ => rfl)) pa_nil)))) pss_nil)
        (pss_one (ps_ret (pe_ix ix_list (pv 1) pe_int (fun _ _ => rfl))))) pss_nil)
      (pss_cons (ps_set (i := 2) sc_called.nd rfl (.inl rfl) (pe_cmpR op_lt (pe_cl G_compare hr pass0 (pa_cons (pe_ix ix_list (pv 1) pe_int (fun _ _ => rfl)) (pa_cons (pe_ix ix_list (pv 1) pe_int (fun _ _ => rfl)) pa_nil))) pe_int (nomark _)))
      (pss_cons (ps_if (pt_cmpR op_eq (pv 2) (pe_cmpR op_eq (pv 0) pe_str (nomark _)) (nomark _)) (pss_one (ps_ret (pe_ix ix_list (pv 1) pe_int (fun _ _ => rfl)))) pss_nil)
      (pss_one (ps_ret (pe_ix ix_list (pv 1) pe_int (fun _ _ => rfl))))))))))), ?_⟩
    have i0 : atI as ((0 : Nat) : Int) = some a := atI_nat h0
    refine ⟨_, rfl, rfl, _, rfl, ?_⟩
    cases f with
    | rem =>
      have hD := hD.std (fun z => nomatch z)
      obtain ⟨h1, hy, ty⟩ := hb rfl
      have i1 : atI as ((1 : Nat) : Int) = some b := atI_nat h1
      refine yes_s ⟨_, rfl, l, as, _, a, rfl, rfl, .inl (.inl hl), i0, _, rfl, l, as, _, b, rfl, rfl, .inl (.inl hl), i1, b, y, rfl, hy, ty, fun hc => ?_, fun hc H1 s1 => ?_⟩
      · have e : fnP .rem x y = .refused := if_neg (by omega)
        rw [e] at hD
        exact hD H (Same.refl _)
      · refine ⟨a, x, y, rfl, ha.tx (Tx.of s1), fun hc2 => ?_, fun g1 g2 H2 s2 => ?_⟩
        · have e : fnP .rem x y = .refused := if_neg (by omega)
          rw [e] at hD
          exact hD H1 s1
        · have e : fnP .rem x y = .v (x % y) := if_pos ⟨g1, g2⟩
          rw [e] at hD
          obtain ⟨tz, dz⟩ := due_v hD
          exact ⟨_, rfl, tz, fun H3 v s3 hv => dz H3 v ((s1.trans s2).trans s3) hv⟩
    | bit =>
      have hD := hD.std (fun z => nomatch z)
      obtain ⟨h1, hy, ty⟩ := hb rfl
      have i1 : atI as ((1 : Nat) : Int) = some b := atI_nat h1
      refine no_s ⟨_, rfl, rfl, _, rfl, yes_s ⟨_, rfl, l, as, _, a, rfl, rfl, .inl (.inl hl), i0, _, rfl, l, as, _, b, rfl, rfl, .inl (.inl hl), i1, a, b, x, y, rfl, ha, hy, fun hc => ?_, fun hc H1 s1 => ?_⟩⟩
      · have e : fnP .bit x y = .refused := if_pos hc
        rw [e] at hD
        exact hD H (Same.refl _)
      · have e : fnP .bit x y = .v (x / p2 y % 2) := by
          show (if y < 0 then R.refused else if 60 < y then .v (if x < 0 then 1 else 0) else .v (x / 2 ^ y.toNat % 2)) = _
          rw [if_neg (by omega)]
          by_cases c : 60 < y
          · rw [if_pos c, bit_60 hx c]
          · rw [if_neg c]; rfl
        rw [e] at hD
        obtain ⟨tz, dz⟩ := due_v hD
        exact ⟨_, rfl, tz, fun H3 v s3 hv => dz H3 v (s1.trans s3) hv⟩
    | len =>
      have hD := hD.std (fun z => nomatch z)
      obtain ⟨tz, dz⟩ := due_v (z := lenF x) hD
      exact no_s ⟨_, rfl, rfl, _, rfl, no_s ⟨_, rfl, rfl, _, rfl, yes_s ⟨_, rfl, l, as, _, a, rfl, rfl, .inl (.inl hl), i0, a, x, rfl, ha, hx, dz⟩⟩⟩
    | low =>
      have hD := hD.std (fun z => nomatch z)
      refine no_s ⟨_, rfl, rfl, _, rfl, no_s ⟨_, rfl, rfl, _, rfl, no_s ⟨_, rfl, rfl, _, rfl, yes_s ⟨_, rfl, l, as, _, a, rfl, rfl, .inl (.inl hl), i0, a, x, rfl, ha, fun hc => ?_, fun t ht v' hv' => ?_⟩⟩⟩⟩
      · have e : fnP .low x y = .missing := if_pos hc
        rw [e] at hD
        exact hD H (Same.refl _)
      · have e : fnP .low x y = .v t.2 := by
          show (if x = 0 then R.missing else .v (lowP x)) = _
          rw [if_neg (fun z => by rw [z, naf_zero] at ht; cases ht)]
          unfold lowP
          rw [ht]
        rw [e] at hD
        exact (due_v hD).2 H v' (Same.refl _) hv'
    | tower =>
      refine no_s ⟨_, rfl, rfl, _, rfl, no_s ⟨_, rfl, rfl, _, rfl, no_s ⟨_, rfl, rfl, _, rfl, no_s ⟨_, rfl, rfl, _, rfl, yes_s ⟨_, rfl, l, as, _, a, rfl, rfl, .inl (.inl hl), i0, a, x, rfl, ha, hx, fun hc => ?_, fun hc => ?_, fun k hk hk2 H1 v1 s1 hv1 => ?_⟩⟩⟩⟩⟩
      · rcases hD with ⟨_, e, _⟩ | ⟨_, e, _⟩ | hD
        · omega
        · omega
        · have e : fnP .tower x y = .refused := if_neg (by omega)
          rw [e] at hD
          exact hD
      · rcases hD with ⟨_, e, _⟩ | ⟨_, e, q⟩ | hD
        · omega
        · exact q
        · subst hc
          exact hD.elim
      · rcases hD with ⟨_, e, q⟩ | ⟨_, e, _⟩ | hD
        · exact q H1 v1 s1
        · omega
        have big : 5 ≤ k → False := fun h5 => by
          have e : fnP .tower x y = .great := by
            show (if 0 ≤ x ∧ x ≤ 40 then (if x = 0 then R.v 1 else if x = 1 then .v 2 else if x = 2 then .v 4 else if x = 3 then .v 16 else if x = 4 then .v 65536 else .great) else .refused) = _
            rw [if_pos (by omega), if_neg (by omega), if_neg (by omega), if_neg (by omega), if_neg (by omega), if_neg (by omega)]
          rw [e] at hD
          exact hD
        have cases5 : k = 0 ∨ k = 1 ∨ k = 2 ∨ k = 3 ∨ k = 4 := by
          by_cases z : 5 ≤ k
          · exact (big z).elim
          · omega
        have fin : ∀ z : Int, tw k = z → fnP .tower x y = .v z → Q v1 H1 := fun z e1 e2 => by
          rw [e2] at hD
          obtain ⟨tz, dz⟩ := due_v hD
          rw [e1] at hv1
          exact dz H1 v1 s1 (hv1.cut tz.sm.dp)
        subst hk
        rcases cases5 with rfl | rfl | rfl | rfl | rfl
        · exact fin 1 rfl rfl
        · exact fin 2 rfl rfl
        · exact fin 4 rfl rfl
        · exact fin 16 rfl rfl
        · exact fin 65536 (by decide +kernel) rfl
    | abs =>
      have hD := hD.std (fun z => nomatch z)
      obtain ⟨tz, dz⟩ := due_v (z := absI x) hD
      refine no_s ⟨_, rfl, rfl, _, rfl, no_s ⟨_, rfl, rfl, _, rfl, no_s ⟨_, rfl, rfl, _, rfl, no_s ⟨_, rfl, rfl, _, rfl, no_s ⟨_, rfl, rfl, _, rfl, yes_s ⟨_, rfl, l, as, _, a, rfl, rfl, .inl (.inl hl), i0, a, 6, x, rfl, ha, _, _, rfl, rfl, _, rfl, ite2 (fun c => ?_) fun c => ?_⟩⟩⟩⟩⟩⟩
      · have c := sgn_lt.mp (of_decide_eq_true c)
        refine ⟨_, rfl, l, as, _, a, rfl, rfl, .inl (.inl hl), i0, a, x, rfl, ha, fun H1 v1 s1 hv1 => dz H1 v1 s1 ?_⟩
        unfold absI
        rw [if_pos c]; exact hv1
      · have c : ¬ x < 0 := fun z => c (decide_eq_true (sgn_lt.mpr z))
        refine ⟨_, rfl, l, as, _, a, rfl, rfl, .inl (.inl hl), i0, dz H a (Same.refl _) ?_⟩
        unfold absI
        rw [if_neg c]; exact ha
    | min =>
      have hD := hD.std (fun z => nomatch z)
      obtain ⟨h1, hy, ty⟩ := hb rfl
      have i1 : atI as ((1 : Nat) : Int) = some b := atI_nat h1
      obtain ⟨tz, dz⟩ := due_v (z := if y < x then y else x) hD
      refine no_s ⟨_, rfl, rfl, _, rfl, no_s ⟨_, rfl, rfl, _, rfl, no_s ⟨_, rfl, rfl, _, rfl, no_s ⟨_, rfl, rfl, _, rfl, no_s ⟨_, rfl, rfl, _, rfl, no_s ?_⟩⟩⟩⟩⟩
      refine ⟨_, rfl, l, as, _, a, rfl, rfl, .inl (.inl hl), i0, _, rfl, l, as, _, b, rfl, rfl, .inl (.inl hl), i1, a, b, x, y, rfl, ha, hy, by decide, fun H1 s1 => ?_⟩
      refine ⟨_, _, rfl, rfl, _, rfl, _, rfl, rfl, rfl, _, rfl, ?_⟩
      have hl1 := s1 _ _ hl
      have eb : decide (V.str (Fn.str .min) = V.str "min") = true := by decide +kernel
      rw [eb]
      refine ite2 (fun c => ?_) fun c => ?_
      · have c : sgn (x - y) < 0 := by
          have c : decide (V.bl (decide (sgn (x - y) < 0)) = V.bl true) = true := c
          rw [bl_eq] at c
          simpa using c
        have c := sgn_sub_lt.mp c
        refine ⟨_, rfl, l, as, _, a, rfl, rfl, .inl (.inl hl1), i0, dz H1 a s1 ?_⟩
        rw [if_neg (by omega)]
        exact ha.tx (Tx.of s1)
      · have c : ¬ sgn (x - y) < 0 := fun z => c (by
          show decide (V.bl (decide (sgn (x - y) < 0)) = V.bl true) = true
          rw [bl_eq]
          simpa using z)
        have c : ¬ x < y := fun z => c (sgn_sub_lt.mpr z)
        refine ⟨_, rfl, l, as, _, b, rfl, rfl, .inl (.inl hl1), i1, dz H1 b s1 ?_⟩
        by_cases z : y < x
        · rw [if_pos z]; exact hy.tx (Tx.of s1)
        · rw [if_neg z, show x = y by omega]; exact hy.tx (Tx.of s1)
    | max =>
      have hD := hD.std (fun z => nomatch z)
      obtain ⟨h1, hy, ty⟩ := hb rfl
      have i1 : atI as ((1 : Nat) : Int) = some b := atI_nat h1
      obtain ⟨tz, dz⟩ := due_v (z := if x < y then y else x) hD
      refine no_s ⟨_, rfl, rfl, _, rfl, no_s ⟨_, rfl, rfl, _, rfl, no_s ⟨_, rfl, rfl, _, rfl, no_s ⟨_, rfl, rfl, _, rfl, no_s ⟨_, rfl, rfl, _, rfl, no_s ?_⟩⟩⟩⟩⟩
      refine ⟨_, rfl, l, as, _, a, rfl, rfl, .inl (.inl hl), i0, _, rfl, l, as, _, b, rfl, rfl, .inl (.inl hl), i1, a, b, x, y, rfl, ha, hy, by decide, fun H1 s1 => ?_⟩
      refine ⟨_, _, rfl, rfl, _, rfl, _, rfl, rfl, rfl, _, rfl, ?_⟩
      have hl1 := s1 _ _ hl
      have eb : decide (V.str (Fn.str .max) = V.str "min") = false := by decide +kernel
      rw [eb]
      refine ite2 (fun c => ?_) fun c => ?_
      · have c : ¬ sgn (x - y) < 0 := by
          have c : decide (V.bl (decide (sgn (x - y) < 0)) = V.bl false) = true := c
          rw [bl_eq] at c
          simpa using c
        have c : ¬ x < y := fun z => c (sgn_sub_lt.mpr z)
        refine ⟨_, rfl, l, as, _, a, rfl, rfl, .inl (.inl hl1), i0, dz H1 a s1 ?_⟩
        rw [if_neg (by omega)]
        exact ha.tx (Tx.of s1)
      · have c : sgn (x - y) < 0 := by
          by_cases z : sgn (x - y) < 0
          · exact z
          · exact (c (by
              show decide (V.bl (decide (sgn (x - y) < 0)) = V.bl false) = true
              rw [bl_eq]
              simpa using z)).elim
        have c := sgn_sub_lt.mp c
        refine ⟨_, rfl, l, as, _, b, rfl, rfl, .inl (.inl hl1), i1, dz H1 b s1 ?_⟩
        rw [if_pos c]; exact hy.tx (Tx.of s1)
end
end Sr
set_option Elab.async false
set_option linter.all false
set_option maxRecDepth 100000
set_option maxHeartbeats 4000000
/-! Known, value_by, value_of -/
namespace Sr
open PySem PySem.Spec PyProof.Rows L2

/-- the dict of the values -/
def EnvD (K : PySem.W.Frag) (H : Hp) (D : Addr) (env : Str → Option Int) : Prop := ∃ kvs, H D = some (.dK kvs) ∧ ∀ s : Str, match env s with
  | some z => ∃ v, valV kvs (.inr s) = some v ∧ IsN K H 7 v z ∧ T40 z
  | none => valV kvs (.inr s) = none
theorem EnvD.same {K : PySem.W.Frag} {H H' : Hp} {D : Addr} {env : Str → Option Int} (e : EnvD K H D env) (s : Same H H') : EnvD K H' D env := by
  obtain ⟨kvs, h1, h2⟩ := e
  refine ⟨kvs, s _ _ h1, fun x => ?_⟩
  have q := h2 x
  cases e : env x with
  | none => rw [e] at q; exact q
  | some z =>
    rw [e] at q
    obtain ⟨v, a, b, c⟩ := q
    exact ⟨v, a, b.tx (Tx.of s), c⟩
def KnS (K : PySem.W.Frag) (H : Hp) (a : Addr) (env : Str → Option Int) : Prop := ∃ dx D, H a = some (.ins (He.ga K "Known") dx [("_values", .ref D)]) ∧ EnvD K H D env
theorem KnS.same {K : PySem.W.Frag} {H H' : Hp} {a : Addr} {env : Str → Option Int} (e : KnS K H a env) (s : Same H H') : KnS K H' a env := let ⟨dx, D, h1, h2⟩ := e; ⟨dx, D, s _ _ h1, h2.same s⟩
theorem no_look {d : V} : ([("_values", d)] : List (Str × V)).lookup ("look" : Str) = none := by rfl
/-- a tree in the heap -/
def IsT (K : PySem.W.Frag) (H : Hp) : V → Tr → Prop
  | v, .int z => ∃ a, v = .ref a ∧ SqT K H a [.str "int", .int z]
  | v, .name s => ∃ a, v = .ref a ∧ SqT K H a [.str "name", .str s]
  | v, .bin o x y => ∃ a u1 u2, v = .ref a ∧ SqT K H a [.str o.str, u1, u2] ∧ IsT K H u1 x ∧ IsT K H u2 y
  | v, .neg x => ∃ a u, v = .ref a ∧ SqT K H a [.str "neg", u] ∧ IsT K H u x
  | v, .pow x => ∃ a u, v = .ref a ∧ SqT K H a [.str "pow", u] ∧ IsT K H u x
  | v, .fn1 f x => f.two = false ∧ ∃ a b u, v = .ref a ∧ SqT K H a [.str "call", .str f.str, .ref b] ∧ SqT K H b [u] ∧ IsT K H u x
  | v, .fn2 f x y => f.two = true ∧ ∃ a b u1 u2, v = .ref a ∧ SqT K H a [.str "call", .str f.str, .ref b] ∧ SqT K H b [u1, u2] ∧ IsT K H u1 x ∧ IsT K H u2 y
theorem IsT.tx {K : PySem.W.Frag} {H H' : Hp} (t : Tx K H H') : ∀ {v : V} {x : Tr}, IsT K H v x → IsT K H' v x
  | _, .int z, ⟨a, e, h⟩ => ⟨a, e, t _ _ h⟩
  | _, .name s, ⟨a, e, h⟩ => ⟨a, e, t _ _ h⟩
  | _, .bin o x y, ⟨a, u1, u2, e, h, h1, h2⟩ => ⟨a, u1, u2, e, t _ _ h, IsT.tx t h1, IsT.tx t h2⟩
  | _, .neg x, ⟨a, u, e, h, h1⟩ => ⟨a, u, e, t _ _ h, IsT.tx t h1⟩
  | _, .pow x, ⟨a, u, e, h, h1⟩ => ⟨a, u, e, t _ _ h, IsT.tx t h1⟩
  | _, .fn1 f x, ⟨hf, a, b, u, e, h, hb, h1⟩ => ⟨hf, a, b, u, e, t _ _ h, t _ _ hb, IsT.tx t h1⟩
  | _, .fn2 f x y, ⟨hf, a, b, u1, u2, e, h, hb, h1, h2⟩ => ⟨hf, a, b, u1, u2, e, t _ _ h, t _ _ hb, IsT.tx t h1, IsT.tx t h2⟩
/-- the height of a tree -/
def Tr.ht : Tr → Nat
  | .int _ => 0
  | .name _ => 0
  | .bin _ x y => max x.ht y.ht + 1
  | .neg x => x.ht + 1
  | .pow x => x.ht + 1
  | .fn1 _ x => x.ht + 1
  | .fn2 _ x y => max x.ht y.ht + 1
theorem bind_v {r : R} {f : Int → R} {z : Int} (h : r.bind f = .v z) : ∃ x, r = .v x ∧ f x = .v z := by
  cases r with
  | v x => exact ⟨x, rfl, h⟩
  | great => cases h
  | refused => cases h
  | missing => cases h
  | range => cases h
theorem valP_t40 {env : Str → Option Int} (he : ∀ s z, env s = some z → T40 z) {t : Tr} {z : Int} (h : valP env t = .v z) : T40 z := by
  cases t with
  | int y => exact (whole_v h).2
  | name s =>
    have h : (match env s with
      | some z => R.v z
      | none => .missing) = .v z := h
    cases e : env s with
    | none => rw [e] at h; cases h
    | some y => rw [e] at h; cases h; exact he s _ e
  | bin o a b =>
    obtain ⟨x, _, h⟩ := bind_v h
    obtain ⟨y, _, h⟩ := bind_v h
    exact (whole_v h).2
  | neg a => obtain ⟨x, _, h⟩ := bind_v h; exact (whole_v h).2
  | pow a => obtain ⟨x, _, h⟩ := bind_v h; exact (whole_v h).2
  | fn1 f a => obtain ⟨x, _, h⟩ := bind_v h; exact (whole_v h).2
  | fn2 f a b =>
    obtain ⟨x, _, h⟩ := bind_v h
    obtain ⟨y, _, h⟩ := bind_v h
    exact (whole_v h).2
theorem due_bind {K : PySem.W.Frag} {r : R} {f : Int → R} {Q Q2 : VK} {E : XK} {H H1 : Hp} (d : Due K (r.bind f) Q E H) (s : Same H H1) (k : ∀ z, r = .v z → ∀ H' v, Same H1 H' → IsN K H' 7 v z → Q2 v H') : Due K r Q2 E H1 := by
  cases r with
  | v z => exact k z rfl
  | great => exact d.elim
  | refused => exact fun H2 s2 => d H2 (s.trans s2)
  | missing => exact fun H2 s2 => d H2 (s.trans s2)
  | range => exact fun H2 s2 => d H2 (s.trans s2)
/-- what is due of a tree, with the great towers that are told -/
def DueT (K : PySem.W.Frag) (env : Str → Option Int) (t : Tr) (Q : VK) (E : XK) (H : Hp) : Prop := (t = .fn1 .tower (.int 39) ∧ ∀ H' v, Same H H' → Q v H') ∨
  ((t = .fn1 .tower (.int 40) ∨ ∃ q, t = .bin .add (.fn1 .tower (.int 40)) (.name q)) ∧ ∀ H', Same H H' → eX K "TooLarge" E H') ∨ Due K (valP env t) Q E H
theorem DueT.same {K : PySem.W.Frag} {env : Str → Option Int} {t : Tr} {Q : VK} {E : XK} {H H' : Hp} (d : DueT K env t Q E H) (s : Same H H') : DueT K env t Q E H' := by
  rcases d with ⟨e, k⟩ | ⟨e, k⟩ | d
  · exact .inl ⟨e, fun H2 v s2 => k H2 v (s.trans s2)⟩
  · exact .inr (.inl ⟨e, fun H2 s2 => k H2 (s.trans s2)⟩)
  · exact .inr (.inr (d.same s))
theorem due_bindT {K : PySem.W.Frag} {env : Str → Option Int} {t : Tr} {f : Int → R} {Q Q2 : VK} {E : XK} {H H1 : Hp} (d : Due K ((valP env t).bind f) Q E H) (s : Same H H1) (k : ∀ z, valP env t = .v z → ∀ H' v, Same H1 H' → IsN K H' 7 v z → Q2 v H') : DueT K env t Q2 E H1 := .inr (.inr (due_bind d s k))
theorem DueT.std {K : PySem.W.Frag} {env : Str → Option Int} {t : Tr} {Q : VK} {E : XK} {H : Hp} (d : DueT K env t Q E H) (h1 : ∀ z, t ≠ .fn1 .tower (.int z)) (h2 : ∀ q, t ≠ .bin .add (.fn1 .tower (.int 40)) (.name q)) : Due K (valP env t) Q E H := by
  rcases d with ⟨e, _⟩ | ⟨e | ⟨q, e⟩, _⟩ | d
  · exact absurd e (h1 _)
  · exact absurd e (h1 _)
  · exact absurd e (h2 q)
  · exact d
section
variable {P : Program} {w : World} {K : PySem.W.Frag} {mg : Str → Option Value} {base : Heap}
/-! ### Known -/
def spKInit (K : PySem.W.Frag) : Sp := fun vs H Q _ => ∃ me dx D, vs = [.ref me, .ref D] ∧ H me = some (.ins (He.ga K "Known") dx []) ∧ Q .non (upd H me (.ins (He.ga K "Known") dx [("_values", .ref D)]))
theorem sc_kinit : FnScope ["self", "values"] ["self", "values"] (defScope s_Known_init) := ⟨rfl, rfl, rfl, by decide +kernel, rfl, by decide +kernel, by decide +kernel⟩
theorem d_kinit (T : Txt K mg) : Dm P w K mg base CX0 1 (He.fAd K ("Known", some "__init__")) ["self", "values"] (spKInit K) := by
  refine .mk' T.f_Known_init sc_kinit (fun _ _ _ _ _ _ us hl => match us, hl with | [_, _], _ => rfl) (fun vs H Q E h => ?_) (fun cdv A outer s H vs Q E hr h => ?_)
  · obtain ⟨me, dx, D, rfl, _⟩ := h
    rfl
  · obtain ⟨me, dx, D, rfl, hs, hQ⟩ := h
    refine ⟨_, pss_one (ps_fld (pv 0) (pv 1) rfl), ?_⟩
    exact ⟨_, rfl, _, rfl, me, _, dx, [], rfl, hs, T.clK, T.noK, by show 0 < 1000; decide, hQ⟩
def spLook (K : PySem.W.Frag) : Sp := fun vs H Q E => ∃ me s env, vs = [.ref me, .str s] ∧ KnS K H me env ∧ (env s = none → eX K "Missing" E H) ∧ (∀ z, env s = some z → ∀ v, IsN K H 7 v z → Q v H)
theorem sc_look : FnScope ["self", "name"] ["self", "name"] (defScope s_Known_look) := ⟨rfl, rfl, rfl, by decide +kernel, rfl, by decide +kernel, by decide +kernel⟩
theorem d_look (T : Txt K mg) : Dm P w K mg base (L2.CX P w) 1 (He.fAd K ("Known", some "look")) ["self", "name"] (spLook K) := by
  refine .mk' T.f_Known_look sc_look (fun _ _ _ _ _ _ us hl => match us, hl with | [_, _], _ => rfl) (fun vs H Q E h => ?_) (fun cdv A outer s H vs Q E hr h => ?_)
  · obtain ⟨me, nm, env, rfl, _⟩ := h
    rfl
  · obtain ⟨me, nm, env, rfl, ⟨dx, D, hi, kvs, hd, hk⟩, hE, hQ⟩ := h
    have hu : (A.deeper (envOfC "Known.look" (defScope s_Known_look) s.heap.objs.size (He.fAd K ("Known", some "look")) cdv)).units + 1 < cLine := by have := hr.un; omega
    obtain ⟨x1, x2, x3, x4⟩ := T.e_Missing
    refine ⟨_, pss_cons (ps_if (pt_cmp (pc_dnotin hu (pv 1) (pe_fld (pv 0) rfl)) rfl) (pss_one (ps_raise rfl (takes_of rfl rfl rfl rfl) (pmk_own PySem.F.excBase_ValueError x1 T.c_Missing x2 (raises_own x3 x4) rfl))) pss_nil)
      (pss_one (ps_ret (pe_dget hu (pe_fld (pv 0) rfl) (pv 1) (fun _ _ => rfl)))), ?_⟩
    have hk := hk nm
    have dg := DGet.k (k := .inr nm) hd
    refine ⟨_, rfl, _, rfl, me, _, dx, _, .ref D, rfl, hi, T.clK, T.noK, rfl, D, _, rfl, dg, _, rfl, ?_⟩
    cases e : env nm with
    | none =>
      rw [e] at hk
      have hk : valV kvs (.inr nm) = none := hk
      rw [hk]
      exact iteT (hE e)
    | some z =>
      rw [e] at hk
      obtain ⟨v, h1, h2, h3⟩ := hk
      rw [h1] at dg ⊢
      exact iteF ⟨_, rfl, me, _, dx, _, .ref D, rfl, hi, T.clK, T.noK, rfl, _, rfl, D, v, rfl, dg, hQ z e v h2⟩
/-! ### value_by -/
def spValueBy (K : PySem.W.Frag) (n : Nat) : Sp := fun vs H Q E => ∃ tv t src env, vs = [tv, .ref src] ∧ IsT K H tv t ∧ t.ht < n ∧ KnS K H src env ∧ (∀ s z, env s = some z → T40 z) ∧ DueT K env t Q E H
theorem sc_value_by : FnScope ["tree", "source", "word", "part", "first"] ["tree", "source"] (defScope s_value_by) := ⟨rfl, rfl, rfl, by decide +kernel, rfl, by decide +kernel, by decide +kernel⟩
theorem d_value_by (T : Txt K mg) : ∀ n, Df P w K mg base (L2.CX P w) (n + 73) "value_by" ["tree", "source"] (spValueBy K n)
  | 0 => by
    refine .mk' T.f_value_by T.g_value_by sc_value_by (fun _ _ _ _ _ _ us hl => match us, hl with | [_, _], _ => rfl) (fun vs H Q E h => ?_) (fun cdv A outer s H vs Q E hr h => ?_)
    · obtain ⟨tv, t, src, env, rfl, _⟩ := h
      rfl
    · obtain ⟨tv, t, src, env, rfl, _, h, _⟩ := h
      exact absurd h (Nat.not_lt_zero _)
  | n + 1 => by
    have G_of_int := (d_of_int (P := P) (w := w) (base := base) T).mono (show 11 ≤ n + 73 by omega)
    have G_look := (d_look (P := P) (w := w) (base := base) T).mono (show 1 ≤ n + 73 by omega)
    have G_negate := (d_negate (P := P) (w := w) (base := base) T 6).mono (show 1 ≤ n + 73 by omega)
    have G_shift := (d_shift (P := P) (w := w) (base := base) T (n := 6) (by decide) (by decide)).mono (show 70 ≤ n + 73 by omega)
    have G_called := (d_called (P := P) (w := w) (base := base) T).mono (show 72 ≤ n + 73 by omega)
    have G_operated := (d_operated (P := P) (w := w) (base := base) T).mono (show 71 ≤ n + 73 by omega)
    have G_value_by := d_value_by T n
    refine .mk' T.f_value_by T.g_value_by sc_value_by (fun _ _ _ _ _ _ us hl => match us, hl with | [_, _], _ => rfl) (fun vs H Q E h => ?_) (fun cdv A outer s H vs Q E hr h => ?_)
    · obtain ⟨tv, t, src, env, rfl, _⟩ := h
      rfl
    · obtain ⟨tv, t, src, env, rfl, ht, hht, hk, henv, hD⟩ := h
      refine ⟨_, pss_cons (ps_set (i := 2) sc_value_by.nd rfl (.inl rfl) (pe_ix ix_tup (pv 0) pe_int (fun _ _ => rfl)))
        (pss_cons (ps_if (pt_cmpR op_eq (pv 2) pe_str (nomark _)) (pss_one (ps_ret (pe_cl G_of_int hr (passes_call (takes_of rfl rfl rfl rfl) (fun _ _ _ _ h => h)) (pa_cons (pe_ix ix_tup (pv 0) pe_int (fun _ _ => rfl)) pa_nil)))) pss_nil)
        (pss_cons (ps_if (pt_cmpR op_eq (pv 2) pe_str (nomark _)) (pss_one (ps_ret (pe_cm G_look (pv 1) T.clK T.m_look hr (passes_call (takes_of rfl rfl rfl rfl) (fun _ _ _ _ h => h)) (pa_cons (pe_ix ix_tup (pv 0) pe_int (fun _ _ => rfl)) pa_nil)))) pss_nil)
        (pss_cons (ps_if (pt_cmpR op_eq (pv 2) pe_str (nomark _)) (pss_one (ps_ret (pe_cl G_negate hr pass0 (pa_cons (pe_cl G_value_by hr (passes_call (takes_of rfl rfl rfl rfl) (fun _ _ _ _ h => h)) (pa_cons (pe_ix ix_tup (pv 0) pe_int (fun _ _ => rfl)) (pa_cons (pv 1) pa_nil))) pa_nil)))) pss_nil)
        (pss_cons (ps_if (pt_cmpR op_eq (pv 2) pe_str (nomark _)) (pss_one (ps_ret (pe_cl G_shift hr (passes_call (takes_of rfl rfl rfl rfl) (fun _ _ _ _ h => h)) (pa_cons (pe_cl G_of_int hr (passes_call (takes_of rfl rfl rfl rfl) (fun _ _ _ _ h => h)) (pa_cons pe_int pa_nil)) (pa_cons (pe_cl G_value_by hr (passes_call (takes_of rfl rfl rfl rfl) (fun _ _ _ _ h => h)) (pa_cons (pe_ix ix_tup (pv 0) pe_int (fun _ _ => rfl)) (pa_cons (pv 1) pa_nil))) pa_nil))))) pss_nil)
        (pss_cons (ps_if (pt_cmpR op_eq (pv 2) pe_str (nomark _)) (pss_one (ps_ret (pe_cl G_called hr (passes_call (takes_of rfl rfl rfl rfl) (fun _ _ _ _ h => h)) (pa_cons (pe_ix ix_tup (pv 0) pe_int (fun _ _ => rfl)) (pa_cons (by exact (pe_lcx (E := E) (own := [("part", 3)]) (g := gName 3) rfl rfl (takes_of rfl rfl rfl rfl) rfl sc_value_by.nd (pi_tup (pe_ix ix_tup (pv 0) pe_int (fun _ _ => rfl)))
            (blkOk_by (N := ["tree", "source", "word", "part", "first"]) (sc := defScope s_value_by) (by decide +kernel)) (fun _ _ _ _ _ _ => pg_name (i := 3) sc_value_by.nd rfl (.inl rfl)) (fun _ _ _ _ _ _ hp => pe_cl G_value_by hr hp (pa_cons (pv 3) (pa_cons (pv 1) pa_nil))))) pa_nil))))) pss_nil)
        (pss_cons (ps_set (i := 4) sc_value_by.nd rfl (.inl rfl) (pe_cl G_value_by hr (passes_call (takes_of rfl rfl rfl rfl) (fun _ _ _ _ h => h)) (pa_cons (pe_ix ix_tup (pv 0) pe_int (fun _ _ => rfl)) (pa_cons (pv 1) pa_nil))))
        (pss_one (ps_ret (pe_cl G_operated hr (passes_call (takes_of rfl rfl rfl rfl) (fun _ _ _ _ h => h)) (pa_cons (pv 2) (pa_cons (pv 4) (pa_cons (pe_cl G_value_by hr (passes_call (takes_of rfl rfl rfl rfl) (fun _ _ _ _ h => h)) (pa_cons (pe_ix ix_tup (pv 0) pe_int (fun _ _ => rfl)) (pa_cons (pv 1) pa_nil))) pa_nil)))))))))))), ?_⟩
      cases t with
      | int z =>
        have hD := hD.std (fun z => by intro e; cases e) (fun q => by intro e; cases e)
        obtain ⟨a, rfl, h⟩ := ht
        obtain ⟨tz, dz⟩ := due_v (z := z) hD
        exact ⟨_, rfl, a, _, _, _, rfl, rfl, h, atI_nat (j := 0) rfl, _, rfl, rfl, _, rfl, yes_s ⟨_, rfl, a, _, _, _, rfl, rfl, h, atI_nat (j := 1) rfl, z, rfl, tz, dz⟩⟩
      | name nm =>
        have hD := hD.std (fun z => by intro e; cases e) (fun q => by intro e; cases e)
        obtain ⟨a, rfl, h⟩ := ht
        obtain ⟨dx, D, hi, hd⟩ := id hk
        have hD : Due K (match env nm with
          | some z => .v z
          | none => .missing) Q E H := hD
        refine ⟨_, rfl, a, _, _, _, rfl, rfl, h, atI_nat (j := 0) rfl, _, rfl, rfl, _, rfl, no_s ⟨_, rfl, rfl, _, rfl, yes_s ⟨_, rfl, src, dx, _, rfl, hi, no_look, _, rfl, a, _, _, _, rfl, rfl, h, atI_nat (j := 1) rfl, src, nm, env, rfl, hk, fun e => ?_, fun z e v hv => ?_⟩⟩⟩
        · rw [e] at hD
          exact hD H (Same.refl _)
        · rw [e] at hD
          exact hD H v (Same.refl _) hv
      | neg x =>
        have hD := hD.std (fun z => by intro e; cases e) (fun q => by intro e; cases e)
        obtain ⟨a, u, rfl, h, hx⟩ := ht
        have hht : x.ht + 1 < n + 1 := hht
        have hD : Due K ((valP env x).bind fun x => whole (.v (-x))) Q E H := hD
        refine ⟨_, rfl, a, _, _, _, rfl, rfl, h, atI_nat (j := 0) rfl, _, rfl, rfl, _, rfl, no_s ⟨_, rfl, rfl, _, rfl, no_s ⟨_, rfl, rfl, _, rfl, yes_s ⟨_, rfl, a, _, _, _, rfl, rfl, h, atI_nat (j := 1) rfl, _, rfl, u, x, src, env, rfl, hx, by omega, hk, henv, due_bindT hD (Same.refl _) fun z hz H1 v s1 hv => ?_⟩⟩⟩⟩
        rw [hz] at hD
        obtain ⟨tz, dz⟩ := due_v (z := -z) hD
        exact ⟨v, z, rfl, hv, fun H2 v2 s2 hv2 => dz H2 v2 (s1.trans s2) hv2⟩
      | pow x =>
        have hD := hD.std (fun z => by intro e; cases e) (fun q => by intro e; cases e)
        obtain ⟨a, u, rfl, h, hx⟩ := ht
        have hht : x.ht + 1 < n + 1 := hht
        have t1 : T40 1 := t40_of (by decide) (by decide)
        have hD : Due K ((valP env x).bind fun x => whole (shP 1 x)) Q E H := hD
        refine ⟨_, rfl, a, _, _, _, rfl, rfl, h, atI_nat (j := 0) rfl, _, rfl, rfl, _, rfl, no_s ⟨_, rfl, rfl, _, rfl, no_s ⟨_, rfl, rfl, _, rfl, no_s ⟨_, rfl, rfl, _, rfl, yes_s ⟨1, rfl, t1, fun H1 v1 s1 hv1 => ?_⟩⟩⟩⟩⟩
        refine ⟨_, rfl, a, _, _, _, rfl, rfl, (Tx.of s1) _ _ h, atI_nat (j := 1) rfl, _, rfl, u, x, src, env, rfl, hx.tx (Tx.of s1), by omega, hk.same s1, henv, due_bindT hD s1 fun z hz H2 v s2 hv => ?_⟩
        have tz := valP_t40 henv hz
        rw [hz] at hD
        exact sh_due (hv1.tx (Tx.of s2)) hv t1 tz (hD.same (s1.trans s2))
      | bin o x y =>
        obtain ⟨a, u1, u2, rfl, h, hx, hy⟩ := ht
        have hht : max x.ht y.ht + 1 < n + 1 := hht
        have hD : Due K ((valP env x).bind fun x => (valP env y).bind fun y => whole (opP o x y)) Q E H ∨ (x = .fn1 .tower (.int 40) ∧ ∀ H', Same H H' → eX K "TooLarge" E H') := by
          rcases hD with ⟨e, k⟩ | ⟨e | ⟨q, e⟩, k⟩ | hD
          · cases e
          · cases e
          · cases e
            exact .inr ⟨rfl, k⟩
          · exact .inl hD
        have n1 : decide (V.str o.str = V.str "int") = false := by cases o <;> decide +kernel
        have n2 : decide (V.str o.str = V.str "name") = false := by cases o <;> decide +kernel
        have n3 : decide (V.str o.str = V.str "neg") = false := by cases o <;> decide +kernel
        have n4 : decide (V.str o.str = V.str "pow") = false := by cases o <;> decide +kernel
        have n5 : decide (V.str o.str = V.str "call") = false := by cases o <;> decide +kernel
        refine ⟨_, rfl, a, _, _, _, rfl, rfl, h, atI_nat (j := 0) rfl, _, rfl, rfl, _, rfl, no_s ⟨_, rfl, rfl, _, rfl, no_s ⟨_, rfl, rfl, _, rfl, no_s ⟨_, rfl, rfl, _, rfl, no_s ⟨_, rfl, rfl, _, rfl, no_s ?_ n5⟩ n4⟩ n3⟩ n2⟩ n1⟩
        refine ⟨_, rfl, a, _, _, _, rfl, rfl, h, atI_nat (j := 1) rfl, _, rfl, u1, x, src, env, rfl, hx, by omega, hk, henv, ?_⟩
        rcases hD with hD | ⟨e, k⟩
        case inr => exact .inr (.inl ⟨.inl e, k⟩)
        refine due_bindT hD (Same.refl _) fun z hz H1 v s1 hv => ?_
        have tz := valP_t40 henv hz
        rw [hz] at hD
        have hD : Due K ((valP env y).bind fun y => whole (opP o z y)) Q E H := hD
        refine ⟨_, rfl, _, rfl, _, rfl, a, _, _, _, rfl, rfl, (Tx.of s1) _ _ h, atI_nat (j := 2) rfl, _, rfl, u2, y, src, env, rfl, hy.tx (Tx.of s1), by omega, hk.same s1, henv, due_bindT hD s1 fun z2 hz2 H2 v2 s2 hv2 => ?_⟩
        have tz2 := valP_t40 henv hz2
        rw [hz2] at hD
        exact ⟨o, v, v2, z, z2, rfl, hv.tx (Tx.of s2), hv2, tz, tz2, hD.same (s1.trans s2)⟩
      | fn1 f x =>
        obtain ⟨hf, a, b, u, rfl, h, hb, hx⟩ := ht
        have hht : x.ht + 1 < n + 1 := hht
        have kD : ∃ G : Int → VK → Hp → Prop, (∀ z, valP env x = .v z → ∀ Q2 H2, G z Q2 H2 → DueF K f z 0 Q2 E H2) ∧ (∀ H1, Same H H1 → ∀ Q2 : VK, (∀ z, valP env x = .v z → ∀ H' v, Same H1 H' → IsN K H' 7 v z → Q2 v H') → DueT K env x Q2 E H1) ∧ (∀ z, valP env x = .v z → ∀ H1, Same H H1 → G z Q H1) := by
          rcases hD with ⟨e, k⟩ | ⟨e | ⟨q, e⟩, k⟩ | hD
          · cases e
            have v39 : valP env (.int 39) = .v 39 := by
              show (if p2 40 ≤ absI 39 then R.great else .v 39) = _
              rw [if_neg (by rw [p2_40]; decide)]
            refine ⟨fun z Q2 H2 => z = 39 ∧ ∀ H' v, Same H2 H' → Q2 v H', fun z _ Q2 H2 g => .inl ⟨rfl, g.1, g.2⟩, fun H1 s1 Q2 k2 => .inr (.inr ?_), fun z hz H1 s1 => ⟨by rw [v39] at hz; cases hz; rfl, fun H' v s2 => k H' v (s1.trans s2)⟩⟩
            rw [v39]
            exact k2 39 v39
          · cases e
            have v40 : valP env (.int 40) = .v 40 := by
              show (if p2 40 ≤ absI 40 then R.great else .v 40) = _
              rw [if_neg (by rw [p2_40]; decide)]
            refine ⟨fun z Q2 H2 => z = 40 ∧ ∀ H', Same H2 H' → eX K "TooLarge" E H', fun z _ Q2 H2 g => .inr (.inl ⟨rfl, g.1, g.2⟩), fun H1 s1 Q2 k2 => .inr (.inr ?_), fun z hz H1 s1 => ⟨by rw [v40] at hz; cases hz; rfl, fun H' s2 => k H' (s1.trans s2)⟩⟩
            rw [v40]
            exact k2 40 v40
          · cases e
          · have hDd : Due K ((valP env x).bind fun x => whole (fnP f x 0)) Q E H := hD
            refine ⟨fun z Q2 H2 => Due K (whole (fnP f z 0)) Q2 E H2, fun z _ Q2 H2 g => .inr (.inr g), fun H1 s1 Q2 k2 => due_bindT hDd s1 k2, fun z hz H1 s1 => ?_⟩
            rw [hz] at hDd
            exact hDd.same s1
        obtain ⟨G, kF, kT, kG⟩ := kD
        refine ⟨_, rfl, a, _, _, _, rfl, rfl, h, atI_nat (j := 0) rfl, _, rfl, rfl, _, rfl, no_s ⟨_, rfl, rfl, _, rfl, no_s ⟨_, rfl, rfl, _, rfl, no_s ⟨_, rfl, rfl, _, rfl, no_s ⟨_, rfl, rfl, _, rfl, yes_s ?_⟩⟩⟩⟩⟩
        refine ⟨_, rfl, a, _, _, _, rfl, rfl, h, atI_nat (j := 1) rfl, _, rfl, a, _, _, _, rfl, rfl, h, atI_nat (j := 2) rfl, b, rfl, ⟨[u], hb⟩, fun D hDn => lc_tup (xs := [u]) (fun i H' => Same H H' ∧ match i with
          | 0 => H' D = some (.lst [])
          | _ => ∃ v z, H' D = some (.lst [v]) ∧ IsN K H' 7 v z ∧ valP env x = .v z) ⟨same_new hDn, upd_same⟩ (fun i H' _ p => (Tx.of p.1) _ _ hb) ?_ ?_⟩
        · rintro i y H1 hy ⟨s1, hp⟩
          cases i with
          | zero =>
            cases hy
            refine ⟨rfl, lc_yes ⟨_, rfl, _, rfl, u, x, src, env, rfl, hx.tx (Tx.of s1), by omega, hk.same s1, henv, kT _ s1 _ fun z hz H2 v s2 hv => ⟨[], s2 _ _ hp, small1000 (Nat.zero_le _), same_set (s1.trans s2) hDn, v, z, upd_same, hv.tx (Tx.set (s2 _ _ hp) trivial), hz⟩⟩⟩
          | succ i => cases hy
        · rintro H1 ⟨s1, v, z, hL, hv, hz⟩
          have tz := valP_t40 henv hz
          exact ⟨f, D, [v], v, v, z, 0, rfl, hL, rfl, hv, tz, (fun c => by rw [hf] at c; cases c), kF z hz _ _ (kG z hz H1 s1)⟩
      | fn2 f x y =>
        have hD := hD.std (fun z => by intro e; cases e) (fun q => by intro e; cases e)
        obtain ⟨hf, a, b, u1, u2, rfl, h, hb, hx, hy⟩ := ht
        have hht : max x.ht y.ht + 1 < n + 1 := hht
        have hDd : Due K ((valP env x).bind fun x => (valP env y).bind fun y => whole (fnP f x y)) Q E H := hD
        refine ⟨_, rfl, a, _, _, _, rfl, rfl, h, atI_nat (j := 0) rfl, _, rfl, rfl, _, rfl, no_s ⟨_, rfl, rfl, _, rfl, no_s ⟨_, rfl, rfl, _, rfl, no_s ⟨_, rfl, rfl, _, rfl, no_s ⟨_, rfl, rfl, _, rfl, yes_s ?_⟩⟩⟩⟩⟩
        refine ⟨_, rfl, a, _, _, _, rfl, rfl, h, atI_nat (j := 1) rfl, _, rfl, a, _, _, _, rfl, rfl, h, atI_nat (j := 2) rfl, b, rfl, ⟨[u1, u2], hb⟩, fun D hD => lc_tup (xs := [u1, u2]) (fun i H' => Same H H' ∧ match i with
          | 0 => H' D = some (.lst [])
          | 1 => ∃ v z, H' D = some (.lst [v]) ∧ IsN K H' 7 v z ∧ valP env x = .v z
          | _ => ∃ v z v2 z2, H' D = some (.lst [v, v2]) ∧ IsN K H' 7 v z ∧ valP env x = .v z ∧ IsN K H' 7 v2 z2 ∧ valP env y = .v z2) ⟨same_new hD, upd_same⟩ (fun i H' _ p => (Tx.of p.1) _ _ hb) ?_ ?_⟩
        · rintro i yv H1 hyv ⟨s1, hp⟩
          cases i with
          | zero =>
            cases hyv
            refine ⟨rfl, lc_yes ⟨_, rfl, _, rfl, u1, x, src, env, rfl, hx.tx (Tx.of s1), by omega, hk.same s1, henv, due_bindT hDd s1 fun z hz H2 v s2 hv => ⟨[], s2 _ _ hp, small1000 (Nat.zero_le _), same_set (s1.trans s2) hD, v, z, upd_same, hv.tx (Tx.set (s2 _ _ hp) trivial), hz⟩⟩⟩
          | succ i =>
            cases i with
            | zero =>
              cases hyv
              obtain ⟨v, z, hL, hv, hz⟩ := hp
              have hDd := hDd
              rw [hz] at hDd
              have hDd : Due K ((valP env y).bind fun y => whole (fnP f z y)) Q E H := hDd
              refine ⟨rfl, lc_yes ⟨_, rfl, _, rfl, u2, y, src, env, rfl, hy.tx (Tx.of s1), by omega, hk.same s1, henv, due_bindT hDd s1 fun z2 hz2 H2 v2 s2 hv2 => ?_⟩⟩
              have tx : Tx K H2 (upd H2 D (.lst ([v] ++ [v2]))) := Tx.set (s2 _ _ hL) trivial
              exact ⟨[v], s2 _ _ hL, small1000 (by show 1 ≤ 1000; omega), same_set (s1.trans s2) hD, v, z, v2, z2, upd_same, (hv.tx (Tx.of s2)).tx tx, hz, hv2.tx tx, hz2⟩
            | succ i => cases hyv
        · rintro H1 ⟨s1, v, z, v2, z2, hL, hv, hz, hv2, hz2⟩
          have tz := valP_t40 henv hz
          have tz2 := valP_t40 henv hz2
          rw [hz] at hDd
          have hDd : Due K ((valP env y).bind fun y => whole (fnP f z y)) Q E H := hDd
          rw [hz2] at hDd
          exact ⟨f, D, [v, v2], v, v2, z, z2, rfl, hL, rfl, hv, tz, fun _ => ⟨rfl, hv2, tz2⟩, .inr (.inr (hDd.same s1))⟩
/-! ### value_of -/
def spValueOf (K : PySem.W.Frag) (n : Nat) : Sp := fun vs H Q E => ∃ tv t D env, vs = [tv, .ref D] ∧ IsT K H tv t ∧ t.ht < n ∧ EnvD K H D env ∧ (∀ s z, env s = some z → T40 z) ∧ DueT K env t Q E H
theorem sc_value_of : FnScope ["tree", "values"] ["tree", "values"] (defScope s_value_of) := ⟨rfl, rfl, rfl, by decide +kernel, rfl, by decide +kernel, by decide +kernel⟩
theorem made2 {H : Hp} {me dx : Addr} {C : Addr} {o : HO} (hm : H me = none) (hdx : H dx = none) : Same H (upd (upd (upd H dx (.own me)) me (.ins C dx [])) me o) := same_set (same_set (same_new hdx) hm) hm
theorem d_value_of (T : Txt K mg) (n : Nat) : Df P w K mg base (L2.CX P w) (n + 74) "value_of" ["tree", "values"] (spValueOf K n) := by
  have G_value_by := d_value_by (P := P) (w := w) (base := base) T n
  obtain ⟨fi, bi, Fi⟩ := (d_kinit (P := P) (w := w) (base := base) T).ex
  refine .mk' T.f_value_of T.g_value_of sc_value_of (fun _ _ _ _ _ _ us hl => match us, hl with | [_, _], _ => rfl) (fun vs H Q E h => ?_) (fun cdv A outer s H vs Q E hr h => ?_)
  · obtain ⟨tv, t, D, env, rfl, _⟩ := h
    rfl
  · obtain ⟨tv, t, D, env, rfl, ht, hh, he, henv, hD⟩ := h
    refine ⟨_, pss_one (ps_ret (pe_cl G_value_by hr (passes_call (takes_of rfl rfl rfl rfl) (fun _ _ _ _ h => h)) (pa_cons (pv 0) (pa_cons (pe_make T.mkK Fi (hr.mono (by omega)) rfl T.c_Known bi .nil pass0 (pa_cons (pv 1) pa_nil)) pa_nil)))), ?_⟩
    refine ⟨_, rfl, _, rfl, fun me dx hm hdx ne => ?_⟩
    refine ⟨me, dx, D, rfl, upd_same, rfl, ?_⟩
    have s1 : Same H (upd (upd (upd H dx (.own me)) me (.ins (He.ga K "Known") dx [])) me (.ins (He.ga K "Known") dx [("_values", .ref D)])) := made2 hm hdx
    exact ⟨tv, t, me, env, rfl, ht.tx (Tx.of s1), hh, ⟨dx, D, upd_same, he.same s1⟩, henv, hD.same s1⟩
end
end Sr
set_option Elab.async false
set_option linter.all false
set_option maxRecDepth 100000
set_option maxHeartbeats 4000000
/-! A try with several clauses, some of which name what they catch. -/
namespace Sr
open PySem PySem.Spec PyProof.Rows L2
/-- a clause: its class, the slot of its name, its suite's reading -/
abbrev Cl : Type := Value × Option Nat × (Addr → Value → Option Addr → TS)
/-- behind the suite the name's slot is empty -/
def offS (i : Nat) (D : Ends) : Ends := ⟨fun σ H => D.nx (σ.set i none) H, D.rt, fun σ H => D.bk (σ.set i none) H, fun σ H => D.ct (σ.set i none) H⟩
def clS : Cl → Addr → Value → Option Addr → TS
  | (_, none, ts), a, cls, d => ts a cls d
  | (_, some i, ts), a, cls, d => fun D σ H => ts a cls d (offS i D) (σ.set i (some (.ref a))) H
def wCl (K : PySem.W.Frag) (Wout : WX) (D : Ends) : List Cl → WX
  | [] => Wout
  | c :: r => fun cls d σ H => ∃ b, PySem.W.exmOne K cls c.1 = some b ∧ (b = true → ∀ a, H a = none → clS c a cls d D σ H) ∧ (b = false → wCl K Wout D r cls d σ H)
inductive ClOk (X : Cx) : List ExceptHandler → List Cl → Prop
  | nil : ClOk X [] []
  | plain {x : Str} {c : Value} {ts : Addr → Value → Option Addr → TS} {st : Stmt} {su : List Stmt} {np p : Pos} {hd : List ExceptHandler} {l : List Cl} (nm : Names X x c)
      (ok : ∀ a oe cls d pn, Zc cls d oe → (∃ vs, oe.data = .fields vs) → PSs (X.suite a ((a, oe) :: pn)) (st :: su) (ts a cls d)) (r : ClOk X hd l) : ClOk X (.ExceptHandler (some (.Name x np)) none (st :: su) p :: hd) ((c, none, ts) :: l)
  | named {x n : Str} {i : Nat} {c : Value} {ts : Addr → Value → Option Addr → TS} {st : Stmt} {su : List Stmt} {np p : Pos} {hd : List ExceptHandler} {l : List Cl} (nm : Names X x c) (hi : X.N[i]? = some n) (hl : X.env.kindOf n = some .local)
      (ok : ∀ a oe cls d pn, Zc cls d oe → (∃ vs, oe.data = .fields vs) → PSs (X.suite a ((a, oe) :: pn)) (st :: su) (ts a cls d)) (r : ClOk X hd l) : ClOk X (.ExceptHandler (some (.Name x np)) (some n) (st :: su) p :: hd) ((c, some i, ts) :: l)
section
variable {X : Cx} {pins : List (Addr × Obj)} {D : Ends} {Wout : WX}
/-- what a clause's test looks up -/
theorem name_test {x : Str} {c : Value} {np : Pos} {a : Addr} {q : Addr × Obj} {pn' : List (Addr × Obj)} {σ : L2.St} {H : Hp} {s : Shared} {Q : Value → Shared → Prop} {E : Value → Shared → Prop} (nm : Names X x c) (S : Inv (X.suite a (q :: pn')) [] σ H s) (k : Q c s) :
    wpAny (model X.prog X.w) (X.A.mark (some (.ref a))) (eval (.Name x np) X.env) Q E s := by
  obtain ⟨g1, g2, g3⟩ := nm
  rcases g3 with g3 | ⟨g3, g4, g5⟩
  · exact ld_glob (X := X.suite a (q :: pn')) S g1 g3 k g2
  · exact ld_blt (X := X.suite a (q :: pn')) S g1 g3 g4 k g5 g2
theorem flow_back {f : Flow} {s : Shared} {a : Addr} {q : Addr × Obj} (ok : X.Ok) (h : SP (X.suite a (q :: (X.pn ++ pins))) [] D f s) : SP X pins D f s := by
  cases f with
  | next => exact let ⟨σ, H, I, k⟩ := h; ⟨σ, H, I.unsuite ok, k⟩
  | cont => exact let ⟨σ, H, I, k⟩ := h; ⟨σ, H, I.unsuite ok, k⟩
  | brk => exact let ⟨σ, H, I, k⟩ := h; ⟨σ, H, I.unsuite ok, k⟩
  | ret u => exact let ⟨v, σ, H, I, r, k⟩ := h; ⟨v, σ, H, I.unsuite ok, r, k⟩
/-- how an error of the body goes on -/
abbrev caught (X : Cx) (pins : List (Addr × Obj)) (D : Ends) (hds : List ExceptHandler) (e : Value) (s1 : Shared) : Prop :=
  wpAny (model X.prog X.w) X.A (noteFrame e X.env) (fun _ s2 => wpAny (model X.prog X.w) X.A (setFlight e none) (fun _ s3 => wpAny (model X.prog X.w) X.A (handleBy e X.env hds) (SP X pins D) X.xe s3) X.xe s2) X.xe s1
theorem ps_try_cl {body : List Stmt} {h0 : ExceptHandler} {hd : List ExceptHandler} {l : List Cl} {pos : Pos} {tb : WX → TS} (hst : X.stack = X.env :: X.outer) (hfr : X.env.frame = some X.env.locals) (hN : X.N.Nodup) (tk : Takes X Wout)
    (hb : ∀ (W : WX) (pn : List (Addr × Obj)) (xe : Value → Shared → Prop), Takes (X.tr pn xe) W → PassesOwn (model X.prog X.w) X.A X.env xe → PSs (X.tr pn xe) body (tb W)) (hh : ClOk X (h0 :: hd) l) :
    PS X (.Try body (h0 :: hd) [] [] pos) (fun D σ H => tb (wCl X.K Wout D l) D σ H) := by
  constructor
  intro pins s σ H D I h
  have ok := I.ok
  have fr : X.A.frames = some (X.env :: X.outer) := hst ▸ ok.frames
  apply wpAny_Try_except
  have falls : Takes (X.tr (X.pn ++ pins) (caught X pins D (h0 :: hd))) (wCl X.K Wout D l) := fun u s' xx => ?_
  · have run := (hb (wCl X.K Wout D l) (X.pn ++ pins) (caught X pins D (h0 :: hd)) falls PassesOwn.looking).run [] s σ H D (I.toTry _) h
    refine wpAny_mono run (fun f s1 sp => ?_) fun _ _ k => k
    cases f with
    | next => exact let ⟨σ', H', J, k⟩ := sp; wpAny_execs_nil ⟨σ', H', J.ofTry ok, k⟩
    | brk => exact let ⟨σ', H', J, k⟩ := sp; ⟨σ', H', J.ofTry ok, k⟩
    | cont => exact let ⟨σ', H', J, k⟩ := sp; ⟨σ', H', J.ofTry ok, k⟩
    | ret u => exact let ⟨v, σ', H', J, r, k⟩ := sp; ⟨v, σ', H', J.ofTry ok, r, k⟩
  · obtain ⟨a, B, sI, pins', σ', H', cls, d, rfl, J', nb, up, sky, na, os, ag, wish⟩ := xx
    have J : Inv X pins σ' H' sI := J'.ofTry ok
    refine Sky.land Zc.steady fr hfr (hst ▸ sky) fun hp3 fl up3 => ?_
    have up13 := up.trans up3
    have J3 : Inv X pins σ' H' { s' with heap := hp3 } := J.landed nb fl.1 up13 os ag
    obtain ⟨o3, v3, e3, z3, f3⟩ := fl.there
    have outside : a ∉ frs (X.env :: X.outer) := fun hm => let ⟨_, _, e, no⟩ := fl.2.2.1.mem hm; (by rw [e3] at e; cases e; exact no _ f3)
    have nL : a ≠ X.env.locals := fun z => outside (List.mem_filterMap.mpr ⟨X.env, List.mem_cons_self, by rw [z]; exact hfr⟩)
    have nF : a ∉ X.fs := fun hm => let ⟨e, he, q⟩ := List.mem_filterMap.mp hm; outside (List.mem_filterMap.mpr ⟨e, List.mem_cons_of_mem _ he, q⟩)
    have S3 := J3.suite e3 f3 na nL nF
    have seen : PySem.W.Looks (model X.prog X.w) hp3 (typeOf (.ref a)) cls := fun _ _ _ _ k q => wpAny_typeOf_ref (k _ _ e3) (z3.1 ▸ q)
    -- the clause's suite, on the state at hand
    have suite : ∀ {st : Stmt} {su : List Stmt} {t : Addr → Value → Option Addr → TS} {D' : Ends} {σ2 : L2.St} {s2 : Shared} {oe : Obj}, PSs (X.suite a ((a, oe) :: (X.pn ++ pins))) (st :: su) (t a cls d) → Inv (X.suite a ((a, oe) :: (X.pn ++ pins))) [] σ2 H' s2 → t a cls d D' σ2 H' →
        wpAny (model X.prog X.w) (X.A.mark (some (.ref a))) (execs (st :: su) X.env) (fun f s5 => SP X pins D' f s5) (fun _ _ => False) s2 := fun p S w => wpAny_mono (p.run [] _ _ _ _ S w) (fun f s5 sp => flow_back ok sp) fun _ _ k => k
    suffices go : ∀ {hs : List ExceptHandler} {k : List Cl}, ClOk X hs k → wCl X.K Wout D k cls d σ' H' → wpAny (model X.prog X.w) X.A (handleBy (.ref a) X.env hs) (SP X pins D) X.xe { s' with heap := hp3 } from go hh wish
    clear wish
    intro hs k hk
    induction hk with
    | nil =>
      intro wish
      refine wpAny_handleBy_nil ?_
      obtain ⟨_, _, _, oe, vs, Tr, _, _, g1, g2, g3, g4, _⟩ := id fl
      unfold PySem.passOn
      refine wpAny_bind (wpAny_field g1 g3 g4 ?_)
      rw [if_neg (by simp)]
      have out : wpAny (model X.prog X.w) X.A (setFlight (.ref a) X.env.frame) (fun _ s4 => wpAny (model X.prog X.w) X.A (throw (.ref a) : Sem Flow) (SP X pins D) X.xe s4) X.xe { s' with heap := hp3 } := by
        rw [hfr]
        refine HandSPX.setFlight_upZ fl fun hp4 on up4 => wpAny_throw (tk _ _ ⟨a, B, sI, pins, σ', H', cls, d, rfl, J, nb, up13.trans up4, .inr (.inr (by rw [hst]; exact on)), na, os, ag, wish⟩)
      first
        | exact wpAny_bind out
        | exact wpAny_bind (wpAny_pure (wpAny_bind out))
    | plain nm sk r ih =>
      intro wish
      obtain ⟨b, w1, w2, w3⟩ := wish
      refine wpAny_handleBy_cons (codeAny_handlers_test (name_test nm S3 ((PySem.W.exm_one (M := model X.prog X.w) J3.kIn seen w1).here ?_))) (fun z => nomatch z)
      cases b with
      | false => exact ih (w3 rfl)
      | true =>
        refine codeAny_handlers_suite (HandSPX.lands_againZ fl fun hp4 fl4 up4 => ?_)
        obtain ⟨o4, v4, e4, z4, f4⟩ := fl4.there
        have J4 : Inv X pins σ' H' { s' with heap := hp4 } := J.landed nb fl4.1 (up13.trans up4) os ag
        exact wpAny_mono (suite (sk a o4 cls d _ z4 ⟨_, f4⟩) (J4.suite e4 f4 na nL nF) (w2 rfl a na)) (fun f s5 sp => by cases f <;> exact sp) fun _ _ k => k.elim
    | @named x n i c ts st su np p hd2 l2 nm hi hl sk r ih =>
      intro wish
      obtain ⟨b, w1, w2, w3⟩ := wish
      refine wpAny_handleBy_cons (codeAny_handlers_test (name_test nm S3 ((PySem.W.exm_one (M := model X.prog X.w) J3.kIn seen w1).here ?_))) (fun z => nomatch z)
      cases b with
      | false => exact ih (w3 rfl)
      | true =>
        refine codeAny_handlers_suite_as (HandSPX.lands_againZ fl fun hp4 fl4 up4 => ?_)
        obtain ⟨o4, v4, e4, z4, f4⟩ := fl4.there
        have J4 : Inv X pins σ' H' { s' with heap := hp4 } := J.landed nb fl4.1 (up13.trans up4) os ag
        refine store_ok (X := X.suite a ((a, o4) :: (X.pn ++ pins))) (v := .ref a) (J4.suite e4 f4 na nL nF) hN hi (.inl hl) rfl (fun s5 S5 => ?_) (.inr hl)
        refine wpAny_mono (suite (sk a o4 cls d _ z4 ⟨_, f4⟩) S5 (w2 rfl a na)) (fun f s6 sp => ?_) fun _ _ k => k.elim
        cases f with
        | next => exact let ⟨_, _, I6, k⟩ := sp; gone_ok I6 hN hi hl fun s7 J7 => ⟨_, _, J7, k⟩
        | brk => exact let ⟨_, _, I6, k⟩ := sp; gone_ok I6 hN hi hl fun s7 J7 => ⟨_, _, J7, k⟩
        | cont => exact let ⟨_, _, I6, k⟩ := sp; gone_ok I6 hN hi hl fun s7 J7 => ⟨_, _, J7, k⟩
        | ret u => exact let ⟨_, _, _, I6, ru, k⟩ := sp; gone_ok I6 hN hi hl fun s7 J7 => ⟨_, _, _, J7, ru, k⟩
end
end Sr
set_option Elab.async false
set_option linter.all false
set_option maxRecDepth 100000
set_option maxHeartbeats 4000000
/-! The law's own: at, next, row, whole, shifted, operated -/
namespace Sr
open PySem PySem.Spec PyProof.Rows L2

def R.wd : R → Str
  | .v _ => "value"
  | .great => "great"
  | .refused => "refused"
  | .missing => "missing"
  | .range => "range"
def R.nm : R → Int
  | .v z => z
  | _ => 0
/-- an answer as a new pair -/
def Told (r : R) (Q : VK) (H : Hp) : Prop := ∀ H' p, Same H H' → H' p = some (.tup [.str r.wd, .int r.nm]) → Q (.ref p) H'
theorem Told.same {r : R} {Q : VK} {H H' : Hp} (t : Told r Q H) (s : Same H H') : Told r Q H' := fun H2 p s2 h => t H2 p (s.trans s2) h
theorem Told.pair {r : R} {Q : VK} {H : Hp} (t : Told r Q H) : 2 ≤ sizeLine ∧ ∀ p, H p = none → Q (.ref p) (upd H p (.tup [.str r.wd, .int r.nm])) := ⟨by decide +kernel, fun p hp => t _ _ (same_new hp) upd_same⟩
/-- the row that the script is mixed to -/
def RowAt (H : Hp) (L : Addr) : Prop := ∃ row : List Int, H L = some (.lst (row.map V.int)) ∧ ∀ x ∈ row, 0 ≤ x ∧ x < 1009
theorem pow64 : p2 40 ≤ 2 ^ 64 := by decide +kernel
theorem T40.abs {x : Int} (h : T40 x) : x.natAbs < 2 ^ 64 := by
  obtain ⟨h1, h2⟩ := h
  have := pow64
  omega
theorem T40.mul {x y : Int} (h : T40 x) : CMul x y := by
  obtain ⟨h1, h2⟩ := h
  have := pow64
  exact .inl ⟨by omega, by omega⟩
section
variable {P : Program} {w : World} {K : PySem.W.Frag} {mg : Str → Option Value} {base : Heap}
/-! ### at, next -/
def spLAt : Sp := fun vs H Q _ => ∃ L i, vs = [.ref L, .int i] ∧ RowAt H L ∧ ∀ r, 0 ≤ r → r < 1009 → Q (.int r) H
theorem sc_law_at : FnScope ["_law_row_here", "_law_at_here"] ["_law_row_here", "_law_at_here"] (defScope s_law_at) := ⟨rfl, rfl, rfl, by decide +kernel, rfl, by decide +kernel, by decide +kernel⟩
theorem d_law_at (T : Txt K mg) : Df P w K mg base CX0 1 "_law_at" ["_law_row_here", "_law_at_here"] spLAt := by
  refine .mk' T.f_law_at T.g_law_at sc_law_at (fun _ _ _ _ _ _ us hl => match us, hl with | [_, _], _ => rfl) (fun vs H Q E h => ?_) (fun cdv A outer s H vs Q E hr h => ?_)
  · obtain ⟨L, i, rfl, _⟩ := h
    rfl
  · obtain ⟨L, i, rfl, ⟨row, hL, hrow⟩, hQ⟩ := h
    refine ⟨_, pss_cons (ps_if (pt_chain op_le op_lt pe_int (pv 1) (pe_callB call_len (by rfl) T.n_len PySem.boot_len (pa_cons (pv 0) pa_nil))) (pss_one (ps_ret (pe_ix ix_list (pv 0) (pv 1) (fun _ _ => rfl)))) pss_nil)
      (pss_one (ps_ret pe_int)), ?_⟩
    have out : Q (.int 0) H := hQ 0 (by decide) (by decide)
    refine ⟨_, rfl, 0, i, rfl, rfl, _, rfl, ?_⟩
    refine ite2 (fun c => ?_) fun c => ⟨false, rfl, iteF out⟩
    have c : 0 ≤ i := of_decide_eq_true c
    refine ⟨_, rfl, _, _, rfl, .inl ⟨_, .inl (.inl hL), rfl⟩, i, _, rfl, rfl, _, rfl, ite2 (fun c2 => ?_) fun c2 => out⟩
    have c2 : i < ((row.map V.int).length : Nat) := of_decide_eq_true c2
    rw [List.length_map] at c2
    have hg : row[i.toNat]? = some row[i.toNat] := List.getElem?_eq_getElem (by omega)
    have hm := hrow _ (List.mem_of_getElem? hg)
    exact ⟨_, rfl, _, rfl, L, _, i, _, rfl, rfl, .inl (.inl hL), atI_eq (j := i.toNat) (by omega) (by rw [List.getElem?_map, hg]; rfl), hQ _ hm.1 hm.2⟩
def spLNext : Sp := fun vs H Q _ => ∃ L S i, vs = [.ref L, .ref S] ∧ RowAt H L ∧ L ≠ S ∧ H S = some (.lst [.int i]) ∧ ∀ r j, 0 ≤ r → r < 1009 → Q (.int r) (upd H S (.lst [.int j]))
theorem sc_law_next : FnScope ["_law_row_here", "_law_state"] ["_law_row_here", "_law_state"] (defScope s_law_next) := ⟨rfl, rfl, rfl, by decide +kernel, rfl, by decide +kernel, by decide +kernel⟩
theorem d_law_next (T : Txt K mg) : Df P w K mg base CX0 2 "_law_next" ["_law_row_here", "_law_state"] spLNext := by
  have G_law_at := d_law_at (P := P) (w := w) (base := base) T
  refine .mk' T.f_law_next T.g_law_next sc_law_next (fun _ _ _ _ _ _ us hl => match us, hl with | [_, _], _ => rfl) (fun vs H Q E h => ?_) (fun cdv A outer s H vs Q E hr h => ?_)
  · obtain ⟨L, S, i, rfl, _⟩ := h
    rfl
  · obtain ⟨L, S, i, rfl, hL, ne, hS, hQ⟩ := h
    refine ⟨_, pss_cons (ps_asg (pe_op op_add (pe_ix ix_list (pv 1) pe_int (fun _ _ => rfl)) pe_int) (pg_sub (pv 1) pe_int set_list))
      (pss_one (ps_ret (pe_callTy call_int1 (by rfl) T.n_int (by decide +kernel) (pa_cons (pe_cl G_law_at hr pass0 (pa_cons (pv 0) (pa_cons (pe_ix ix_list (pv 1) pe_int (fun _ _ => rfl)) pa_nil))) pa_nil)))), ?_⟩
    refine ⟨_, rfl, S, _, _, _, rfl, rfl, .inl (.inl hS), atI_nat (j := 0) rfl, i, 1, rfl, rfl, _, rfl, S, _, 0, 0, rfl, rfl, hS, rfl, ?_⟩
    refine ⟨_, rfl, _, rfl, S, _, _, _, rfl, rfl, .inl (.inl upd_same), atI_nat (j := 0) rfl, L, i + 1, rfl, ?_, fun r h1 h2 => .inl ⟨r, rfl, hQ r _ h1 h2⟩⟩
    obtain ⟨row, h1, h2⟩ := hL
    exact ⟨row, by rw [upd_ne ne]; exact h1, h2⟩
/-! ### row -/
def spLRow (K : PySem.W.Frag) : Sp := fun vs H Q _ => ∃ (L : Addr) (ns : List Int), vs = [.ref L] ∧ SqL K H L (ns.map V.int) ∧ ns.length ≤ 63 ∧ ∀ H' p, Same H H' → H p = none → RowAt H' p → Q (.ref p) H'
theorem sc_law_row : FnScope ["_law_script", "_law_row_here", "_law_k", "_law_cell", "_law_turn", "_law_mixed"] ["_law_script"] (defScope s_law_row) := ⟨rfl, rfl, rfl, by decide +kernel, rfl, by decide +kernel, by decide +kernel⟩
theorem row_snoc {row : List Int} {x : Int} (h : ∀ y ∈ row, 0 ≤ y ∧ y < 1009) : ∀ y ∈ row ++ [x % 1009], 0 ≤ y ∧ y < 1009 := fun y hy => by
  rcases List.mem_append.mp hy with z | z
  · exact h y z
  · rw [List.mem_singleton.mp z]; omega
theorem d_law_row (T : Txt K mg) : Df P w K mg base CX0 1 "_law_row" ["_law_script"] (spLRow K) := by
  refine .mk' T.f_law_row T.g_law_row sc_law_row (fun _ _ _ _ _ _ us hl => match us, hl with | [_], _ => rfl) (fun vs H Q E h => ?_) (fun cdv A outer s H vs Q E hr h => ?_)
  · obtain ⟨L, ns, rfl, _⟩ := h
    rfl
  · obtain ⟨L, ns, rfl, hL, hlen, hQ⟩ := h
    refine ⟨_, pss_cons (ps_set (i := 1) sc_law_row.nd rfl (.inl rfl) (pe_lst pa_nil))
      (pss_cons (ps_for (passes_of rfl) rfl (pi_range1 (by rfl) T.n_range (pa_cons (pe_callB call_len (by rfl) T.n_len PySem.boot_len (pa_cons (pv 0) pa_nil)) pa_nil)) (pg_name (i := 2) sc_law_row.nd rfl (.inl rfl)) (pss_cons (ps_set (i := 3) sc_law_row.nd rfl (.inl rfl) (pe_callB call_abs (by rfl) T.n_abs (by decide +kernel) (pa_cons (pe_callTy call_int1 (by rfl) T.n_int (by decide +kernel) (pa_cons (pe_ix ix_list (pv 0) (pv 2) (fun _ _ => rfl)) pa_nil)) pa_nil)))
        (pss_one (ps_if (pt_cmpR op_ge (pv 3) (pe_op op_pow pe_int pe_int) (nomark _)) (pss_one (ps_for (passes_of rfl) rfl (pi_range1 (by rfl) T.n_range (pa_cons pe_int pa_nil)) (pg_name (i := 4) sc_law_row.nd rfl (.inl rfl)) (pss_one (ps_if (pt_cmpR op_gt (pv 3) pe_int (nomark _)) (pss_cons (ps_expr (pe_bm PySem.F.plainAttrs_list PySem.F.slot_list_append PySem.F.type_list_append mt_append (pv 1) (pa_cons (pe_op op_mod (pe_callTy call_int1 (by rfl) T.n_int (by decide +kernel) (pa_cons (pv 3) pa_nil)) pe_int) pa_nil)))
              (pss_one (ps_set (i := 3) sc_law_row.nd rfl (.inl rfl) (pe_op op_fdiv (pv 3) pe_int)))) pss_nil)))) (pss_cons (ps_set (i := 5) sc_law_row.nd rfl (.inl rfl) (pe_op op_mod (pe_callTy call_int1 (by rfl) T.n_int (by decide +kernel) (pa_cons (pe_op op_add (pe_op op_add (pe_op op_mul (pv 3) pe_int) (pe_op op_mul (pv 2) pe_int)) pe_int) pa_nil)) pe_int))
          (pss_one (ps_for (passes_of rfl) rfl (pi_range1 (by rfl) T.n_range (pa_cons pe_int pa_nil)) (pg_name (i := 4) sc_law_row.nd rfl (.inl rfl)) (pss_cons (ps_set (i := 5) sc_law_row.nd rfl (.inl rfl) (pe_op op_mod (pe_callTy call_int1 (by rfl) T.n_int (by decide +kernel) (pa_cons (pe_op op_add (pe_op op_add (pe_op op_mul (pv 5) pe_int) (pe_op op_mul pe_int (pv 4))) pe_int) pa_nil)) pe_int))
            (pss_one (ps_expr (pe_bm PySem.F.plainAttrs_list PySem.F.slot_list_append PySem.F.type_list_append mt_append (pv 1) (pa_cons (pe_op op_mod (pe_callTy call_int1 (by rfl) T.n_int (by decide +kernel) (pa_cons (pe_op op_fdiv (pv 5) pe_int) pa_nil)) pe_int) pa_nil))))))))))))
      (pss_one (ps_ret (pv 1)))), ?_⟩
    refine ⟨Nat.zero_le _, fun p hp => ?_⟩
    have lm : (ns.map V.int).length = ns.length := List.length_map _
    refine ⟨_, rfl, _, (ns.map V.int).length, rfl, .inl ⟨_, (same_new hp).seq hL, rfl⟩, _, rfl, by omega, by omega, ?_⟩
    rw [show ((ns.map V.int).length : Int).toNat = ns.length by rw [lm]; omega]
    refine for_range (fun k σ H' => ∃ (row : List Int) (y2 y3 y4 y5 : Option V), σ = [some (.ref L), some (.ref p), y2, y3, y4, y5] ∧ Same H H' ∧ H' p = some (.lst (row.map V.int)) ∧ (∀ x ∈ row, 0 ≤ x ∧ x < 1009) ∧ row.length ≤ 40 * k)
      ⟨[], none, none, none, none, rfl, same_new hp, upd_same, (fun _ h => nomatch h), Nat.le_refl _⟩ ?_ ?_
    · rintro k σ H1 hk ⟨row, y2, y3, y4, y5, rfl, s1, hrow, ok, hlr⟩
      have hg : ns[k]? = some ns[k] := List.getElem?_eq_getElem hk
      generalize ns[k] = cell at hg
      refine ⟨_, rfl, _, rfl, L, _, _, .int cell, rfl, rfl, s1.seq hL, atI_eq (j := k) (by omega) (by rw [List.getElem?_map, hg]; rfl), .inl ⟨cell, rfl, cell, rfl, ?_⟩⟩
      refine ⟨_, rfl, 10, 18, rfl, rfl, ⟨by decide, by decide, by decide⟩, _, _, rfl, rfl, _, rfl, ite2 (fun _ => ?_) fun _ => ?_⟩
      · refine ⟨40, rfl, by decide, by decide, for_range (fun j σ H' => ∃ (row : List Int) (c : Int) (y4 : Option V), σ = [some (.ref L), some (.ref p), some (.int (0 + k)), some (.int c), y4, y5] ∧ Same H H' ∧ H' p = some (.lst (row.map V.int)) ∧ (∀ x ∈ row, 0 ≤ x ∧ x < 1009) ∧ row.length ≤ 40 * k + j) ⟨row, _, y4, rfl, s1, hrow, ok, hlr⟩ ?_ ?_⟩
        · rintro j σ H2 hj ⟨row, c, y4, rfl, s2, hrow, ok, hlr⟩
          have hj : j < 40 := hj
          refine ⟨_, rfl, _, _, rfl, rfl, _, rfl, ite2 (fun _ => ?_) fun _ => ⟨row, c, _, rfl, s2, hrow, ok, by omega⟩⟩
          refine ⟨_, rfl, .inl ⟨rfl, _, .inl (.inl hrow)⟩, _, rfl, .inl ⟨c, rfl, c, 1009, rfl, rfl, by show (0 : Int) < 1009; decide, p, _, _, rfl, rfl, hrow, by rw [List.length_map]; have := sizeLine_eq; omega, ?_⟩⟩
          refine ⟨_, rfl, c, 1009, rfl, rfl, ⟨by decide, by decide⟩, row ++ [c % 1009], _, _, rfl, same_set s2 hp, by rw [upd_same, List.map_append]; rfl, row_snoc ok, by rw [List.length_append]; show row.length + 1 ≤ _; omega⟩
        · rintro σ H2 ⟨row, c, y4, rfl, s2, hrow, ok, hlr⟩
          have hlr : row.length ≤ 40 * k + 40 := hlr
          exact ⟨row, _, _, _, _, rfl, s2, hrow, ok, by omega⟩
      · refine ⟨_, rfl, _, _, rfl, rfl, .inr ⟨by decide, by decide⟩, _, rfl, _, _, rfl, rfl, .inr ⟨by decide, by decide⟩, _, _, rfl, rfl, _, _, rfl, rfl, .inl ⟨_, rfl, _, _, rfl, rfl, by show (0 : Int) < 2147483647; decide, ?_⟩⟩
        refine ⟨6, rfl, by decide, by decide, for_range (fun j σ H' => ∃ (row : List Int) (c mx : Int) (y4 : Option V), σ = [some (.ref L), some (.ref p), some (.int (0 + k)), some (.int c), y4, some (.int mx)] ∧ Same H H' ∧ H' p = some (.lst (row.map V.int)) ∧ (∀ x ∈ row, 0 ≤ x ∧ x < 1009) ∧ row.length ≤ 40 * k + j) ⟨row, _, _, y4, rfl, s1, hrow, ok, hlr⟩ ?_ ?_⟩
        · rintro j σ H2 hj ⟨row, c, mx, y4, rfl, s2, hrow, ok, hlr⟩
          have hj : j < 6 := hj
          refine ⟨_, rfl, _, _, rfl, rfl, .inr ⟨by decide, by decide⟩, _, rfl, _, _, rfl, rfl, .inl ⟨by decide, by decide⟩, _, _, rfl, rfl, _, _, rfl, rfl, .inl ⟨_, rfl, _, _, rfl, rfl, by show (0 : Int) < 2147483647; decide, ?_⟩⟩
          refine ⟨_, rfl, .inl ⟨rfl, _, .inl (.inl hrow)⟩, _, rfl, _, _, rfl, rfl, ⟨by decide, by decide⟩, .inl ⟨_, rfl, _, 1009, rfl, rfl, by show (0 : Int) < 1009; decide, p, _, _, rfl, rfl, hrow, by rw [List.length_map]; have := sizeLine_eq; omega, ?_⟩⟩
          refine ⟨row ++ [_ % 1009], _, _, _, rfl, same_set s2 hp, by rw [upd_same, List.map_append]; rfl, row_snoc ok, by rw [List.length_append]; show row.length + 1 ≤ _; omega⟩
        · rintro σ H2 ⟨row, c, mx, y4, rfl, s2, hrow, ok, hlr⟩
          have hlr : row.length ≤ 40 * k + 6 := hlr
          exact ⟨row, _, _, _, _, rfl, s2, hrow, ok, by omega⟩
    · rintro σ H1 ⟨row, y2, y3, y4, y5, rfl, s1, hrow, ok, hlr⟩
      exact ⟨_, rfl, hQ H1 p s1 hp ⟨row, hrow, ok⟩⟩
/-! ### whole, shifted, operated -/
def spLWhole : Sp := fun vs H Q _ => ∃ r : R, vs = [.str r.wd, .int r.nm] ∧ Told (whole r) Q H
theorem sc_law_whole : FnScope ["_law_word", "_law_value_here"] ["_law_word", "_law_value_here"] (defScope s_law_whole) := ⟨rfl, rfl, rfl, by decide +kernel, rfl, by decide +kernel, by decide +kernel⟩
theorem d_law_whole (T : Txt K mg) : Df P w K mg base CX0 1 "_law_whole" ["_law_word", "_law_value_here"] spLWhole := by
  refine .mk' T.f_law_whole T.g_law_whole sc_law_whole (fun _ _ _ _ _ _ us hl => match us, hl with | [_, _], _ => rfl) (fun vs H Q E h => ?_) (fun cdv A outer s H vs Q E hr h => ?_)
  · obtain ⟨r, rfl, _⟩ := h
    rfl
  · obtain ⟨r, rfl, hQ⟩ := h
    refine ⟨_, pss_cons (ps_if (PW.pt (pw_and (pt_cmpR op_eq (pv 0) pe_str (nomark _)) (pw_and1 (pt_cmpR op_ge (pe_callB call_abs (by rfl) T.n_abs (by decide +kernel) (pa_cons (pv 1) pa_nil)) (pe_op op_pow pe_int pe_int) (nomark _))))) (pss_one (ps_ret (pe_tup (pa_cons pe_str (pa_cons pe_int pa_nil))))) pss_nil)
      (pss_one (ps_ret (pe_tup (pa_cons (pv 0) (pa_cons (pv 1) pa_nil))))), ?_⟩
    refine ⟨_, rfl, rfl, _, rfl, ?_⟩
    cases r with
    | v z =>
      have hQ : Told (if p2 40 ≤ absI z then .great else .v z) Q H := hQ
      refine yes_s (h := (by decide +kernel : decide (V.str "value" = V.str "value") = true)) ⟨_, rfl, z, rfl, 2, 40, rfl, rfl, ⟨by decide, by decide, by decide⟩, _, _, rfl, rfl, _, rfl, ite2 (fun c => ?_) fun c => ?_⟩
      · have c : p2 40 ≤ absI z := of_decide_eq_true c
        rw [if_pos c] at hQ
        exact hQ.pair
      · have c : ¬ p2 40 ≤ absI z := fun x => c (decide_eq_true x)
        rw [if_neg c] at hQ
        exact ⟨_, rfl, _, rfl, hQ.pair⟩
    | great => exact no_s (iteF ⟨_, rfl, _, rfl, Told.pair (r := .great) hQ⟩)
    | refused => exact no_s (iteF ⟨_, rfl, _, rfl, Told.pair (r := .refused) hQ⟩)
    | missing => exact no_s (iteF ⟨_, rfl, _, rfl, Told.pair (r := .missing) hQ⟩)
    | range => exact no_s (iteF ⟨_, rfl, _, rfl, Told.pair (r := .range) hQ⟩)
def spLShifted : Sp := fun vs H Q _ => ∃ x y, vs = [.int x, .int y] ∧ T40 x ∧ Told (shP x y) Q H
theorem sc_law_shifted : FnScope ["_law_x", "_law_y"] ["_law_x", "_law_y"] (defScope s_law_shifted) := ⟨rfl, rfl, rfl, by decide +kernel, rfl, by decide +kernel, by decide +kernel⟩
theorem d_law_shifted (T : Txt K mg) : Df P w K mg base CX0 1 "_law_shifted" ["_law_x", "_law_y"] spLShifted := by
  refine .mk' T.f_law_shifted T.g_law_shifted sc_law_shifted (fun _ _ _ _ _ _ us hl => match us, hl with | [_, _], _ => rfl) (fun vs H Q E h => ?_) (fun cdv A outer s H vs Q E hr h => ?_)
  · obtain ⟨x, y, rfl, _⟩ := h
    rfl
  · obtain ⟨x, y, rfl, hx, hQ⟩ := h
    refine ⟨_, pss_cons (ps_if (pt_cmpR op_eq (pv 0) pe_int (nomark _)) (pss_one (ps_ret (pe_tup (pa_cons pe_str (pa_cons pe_int pa_nil))))) pss_nil)
      (pss_cons (ps_if (pt_cmpR op_gt (pv 1) pe_int (nomark _)) (pss_one (ps_ret (pe_tup (pa_cons pe_str (pa_cons pe_int pa_nil))))) pss_nil)
      (pss_cons (ps_if (pt_cmpR op_ge (pv 1) pe_int (nomark _)) (pss_one (ps_ret (pe_tup (pa_cons pe_str (pa_cons (pe_op op_shl (pv 0) (pv 1)) pa_nil))))) pss_nil)
      (pss_cons (ps_if (PW.pt (pw_or (pt_cmpR op_lt (pv 1) (pe_un un_neg pe_int) (nomark _)) (pw_or1 (pt_cmpR op_ne (pe_op op_shl (pe_op op_shr (pv 0) (pe_un un_neg (pv 1))) (pe_un un_neg (pv 1))) (pv 0) (nomark _))))) (pss_one (ps_ret (pe_tup (pa_cons pe_str (pa_cons pe_int pa_nil))))) pss_nil)
      (pss_one (ps_ret (pe_tup (pa_cons pe_str (pa_cons (pe_op op_shr (pv 0) (pe_un un_neg (pv 1))) pa_nil)))))))), ?_⟩
    unfold shP at hQ
    refine ⟨_, rfl, rfl, _, rfl, ite2 (fun c => ?_) fun c => ?_⟩
    · have c : x = 0 := by simpa using c
      rw [if_pos c] at hQ
      exact hQ.pair
    · have c : ¬ x = 0 := by simpa using c
      rw [if_neg c] at hQ
      refine ⟨_, rfl, _, _, rfl, rfl, _, rfl, ite2 (fun c => ?_) fun c => ?_⟩
      · have c : 60 < y := of_decide_eq_true c
        rw [if_pos c] at hQ
        exact hQ.pair
      · have c : ¬ 60 < y := fun z => c (decide_eq_true z)
        rw [if_neg c] at hQ
        refine ⟨_, rfl, _, _, rfl, rfl, _, rfl, ite2 (fun c2 => ?_) fun c2 => ?_⟩
        · have c2 : 0 ≤ y := of_decide_eq_true c2
          rw [if_pos c2] at hQ
          exact ⟨_, rfl, _, rfl, x, y, rfl, rfl, ⟨c2, by omega, hx.abs⟩, hQ.pair⟩
        · have c2 : ¬ 0 ≤ y := fun z => c2 (decide_eq_true z)
          rw [if_neg c2] at hQ
          refine ⟨_, rfl, 60, rfl, _, _, rfl, rfl, _, rfl, ?_⟩
          refine ite2 (fun c3 => iteT ?_) fun c3 => ?_
          · have c3 : y < -60 := of_decide_eq_true c3
            rw [if_pos (.inl c3)] at hQ
            exact hQ.pair
          · have c3 : ¬ y < -60 := fun z => c3 (decide_eq_true z)
            refine ⟨_, rfl, _, rfl, y, rfl, x, -y, rfl, rfl, by show 0 ≤ -y; omega, _, rfl, y, rfl, _, -y, rfl, rfl, ⟨by omega, by omega, (t40_floor (y := -y) hx).abs⟩, _, rfl, rfl, _, rfl, ite2 (fun c4 => ?_) fun c4 => ?_⟩
            · have c4 : x / 2 ^ (-y).toNat * 2 ^ (-y).toNat ≠ x := by simpa using c4
              rw [if_pos (.inr c4)] at hQ
              exact hQ.pair
            · have c4 : ¬ x / 2 ^ (-y).toNat * 2 ^ (-y).toNat ≠ x := by simpa using c4
              rw [if_neg (fun z => z.elim c3 c4)] at hQ
              exact ⟨_, rfl, _, rfl, y, rfl, x, -y, rfl, rfl, by show 0 ≤ -y; omega, hQ.pair⟩
def spLOperated : Sp := fun vs H Q _ => ∃ (o : Op) (x y : Int), vs = [.str o.str, .int x, .int y] ∧ T40 x ∧ Told (opP o x y) Q H
theorem sc_law_operated : FnScope ["_law_word", "_law_x", "_law_y"] ["_law_word", "_law_x", "_law_y"] (defScope s_law_operated) := ⟨rfl, rfl, rfl, by decide +kernel, rfl, by decide +kernel, by decide +kernel⟩
theorem d_law_operated (T : Txt K mg) : Df P w K mg base CX0 2 "_law_operated" ["_law_word", "_law_x", "_law_y"] spLOperated := by
  have G_law_shifted := d_law_shifted (P := P) (w := w) (base := base) T
  refine .mk' T.f_law_operated T.g_law_operated sc_law_operated (fun _ _ _ _ _ _ us hl => match us, hl with | [_, _, _], _ => rfl) (fun vs H Q E h => ?_) (fun cdv A outer s H vs Q E hr h => ?_)
  · obtain ⟨o, x, y, rfl, _⟩ := h
    rfl
  · obtain ⟨o, x, y, rfl, hx, hQ⟩ := h
    refine ⟨_, pss_cons (ps_if (pt_cmpR op_eq (pv 0) pe_str (nomark _)) (pss_one (ps_ret (pe_tup (pa_cons pe_str (pa_cons (pe_op op_add (pv 1) (pv 2)) pa_nil))))) pss_nil)
      (pss_cons (ps_if (pt_cmpR op_eq (pv 0) pe_str (nomark _)) (pss_one (ps_ret (pe_tup (pa_cons pe_str (pa_cons (pe_op op_sub (pv 1) (pv 2)) pa_nil))))) pss_nil)
      (pss_cons (ps_if (pt_cmpR op_eq (pv 0) pe_str (nomark _)) (pss_one (ps_ret (pe_tup (pa_cons pe_str (pa_cons (pe_op op_mul (pv 1) (pv 2)) pa_nil))))) pss_nil)
      (pss_cons (ps_if (pt_cmpR op_eq (pv 0) pe_str (nomark _)) (pss_one (ps_ret (pe_cl G_law_shifted hr pass0 (pa_cons (pv 1) (pa_cons (pv 2) pa_nil))))) pss_nil)
      (pss_cons (ps_if (pt_cmpR op_lt (pv 2) pe_int (nomark _)) (pss_one (ps_ret (pe_tup (pa_cons pe_str (pa_cons pe_int pa_nil))))) pss_nil)
      (pss_one (ps_ret (pe_tup (pa_cons pe_str (pa_cons (pe_op op_shr (pv 1) (pe_callB (call_min2 rfl) (by rfl) T.n_min (by decide +kernel) (pa_cons (pv 2) (pa_cons pe_int pa_nil)))) pa_nil))))))))), ?_⟩
    refine ⟨_, rfl, rfl, _, rfl, ?_⟩
    cases o with
    | add => exact yes_s ⟨_, rfl, _, rfl, x, y, rfl, rfl, Told.pair (r := .v (x + y)) hQ⟩
    | sub => exact no_s ⟨_, rfl, rfl, _, rfl, yes_s ⟨_, rfl, _, rfl, x, y, rfl, rfl, Told.pair (r := .v (x - y)) hQ⟩⟩
    | mul => exact no_s ⟨_, rfl, rfl, _, rfl, no_s ⟨_, rfl, rfl, _, rfl, yes_s ⟨_, rfl, _, rfl, x, y, rfl, rfl, hx.mul, Told.pair (r := .v (x * y)) hQ⟩⟩⟩
    | up => exact no_s ⟨_, rfl, rfl, _, rfl, no_s ⟨_, rfl, rfl, _, rfl, no_s ⟨_, rfl, rfl, _, rfl, yes_s ⟨_, rfl, _, rfl, x, y, rfl, hx, hQ⟩⟩⟩⟩
    | down =>
      have hQ : Told (if y < 0 then .refused else .v (x / 2 ^ (if y < 60 then y else 60).toNat)) Q H := hQ
      refine no_s ⟨_, rfl, rfl, _, rfl, no_s ⟨_, rfl, rfl, _, rfl, no_s ⟨_, rfl, rfl, _, rfl, no_s ⟨_, rfl, _, _, rfl, rfl, _, rfl, ite2 (fun c => ?_) fun c => ?_⟩⟩⟩⟩
      · have c : y < 0 := of_decide_eq_true c
        rw [if_pos c] at hQ
        exact hQ.pair
      · have c : ¬ y < 0 := fun z => c (decide_eq_true z)
        rw [if_neg c] at hQ
        have e : (if (60 : Int) < y then (60 : Int) else y) = if y < 60 then y else 60 := by split <;> split <;> omega
        rw [← e] at hQ
        exact ⟨_, rfl, _, rfl, y, 60, rfl, x, _, rfl, rfl, by show 0 ≤ if (60 : Int) < y then (60 : Int) else y; split <;> omega, hQ.pair⟩
end
end Sr
set_option Elab.async false
set_option linter.all false
set_option maxRecDepth 100000
set_option maxHeartbeats 4000000
/-! The law's own: called -/
namespace Sr
open PySem PySem.Spec PyProof.Rows L2
theorem lenF_abs (x : Int) : ((Builtin.Int.intBits (if x < 0 then -x else x) : Nat) : Int) = lenF x := by
  unfold lenF
  have h : (if x < 0 then -x else x).natAbs = x.natAbs := by split <;> omega
  have h1 : Builtin.Int.intBits (if x < 0 then -x else x) ≤ Builtin.Int.intBits x := intBits_le_iff.mpr (by rw [h]; exact intBits_le_iff.mp (Nat.le_refl _))
  have h2 : Builtin.Int.intBits x ≤ Builtin.Int.intBits (if x < 0 then -x else x) := intBits_le_iff.mpr (by rw [← h]; exact intBits_le_iff.mp (Nat.le_refl _))
  omega
section
variable {P : Program} {w : World} {K : PySem.W.Frag} {mg : Str → Option Value} {base : Heap}
def spLCalled : Sp := fun vs H Q _ => ∃ (f : Fn) (L : Addr) (x y : Int), vs = [.str f.str, .ref L] ∧ H L = some (.lst (if f.two = true then [.int x, .int y] else [.int x])) ∧ T40 x ∧ Told (fnP f x y) Q H
theorem sc_law_called : FnScope ["_law_word", "_law_args", "_law_x", "_law_low"] ["_law_word", "_law_args"] (defScope s_law_called) := ⟨rfl, rfl, rfl, by decide +kernel, rfl, by decide +kernel, by decide +kernel⟩
theorem d_law_called (T : Txt K mg) : Df P w K mg base CX0 1 "_law_called" ["_law_word", "_law_args"] spLCalled := by
  refine .mk' T.f_law_called T.g_law_called sc_law_called (fun _ _ _ _ _ _ us hl => match us, hl with | [_, _], _ => rfl) (fun vs H Q E h => ?_) (fun cdv A outer s H vs Q E hr h => ?_)
  · obtain ⟨f, L, x, y, rfl, _⟩ := h
    rfl
  · obtain ⟨f, L, x, y, rfl, hL, hx, hQ⟩ := h
    refine ⟨_, pss_cons (ps_set (i := 2) sc_law_called.nd rfl (.inl rfl) (pe_ix ix_list (pv 1) pe_int (fun _ _ => rfl)))
      (pss_cons (ps_if (pt_cmpR op_eq (pv 0) pe_str (nomark _)) (pss_cons (ps_if (pt_not (pt_chain op_le op_le pe_int (pe_ix ix_list (pv 1) pe_int (fun _ _ => rfl)) pe_int)) (pss_one (ps_ret (pe_tup (pa_cons pe_str (pa_cons pe_int pa_nil))))) pss_nil)
        (pss_one (ps_ret (pe_tup (pa_cons pe_str (pa_cons (pe_op op_mod (pe_callTy call_int1 (by rfl) T.n_int (by decide +kernel) (pa_cons (pv 2) pa_nil)) (pe_ix ix_list (pv 1) pe_int (fun _ _ => rfl))) pa_nil)))))) pss_nil)
      (pss_cons (ps_if (pt_cmpR op_eq (pv 0) pe_str (nomark _)) (pss_cons (ps_if (pt_cmpR op_lt (pe_ix ix_list (pv 1) pe_int (fun _ _ => rfl)) pe_int (nomark _)) (pss_one (ps_ret (pe_tup (pa_cons pe_str (pa_cons pe_int pa_nil))))) pss_nil)
        (pss_cons (ps_if (pt_cmpR op_gt (pe_ix ix_list (pv 1) pe_int (fun _ _ => rfl)) pe_int (nomark _)) (pss_one (ps_ret (pe_tup (pa_cons pe_str (pa_cons (pe_callTy call_int1 (by rfl) T.n_int (by decide +kernel) (pa_cons (pe_cmpR op_lt (pv 2) pe_int (nomark _)) pa_nil)) pa_nil))))) pss_nil)
        (pss_one (ps_ret (pe_tup (pa_cons pe_str (pa_cons (pe_op op_mod (pe_callTy call_int1 (by rfl) T.n_int (by decide +kernel) (pa_cons (pe_op op_shr (pv 2) (pe_ix ix_list (pv 1) pe_int (fun _ _ => rfl))) pa_nil)) pe_int) pa_nil))))))) pss_nil)
      (pss_cons (ps_if (pt_cmpR op_eq (pv 0) pe_str (nomark _)) (pss_one (ps_ret (pe_tup (pa_cons pe_str (pa_cons (pe_bits (pe_callB call_abs (by rfl) T.n_abs (by decide +kernel) (pa_cons (pv 2) pa_nil))) pa_nil))))) pss_nil)
      (pss_cons (ps_if (pt_cmpR op_eq (pv 0) pe_str (nomark _)) (pss_cons (ps_if (pt_cmpR op_eq (pv 2) pe_int (nomark _)) (pss_one (ps_ret (pe_tup (pa_cons pe_str (pa_cons pe_int pa_nil))))) pss_nil)
        (pss_cons (ps_set (i := 3) sc_law_called.nd rfl (.inl rfl) pe_int)
        (pss_cons (ps_while (passes_of rfl) (pt_cmpR op_eq (pe_op op_mod (pe_callTy call_int1 (by rfl) T.n_int (by decide +kernel) (pa_cons (pv 2) pa_nil)) pe_int) pe_int (nomark _)) (pss_cons (ps_set (i := 2) sc_law_called.nd rfl (.inl rfl) (pe_op op_fdiv (pv 2) pe_int))
          (pss_one (ps_set (i := 3) sc_law_called.nd rfl (.inl rfl) (pe_op op_add (pv 3) pe_int)))))
        (pss_one (ps_ret (pe_tup (pa_cons pe_str (pa_cons (pv 3) pa_nil)))))))) pss_nil)
      (pss_cons (ps_if (pt_cmpR op_eq (pv 0) pe_str (nomark _)) (pss_one (ps_ret (pe_tup (pa_cons pe_str (pa_cons (pe_callB call_abs (by rfl) T.n_abs (by decide +kernel) (pa_cons (pv 2) pa_nil)) pa_nil))))) pss_nil)
      (pss_cons (ps_if (PW.pt (pw_or (pt_cmpR op_eq (pv 0) pe_str (nomark _)) (pw_or1 (pt_cmpR op_eq (pv 0) pe_str (nomark _))))) (pss_one (ps_ret (pe_tup (pa_cons pe_str (pa_cons (pe_ix ix_list (pe_lst (pa_cons (pe_callB (cr_max rfl) (by rfl) T.n_max (by decide +kernel) (pa_cons (pv 1) pa_nil)) (pa_cons (pe_callB (cr_min rfl) (by rfl) T.n_min (by decide +kernel) (pa_cons (pv 1) pa_nil)) pa_nil))) (pe_callTy call_int1 (by rfl) T.n_int (by decide +kernel) (pa_cons (pe_cmpR op_eq (pv 0) pe_str (nomark _)) pa_nil)) (fun _ _ => rfl)) pa_nil))))) pss_nil)
      (pss_cons (ps_if (pt_not (pt_chain op_le op_le pe_int (pv 2) pe_int)) (pss_one (ps_ret (pe_tup (pa_cons pe_str (pa_cons pe_int pa_nil))))) pss_nil)
      (pss_one (ps_ret (pe_ix ix_list (pe_lst (pa_cons (pe_tup (pa_cons pe_str (pa_cons pe_int pa_nil))) (pa_cons (pe_tup (pa_cons pe_str (pa_cons pe_int pa_nil))) (pa_cons (pe_tup (pa_cons pe_str (pa_cons pe_int pa_nil))) (pa_cons (pe_tup (pa_cons pe_str (pa_cons pe_int pa_nil))) (pa_cons (pe_tup (pa_cons pe_str (pa_cons pe_int pa_nil))) (pa_cons (pe_tup (pa_cons pe_str (pa_cons pe_int pa_nil))) pa_nil))))))) (pe_callB (call_min2 rfl) (by rfl) T.n_min (by decide +kernel) (pa_cons (pv 2) (pa_cons pe_int pa_nil))) (fun _ _ => rfl))))))))))), ?_⟩
    have i0 : atI (if f.two = true then [V.int x, V.int y] else [V.int x]) ((0 : Nat) : Int) = some (.int x) := by
      cases f.two with
      | true => exact atI_nat (j := 0) rfl
      | false => exact atI_nat (j := 0) rfl
    refine ⟨_, rfl, L, _, _, _, rfl, rfl, .inl (.inl hL), i0, _, rfl, rfl, _, rfl, ?_⟩
    cases f with
    | rem =>
      have hL : H L = some (.lst [.int x, .int y]) := hL
      have hQ : Told (if 1 ≤ y ∧ y ≤ 10000 then .v (x % y) else .refused) Q H := hQ
      refine yes_s ⟨_, rfl, L, _, _, _, rfl, rfl, .inl (.inl hL), atI_nat (j := 1) rfl, 1, y, rfl, rfl, _, rfl, ?_⟩
      by_cases c1 : 1 ≤ y
      · have b1 : decide ((1 : Int) ≤ y) = true := decide_eq_true c1
        rw [b1]
        refine iteT ⟨y, 10000, rfl, rfl, _, rfl, ?_⟩
        by_cases c2 : y ≤ 10000
        · have b2 : decide (y ≤ (10000 : Int)) = true := decide_eq_true c2
          rw [b2]
          rw [if_pos ⟨c1, c2⟩] at hQ
          exact iteF ⟨_, rfl, .inl ⟨x, rfl, _, rfl, L, _, _, _, rfl, rfl, .inl (.inl hL), atI_nat (j := 1) rfl, x, y, rfl, rfl, by show 0 < y; omega, hQ.pair⟩⟩
        · have b2 : decide (y ≤ (10000 : Int)) = false := decide_eq_false c2
          rw [b2]
          rw [if_neg (fun z => c2 z.2)] at hQ
          exact iteT hQ.pair
      · have b1 : decide ((1 : Int) ≤ y) = false := decide_eq_false c1
        rw [b1]
        rw [if_neg (fun z => c1 z.1)] at hQ
        exact iteF ⟨_, rfl, iteT hQ.pair⟩
    | bit =>
      have hL : H L = some (.lst [.int x, .int y]) := hL
      have hQ : Told (if y < 0 then .refused else if 60 < y then .v (if x < 0 then 1 else 0) else .v (x / 2 ^ y.toNat % 2)) Q H := hQ
      refine no_s ⟨_, rfl, rfl, _, rfl, yes_s ⟨_, rfl, L, _, _, _, rfl, rfl, .inl (.inl hL), atI_nat (j := 1) rfl, _, _, rfl, rfl, _, rfl, ite2 (fun c => ?_) fun c => ?_⟩⟩
      · have c : y < 0 := of_decide_eq_true c
        rw [if_pos c] at hQ
        exact hQ.pair
      · have c : ¬ y < 0 := fun z => c (decide_eq_true z)
        rw [if_neg c] at hQ
        refine ⟨_, rfl, L, _, _, _, rfl, rfl, .inl (.inl hL), atI_nat (j := 1) rfl, _, _, rfl, rfl, _, rfl, ite2 (fun c2 => ?_) fun c2 => ?_⟩
        · have c2 : 60 < y := of_decide_eq_true c2
          rw [if_pos c2] at hQ
          refine ⟨_, rfl, _, _, rfl, rfl, .inr ⟨_, rfl, ?_⟩⟩
          have e : (if decide (x < 0) = true then (1 : Int) else 0) = if x < 0 then 1 else 0 := by
            by_cases z : x < 0
            · rw [decide_eq_true z, if_pos z]; rfl
            · rw [decide_eq_false z, if_neg z]; rfl
          rw [e]
          exact hQ.pair
        · have c2 : ¬ 60 < y := fun z => c2 (decide_eq_true z)
          rw [if_neg c2] at hQ
          exact ⟨_, rfl, _, rfl, L, _, _, _, rfl, rfl, .inl (.inl hL), atI_nat (j := 1) rfl, x, y, rfl, rfl, by show 0 ≤ y; omega, .inl ⟨_, rfl, _, 2, rfl, rfl, pos2, hQ.pair⟩⟩
    | len =>
      have hQ : Told (.v (lenF x)) Q H := hQ
      refine no_s ⟨_, rfl, rfl, _, rfl, no_s ⟨_, rfl, rfl, _, rfl, yes_s ⟨_, rfl, x, rfl, _, rfl, ?_⟩⟩⟩
      rw [← lenF_abs] at hQ
      exact hQ.pair
    | low =>
      have hQ : Told (if x = 0 then .missing else .v (lowP x)) Q H := hQ
      refine no_s ⟨_, rfl, rfl, _, rfl, no_s ⟨_, rfl, rfl, _, rfl, no_s ⟨_, rfl, rfl, _, rfl, yes_s ⟨_, rfl, rfl, _, rfl, ite2 (fun c => ?_) fun c => ?_⟩⟩⟩⟩
      · have c : x = 0 := by simpa using c
        rw [if_pos c] at hQ
        exact hQ.pair
      · have c : ¬ x = 0 := by simpa using c
        rw [if_neg c] at hQ
        refine ⟨fun n σ H' => ∃ c lo, σ = [some (.str Fn.low.str), some (.ref L), some (.int c), some (.int lo)] ∧ H' = H ∧ c ≠ 0 ∧ 0 ≤ lo ∧ x = p2 lo * c ∧ n = c.natAbs, ⟨x.natAbs, x, 0, rfl, rfl, c, Int.le_refl _, by rw [p2_zero]; omega, rfl⟩, ?_⟩
        rintro n σ H' ⟨c, lo, rfl, rfl, c0, l0, hxc, rfl⟩
        refine ⟨_, rfl, .inl ⟨c, rfl, c, 2, rfl, rfl, pos2, rfl, _, rfl, ite2 (fun c2 => ?_) fun c2 => ?_⟩⟩
        · have c2 : c % 2 = 0 := by simpa using c2
          refine ⟨_, fun σ' H' h => h, ?_⟩
          refine ⟨_, rfl, c, 2, rfl, rfl, div2, _, rfl, lo, 1, rfl, rfl, (c / 2).natAbs, by omega, c / 2, lo + 1, rfl, rfl, by omega, by omega, ?_, rfl⟩
          rw [p2_succ l0, hxc]
          have e : c = 2 * (c / 2) := by omega
          generalize c / 2 = d at e
          rw [e, Int.mul_left_comm, Int.mul_assoc]
        · have c2 : c % 2 = 1 := by
            have c2 : ¬ c % 2 = 0 := by simpa using c2
            omega
          have e := low_is l0 hxc c2
          rw [e] at hQ
          exact ⟨_, rfl, hQ.pair⟩
    | tower =>
      have hQ : Told (if 0 ≤ x ∧ x ≤ 40 then (if x = 0 then .v 1 else if x = 1 then .v 2 else if x = 2 then .v 4 else if x = 3 then .v 16 else if x = 4 then .v 65536 else .great) else .refused) Q H := hQ
      refine no_s ⟨_, rfl, rfl, _, rfl, no_s ⟨_, rfl, rfl, _, rfl, no_s ⟨_, rfl, rfl, _, rfl, no_s ⟨_, rfl, rfl, _, rfl, no_s ⟨_, rfl, rfl, _, rfl, no_s ⟨_, rfl, rfl, _, rfl, no_s ⟨_, rfl, 0, x, rfl, rfl, _, rfl, ?_⟩⟩⟩⟩⟩⟩⟩
      by_cases c1 : 0 ≤ x
      · have b1 : decide ((0 : Int) ≤ x) = true := decide_eq_true c1
        rw [b1]
        refine iteT ⟨x, 40, rfl, rfl, _, rfl, ?_⟩
        by_cases c2 : x ≤ 40
        · have b2 : decide (x ≤ (40 : Int)) = true := decide_eq_true c2
          rw [b2]
          rw [if_pos ⟨c1, c2⟩] at hQ
          refine iteF ?_
          refine ⟨le2, fun p0 h0 => ⟨le2, fun p1 h1 => ⟨le2, fun p2 h2 => ⟨le2, fun p3 h3 => ⟨le2, fun p4 h4 => ⟨le2, fun p5 h5 => ⟨small16 (by show 6 ≤ 4000; omega), fun l hl => ?_⟩⟩⟩⟩⟩⟩⟩
          have s0 := same_new (o := .tup [.str "value", .int 1]) h0
          have s1 := same_new (o := .tup [.str "value", .int 2]) h1
          have s2 := same_new (o := .tup [.str "value", .int 4]) h2
          have s3 := same_new (o := .tup [.str "value", .int 16]) h3
          have s4 := same_new (o := .tup [.str "value", .int 65536]) h4
          have s5 := same_new (o := .tup [.str "great", .int 0]) h5
          have s6 := same_new (o := .lst [.ref p0, .ref p1, .ref p2, .ref p3, .ref p4, .ref p5]) hl
          have sA := (((((s0.trans s1).trans s2).trans s3).trans s4).trans s5).trans s6
          refine ⟨_, rfl, x, 5, rfl, ?_⟩
          have fin : ∀ (i : Nat) (p : Addr) (r : R), (if (5 : Int) < x then (5 : Int) else x) = i → ([V.ref p0, .ref p1, .ref p2, .ref p3, .ref p4, .ref p5] : List V)[i]? = some (.ref p) →
              (upd (upd (upd (upd (upd (upd (upd H p0 (.tup [.str "value", .int 1])) p1 (.tup [.str "value", .int 2])) p2 (.tup [.str "value", .int 4])) p3 (.tup [.str "value", .int 16])) p4 (.tup [.str "value", .int 65536])) p5 (.tup [.str "great", .int 0])) l (.lst [.ref p0, .ref p1, .ref p2, .ref p3, .ref p4, .ref p5])) p = some (.tup [.str r.wd, .int r.nm]) → Told r Q H →
              rIxL K (.ref l) (.int (if (5 : Int) < x then (5 : Int) else x)) (upd (upd (upd (upd (upd (upd (upd H p0 (.tup [.str "value", .int 1])) p1 (.tup [.str "value", .int 2])) p2 (.tup [.str "value", .int 4])) p3 (.tup [.str "value", .int 16])) p4 (.tup [.str "value", .int 65536])) p5 (.tup [.str "great", .int 0])) l (.lst [.ref p0, .ref p1, .ref p2, .ref p3, .ref p4, .ref p5])) Q := fun i p r e1 e2 e3 e4 =>
            ⟨l, _, _, .ref p, rfl, rfl, .inl (.inl upd_same), atI_eq e1 e2, e4 _ p sA e3⟩
          by_cases x0 : x = 0
          · rw [if_pos x0] at hQ
            exact fin 0 p0 (.v 1) (by rw [x0]; rfl) rfl (s6 _ _ (s5 _ _ (s4 _ _ (s3 _ _ (s2 _ _ (s1 _ _ upd_same)))))) hQ
          · rw [if_neg x0] at hQ
            by_cases x1 : x = 1
            · rw [if_pos x1] at hQ
              exact fin 1 p1 (.v 2) (by rw [x1]; rfl) rfl (s6 _ _ (s5 _ _ (s4 _ _ (s3 _ _ (s2 _ _ upd_same))))) hQ
            · rw [if_neg x1] at hQ
              by_cases x2 : x = 2
              · rw [if_pos x2] at hQ
                exact fin 2 p2 (.v 4) (by rw [x2]; rfl) rfl (s6 _ _ (s5 _ _ (s4 _ _ (s3 _ _ upd_same)))) hQ
              · rw [if_neg x2] at hQ
                by_cases x3 : x = 3
                · rw [if_pos x3] at hQ
                  exact fin 3 p3 (.v 16) (by rw [x3]; rfl) rfl (s6 _ _ (s5 _ _ (s4 _ _ upd_same))) hQ
                · rw [if_neg x3] at hQ
                  by_cases x4 : x = 4
                  · rw [if_pos x4] at hQ
                    exact fin 4 p4 (.v 65536) (by rw [x4]; rfl) rfl (s6 _ _ (s5 _ _ upd_same)) hQ
                  · rw [if_neg x4] at hQ
                    exact fin 5 p5 .great (by split <;> omega) rfl (s6 _ _ upd_same) hQ
        · have b2 : decide (x ≤ (40 : Int)) = false := decide_eq_false c2
          rw [b2]
          rw [if_neg (fun z => c2 z.2)] at hQ
          exact iteT hQ.pair
      · have b1 : decide ((0 : Int) ≤ x) = false := decide_eq_false c1
        rw [b1]
        rw [if_neg (fun z => c1 z.1)] at hQ
        exact iteF ⟨_, rfl, iteT hQ.pair⟩
    | abs =>
      have hQ : Told (.v (absI x)) Q H := hQ
      exact no_s ⟨_, rfl, rfl, _, rfl, no_s ⟨_, rfl, rfl, _, rfl, no_s ⟨_, rfl, rfl, _, rfl, no_s ⟨_, rfl, rfl, _, rfl, yes_s ⟨_, rfl, x, rfl, hQ.pair⟩⟩⟩⟩⟩
    | min =>
      have hL : H L = some (.lst ([x, y].map V.int)) := hL
      have hQ : Told (.v (if y < x then y else x)) Q H := hQ
      refine no_s ⟨_, rfl, rfl, _, rfl, no_s ⟨_, rfl, rfl, _, rfl, no_s ⟨_, rfl, rfl, _, rfl, no_s ⟨_, rfl, rfl, _, rfl, no_s ⟨_, rfl, rfl, _, rfl, yes_s (iteT ?_)⟩⟩⟩⟩⟩
      refine ⟨_, rfl, L, [x, y], rfl, .inl (.inl hL), Nat.succ_pos _, fun m1 hm1 hle1 => ⟨_, rfl, L, [x, y], rfl, .inl (.inl hL), Nat.succ_pos _, fun m2 hm2 hle2 => ⟨le2, fun p hp => ?_⟩⟩⟩
      refine ⟨_, rfl, rfl, .inr ⟨_, rfl, p, _, _, .int m2, rfl, rfl, .inl (.inl upd_same), atI_eq (j := 1) (by decide +kernel) rfl, ?_⟩⟩
      have e : m2 = if y < x then y else x := by
        have a := hle2 x (by simp)
        have b := hle2 y (by simp)
        have c : m2 = x ∨ m2 = y := by simpa using hm2
        split <;> omega
      rw [e]
      exact (hQ.same (same_new hp)).pair
    | max =>
      have hL : H L = some (.lst ([x, y].map V.int)) := hL
      have hQ : Told (.v (if x < y then y else x)) Q H := hQ
      refine no_s ⟨_, rfl, rfl, _, rfl, no_s ⟨_, rfl, rfl, _, rfl, no_s ⟨_, rfl, rfl, _, rfl, no_s ⟨_, rfl, rfl, _, rfl, no_s ⟨_, rfl, rfl, _, rfl, no_s ⟨_, rfl, rfl, _, rfl, yes_s ?_⟩⟩⟩⟩⟩⟩
      refine ⟨_, rfl, L, [x, y], rfl, .inl (.inl hL), Nat.succ_pos _, fun m1 hm1 hle1 => ⟨_, rfl, L, [x, y], rfl, .inl (.inl hL), Nat.succ_pos _, fun m2 hm2 hle2 => ⟨le2, fun p hp => ?_⟩⟩⟩
      refine ⟨_, rfl, rfl, .inr ⟨_, rfl, p, _, _, .int m1, rfl, rfl, .inl (.inl upd_same), atI_eq (j := 0) (by decide +kernel) rfl, ?_⟩⟩
      have e : m1 = if x < y then y else x := by
        have a := hle1 x (by simp)
        have b := hle1 y (by simp)
        have c : m1 = x ∨ m1 = y := by simpa using hm1
        split <;> omega
      rw [e]
      exact (hQ.same (same_new hp)).pair
end
end Sr
set_option Elab.async false
set_option linter.all false
set_option maxRecDepth 100000
set_option maxHeartbeats 8000000
/-! The law's own: tree -/
namespace Sr
open PySem PySem.Spec PyProof.Rows L2
theorem Fr.txL {K : PySem.W.Frag} {d : Addr} {H H' : Hp} {ys : List V} (f : Fr d H H') (h : H d = some (.lst ys)) : Tx K H H' := fun a xs q => by
  rcases q with (q | ⟨ob, q⟩) | q
  · refine .inl (.inl (f a _ (fun z => ?_) q))
    rw [z, h] at q; cases q
  · refine .inl (.inr ⟨ob, f a _ (fun z => ?_) q⟩)
    rw [z, h] at q; cases q
  · exact .inr q
theorem Fr.new {d p : Addr} {H : Hp} {o : HO} (h : H p = none) : Fr d H (upd H p o) := Fr.of (same_new h)
theorem RowAt.fr {S L : Addr} {H H' : Hp} (r : RowAt H L) (f : Fr S H H') (ne : L ≠ S) : RowAt H' L := let ⟨row, h1, h2⟩ := r; ⟨row, f _ _ ne h1, h2⟩
theorem four {a b c d k : Int} (h0 : 0 ≤ k) (h1 : k < 4) : ∃ z, atI [V.int a, .int b, .int c, .int d] k = some (.int z) := by
  have : k = 0 ∨ k = 1 ∨ k = 2 ∨ k = 3 := by omega
  rcases this with e | e | e | e
  · exact ⟨a, atI_eq (j := 0) e rfl⟩
  · exact ⟨b, atI_eq (j := 1) e rfl⟩
  · exact ⟨c, atI_eq (j := 2) e rfl⟩
  · exact ⟨d, atI_eq (j := 3) e rfl⟩
theorem opAt {k : Int} (h0 : 0 ≤ k) (h1 : k < 7) : ∃ o : Op, atI [V.str "add", .str "sub", .str "mul", .str "add", .str "sub", .str "up", .str "down"] k = some (.str o.str) := by
  have : k = 0 ∨ k = 1 ∨ k = 2 ∨ k = 3 ∨ k = 4 ∨ k = 5 ∨ k = 6 := by omega
  rcases this with e | e | e | e | e | e | e
  · exact ⟨.add, atI_eq (j := 0) e rfl⟩
  · exact ⟨.sub, atI_eq (j := 1) e rfl⟩
  · exact ⟨.mul, atI_eq (j := 2) e rfl⟩
  · exact ⟨.add, atI_eq (j := 3) e rfl⟩
  · exact ⟨.sub, atI_eq (j := 4) e rfl⟩
  · exact ⟨.up, atI_eq (j := 5) e rfl⟩
  · exact ⟨.down, atI_eq (j := 6) e rfl⟩
theorem fnAt {k : Int} (h0 : 0 ≤ k) (h1 : k < 8) : ∃ f : Fn, atI [V.str "rem", .str "bit", .str "len", .str "low", .str "abs", .str "min", .str "max", .str "tower"] k = some (.str f.str) ∧
    atI [V.int 2, .int 2, .int 1, .int 1, .int 1, .int 2, .int 2, .int 1] k = some (.int (if f.two = true then 2 else 1)) := by
  have : k = 0 ∨ k = 1 ∨ k = 2 ∨ k = 3 ∨ k = 4 ∨ k = 5 ∨ k = 6 ∨ k = 7 := by omega
  rcases this with e | e | e | e | e | e | e | e
  · exact ⟨.rem, atI_eq (j := 0) e rfl, atI_eq (j := 0) e rfl⟩
  · exact ⟨.bit, atI_eq (j := 1) e rfl, atI_eq (j := 1) e rfl⟩
  · exact ⟨.len, atI_eq (j := 2) e rfl, atI_eq (j := 2) e rfl⟩
  · exact ⟨.low, atI_eq (j := 3) e rfl, atI_eq (j := 3) e rfl⟩
  · exact ⟨.abs, atI_eq (j := 4) e rfl, atI_eq (j := 4) e rfl⟩
  · exact ⟨.min, atI_eq (j := 5) e rfl, atI_eq (j := 5) e rfl⟩
  · exact ⟨.max, atI_eq (j := 6) e rfl, atI_eq (j := 6) e rfl⟩
  · exact ⟨.tower, atI_eq (j := 7) e rfl, atI_eq (j := 7) e rfl⟩
/-- where the tree's maker stands -/
structure TrAt (H : Hp) (L S Nm : Addr) (nms : List Str) : Prop where
  row : RowAt H L
  nL : L ≠ S
  nN : Nm ≠ S
  st : ∃ i : Int, H S = some (.lst [.int i])
  names : H Nm = some (.lst (nms.map V.str))
  some_ : 0 < nms.length
  few : nms.length ≤ 4
theorem TrAt.fr {H H' : Hp} {L S Nm : Addr} {nms : List Str} (t : TrAt H L S Nm nms) (f : Fr S H H') (h : ∃ i : Int, H' S = some (.lst [.int i])) : TrAt H' L S Nm nms := ⟨t.row.fr f t.nL, t.nL, t.nN, h, f _ _ t.nN t.names, t.some_, t.few⟩
section
variable {P : Program} {w : World} {K : PySem.W.Frag} {mg : Str → Option Value} {base : Heap}
def spLTree (K : PySem.W.Frag) (n : Nat) : Sp := fun vs H Q _ => ∃ (L S Nm : Addr) (d : Int) (nms : List Str), vs = [.ref L, .ref S, .int d, .ref Nm] ∧ TrAt H L S Nm nms ∧ 0 ≤ d ∧ d < n ∧ ∀ H' v t, Fr S H H' → (∃ i : Int, H' S = some (.lst [.int i])) → IsT K H' v t → (t.ht : Int) ≤ d → Q v H'
theorem sc_law_tree : FnScope ["_law_row_here", "_law_state", "_law_depth", "_law_names_here", "_law_number", "_law_kind", "_law_word", "_law_first", "_law_many", "_law_args", "_law_k"] ["_law_row_here", "_law_state", "_law_depth", "_law_names_here"] (defScope s_law_tree) := ⟨rfl, rfl, rfl, by decide +kernel, rfl, by decide +kernel, by decide +kernel⟩
theorem d_law_tree (T : Txt K mg) : ∀ n, Df P w K mg base CX0 (n + 3) "_law_tree" ["_law_row_here", "_law_state", "_law_depth", "_law_names_here"] (spLTree K n)
  | 0 => by
    refine .mk' T.f_law_tree T.g_law_tree sc_law_tree (fun _ _ _ _ _ _ us hl => match us, hl with | [_, _, _, _], _ => rfl) (fun vs H Q E h => ?_) (fun cdv A outer s H vs Q E hr h => ?_)
    · obtain ⟨L, S, Nm, d, nms, rfl, _⟩ := h
      rfl
    · obtain ⟨L, S, Nm, d, nms, rfl, _, h1, h2, _⟩ := h
      have h2 : d < 0 := h2
      omega
  | n + 1 => by
    have G_law_next := (d_law_next (P := P) (w := w) (base := base) T).mono (show 2 ≤ n + 3 by omega)
    have G_law_tree := d_law_tree T n
    refine .mk' T.f_law_tree T.g_law_tree sc_law_tree (fun _ _ _ _ _ _ us hl => match us, hl with | [_, _, _, _], _ => rfl) (fun vs H Q E h => ?_) (fun cdv A outer s H vs Q E hr h => ?_)
    · obtain ⟨L, S, Nm, d, nms, rfl, _⟩ := h
      rfl
    · obtain ⟨L, S, Nm, d, nms, rfl, ta, d0, dn, hQ⟩ := h
      refine ⟨_, pss_cons (ps_set (i := 4) sc_law_tree.nd rfl (.inl rfl) (pe_cl G_law_next hr pass0 (pa_cons (pv 0) (pa_cons (pv 1) pa_nil))))
        (pss_cons (ps_set (i := 5) sc_law_tree.nd rfl (.inl rfl) (pe_op op_mod (pv 4) pe_int))
        (pss_cons (ps_if (PW.pt (pw_or (pt_cmpR op_le (pv 2) pe_int (nomark _)) (pw_or1 (pt_cmpR op_lt (pv 5) pe_int (nomark _))))) (pss_cons (ps_if (PW.pt (pw_and (pt_cmpR op_gt (pe_callB call_len (by rfl) T.n_len PySem.boot_len (pa_cons (pv 3) pa_nil)) pe_int (nomark _)) (pw_and1 (pt_cmpR op_eq (pe_op op_mod (pe_op op_fdiv (pv 4) pe_int) pe_int) pe_int (nomark _))))) (pss_one (ps_ret (pe_tup (pa_cons pe_str (pa_cons (pe_ix ix_list (pv 3) (pe_op op_mod (pe_op op_fdiv (pv 4) pe_int) (pe_callB call_len (by rfl) T.n_len PySem.boot_len (pa_cons (pv 3) pa_nil))) (fun _ _ => rfl)) pa_nil))))) pss_nil)
          (pss_one (ps_ret (pe_tup (pa_cons pe_str (pa_cons (pe_ix ix_list (pe_lst (pa_cons (pe_op op_mod (pe_op op_fdiv (pv 4) pe_int) pe_int) (pa_cons (pe_op op_fdiv (pv 4) pe_int) (pa_cons pe_int (pa_cons (pe_op op_add pe_int (pe_op op_mul pe_int (pe_op op_mod (pe_op op_fdiv (pv 4) pe_int) pe_int))) pa_nil))))) (pe_op op_mod (pe_op op_fdiv (pv 4) pe_int) pe_int) (fun _ _ => rfl)) pa_nil)))))) pss_nil)
        (pss_cons (ps_if (pt_cmpR op_lt (pv 5) pe_int (nomark _)) (pss_cons (ps_set (i := 6) sc_law_tree.nd rfl (.inl rfl) (pe_ix ix_list (pe_lst (pa_cons pe_str (pa_cons pe_str (pa_cons pe_str (pa_cons pe_str (pa_cons pe_str (pa_cons pe_str (pa_cons pe_str pa_nil)))))))) (pe_op op_sub (pv 5) pe_int) (fun _ _ => rfl)))
          (pss_cons (ps_set (i := 7) sc_law_tree.nd rfl (.inl rfl) (pe_cl G_law_tree hr pass0 (pa_cons (pv 0) (pa_cons (pv 1) (pa_cons (pe_op op_sub (pv 2) pe_int) (pa_cons (pv 3) pa_nil))))))
          (pss_one (ps_ret (pe_tup (pa_cons (pv 6) (pa_cons (pv 7) (pa_cons (pe_cl G_law_tree hr pass0 (pa_cons (pv 0) (pa_cons (pv 1) (pa_cons (pe_op op_sub (pv 2) pe_int) (pa_cons (pv 3) pa_nil))))) pa_nil)))))))) pss_nil)
        (pss_cons (ps_if (pt_cmpR op_eq (pv 5) pe_int (nomark _)) (pss_one (ps_ret (pe_tup (pa_cons pe_str (pa_cons (pe_cl G_law_tree hr pass0 (pa_cons (pv 0) (pa_cons (pv 1) (pa_cons (pe_op op_sub (pv 2) pe_int) (pa_cons (pv 3) pa_nil))))) pa_nil))))) pss_nil)
        (pss_cons (ps_if (pt_cmpR op_eq (pv 5) pe_int (nomark _)) (pss_one (ps_ret (pe_tup (pa_cons pe_str (pa_cons (pe_cl G_law_tree hr pass0 (pa_cons (pv 0) (pa_cons (pv 1) (pa_cons (pe_op op_sub (pv 2) pe_int) (pa_cons (pv 3) pa_nil))))) pa_nil))))) pss_nil)
        (pss_cons (ps_set (i := 6) sc_law_tree.nd rfl (.inl rfl) (pe_ix ix_list (pe_lst (pa_cons pe_str (pa_cons pe_str (pa_cons pe_str (pa_cons pe_str (pa_cons pe_str (pa_cons pe_str (pa_cons pe_str (pa_cons pe_str pa_nil))))))))) (pe_op op_mod (pe_op op_fdiv (pv 4) pe_int) pe_int) (fun _ _ => rfl)))
        (pss_cons (ps_set (i := 8) sc_law_tree.nd rfl (.inl rfl) (pe_ix ix_list (pe_lst (pa_cons pe_int (pa_cons pe_int (pa_cons pe_int (pa_cons pe_int (pa_cons pe_int (pa_cons pe_int (pa_cons pe_int (pa_cons pe_int pa_nil))))))))) (pe_op op_mod (pe_op op_fdiv (pv 4) pe_int) pe_int) (fun _ _ => rfl)))
        (pss_cons (ps_set (i := 9) sc_law_tree.nd rfl (.inl rfl) (pe_lst pa_nil))
        (pss_cons (ps_for (passes_of rfl) rfl (pi_range1 (by rfl) T.n_range (pa_cons (pv 8) pa_nil)) (pg_name (i := 10) sc_law_tree.nd rfl (.inl rfl)) (pss_one (ps_expr (pe_bm PySem.F.plainAttrs_list PySem.F.slot_list_append PySem.F.type_list_append mt_append (pv 9) (pa_cons (pe_cl G_law_tree hr pass0 (pa_cons (pv 0) (pa_cons (pv 1) (pa_cons (pe_op op_sub (pv 2) pe_int) (pa_cons (pv 3) pa_nil))))) pa_nil)))))
        (pss_one (ps_ret (pe_tup (pa_cons pe_str (pa_cons (pv 6) (pa_cons (pe_callTy call_tuple_of (by rfl) T.n_tuple (by decide +kernel) (pa_cons (pv 9) pa_nil)) pa_nil))))))))))))))), ?_⟩
      obtain ⟨i, hi⟩ := ta.st
      refine ⟨_, rfl, _, rfl, L, S, i, rfl, ta.row, ta.nL, hi, fun r j r0 r1 => ?_⟩
      have fr1 : Fr S H (upd H S (.lst [.int j])) := fun a o ne e => by rw [upd_ne ne]; exact e
      have ta1 := ta.fr fr1 ⟨j, upd_same⟩
      generalize hH1 : upd H S (.lst [.int j]) = H1 at fr1 ta1
      have m16 : (0 : Int) < 16 := by decide
      refine ⟨_, rfl, r, 16, rfl, rfl, m16, ?_⟩
      -- a leaf
      have frS : ∀ {H2 : Hp}, Same H1 H2 → Fr S H H2 := fun s => fr1.trans (Fr.of s)
      refine ⟨_, rfl, d, 0, rfl, rfl, _, rfl, or_go (b2 := decide (r % 16 < 3)) (fun _ => ?_) (fun h1 h2 => ?_) (fun _ h => ⟨_, rfl, _, _, rfl, rfl, _, rfl, h⟩)⟩
      · obtain ⟨i1, hi1⟩ := ta1.st
        have lenN : (nms.map V.str).length = nms.length := List.length_map _
        have hN := ta1.names
        -- the int
        have leaf : ∀ (p : Addr) (v : V), ∀ (H2 : Hp), Same H1 H2 → H2 p = none → (∃ t, (v = .int t)) → Q (.ref p) (upd H2 p (.tup [.str "int", v])) := fun p v H2 s2 hp ⟨z, e⟩ => by
          rw [e]
          exact hQ _ _ (.int z) (frS (s2.trans (same_new hp))) ⟨i1, (s2.trans (same_new hp)) _ _ hi1⟩ ⟨p, rfl, .inl (.inl upd_same)⟩ d0
        have asInt : ∀ (D : Ends) (σ : L2.St), D.rt = Q → σ[4]? = some (some (.int r)) → tRet (tTup (tCons (tC (.str "int")) (tCons (tOp (rIxL K) (tLst (tCons (tOp (rI (fun _ j => 0 < j) fun i j => .int (i % j)) (tOp (rI CDiv fun i j => .int (i / j)) (tVar 4) (tC (.int 32))) (tC (.int 10))) (tCons (tOp (rI CDiv fun i j => .int (i / j)) (tVar 4) (tC (.int 32))) (tCons (tC (.int 0)) (tCons (tOp (rI0 fun i j => .int (i + j)) (tC (.int 3)) (tOp (rI CMul fun i j => .int (i * j)) (tC (.int 2)) (tOp (rI (fun _ j => 0 < j) fun i j => .int (i % j)) (tOp (rI CDiv fun i j => .int (i / j)) (tVar 4) (tC (.int 32))) (tC (.int 14))))) tNil))))) (tOp (rI (fun _ j => 0 < j) fun i j => .int (i % j)) (tOp (rI CDiv fun i j => .int (i / j)) (tVar 4) (tC (.int 64))) (tC (.int 4)))) tNil))) D σ H1 := fun D σ eD h4 => by
          obtain ⟨z, hz⟩ := four (a := r / 32 % 10) (b := r / 32) (c := 0) (d := 3 + 2 * (r / 32 % 14)) (k := r / 64 % 4) (by omega) (by omega)
          have dv : ∀ k : Int, 0 < k → k < 1073741824 → ∀ x, CDiv x k := fun k a b x => ⟨a, b⟩
          refine ⟨_, h4, r, 32, rfl, rfl, dv _ (by decide) (by decide) _, _, 10, rfl, rfl, by show (0 : Int) < 10; decide, _, h4, r, 32, rfl, rfl, dv _ (by decide) (by decide) _, _, h4, r, 32, rfl, rfl, dv _ (by decide) (by decide) _, _, 14, rfl, rfl, by show (0 : Int) < 14; decide, 2, _, rfl, rfl, cmul2, 3, _, rfl, rfl, small16 (by show 4 ≤ 4000; omega), fun l hl => ?_⟩
          refine ⟨_, h4, r, 64, rfl, rfl, dv _ (by decide) (by decide) _, _, 4, rfl, rfl, by show (0 : Int) < 4; decide, l, _, _, _, rfl, rfl, .inl (.inl upd_same), hz, le2, fun p hp => ?_⟩
          rw [eD]
          exact leaf p _ _ (same_new hl) hp ⟨z, rfl⟩
        refine ⟨_, rfl, _, _, rfl, .inl ⟨_, .inl (.inl hN), rfl⟩, _, _, rfl, rfl, _, rfl, ite2 (fun c => ?_) fun c => iteF (asInt _ _ rfl rfl)⟩
        refine ⟨_, rfl, r, 16, rfl, rfl, ⟨by decide, by decide⟩, _, 2, rfl, rfl, pos2, rfl, _, rfl, ite2 (fun c => ?_) fun c => asInt _ _ rfl rfl⟩
        have pN := ta.some_
        have hm : r / 32 % (nms.length : Int) < nms.length := Int.emod_lt_of_pos _ (by omega)
        have hm0 : 0 ≤ r / 32 % (nms.length : Int) := Int.emod_nonneg _ (by omega)
        have hg : nms[(r / 32 % (nms.length : Int)).toNat]? = some nms[(r / 32 % (nms.length : Int)).toNat] := List.getElem?_eq_getElem (by omega)
        refine ⟨_, rfl, _, rfl, r, 32, rfl, rfl, ⟨by decide, by decide⟩, _, rfl, _, _, rfl, .inl ⟨_, .inl (.inl hN), rfl⟩, r / 32, _, rfl, rfl, by show (0 : Int) < ((nms.map V.str).length : Nat); omega, Nm, _, _, .str _, rfl, rfl, .inl (.inl hN), atI_eq (j := (r / 32 % (nms.length : Int)).toNat) (by rw [lenN]; omega) (by rw [List.getElem?_map, hg]; rfl), le2, fun p hp => ?_⟩
        exact hQ _ _ (.name _) (frS (same_new hp)) ⟨i1, same_new hp _ _ hi1⟩ ⟨p, rfl, .inl (.inl upd_same)⟩ d0
      · have h1 : ¬ d ≤ 0 := of_decide_eq_false h1
        have h2 : ¬ r % 16 < 3 := of_decide_eq_false h2
        have dn : d < ((n + 1 : Nat) : Int) := dn
        -- a call of the maker
        have rec_ : ∀ {H2 : Hp} {Q2 : VK}, Fr S H1 H2 → (∃ i : Int, H2 S = some (.lst [.int i])) → (∀ H' v t, Fr S H2 H' → (∃ i : Int, H' S = some (.lst [.int i])) → IsT K H' v t → (t.ht : Int) ≤ d - 1 → Q2 v H') → spLTree K n ([.ref L, .ref S, .int (d - 1), .ref Nm] ++ []) H2 Q2 E0 :=
          fun {H2 Q2} f h k => ⟨L, S, Nm, d - 1, nms, rfl, ta1.fr f h, by omega, by omega, k⟩
        refine ⟨_, rfl, _, _, rfl, rfl, _, rfl, ite2 (fun c => ?_) fun c => ?_⟩
        · have c : r % 16 < 10 := of_decide_eq_true c
          obtain ⟨o, ho⟩ := opAt (k := r % 16 - 3) (by omega) (by omega)
          refine ⟨small16 (by show 7 ≤ 4000; omega), fun l hl => ⟨_, rfl, _, _, rfl, rfl, l, _, _, _, rfl, rfl, .inl (.inl upd_same), ho, ?_⟩⟩
          have s1 := same_new (o := .lst [V.str "add", .str "sub", .str "mul", .str "add", .str "sub", .str "up", .str "down"]) hl
          obtain ⟨i1, hi1⟩ := ta1.st
          refine ⟨_, rfl, _, rfl, _, rfl, d, 1, rfl, rfl, _, rfl, rec_ (Fr.of s1) ⟨i1, s1 _ _ hi1⟩ fun H2 v t f2 ⟨i2, hi2⟩ ht hh => ?_⟩
          refine ⟨_, rfl, _, rfl, _, rfl, _, rfl, _, rfl, d, 1, rfl, rfl, _, rfl, rec_ ((Fr.of s1).trans f2) ⟨i2, hi2⟩ fun H3 v3 t3 f3 ⟨i3, hi3⟩ ht3 hh3 => ⟨small16 (by show 3 ≤ 4000; omega), fun p hp => ?_⟩⟩
          refine hQ _ _ (.bin o t t3) (((frS s1).trans f2).trans (f3.trans (Fr.new hp))) ⟨i3, same_new hp _ _ hi3⟩ ⟨p, v, v3, rfl, .inl (.inl upd_same), (ht.tx (f3.txL hi2)).tx (Tx.of (same_new hp)), ht3.tx (Tx.of (same_new hp))⟩ ?_
          show ((max t.ht t3.ht + 1 : Nat) : Int) ≤ d
          omega
        · refine ⟨_, rfl, rfl, _, rfl, ite2 (fun c2 => ?_) fun c2 => ?_⟩
          · obtain ⟨i1, hi1⟩ := ta1.st
            refine ⟨_, rfl, _, rfl, _, rfl, d, 1, rfl, rfl, _, rfl, rec_ (Fr.of (Same.refl _)) ⟨i1, hi1⟩ fun H2 v t f2 ⟨i2, hi2⟩ ht hh => ⟨le2, fun p hp => ?_⟩⟩
            exact hQ _ _ (.neg t) (fr1.trans (f2.trans (Fr.new hp))) ⟨i2, same_new hp _ _ hi2⟩ ⟨p, v, rfl, .inl (.inl upd_same), ht.tx (Tx.of (same_new hp))⟩ (by show ((t.ht + 1 : Nat) : Int) ≤ d; omega)
          · refine ⟨_, rfl, rfl, _, rfl, ite2 (fun c3 => ?_) fun c3 => ?_⟩
            · obtain ⟨i1, hi1⟩ := ta1.st
              refine ⟨_, rfl, _, rfl, _, rfl, d, 1, rfl, rfl, _, rfl, rec_ (Fr.of (Same.refl _)) ⟨i1, hi1⟩ fun H2 v t f2 ⟨i2, hi2⟩ ht hh => ⟨le2, fun p hp => ?_⟩⟩
              exact hQ _ _ (.pow t) (fr1.trans (f2.trans (Fr.new hp))) ⟨i2, same_new hp _ _ hi2⟩ ⟨p, v, rfl, .inl (.inl upd_same), ht.tx (Tx.of (same_new hp))⟩ (by show ((t.ht + 1 : Nat) : Int) ≤ d; omega)
            · obtain ⟨f, hf1, hf2⟩ := fnAt (k := r / 16 % 8) (by omega) (by omega)
              have m8 : (0 : Int) < 8 := by decide
              refine ⟨small16 (by show 8 ≤ 4000; omega), fun l hl => ⟨_, rfl, r, 16, rfl, rfl, ⟨by decide, by decide⟩, _, 8, rfl, rfl, m8, l, _, _, _, rfl, rfl, .inl (.inl upd_same), hf1, ?_⟩⟩
              have s1 := same_new (o := .lst [V.str "rem", .str "bit", .str "len", .str "low", .str "abs", .str "min", .str "max", .str "tower"]) hl
              generalize hH2 : upd H1 l (.lst [V.str "rem", .str "bit", .str "len", .str "low", .str "abs", .str "min", .str "max", .str "tower"]) = H2 at s1
              refine ⟨small16 (by show 8 ≤ 4000; omega), fun l2 hl2 => ⟨_, rfl, r, 16, rfl, rfl, ⟨by decide, by decide⟩, _, 8, rfl, rfl, m8, l2, _, _, _, rfl, rfl, .inl (.inl upd_same), hf2, ?_⟩⟩
              have s2 := same_new (o := .lst [V.int 2, .int 2, .int 1, .int 1, .int 1, .int 2, .int 2, .int 1]) hl2
              generalize hH3 : upd H2 l2 (.lst [V.int 2, .int 2, .int 1, .int 1, .int 1, .int 2, .int 2, .int 1]) = H3 at s2
              refine ⟨Nat.zero_le _, fun A hA => ?_⟩
              have s3 := (s1.trans s2).trans (same_new (o := .lst []) hA)
              obtain ⟨i1, hi1⟩ := ta1.st
              have nA : H1 A = none := Same.none (s1.trans s2) hA
              have nSA : A ≠ S := fun z => by rw [z, hi1] at nA; cases nA
              refine ⟨_, rfl, (if f.two = true then 2 else 1), rfl, by split <;> decide, by split <;> decide, for_range (fun k σ H' => ∃ y7 y10, σ = [some (.ref L), some (.ref S), some (.int d), some (.ref Nm), some (.int r), some (.int (r % 16)), some (.str f.str), y7, some (.int (if f.two = true then 2 else 1)), some (.ref A), y10] ∧ Fr S H1 H' ∧ (∃ i : Int, H' S = some (.lst [.int i])) ∧ match k with
                | 0 => H' A = some (.lst [])
                | 1 => ∃ u t, H' A = some (.lst [u]) ∧ IsT K H' u t ∧ (t.ht : Int) ≤ d - 1
                | _ => ∃ u t u2 t2, H' A = some (.lst [u, u2]) ∧ IsT K H' u t ∧ (t.ht : Int) ≤ d - 1 ∧ IsT K H' u2 t2 ∧ (t2.ht : Int) ≤ d - 1) ⟨_, _, rfl, Fr.of s3, ⟨i1, s3 _ _ hi1⟩, upd_same⟩ ?_ ?_⟩
              · rintro k σ H4 hk ⟨y7, y10, rfl, f4, ⟨i4, hi4⟩, hp⟩
                have hk2 : k < 2 := by
                  have : (if f.two = true then (2 : Int) else 1).toNat ≤ 2 := by split <;> decide
                  omega
                have setFr : ∀ {H5 : Hp} {us : List V} {o : HO}, Fr S H1 H5 → H5 A = some (.lst us) → Fr S H1 (upd H5 A o) := fun {H5 us o} f5 h5 a u ne e => by
                  rw [upd_ne (ne_of_none e nA)]; exact f5 a u ne e
                match k, hk2 with
                | 0, _ =>
                  have hp : H4 A = some (.lst []) := hp
                  refine ⟨_, rfl, .inl ⟨rfl, _, .inl (.inl hp)⟩, _, rfl, _, rfl, _, rfl, d, 1, rfl, rfl, _, rfl, rec_ f4 ⟨i4, hi4⟩ fun H5 v t f5 ⟨i5, hi5⟩ ht hh => ⟨A, [], v, rfl, rfl, f5 _ _ nSA hp, small1000 (Nat.zero_le _), ?_⟩⟩
                  have h5A := f5 _ _ nSA hp
                  exact ⟨_, _, rfl, setFr (f4.trans f5) h5A, ⟨i5, by rw [upd_ne nSA.symm]; exact hi5⟩, v, t, upd_same, ht.tx (Tx.set h5A trivial), hh⟩
                | 1, _ =>
                  obtain ⟨u, tu, hp, hu, hhu⟩ := hp
                  refine ⟨_, rfl, .inl ⟨rfl, _, .inl (.inl hp)⟩, _, rfl, _, rfl, _, rfl, d, 1, rfl, rfl, _, rfl, rec_ f4 ⟨i4, hi4⟩ fun H5 v t f5 ⟨i5, hi5⟩ ht hh => ⟨A, [u], v, rfl, rfl, f5 _ _ nSA hp, small1000 (by show 1 ≤ 1000; omega), ?_⟩⟩
                  have h5A := f5 _ _ nSA hp
                  have tx : Tx K H5 (upd H5 A (.lst ([u] ++ [v]))) := Tx.set h5A trivial
                  exact ⟨_, _, rfl, setFr (f4.trans f5) h5A, ⟨i5, by rw [upd_ne nSA.symm]; exact hi5⟩, u, tu, v, t, upd_same, (hu.tx (f5.txL hi4)).tx tx, hhu, ht.tx tx, hh⟩
              · rintro σ H4 ⟨y7, y10, rfl, f4, ⟨i4, hi4⟩, hp⟩
                cases hf : f.two with
                | true =>
                  rw [hf] at hp
                  obtain ⟨u, tu, u2, tu2, hp, hu, hhu, hu2, hhu2⟩ := hp
                  refine ⟨_, rfl, _, rfl, A, _, rfl, .inl ⟨.inl (.inl hp), fun B hB => ⟨small16 (by show 3 ≤ 4000; omega), fun p hpp => ?_⟩⟩⟩
                  have sB := (same_new (o := .tup [u, u2]) hB).trans (same_new (o := .tup [.str "call", .str f.str, .ref B]) hpp)
                  refine hQ _ _ (.fn2 f tu tu2) (fr1.trans (f4.trans (Fr.of sB))) ⟨i4, sB _ _ hi4⟩ ⟨hf, p, B, u, u2, rfl, .inl (.inl upd_same), .inl (.inl (same_new hpp _ _ upd_same)), hu.tx (Tx.of sB), hu2.tx (Tx.of sB)⟩ ?_
                  show ((max tu.ht tu2.ht + 1 : Nat) : Int) ≤ d
                  omega
                | false =>
                  rw [hf] at hp
                  obtain ⟨u, tu, hp, hu, hhu⟩ := hp
                  refine ⟨_, rfl, _, rfl, A, _, rfl, .inl ⟨.inl (.inl hp), fun B hB => ⟨small16 (by show 3 ≤ 4000; omega), fun p hpp => ?_⟩⟩⟩
                  have sB := (same_new (o := .tup [u]) hB).trans (same_new (o := .tup [.str "call", .str f.str, .ref B]) hpp)
                  refine hQ _ _ (.fn1 f tu) (fr1.trans (f4.trans (Fr.of sB))) ⟨i4, sB _ _ hi4⟩ ⟨hf, p, B, u, rfl, .inl (.inl upd_same), .inl (.inl (same_new hpp _ _ upd_same)), hu.tx (Tx.of sB)⟩ ?_
                  show ((tu.ht + 1 : Nat) : Int) ≤ d
                  omega
end
end Sr
set_option Elab.async false
set_option linter.all false
set_option maxRecDepth 100000
set_option maxHeartbeats 8000000
/-! The law's own: value -/
namespace Sr
open PySem PySem.Spec PyProof.Rows L2
/-- the dict of the known values -/
def KnownD (H : Hp) (D : Addr) (env : Str → Option Int) : Prop := ∃ kvs, H D = some (.dK kvs) ∧ ∀ s : Str, match env s with
  | some z => ∃ p, valV kvs (.inr s) = some (.ref p) ∧ H p = some (.tup [.str "value", .int z])
  | none => valV kvs (.inr s) = none
theorem KnownD.same {H H' : Hp} {D : Addr} {env : Str → Option Int} (e : KnownD H D env) (s : Same H H') : KnownD H' D env := by
  obtain ⟨kvs, h1, h2⟩ := e
  refine ⟨kvs, s _ _ h1, fun x => ?_⟩
  have q := h2 x
  cases e : env x with
  | none => rw [e] at q; exact q
  | some z =>
    rw [e] at q
    obtain ⟨p, a, b⟩ := q
    exact ⟨p, a, s _ _ b⟩
def Tr.parts : Tr → List Tr
  | .int _ => []
  | .name _ => []
  | .bin _ x y => [x, y]
  | .neg x => [x]
  | .pow x => [x]
  | .fn1 _ x => [x]
  | .fn2 _ x y => [x, y]
def Tr.word : Tr → Str
  | .int _ => "int"
  | .name _ => "name"
  | .bin o _ _ => o.str
  | .neg _ => "neg"
  | .pow _ => "pow"
  | .fn1 _ _ => "call"
  | .fn2 _ _ _ => "call"
def Tr.isCall : Tr → Bool
  | .fn1 _ _ => true
  | .fn2 _ _ _ => true
  | _ => false
/-- from the parts' values -/
def Tr.raw : Tr → List Int → R
  | .bin o _ _, [a, b] => opP o a b
  | .neg _, [a] => .v (-a)
  | .pow _, [a] => shP 1 a
  | .fn1 f _, [a] => fnP f a 0
  | .fn2 f _ _, [a, b] => fnP f a b
  | _, _ => .great
def evL (env : Str → Option Int) : List Tr → (List Int → R) → R
  | [], f => f []
  | x :: r, f => (valP env x).bind fun a => evL env r fun l => f (a :: l)
theorem val_ev {env : Str → Option Int} {t : Tr} (h : t.parts ≠ []) : valP env t = evL env t.parts fun l => whole (t.raw l) := by
  cases t with
  | int z => exact absurd rfl h
  | name s => exact absurd rfl h
  | bin o x y => rfl
  | neg x => rfl
  | pow x => rfl
  | fn1 f x => rfl
  | fn2 f x y => rfl
theorem part_ht {t u : Tr} (h : u ∈ t.parts) : u.ht < t.ht := by
  cases t with
  | int z => cases h
  | name s => cases h
  | bin o x y =>
    have h : u = x ∨ u = y := by simpa [Tr.parts] using h
    show u.ht < max x.ht y.ht + 1
    rcases h with e | e <;> subst e <;> omega
  | neg x =>
    have h : u = x := by simpa [Tr.parts] using h
    subst h; exact Nat.lt_succ_self _
  | pow x =>
    have h : u = x := by simpa [Tr.parts] using h
    subst h; exact Nat.lt_succ_self _
  | fn1 f x =>
    have h : u = x := by simpa [Tr.parts] using h
    subst h; exact Nat.lt_succ_self _
  | fn2 f x y =>
    have h : u = x ∨ u = y := by simpa [Tr.parts] using h
    show u.ht < max x.ht y.ht + 1
    rcases h with e | e <;> subst e <;> omega
theorem parts_len (t : Tr) : t.parts.length ≤ 2 := by cases t <;> simp [Tr.parts]
/-- a node of the tree, from outside -/
theorem IsT.node {K : PySem.W.Frag} {H : Hp} {v : V} {t : Tr} (h : IsT K H v t) (hp : t.parts ≠ []) : ∃ a xs, v = .ref a ∧ SqT K H a (.str t.word :: xs) ∧ 1 ≤ xs.length ∧ xs.length ≤ 2 ∧
    (t.isCall = false → Paired (IsT K H) xs t.parts) ∧ (t.isCall = true → ∃ g b us, xs = [.str g, .ref b] ∧ SqT K H b us ∧ Paired (IsT K H) us t.parts) := by
  cases t with
  | int z => exact absurd rfl hp
  | name s => exact absurd rfl hp
  | bin o x y =>
    obtain ⟨a, u1, u2, e, h1, h2, h3⟩ := h
    exact ⟨a, [u1, u2], e, h1, by show 1 ≤ 2; omega, Nat.le_refl _, fun _ => .cons h2 (.cons h3 .nil), fun z => nomatch z⟩
  | neg x =>
    obtain ⟨a, u, e, h1, h2⟩ := h
    exact ⟨a, [u], e, h1, Nat.le_refl _, by show 1 ≤ 2; omega, fun _ => .cons h2 .nil, fun z => nomatch z⟩
  | pow x =>
    obtain ⟨a, u, e, h1, h2⟩ := h
    exact ⟨a, [u], e, h1, Nat.le_refl _, by show 1 ≤ 2; omega, fun _ => .cons h2 .nil, fun z => nomatch z⟩
  | fn1 f x =>
    obtain ⟨hf, a, b, u, e, h1, h2, h3⟩ := h
    exact ⟨a, _, e, h1, by show 1 ≤ 2; omega, Nat.le_refl _, fun z => (nomatch z), fun _ => ⟨f.str, b, [u], rfl, h2, .cons h3 .nil⟩⟩
  | fn2 f x y =>
    obtain ⟨hf, a, b, u1, u2, e, h1, h2, h3, h4⟩ := h
    exact ⟨a, _, e, h1, by show 1 ≤ 2; omega, Nat.le_refl _, fun z => (nomatch z), fun _ => ⟨f.str, b, [u1, u2], rfl, h2, .cons h3 (.cons h4 .nil)⟩⟩
theorem op_word (o : Op) : decide (V.str o.str = V.str "int") = false ∧ decide (V.str o.str = V.str "name") = false ∧ decide (V.str o.str = V.str "call") = false ∧ decide (V.str o.str = V.str "neg") = false ∧ decide (V.str o.str = V.str "pow") = false := by
  cases o <;> decide +kernel
theorem word_call (t : Tr) : decide (V.str t.word = V.str "call") = t.isCall := by
  cases t with
  | bin o x y => exact (op_word o).2.2.1
  | int z => exact (by decide +kernel : decide (V.str "int" = V.str "call") = false)
  | name z => exact (by decide +kernel : decide (V.str "name" = V.str "call") = false)
  | neg z => exact (by decide +kernel : decide (V.str "neg" = V.str "call") = false)
  | pow z => exact (by decide +kernel : decide (V.str "pow" = V.str "call") = false)
  | fn1 f z => exact (by decide +kernel : decide (V.str "call" = V.str "call") = true)
  | fn2 f z y => exact (by decide +kernel : decide (V.str "call" = V.str "call") = true)
theorem word_int {t : Tr} (h : t.parts ≠ []) : decide (V.str t.word = V.str "int") = false := by
  cases t with
  | bin o x y => exact (op_word o).1
  | int z => exact absurd rfl h
  | name z => exact (by decide +kernel : decide (V.str "name" = V.str "int") = false)
  | neg z => exact (by decide +kernel : decide (V.str "neg" = V.str "int") = false)
  | pow z => exact (by decide +kernel : decide (V.str "pow" = V.str "int") = false)
  | fn1 f z => exact (by decide +kernel : decide (V.str "call" = V.str "int") = false)
  | fn2 f z y => exact (by decide +kernel : decide (V.str "call" = V.str "int") = false)
theorem word_name {t : Tr} (h : t.parts ≠ []) : decide (V.str t.word = V.str "name") = false := by
  cases t with
  | bin o x y => exact (op_word o).2.1
  | int z => exact (by decide +kernel : decide (V.str "int" = V.str "name") = false)
  | name z => exact absurd rfl h
  | neg z => exact (by decide +kernel : decide (V.str "neg" = V.str "name") = false)
  | pow z => exact (by decide +kernel : decide (V.str "pow" = V.str "name") = false)
  | fn1 f z => exact (by decide +kernel : decide (V.str "call" = V.str "name") = false)
  | fn2 f z y => exact (by decide +kernel : decide (V.str "call" = V.str "name") = false)
theorem cut_tail (x : V) (xs : List V) : cutV (x :: xs) (some 1) none = xs := by
  unfold cutV
  rw [show HT.sIx (x :: xs).length 0 (some 1) = min 1 (x :: xs).length from HT.sIx_nat (x :: xs).length 0 1, HT.sIx_none, show min 1 (x :: xs).length = 1 by rw [List.length_cons]; omega]
  show List.take ((x :: xs).length - 1) xs = xs
  rw [List.length_cons, Nat.add_sub_cancel]
  exact List.take_length
theorem evL_drop {env : Str → Option Int} {l : List Tr} {i : Nat} {u : Tr} {f : List Int → R} (h : l[i]? = some u) : evL env (l.drop i) f = (valP env u).bind fun a => evL env (l.drop (i + 1)) fun r => f (a :: r) := by
  rw [drop_at h]; rfl
theorem bind_err {r : R} {f : Int → R} (h : ∀ z, r ≠ .v z) : r.bind f = r := by
  cases r with
  | v z => exact absurd rfl (h z)
  | great => rfl
  | refused => rfl
  | missing => rfl
  | range => rfl
theorem wd_v {r : R} (h : ∀ z, r ≠ .v z) : (!decide (V.str r.wd = V.str "value")) = true := by
  cases r with
  | v z => exact absurd rfl (h z)
  | great => decide +kernel
  | refused => decide +kernel
  | missing => decide +kernel
  | range => decide +kernel
section
variable {P : Program} {w : World} {K : PySem.W.Frag} {mg : Str → Option Value} {base : Heap}
def spLValue (K : PySem.W.Frag) (n : Nat) : Sp := fun vs H Q _ => ∃ tv t D env, vs = [tv, .ref D] ∧ IsT K H tv t ∧ t.ht < n ∧ KnownD H D env ∧ (∀ s z, env s = some z → T40 z) ∧ Told (valP env t) Q H
theorem sc_law_value : FnScope ["_law_tree_here", "_law_known", "_law_word", "_law_parts", "_law_values", "_law_part", "_law_told_here"] ["_law_tree_here", "_law_known"] (defScope s_law_value) := ⟨rfl, rfl, rfl, by decide +kernel, rfl, by decide +kernel, by decide +kernel⟩
theorem d_law_value (T : Txt K mg) : ∀ n, Df P w K mg base CX0 (n + 3) "_law_value" ["_law_tree_here", "_law_known"] (spLValue K n)
  | 0 => by
    refine .mk' T.f_law_value T.g_law_value sc_law_value (fun _ _ _ _ _ _ us hl => match us, hl with | [_, _], _ => rfl) (fun vs H Q E h => ?_) (fun cdv A outer s H vs Q E hr h => ?_)
    · obtain ⟨tv, t, D, env, rfl, _⟩ := h
      rfl
    · obtain ⟨tv, t, D, env, rfl, _, h, _⟩ := h
      exact absurd h (Nat.not_lt_zero _)
  | n + 1 => by
    have G_law_whole := (d_law_whole (P := P) (w := w) (base := base) T).mono (show 1 ≤ n + 3 by omega)
    have G_law_called := (d_law_called (P := P) (w := w) (base := base) T).mono (show 1 ≤ n + 3 by omega)
    have G_law_shifted := (d_law_shifted (P := P) (w := w) (base := base) T).mono (show 1 ≤ n + 3 by omega)
    have G_law_operated := (d_law_operated (P := P) (w := w) (base := base) T).mono (show 2 ≤ n + 3 by omega)
    have G_law_value := d_law_value T n
    refine .mk' T.f_law_value T.g_law_value sc_law_value (fun _ _ _ _ _ _ us hl => match us, hl with | [_, _], _ => rfl) (fun vs H Q E h => ?_) (fun cdv A outer s H vs Q E hr h => ?_)
    · obtain ⟨tv, t, D, env, rfl, _⟩ := h
      rfl
    · obtain ⟨tv, t, D, env, rfl, ht, hht, hk, henv, hQ⟩ := h
      have hu : (A.deeper (envOfC "_law_value" (defScope s_law_value) s.heap.objs.size (He.ga K "_law_value") cdv)).units + 1 < cLine := by have := hr.un; omega
      refine ⟨_, pss_cons (ps_set (i := 2) sc_law_value.nd rfl (.inl rfl) (pe_ix ix_tup (pv 0) pe_int (fun _ _ => rfl)))
        (pss_cons (ps_if (pt_cmpR op_eq (pv 2) pe_str (nomark _)) (pss_one (ps_ret (pe_cl G_law_whole hr pass0 (pa_cons pe_str (pa_cons (pe_ix ix_tup (pv 0) pe_int (fun _ _ => rfl)) pa_nil))))) pss_nil)
        (pss_cons (ps_mid (ps_if (pt_cmpR op_eq (pv 2) pe_str (nomark _)) (pss_one (ps_ret (pe_dget2 hu (pv 1) (pe_ix ix_tup (pv 0) pe_int (fun _ _ => rfl)) (pe_tup (pa_cons pe_str (pa_cons pe_int pa_nil))) ⟨rfl, rfl, rfl, rfl⟩))) pss_nil))
        (pss_cons (ps_set (i := 3) sc_law_value.nd rfl (.inl rfl) (pe_slice sl_tup (pv 0) (po_some pe_int) po_none))
        (pss_cons (ps_mid (ps_if (pt_cmpR op_eq (pv 2) pe_str (nomark _)) (pss_one (ps_set (i := 3) sc_law_value.nd rfl (.inl rfl) (pe_ix ix_tup (pv 0) pe_int (fun _ _ => rfl)))) pss_nil))
        (pss_cons (ps_set (i := 4) sc_law_value.nd rfl (.inl rfl) (pe_lst pa_nil))
        (pss_cons (ps_for (passes_of rfl) rfl (pi_tup (pv 3)) (pg_name (i := 5) sc_law_value.nd rfl (.inl rfl)) (pss_cons (ps_set (i := 6) sc_law_value.nd rfl (.inl rfl) (pe_cl G_law_value hr pass0 (pa_cons (pv 5) (pa_cons (pv 1) pa_nil))))
          (pss_cons (ps_if (pt_cmpR op_ne (pe_ix ix_tup (pv 6) pe_int (fun _ _ => rfl)) pe_str (nomark _)) (pss_one (ps_ret (pv 6))) pss_nil)
          (pss_one (ps_expr (pe_bm PySem.F.plainAttrs_list PySem.F.slot_list_append PySem.F.type_list_append mt_append (pv 4) (pa_cons (pe_ix ix_tup (pv 6) pe_int (fun _ _ => rfl)) pa_nil)))))))
        (pss_cons (ps_mid (ps_if (pt_cmpR op_eq (pv 2) pe_str (nomark _)) (pss_one (ps_set (i := 6) sc_law_value.nd rfl (.inl rfl) (pe_cl G_law_called hr pass0 (pa_cons (pe_ix ix_tup (pv 0) pe_int (fun _ _ => rfl)) (pa_cons (pv 4) pa_nil))))) (pss_one (ps_if (pt_cmpR op_eq (pv 2) pe_str (nomark _)) (pss_one (ps_set (i := 6) sc_law_value.nd rfl (.inl rfl) (pe_tup (pa_cons pe_str (pa_cons (pe_un un_neg (pe_ix ix_list (pv 4) pe_int (fun _ _ => rfl))) pa_nil))))) (pss_one (ps_if (pt_cmpR op_eq (pv 2) pe_str (nomark _)) (pss_one (ps_set (i := 6) sc_law_value.nd rfl (.inl rfl) (pe_cl G_law_shifted hr pass0 (pa_cons pe_int (pa_cons (pe_ix ix_list (pv 4) pe_int (fun _ _ => rfl)) pa_nil))))) (pss_one (ps_set (i := 6) sc_law_value.nd rfl (.inl rfl) (pe_cl G_law_operated hr pass0 (pa_cons (pv 2) (pa_cons (pe_ix ix_list (pv 4) pe_int (fun _ _ => rfl)) (pa_cons (pe_ix ix_list (pv 4) pe_int (fun _ _ => rfl)) pa_nil))))))))))))
        (pss_one (ps_ret (pe_cl G_law_whole hr pass0 (pa_cons (pe_ix ix_tup (pv 6) pe_int (fun _ _ => rfl)) (pa_cons (pe_ix ix_tup (pv 6) pe_int (fun _ _ => rfl)) pa_nil)))))))))))), ?_⟩
      by_cases hp : t.parts = []
      · cases t with
        | int z =>
          obtain ⟨a, rfl, h⟩ := ht
          exact ⟨_, rfl, a, _, _, _, rfl, rfl, h, atI_nat (j := 0) rfl, _, rfl, rfl, _, rfl, yes_s ⟨_, rfl, a, _, _, _, rfl, rfl, h, atI_nat (j := 1) rfl, .v z, rfl, hQ⟩⟩
        | name nm =>
          obtain ⟨a, rfl, h⟩ := ht
          obtain ⟨kvs, hd, hkv⟩ := hk
          have hQ : Told (match env nm with
            | some z => .v z
            | none => .missing) Q H := hQ
          refine ⟨_, rfl, a, _, _, _, rfl, rfl, h, atI_nat (j := 0) rfl, _, rfl, rfl, _, rfl, no_s ⟨fun _ _ => False, fun _ _ z => z.elim, _, rfl, rfl, _, rfl, yes_s ⟨_, rfl, D, rfl, .inl ⟨kvs, .inl hd⟩, _, rfl, a, _, _, _, rfl, rfl, h, atI_nat (j := 1) rfl, le2, fun p hp => ?_⟩⟩⟩
          have s1 := same_new (o := .tup [.str "missing", .int 0]) hp
          have dg := DGet.k (k := .inr nm) (s1 _ _ hd)
          have q := hkv nm
          refine ⟨_, dg, ?_⟩
          cases e : env nm with
          | none =>
            rw [e] at q hQ
            have q : valV kvs (.inr nm) = none := q
            rw [q]
            exact hQ _ p s1 upd_same
          | some z =>
            rw [e] at q hQ
            obtain ⟨p2, q1, q2⟩ := q
            rw [q1]
            exact hQ _ p2 s1 (s1 _ _ q2)
        | bin o x y => exact absurd hp (by simp [Tr.parts])
        | neg x => exact absurd hp (by simp [Tr.parts])
        | pow x => exact absurd hp (by simp [Tr.parts])
        | fn1 f x => exact absurd hp (by simp [Tr.parts])
        | fn2 f x y => exact absurd hp (by simp [Tr.parts])
      · obtain ⟨a, xs, rfl, hq, l1, l2, c0, c1⟩ := ht.node hp
        have n1 := word_int hp
        have n2 := word_name hp
        have hv := val_ev (env := env) hp
        refine ⟨_, rfl, a, _, _, _, rfl, rfl, hq, atI_nat (j := 0) rfl, _, rfl, rfl, _, rfl, no_s ⟨fun σ' H' => σ' = [some (.ref a), some (.ref D), some (.str t.word), none, none, none, none] ∧ H' = H, ?_, ⟨_, rfl, rfl, _, rfl, no_s ⟨rfl, rfl⟩ n2⟩⟩ n1⟩
        rintro σ H1 ⟨rfl, rfl⟩
        refine ⟨_, rfl, 1, rfl, a, _, rfl, hq, ?_, fun p hpn => ?_⟩
        · rintro ⟨z, _⟩
          rw [show HT.sIx (V.str t.word :: xs).length 0 (some 1) = min 1 (V.str t.word :: xs).length from HT.sIx_nat _ 0 1, List.length_cons] at z
          omega
        · rw [cut_tail]
          have s1 := same_new (o := .tup xs) hpn
          refine ⟨fun σ' H' => ∃ pt us, σ' = [some (.ref a), some (.ref D), some (.str t.word), some (.ref pt), none, none, none] ∧ Same H1 H' ∧ SqT K H' pt us ∧ Paired (IsT K H') us t.parts, ?_, ?_⟩
          · rintro σ H2 ⟨pt, us, rfl, s2, hpt, hus⟩
            have lus := paired_len hus
            have lp := parts_len t
            refine ⟨Nat.zero_le _, fun L hL => ?_⟩
            have nL1 : H1 L = none := Same.none s2 hL
            refine ⟨_, rfl, pt, rfl, ⟨us, (Tx.of (same_new hL)) _ _ hpt⟩, for_tup (xs := us) (fun i σ H' => ∃ zs y5 y6, σ = [some (.ref a), some (.ref D), some (.str t.word), some (.ref pt), some (.ref L), y5, y6] ∧ Same H1 H' ∧ SqT K H' pt us ∧ Paired (IsT K H') us t.parts ∧ H' L = some (.lst (List.map V.int zs)) ∧ zs.length = i ∧ (∀ z ∈ zs, T40 z) ∧
                valP env t = evL env (t.parts.drop i) fun l => whole (t.raw (zs ++ l)))
              ⟨[], none, none, rfl, s2.trans (same_new hL), (Tx.of (same_new hL)) _ _ hpt, L2.Paired.mapP hus fun _ _ q => q.tx (Tx.of (same_new hL)), upd_same, rfl, (fun _ h => nomatch h), hv⟩ (fun i σ H' _ ⟨_, _, _, _, _, h, _⟩ => h) ?_ ?_⟩
            · rintro i u σ H3 hui ⟨zs, y5, y6, rfl, s3, hpt3, hus3, hL3, hlz, hz40, hev⟩
              obtain ⟨tu, htu, hu1⟩ : ∃ tu, t.parts[i]? = some tu ∧ IsT K H3 u tu := by
                have hi := (List.getElem?_eq_some_iff.mp hui).1
                have hg : t.parts[i]? = some t.parts[i] := List.getElem?_eq_getElem (by omega)
                exact ⟨_, hg, paired_at2 hus3 hui hg⟩
              rw [evL_drop htu] at hev
              have hi2 : i < 2 := by have := (List.getElem?_eq_some_iff.mp htu).1; omega
              refine ⟨_, rfl, _, rfl, u, tu, D, env, rfl, hu1, by have := part_ht (List.mem_of_getElem? htu); omega, hk.same s3, henv, fun H4 q s4 hq4 => ?_⟩
              refine ⟨_, rfl, q, _, _, _, rfl, rfl, .inl (.inl hq4), atI_nat (j := 0) rfl, rfl, _, rfl, ?_⟩
              by_cases hr : ∃ z, valP env tu = .v z
              · obtain ⟨z, hz⟩ := hr
                rw [hz] at hev hq4
                rw [hz]
                have b : (!decide (V.str (R.v z).wd = V.str "value")) = false := (by decide +kernel : (!decide (V.str "value" = V.str "value")) = false)
                rw [b]
                have hL4 := s4 _ _ hL3
                refine iteF ⟨_, rfl, .inl ⟨rfl, _, .inl (.inl hL4)⟩, _, rfl, q, _, _, _, rfl, rfl, .inl (.inl hq4), atI_nat (j := 1) rfl, L, _, _, rfl, rfl, hL4, by rw [List.length_map]; have := sizeLine_eq; omega, ?_⟩
                have tx : Tx K H4 (upd H4 L (.lst (List.map V.int zs ++ [V.int z]))) := Tx.set hL4 trivial
                refine ⟨zs ++ [z], _, _, rfl, same_set (s3.trans s4) nL1, tx _ _ ((Tx.of s4) _ _ hpt3), L2.Paired.mapP hus3 fun _ _ q => (q.tx (Tx.of s4)).tx tx, by rw [upd_same, List.map_append]; rfl, by rw [List.length_append, hlz]; rfl, fun y hy => ?_, ?_⟩
                · rcases List.mem_append.mp hy with x | x
                  · exact hz40 y x
                  · rw [List.mem_singleton.mp x]; exact valP_t40 henv hz
                · rw [hev]
                  show evL env (t.parts.drop (i + 1)) (fun r => whole (t.raw (zs ++ z :: r))) = _
                  congr 1
                  funext r
                  rw [List.append_assoc]; rfl
              · have hne : ∀ z, valP env tu ≠ .v z := fun z e => hr ⟨z, e⟩
                rw [wd_v hne]
                rw [bind_err hne] at hev
                rw [hev] at hQ
                exact iteT ⟨_, rfl, hQ H4 q (s3.trans s4) hq4⟩
            · rintro σ H3 ⟨zs, y5, y6, rfl, s3, hpt3, hus3, hL3, hlz, hz40, hev⟩
              rw [lus] at hlz hev
              rw [List.drop_length] at hev
              have hev : valP env t = whole (t.raw (zs ++ [])) := hev
              rw [List.append_nil] at hev
              rw [hev] at hQ
              refine ⟨fun σ' H' => ∃ q, σ' = [some (.ref a), some (.ref D), some (.str t.word), some (.ref pt), some (.ref L), y5, some (.ref q)] ∧ Same H1 H' ∧ H' q = some (.tup [.str (t.raw zs).wd, .int (t.raw zs).nm]), ?_, ?_⟩
              · rintro σ H4 ⟨q, rfl, s4, hq4⟩
                exact ⟨_, rfl, q, _, _, _, rfl, rfl, .inl (.inl hq4), atI_nat (j := 0) rfl, _, rfl, q, _, _, _, rfl, rfl, .inl (.inl hq4), atI_nat (j := 1) rfl, t.raw zs, rfl, hQ.same s4⟩
              · have hq3 := (Tx.of s3) _ _ hq
                refine ⟨_, rfl, rfl, _, rfl, ?_⟩
                cases t with
                | int z => exact absurd rfl hp
                | name z => exact absurd rfl hp
                | neg x =>
                  match zs, hlz with
                  | [z], _ =>
                    exact no_s (h := word_call _) ⟨_, rfl, rfl, _, rfl, yes_s (h := (by decide +kernel : decide (V.str "neg" = V.str "neg") = true)) ⟨_, rfl, L, _, _, _, rfl, rfl, .inl (.inl hL3), atI_nat (j := 0) rfl, z, rfl, le2, fun q hq => ⟨q, rfl, s3.trans (same_new hq), upd_same⟩⟩⟩
                | pow x =>
                  match zs, hlz with
                  | [z], _ =>
                    exact no_s (h := word_call _) ⟨_, rfl, rfl, _, rfl, no_s (h := (by decide +kernel : decide (V.str "pow" = V.str "neg") = false)) ⟨_, rfl, rfl, _, rfl, yes_s (h := (by decide +kernel : decide (V.str "pow" = V.str "pow") = true)) ⟨_, rfl, L, _, _, _, rfl, rfl, .inl (.inl hL3), atI_nat (j := 0) rfl, 1, z, rfl, t40_of (by decide) (by decide), fun H4 q s4 hq4 => ⟨q, rfl, s3.trans s4, hq4⟩⟩⟩⟩
                | bin o x y =>
                  match zs, hlz with
                  | [z, z2], _ =>
                    obtain ⟨_, _, m1, m2, m3⟩ := op_word o
                    exact no_s ⟨_, rfl, rfl, _, rfl, no_s ⟨_, rfl, rfl, _, rfl, no_s ⟨_, rfl, _, rfl, L, _, _, _, rfl, rfl, .inl (.inl hL3), atI_nat (j := 0) rfl, _, rfl, L, _, _, _, rfl, rfl, .inl (.inl hL3), atI_nat (j := 1) rfl, o, z, z2, rfl, hz40 z (by simp), fun H4 q s4 hq4 => ⟨q, rfl, s3.trans s4, hq4⟩⟩ m3⟩ m2⟩ m1
                | fn1 f x =>
                  obtain ⟨hf, a', b', u', ea, hsq, _⟩ := ht
                  cases ea
                  match zs, hlz with
                  | [z], _ =>
                    exact yes_s (h := word_call (.fn1 f x)) ⟨_, rfl, a, _, _, _, rfl, rfl, (Tx.of s3) _ _ hsq, atI_nat (j := 1) rfl, _, rfl, f, L, z, 0, rfl, by rw [hf]; exact hL3, hz40 z (by simp), fun H4 q s4 hq4 => ⟨q, rfl, s3.trans s4, hq4⟩⟩
                | fn2 f x y =>
                  obtain ⟨hf, a', b', u', u2', ea, hsq, _⟩ := ht
                  cases ea
                  match zs, hlz with
                  | [z, z2], _ =>
                    exact yes_s (h := word_call (.fn2 f x y)) ⟨_, rfl, a, _, _, _, rfl, rfl, (Tx.of s3) _ _ hsq, atI_nat (j := 1) rfl, _, rfl, f, L, z, z2, rfl, by rw [hf]; exact hL3, hz40 z (by simp), fun H4 q s4 hq4 => ⟨q, rfl, s3.trans s4, hq4⟩⟩
          · refine ⟨_, rfl, rfl, _, rfl, ?_⟩
            rw [word_call]
            cases hc : t.isCall with
            | false =>
              exact iteF ⟨p, xs, rfl, s1, .inl (.inl upd_same), L2.Paired.mapP (c0 hc) fun _ _ q => q.tx (Tx.of s1)⟩
            | true =>
              obtain ⟨g, b, us, rfl, hb, hus⟩ := c1 hc
              exact iteT ⟨_, rfl, a, _, _, _, rfl, rfl, (Tx.of s1) _ _ hq, atI_nat (j := 2) rfl, b, us, rfl, s1, (Tx.of s1) _ _ hb, L2.Paired.mapP hus fun _ _ q => q.tx (Tx.of s1)⟩
end
end Sr
set_option Elab.async false
set_option linter.all false
set_option maxRecDepth 100000
set_option maxHeartbeats 8000000
/-! The law's own: told -/
namespace Sr
open PySem PySem.Spec PyProof.Rows L2
/-- what is told of a tree -/
def DueL (K : PySem.W.Frag) (env : Str → Option Int) (t : Tr) (Q : VK) (H : Hp) : Prop := (t = .fn1 .tower (.int 39) ∧ ∀ H' p v, Same H H' → H' p = some (.tup [.str "value", v]) → Q (.ref p) H') ∨
  ((t = .fn1 .tower (.int 40) ∨ ∃ q, t = .bin .add (.fn1 .tower (.int 40)) (.name q)) ∧ ∀ H' p, Same H H' → H' p = some (.tup [.str "large", .int 0]) → Q (.ref p) H') ∨
  match valP env t with
    | .v z => ∀ H' p v, Same H H' → H' p = some (.tup [.str "value", v]) → IsN K H' 7 v z → Q (.ref p) H'
    | .great => False
    | r => ∀ H' p, Same H H' → H' p = some (.tup [.str r.wd, .int 0]) → Q (.ref p) H'
/-- a suite for errors of one class alone -/
theorem pss_when {X : Cx} {b : List Stmt} {t : TS} {c : Prop} (h : c → PSs X b t) : PSs X b (fun D σ H => c ∧ t D σ H) := ⟨fun pins s σ H D I ⟨hc, ht⟩ => (h hc).run pins s σ H D I ht⟩
def rInt1 : List V → Hp → VK → Prop := fun xs H Q => (∃ i, xs = [.int i] ∧ Q (.int i) H) ∨ ∃ k, xs = [.bl k] ∧ Q (.int (if k then 1 else 0)) H
/-- what a clause tells -/
def tTell (K : PySem.W.Frag) (D c1 c2 : Addr) (wd : Str) (a : Addr) : TS := tRet (tTup (tCons (tOp (rIxL K) (tLst (tCons (tC (.str "other")) (tCons (tC (.str wd)) tNil)))
  (tCB rInt1 (tCons (tAndV (tCB (rIsE K D a) (tCons (tVar 2) (tCons (tC (.ref c1)) tNil))) (tNotV (tCB (rIsE K D a) (tCons (tVar 2) (tCons (tC (.ref c2)) tNil))))) tNil))) (tCons (tC (.int 0)) tNil)))
def clT (K : PySem.W.Frag) (D c1 c2 : Addr) (wd : Str) : Cl := (.ref D, some 2, fun a cls d Ds σ H => (cls = .ref D ∧ d = none) ∧ tTell K D c1 c2 wd a Ds σ H)
def clL (D : Addr) : Cl := (.ref D, none, fun _ _ _ Ds σ H => tRet (tTup (tCons (tC (.str "large")) (tCons (tC (.int 0)) tNil))) Ds σ H)
section
variable {P : Program} {w : World} {K : PySem.W.Frag} {mg : Str → Option Value} {base : Heap}
theorem tell_ok {D c1 c2 : Addr} {wd : Str} {a : Addr} {Ds : Ends} {σ : L2.St} {H : Hp} (h : σ[2]? = some (some (.ref a))) (k1 : PySem.W.kitOne K (.ref D) (.ref c1) = some true) (k2 : PySem.W.kitOne K (.ref D) (.ref c2) = some false)
    (q : ∀ H' p, Same H H' → H' p = some (.tup [.str wd, .int 0]) → Ds.rt (.ref p) H') : tTell K D c1 c2 wd a Ds σ H := by
  refine ⟨le2, fun l hl => ⟨_, h, .ref c1, .ref c1, true, rfl, fun u r => r, k1, true, rfl, iteT ⟨_, h, .ref c2, .ref c2, false, rfl, fun u r => r, k2, false, rfl, .inr ⟨true, rfl, l, _, _, .str wd, rfl, rfl, .inl (.inl upd_same), atI_nat (j := 1) rfl, le2, fun p hp => ?_⟩⟩⟩⟩
  exact q _ p ((same_new hl).trans (same_new hp)) upd_same
def spLTold (K : PySem.W.Frag) (n : Nat) : Sp := fun vs H Q _ => ∃ tv t D env, vs = [tv, .ref D] ∧ IsT K H tv t ∧ t.ht < n ∧ EnvD K H D env ∧ (∀ s z, env s = some z → T40 z) ∧ DueL K env t Q H
theorem sc_law_told : FnScope ["_law_tree_here", "_law_values", "why"] ["_law_tree_here", "_law_values"] (defScope s_law_told) := ⟨rfl, rfl, rfl, by decide +kernel, rfl, by decide +kernel, by decide +kernel⟩
theorem d_law_told (T : Txt K mg) (n : Nat) : Df P w K mg base CX0 (n + 75) "_law_told" ["_law_tree_here", "_law_values"] (spLTold K n) := by
  have Dv := d_value_of (P := P) (w := w) (base := base) T n
  obtain ⟨fv, bv, Fv⟩ := Dv.ex
  refine .mk' T.f_law_told T.g_law_told sc_law_told (fun _ _ _ _ _ _ us hl => match us, hl with | [_, _], _ => rfl) (fun vs H Q E h => ?_) (fun cdv A outer s H vs Q E hr h => ?_)
  · obtain ⟨tv, t, D, env, rfl, _⟩ := h
    rfl
  · obtain ⟨tv, t, D, env, rfl, ht, hh, he, henv, hD⟩ := h
    refine ⟨_, pss_one (ps_try_cl (Wout := fun _ _ _ _ => False) (l := [clT K (He.ga K "NotAllowed") (He.ga K "ReckonError") (He.ga K "BadRange") "refused", clT K (He.ga K "BadRange") (He.ga K "ReckonError") (He.ga K "Missing") "range", clT K (He.ga K "Missing") (He.ga K "ReckonError") (He.ga K "TooLarge") "missing", clL (He.ga K "TooLarge")])
      (tb := fun W => tRet (tTup (tCons (tC (.str "value")) (tCons (tCallS (spValueOf K n) (WE W) (tCons (tVar 0) (tCons (tVar 1) tNil))) tNil)))) rfl rfl sc_law_told.nd takes_none5
      (fun W pn xe tk _ => pss_one (ps_ret (pe_tup (pa_cons pe_str (pa_cons (pe_callS Fv hr rfl Dv.gl Dv.kp bv (fun σ => passAt tk σ) (pa_cons (pv 0) (pa_cons (pv 1) pa_nil))) pa_nil)))))
      ?_), ?_⟩
    · have clause : ∀ (D c1 c2 : Addr) (x1 x2 : Str) (wd : Str), True := fun _ _ _ _ _ _ => trivial
      refine .named ⟨rfl, rfl, .inl T.c_NotAllowed⟩ (n := "why") (i := 2) rfl rfl (fun a oe cls d pn hz hf => pss_when fun e => ?_) (.named ⟨rfl, rfl, .inl T.c_BadRange⟩ (n := "why") (i := 2) rfl rfl (fun a oe cls d pn hz hf => pss_when fun e => ?_)
        (.named ⟨rfl, rfl, .inl T.c_Missing⟩ (n := "why") (i := 2) rfl rfl (fun a oe cls d pn hz hf => pss_when fun e => ?_) (.plain ⟨rfl, rfl, .inl T.c_TooLarge⟩ (fun a oe cls d pn hz hf => pss_one (ps_ret (pe_tup (pa_cons pe_str (pa_cons pe_int pa_nil))))) .nil)))
      · obtain ⟨rfl, rfl⟩ := e
        exact pss_one (ps_ret (pe_tup (pa_cons (pe_ix ix_list (pe_lst (pa_cons pe_str (pa_cons pe_str pa_nil))) (pe_callTy call_int1 (by rfl) T.n_int (by decide +kernel) (pa_cons (pe_and (pe_callB (call_isE T.q_NotAllowed hz hf) (by rfl) T.n_isinstance (by decide +kernel) (pa_cons (pv 2) (pa_cons (pe_glob (v := .ref (He.ga K "ReckonError")) rfl T.c_ReckonError rfl) pa_nil)))
          (pe_one (pe_not (pe_callB (call_isE T.q_NotAllowed hz hf) (by rfl) T.n_isinstance (by decide +kernel) (pa_cons (pv 2) (pa_cons (pe_glob (v := .ref (He.ga K "BadRange")) rfl T.c_BadRange rfl) pa_nil)))))) pa_nil)) (fun _ _ => rfl)) (pa_cons pe_int pa_nil))))
      · obtain ⟨rfl, rfl⟩ := e
        exact pss_one (ps_ret (pe_tup (pa_cons (pe_ix ix_list (pe_lst (pa_cons pe_str (pa_cons pe_str pa_nil))) (pe_callTy call_int1 (by rfl) T.n_int (by decide +kernel) (pa_cons (pe_and (pe_callB (call_isE T.q_BadRange hz hf) (by rfl) T.n_isinstance (by decide +kernel) (pa_cons (pv 2) (pa_cons (pe_glob (v := .ref (He.ga K "ReckonError")) rfl T.c_ReckonError rfl) pa_nil)))
          (pe_one (pe_not (pe_callB (call_isE T.q_BadRange hz hf) (by rfl) T.n_isinstance (by decide +kernel) (pa_cons (pv 2) (pa_cons (pe_glob (v := .ref (He.ga K "Missing")) rfl T.c_Missing rfl) pa_nil)))))) pa_nil)) (fun _ _ => rfl)) (pa_cons pe_int pa_nil))))
      · obtain ⟨rfl, rfl⟩ := e
        exact pss_one (ps_ret (pe_tup (pa_cons (pe_ix ix_list (pe_lst (pa_cons pe_str (pa_cons pe_str pa_nil))) (pe_callTy call_int1 (by rfl) T.n_int (by decide +kernel) (pa_cons (pe_and (pe_callB (call_isE T.q_Missing hz hf) (by rfl) T.n_isinstance (by decide +kernel) (pa_cons (pv 2) (pa_cons (pe_glob (v := .ref (He.ga K "ReckonError")) rfl T.c_ReckonError rfl) pa_nil)))
          (pe_one (pe_not (pe_callB (call_isE T.q_Missing hz hf) (by rfl) T.n_isinstance (by decide +kernel) (pa_cons (pv 2) (pa_cons (pe_glob (v := .ref (He.ga K "TooLarge")) rfl T.c_TooLarge rfl) pa_nil)))))) pa_nil)) (fun _ _ => rfl)) (pa_cons pe_int pa_nil))))
    · -- what each error is told as
      have eN : ∀ (Q2 : V → Hp → Prop) (H1 : Hp), Same H H1 → (∀ H' p, Same H H' → H' p = some (.tup [.str "refused", .int 0]) → Q (.ref p) H') → True := fun _ _ _ _ => trivial
      clear eN
      refine ⟨_, rfl, _, rfl, tv, t, D, env, rfl, ht, hh, he, henv, ?_⟩
      have tooL : ∀ H1, Same H H1 → (∀ H' p, Same H H' → H' p = some (.tup [.str "large", .int 0]) → Q (.ref p) H') → wCl K (fun _ _ _ _ => False) { nx := fun _ H' => Q .non H', rt := Q } [clT K (He.ga K "NotAllowed") (He.ga K "ReckonError") (He.ga K "BadRange") "refused", clT K (He.ga K "BadRange") (He.ga K "ReckonError") (He.ga K "Missing") "range", clT K (He.ga K "Missing") (He.ga K "ReckonError") (He.ga K "TooLarge") "missing", clL (He.ga K "TooLarge")] (.ref (He.ga K "TooLarge")) none (start ["_law_tree_here", "_law_values", "why"] [tv, .ref D]) H1 := fun H1 s1 k =>
        ⟨false, T.x_TooLarge_NotAllowed, (fun z => nomatch z), fun _ => ⟨false, T.x_TooLarge_BadRange, (fun z => nomatch z), fun _ => ⟨false, T.x_TooLarge_Missing, (fun z => nomatch z), fun _ => ⟨true, T.x_TooLarge_TooLarge, fun _ a _ => ⟨le2, fun p hp => k _ p (s1.trans (same_new hp)) upd_same⟩, fun z => nomatch z⟩⟩⟩⟩
      rcases hD with ⟨e, k⟩ | ⟨e, k⟩ | hD
      · exact .inl ⟨e, fun H1 v s1 => ⟨le2, fun p hp => k _ p v (s1.trans (same_new hp)) upd_same⟩⟩
      · exact .inr (.inl ⟨e, fun H1 s1 => tooL H1 s1 k⟩)
      · refine .inr (.inr ?_)
        cases hv : valP env t with
        | v z =>
          rw [hv] at hD
          exact fun H1 v s1 hN => ⟨le2, fun p hp => hD _ p v (s1.trans (same_new hp)) upd_same (hN.tx (Tx.of (same_new hp)))⟩
        | great =>
          rw [hv] at hD
          exact hD
        | refused =>
          rw [hv] at hD
          exact fun H1 s1 => ⟨true, T.x_NotAllowed_NotAllowed, fun _ a na => ⟨⟨rfl, rfl⟩, tell_ok rfl T.k_NotAllowed_ReckonError T.k_NotAllowed_BadRange fun H2 p s2 h2 => hD H2 p (s1.trans s2) h2⟩, fun z => nomatch z⟩
        | range =>
          rw [hv] at hD
          exact fun H1 s1 => ⟨false, T.x_BadRange_NotAllowed, (fun z => nomatch z), fun _ => ⟨true, T.x_BadRange_BadRange, fun _ a na => ⟨⟨rfl, rfl⟩, tell_ok rfl T.k_BadRange_ReckonError T.k_BadRange_Missing fun H2 p s2 h2 => hD H2 p (s1.trans s2) h2⟩, fun z => nomatch z⟩⟩
        | missing =>
          rw [hv] at hD
          exact fun H1 s1 => ⟨false, T.x_Missing_NotAllowed, (fun z => nomatch z), fun _ => ⟨false, T.x_Missing_BadRange, (fun z => nomatch z), fun _ => ⟨true, T.x_Missing_Missing, fun _ a na => ⟨⟨rfl, rfl⟩, tell_ok rfl T.k_Missing_ReckonError T.k_Missing_TooLarge fun H2 p s2 h2 => hD H2 p (s1.trans s2) h2⟩, fun z => nomatch z⟩⟩⟩
end
end Sr
set_option Elab.async false
set_option linter.all false
set_option maxRecDepth 100000
set_option maxHeartbeats 16000000
/-! law -/
namespace Sr
open PySem PySem.Spec PyProof.Rows L2

/-! ### two dicts of the same references -/
theorem hits_ref {A : Around} {s : Shared} {kvs : List (Key × V)} {vb : List (Key × Value)} (rb : KV kvs vb) : ∀ {ks : List (Key × V)} {va : List (Key × Value)}, KV ks va → (∀ p ∈ ks, valV kvs p.1 = some p.2 ∧ ∃ a, p.2 = .ref a) → PySem.W.KeqHits A s vb va true
  | [], _, .nil, _ => .nil
  | (k, v) :: ks, (k2, u) :: va, .cons ⟨e1, e2⟩ t, h => by
    obtain ⟨h1, a, h2⟩ := h (k, v) List.mem_cons_self
    have e1 : k = k2 := e1
    have h2 : v = .ref a := h2
    subst e1 h2
    have rel : RelO (some (V.ref a)) (valueAt vb k) := h1 ▸ rb.val k
    obtain ⟨y, hy, ry⟩ := rel.some_of
    obtain rfl : u = Value.ref a := e2
    obtain rfl : y = Value.ref a := ry
    show PySem.W.KeqHits A s vb ((k, _) :: va) (true && true)
    exact .hit hy (SeqAt.EqAt.same _) (hits_ref rb t fun p hp => h p (List.mem_cons_of_mem _ hp))
theorem op_eq_refs {X : Cx} (hu : X.A.units < cLine) : OpR X (compareOp .Eq) (fun x y H Q => ∃ a b kvs, x = .ref a ∧ y = .ref b ∧ H a = some (.dK kvs) ∧ H b = some (.dK kvs) ∧ (kvs.map (·.1)).Nodup ∧ (∀ p ∈ kvs, ∃ c, p.2 = .ref c) ∧ Q (.bl true) H) := by
  intro pins s σ H x y v u Q I rx ry h
  obtain ⟨a, b, kvs, rfl, rfl, ea, eb, nd, fl, q⟩ := h
  obtain rfl : v = Value.ref a := rx
  obtain rfl : u = Value.ref b := ry
  have oa : ObjOk X.prog X.w H s.heap a (.dK kvs) := I.hok a _ ea
  have ob : ObjOk X.prog X.w H s.heap b (.dK kvs) := I.hok b _ eb
  obtain ⟨_, za, wa, ra, da⟩ := oa
  obtain ⟨_, zb, wb, rb, db⟩ := ob
  have hl : (wa.length == wb.length) = true := by rw [← ra.length, ← rb.length]; exact beq_self_eq_true _
  refine PySem.W.keq_eq (r := true) za zb da db hu (fun _ => hits_ref rb ra fun p hp => ⟨val_nodup nd p hp, fl p hp⟩) ?_
  rw [hl]
  exact ⟨.bl true, H, I, rfl, q⟩
/-- the values that the script gives -/
structure VD (K : PySem.W.Frag) (H : Hp) (kd vd : Addr) (env : Str → Option Int) (ks : List Str) : Prop where
  known : KnownD H kd env
  vals : EnvD K H vd env
  t40 : ∀ s z, env s = some z → T40 z
  dict : ∃ kvs, H vd = some (.dK kvs) ∧ kvs.map (·.1) = ks.map Sum.inr ∧ ks.Nodup ∧ ∀ p ∈ kvs, ∃ c, p.2 = .ref c
theorem VD.same {K : PySem.W.Frag} {H H' : Hp} {kd vd : Addr} {env : Str → Option Int} {ks : List Str} (d : VD K H kd vd env ks) (s : Same H H') : VD K H' kd vd env ks := ⟨d.known.same s, d.vals.same s, d.t40, let ⟨kvs, h1, h2⟩ := d.dict; ⟨kvs, s _ _ h1, h2⟩⟩
def setE (env : Str → Option Int) (x : Str) (z : Int) : Str → Option Int := fun s => if s = x then some z else env s
theorem env_none (K : PySem.W.Frag) {H : Hp} {d : Addr} (h : H d = some (.dK [])) : EnvD K H d (fun _ => none) := ⟨[], h, fun _ => rfl⟩
theorem inr_inj {a b : Str} (h : (Sum.inr a : Key) = .inr b) : a = b := by injection h
/-- one more name -/
theorem VD.put {K : PySem.W.Frag} {H H3 : Hp} {kd vd : Addr} {env : Str → Option Int} {ks : List Str} {kv1 kv2 : List (Key × V)} {x : Str} {z : Int} {p : Addr} {v : V} (d : VD K H kd vd env ks) (h1 : H kd = some (.dK kv1)) (h2 : H vd = some (.dK kv2))
    (hp : H p = some (.tup [.str "value", .int z])) (s3 : Same (upd H kd (.dK (putK kv1 (.inr x) (.ref p)))) H3) (hv : IsN K H3 7 v z) (hz : T40 z) (hx : x ∉ ks) (ne : kd ≠ vd) :
    VD K (upd H3 vd (.dK (putK kv2 (.inr x) v))) kd vd (setE env x z) (ks ++ [x]) := by
  have h2' : H3 vd = some (.dK kv2) := s3 _ _ (by rw [upd_ne ne.symm]; exact h2)
  have t2 : Tx K H3 (upd H3 vd (.dK (putK kv2 (.inr x) v))) := Tx.set h2' trivial
  have t1 : Tx K H H3 := (Tx.set h1 trivial).trans (Tx.of s3)
  have tup : ∀ q xs, H q = some (.tup xs) → (upd H3 vd (.dK (putK kv2 (.inr x) v))) q = some (.tup xs) := fun q xs e => by
    have n1 : q ≠ kd := fun w => by rw [w, h1] at e; cases e
    have n2 : q ≠ vd := fun w => by rw [w, h2] at e; cases e
    rw [upd_ne n2]
    exact s3 _ _ (by rw [upd_ne n1]; exact e)
  obtain ⟨kv1', g1, k1⟩ := d.known
  rw [h1] at g1; cases g1
  obtain ⟨kv2', g2, k2⟩ := d.vals
  rw [h2] at g2; cases g2
  obtain ⟨kv2', g2, k3, k4, k5⟩ := d.dict
  rw [h2] at g2; cases g2
  obtain ⟨va, rfl⟩ := hv.isref
  have hn : valV kv2 (.inr x) = none := by
    cases e : valV kv2 (.inr x) with
    | none => rfl
    | some u =>
      exfalso
      unfold valV at e
      cases f : kv2.find? fun kv => decide (kv.1 = (Sum.inr x : Key)) with
      | none => rw [f] at e; cases e
      | some q =>
        have m := List.mem_of_find?_eq_some f
        have m2 : q.1 = Sum.inr x := by simpa using List.find?_some f
        have : (Sum.inr x : Key) ∈ ks.map Sum.inr := by rw [← k3, ← m2]; exact List.mem_map.mpr ⟨q, m, rfl⟩
        obtain ⟨y, hy, e2⟩ := List.mem_map.mp this
        exact hx (inr_inj e2 ▸ hy)
  refine ⟨⟨_, by rw [upd_ne ne]; exact s3 _ _ upd_same, fun s => ?_⟩, ⟨_, upd_same, fun s => ?_⟩, fun s y hy => ?_, _, upd_same, ?_, ?_, fun q hq => ?_⟩
  · unfold setE
    by_cases c : s = x
    · subst c
      rw [if_pos rfl]
      exact ⟨p, by rw [valV_put, if_pos rfl], tup _ _ hp⟩
    · rw [if_neg c]
      have q := k1 s
      have e : valV (putK kv1 (.inr x) (.ref p)) (.inr s) = valV kv1 (.inr s) := by rw [valV_put, if_neg (fun w => c (inr_inj w))]
      cases f : env s with
      | none => rw [f] at q; rw [e]; exact q
      | some y =>
        rw [f] at q
        obtain ⟨p2, q1, q2⟩ := q
        exact ⟨p2, e.trans q1, tup _ _ q2⟩
  · unfold setE
    by_cases c : s = x
    · subst c
      rw [if_pos rfl]
      exact ⟨_, by rw [valV_put, if_pos rfl], hv.tx t2, hz⟩
    · rw [if_neg c]
      have q := k2 s
      have e : valV (putK kv2 (.inr x) (.ref va)) (.inr s) = valV kv2 (.inr s) := by rw [valV_put, if_neg (fun w => c (inr_inj w))]
      cases f : env s with
      | none => rw [f] at q; rw [e]; exact q
      | some y =>
        rw [f] at q
        obtain ⟨u, q1, q2, q3⟩ := q
        exact ⟨u, e.trans q1, (q2.tx t1).tx t2, q3⟩
  · unfold setE at hy
    split at hy
    · cases hy; exact hz
    · exact d.t40 s y hy
  · rw [putK_new _ hn, List.map_append, k3, List.map_append]; rfl
  · rw [List.nodup_append]
    refine ⟨k4, by simp, fun y hy w hw => ?_⟩
    rw [List.mem_singleton.mp hw]
    intro e
    exact hx (e ▸ hy)
  · rw [putK_new _ hn] at hq
    rcases List.mem_append.mp hq with w | w
    · exact k5 q w
    · rw [List.mem_singleton.mp w]; exact ⟨_, rfl⟩
end Sr
set_option Elab.async false
set_option linter.all false
set_option maxRecDepth 100000
set_option maxHeartbeats 16000000
/-! law, walked -/
namespace Sr
open PySem PySem.Spec PyProof.Rows L2
abbrev env0 : Str → Option Int := fun _ => none
theorem cut4 {k : Int} (h0 : 0 ≤ k) (h1 : k < 4) : ∃ nms : List Str, cutV [V.str "a", .str "b", .str "ab", .str "zzzz"] none (some (1 + k)) = nms.map V.str ∧ 0 < nms.length ∧ nms.length ≤ 4 ∧ nms.Nodup := by
  have : k = 0 ∨ k = 1 ∨ k = 2 ∨ k = 3 := by omega
  rcases this with e | e | e | e <;> subst e
  · exact ⟨["a"], by decide +kernel, by decide +kernel, by decide +kernel, by decide +kernel⟩
  · exact ⟨["a", "b"], by decide +kernel, by decide +kernel, by decide +kernel, by decide +kernel⟩
  · exact ⟨["a", "b", "ab"], by decide +kernel, by decide +kernel, by decide +kernel, by decide +kernel⟩
  · exact ⟨["a", "b", "ab", "zzzz"], by decide +kernel, by decide +kernel, by decide +kernel, by decide +kernel⟩
theorem six {a b c d e f k : Int} (h0 : 0 ≤ k) (h1 : k < 6) (p : Int → Prop) (ha : p a) (hb : p b) (hc : p c) (hd : p d) (he : p e) (hf : p f) : ∃ z, atI [V.int a, .int b, .int c, .int d, .int e, .int f] k = some (.int z) ∧ p z := by
  have : k = 0 ∨ k = 1 ∨ k = 2 ∨ k = 3 ∨ k = 4 ∨ k = 5 := by omega
  rcases this with x | x | x | x | x | x
  · exact ⟨a, atI_eq (j := 0) x rfl, ha⟩
  · exact ⟨b, atI_eq (j := 1) x rfl, hb⟩
  · exact ⟨c, atI_eq (j := 2) x rfl, hc⟩
  · exact ⟨d, atI_eq (j := 3) x rfl, hd⟩
  · exact ⟨e, atI_eq (j := 4) x rfl, he⟩
  · exact ⟨f, atI_eq (j := 5) x rfl, hf⟩
theorem RowAt.same {L : Addr} {H H' : Hp} (r : RowAt H L) (s : Same H H') : RowAt H' L := let ⟨row, h1, h2⟩ := r; ⟨row, s _ _ h1, h2⟩
section
variable {P : Program} {w : World} {K : PySem.W.Frag} {mg : Str → Option Value} {base : Heap}
/-- what a told tree's word is, with no values -/
def tells (t : Tr) (wd : Str) : Prop := (t = .fn1 .tower (.int 39) ∧ wd = "value") ∨ ((t = .fn1 .tower (.int 40) ∨ ∃ q, t = .bin .add (.fn1 .tower (.int 40)) (.name q)) ∧ wd = "large") ∨ (valP env0 t = .refused ∧ wd = "refused") ∨ (valP env0 t = .missing ∧ wd = "missing")
theorem told_by {H' : Hp} {t : Tr} {v : V} {d : Addr} {wd : Str} {Q2 : VK} (hT : IsT K H' v t) (hh : t.ht < 6) (hd : H' d = some (.dK [])) (h : tells t wd) (k : ∀ H2 p u, Same H' H2 → H2 p = some (.tup [.str wd, u]) → Q2 (.ref p) H2) : spLTold K 6 ([v, .ref d] ++ []) H' Q2 E0 := by
  refine ⟨v, t, d, env0, rfl, hT, hh, env_none K hd, (fun _ _ h => nomatch h), ?_⟩
  rcases h with ⟨e, rfl⟩ | ⟨e, rfl⟩ | ⟨e, rfl⟩ | ⟨e, rfl⟩
  · exact .inl ⟨e, fun H2 p u s2 h2 => k H2 p u s2 h2⟩
  · exact .inr (.inl ⟨e, fun H2 p s2 h2 => k H2 p _ s2 h2⟩)
  · refine .inr (.inr ?_)
    rw [e]
    exact fun H2 p s2 h2 => k H2 p _ s2 h2
  · refine .inr (.inr ?_)
    rw [e]
    exact fun H2 p s2 h2 => k H2 p _ s2 h2
theorem val_int {z : Int} (h0 : 0 ≤ z) (h : z < 1000) : valP env0 (.int z) = .v z := by
  show (if p2 40 ≤ absI z then R.great else .v z) = _
  rw [if_neg]
  rw [p2_40]
  unfold absI
  split <;> omega
theorem tells41 : tells (.fn1 .tower (.int 41)) "refused" := .inr (.inr (.inl ⟨by
  show (valP env0 (.int 41)).bind _ = _
  rw [val_int (by decide) (by decide)]; rfl, rfl⟩))
theorem tells_neg : tells (.fn1 .tower (.neg (.int 1))) "refused" := .inr (.inr (.inl ⟨by
  show ((valP env0 (.int 1)).bind fun x => whole (.v (-x))).bind _ = _
  rw [val_int (by decide) (by decide)]
  show (if p2 40 ≤ absI (-1) then R.great else .v (-1)).bind _ = _
  rw [if_neg (by rw [p2_40]; decide)]; rfl, rfl⟩))
theorem le1v {a : V} : [a].length ≤ sizeLine := by show 1 ≤ sizeLine; decide +kernel
theorem le3v {a b c : V} : [a, b, c].length ≤ sizeLine := by show 3 ≤ sizeLine; decide +kernel
/-- a tower's tree -/
theorem tow_at {H' : Hp} {p2 p3 : Addr} {u : V} {t : Tr} (h3 : H' p3 = some (.tup [.str "call", .str "tower", .ref p2])) (h2 : H' p2 = some (.tup [u])) (ht : IsT K H' u t) : IsT K H' (.ref p3) (.fn1 .tower t) := ⟨rfl, p3, p2, u, rfl, .inl (.inl h3), .inl (.inl h2), ht⟩
theorem same_six : (!PyData.eqv (.list [.str "value", .str "large", .str "refused", .str "refused", .str "large", .str "missing"]) (.list [.str "value", .str "large", .str "refused", .str "refused", .str "large", .str "missing"])) = false := by decide +kernel
/-- a told pair as data -/
theorem pair_self (x : Str) {z : Int} (h : Sr.dp 7 z = true) : (!PyData.eqv (.tuple [.str x, pd 7 z]) (.tuple [.str x, pd 7 z])) = false := by
  have e : PyData.eqv (pd 7 z) (pd 7 z) = true := by rw [pd_eqv h h]; exact decide_eq_true rfl
  simp [PyData.eqv, PyData.eqvAll, e]
theorem pair_int (x : Str) (i : Int) : (!PyData.eqv (.tuple [.str x, .int i]) (.tuple [.str x, .int i])) = false := by simp [PyData.eqv, PyData.eqvAll]
theorem pair_shape (x : Str) (z : Int) (hx : PyData.strOk x = true := by decide +kernel) : SeqAt.shaped (.tuple [.str x, pd 7 z]) = true := by
  unfold SeqAt.shaped
  rw [Bool.and_eq_true]
  have d := pd_depth 7 z
  refine ⟨?_, decide_eq_true ?_⟩
  · simp [PyData.canLay0, PyData.canLayAll0, pd_lay 7 z, hx]
  · simp only [PyData.depth, PyData.depthAll]
    omega
theorem int_shape (x : Str) (i : Int) (hx : PyData.strOk x = true := by decide +kernel) : SeqAt.shaped (.tuple [.str x, .int i]) = true := by
  unfold SeqAt.shaped
  rw [Bool.and_eq_true]
  refine ⟨?_, decide_eq_true ?_⟩
  · simp [PyData.canLay0, PyData.canLayAll0, hx]
  · simp only [PyData.depth, PyData.depthAll]
    omega
theorem fr_back {S : Addr} {H H' : Hp} {o : HO} (hS : H S = none) (f : Fr S (upd H S o) H') : Same H H' := fun b u e => f b u (ne_of_none e hS) (by rw [upd_ne (ne_of_none e hS)]; exact e)
def spLaw (K : PySem.W.Frag) : Sp := fun vs H Q _ => ∃ (a : Addr) (ns : List Int), vs = [.ref a] ∧ SqL K H a (ns.map V.int) ∧ ns.length ≤ 63 ∧ ∀ H', Q (.bl true) H'
theorem sc_law : FnScope ["_law_script", "_law_row_here", "_law_names_here", "_law_known", "_law_values", "_law_k", "_law_number", "_law_value_here", "_law_kept", "_law_told_here", "_law_n", "_law_great", "_law_tree_here", "_law_due"] ["_law_script"] (defScope s_law) := ⟨rfl, rfl, rfl, by decide +kernel, rfl, by decide +kernel, by decide +kernel⟩
/-- a def's promise, its function object given -/
theorem ok_at {CX : CXT} {x : Str} {st : Stmt} {N ps : List Str} {k : Nat} {sp : Sp} {fd : FuncData} (F : FunD K x x (defArgs st) (defBody st) (defScope st) [] [] (He.fAd K (x, none)) fd) (S : FnScope N ps (defScope st))
    (len : ∀ vs H Q E, sp vs H Q E → vs.length = ps.length)
    (hbody : ∀ (cdv : Value) (A : Around) (outer : List Env) (s : Shared) (H : Hp) (vs : List V) (Q : VK) (E : XK), Room k (A.deeper (envOfC x (defScope st) s.heap.objs.size (He.ga K x) cdv)) → sp vs H Q E →
      ∃ t, PSs (cxOf CX P w K mg base N x (defScope st) (He.ga K x) cdv A outer s H E) (defBody st) t ∧ t { nx := fun _ H' => Q .non H', rt := Q } (start N vs) H) : FnOk P w K mg base CX (k + 1) (He.ga K x) fd ps sp :=
  F.ok S len hbody
theorem ok_law (T : Txt K mg) {fd : FuncData} (F : FunD K "law" "law" (defArgs s_law) (defBody s_law) (defScope s_law) [] [] (He.fAd K ("law", none)) fd) : FnOk P w K mg base CX0 82 (He.ga K "law") fd ["_law_script"] (spLaw K) := by
  have G_law_row := (d_law_row (P := P) (w := w) (base := base) T).mono (show 1 ≤ 81 by decide)
  have G_law_at := (d_law_at (P := P) (w := w) (base := base) T).mono (show 1 ≤ 81 by decide)
  have G_of_int := (d_of_int (P := P) (w := w) (base := base) T).mono (show 11 ≤ 81 by decide)
  have G_law_told := d_law_told (P := P) (w := w) (base := base) T 6
  have G_law_tree := (d_law_tree (P := P) (w := w) (base := base) T 6).mono (show 9 ≤ 81 by decide)
  have G_law_value := (d_law_value (P := P) (w := w) (base := base) T 6).mono (show 9 ≤ 81 by decide)
  refine ok_at F sc_law (fun vs H Q E h => ?_) (fun cdv A outer s H vs Q E hr h => ?_)
  · obtain ⟨a, ns, rfl, _⟩ := h
    rfl
  · obtain ⟨a, ns, rfl, hS, hlen, hQ⟩ := h
    have hu : (A.deeper (envOfC "law" (defScope s_law) s.heap.objs.size (He.ga K "law") cdv)).units + 1 < cLine := by have := hr.un; omega
    refine ⟨_, pss_cons (ps_set (i := 1) sc_law.nd rfl (.inl rfl) (pe_cl G_law_row hr pass0 (pa_cons (pv 0) pa_nil)))
      (pss_cons (ps_set (i := 2) sc_law.nd rfl (.inl rfl) (pe_slice sl_list (pe_lst (pa_cons pe_str (pa_cons pe_str (pa_cons pe_str (pa_cons pe_str pa_nil))))) po_none (po_some (pe_op op_add pe_int (pe_op op_mod (pe_callTy call_int1 (by rfl) T.n_int (by decide +kernel) (pa_cons (pe_cl G_law_at hr pass0 (pa_cons (pv 1) (pa_cons pe_int pa_nil))) pa_nil)) pe_int)))))
      (pss_cons (ps_set (i := 3) sc_law.nd rfl (.inl rfl) pe_dnewK)
      (pss_cons (ps_set (i := 4) sc_law.nd rfl (.inl rfl) pe_dnewK)
      (pss_cons (ps_for (passes_of rfl) rfl (pi_range1 (by rfl) T.n_range (pa_cons (pe_callB call_len (by rfl) T.n_len PySem.boot_len (pa_cons (pv 2) pa_nil)) pa_nil)) (pg_name (i := 5) sc_law.nd rfl (.inl rfl)) (pss_cons (ps_set (i := 6) sc_law.nd rfl (.inl rfl) (pe_callTy call_int1 (by rfl) T.n_int (by decide +kernel) (pa_cons (pe_cl G_law_at hr pass0 (pa_cons (pv 1) (pa_cons (pe_op op_add pe_int (pv 5)) pa_nil))) pa_nil)))
        (pss_one (ps_if (pt_cmpR op_gt (pe_op op_mod (pv 6) pe_int) pe_int (nomark _)) (pss_cons (ps_set (i := 7) sc_law.nd rfl (.inl rfl) (pe_ix ix_list (pe_lst (pa_cons pe_int (pa_cons pe_int (pa_cons (pe_un un_neg pe_int) (pa_cons (pe_op op_fdiv (pv 6) pe_int) (pa_cons (pe_op op_sub pe_int (pv 6)) (pa_cons (pe_op op_mod (pv 6) pe_int) pa_nil))))))) (pe_op op_mod (pe_op op_fdiv (pv 6) pe_int) pe_int) (fun _ _ => rfl)))
          (pss_cons (ps_dput hu (pv 3) (pe_ix ix_list (pv 2) (pv 5) (fun _ _ => rfl)) (pe_tup (pa_cons pe_str (pa_cons (pv 7) pa_nil))) rfl)
          (pss_one (ps_dput hu (pv 4) (pe_ix ix_list (pv 2) (pv 5) (fun _ _ => rfl)) (pe_cl G_of_int hr (E := E0) (passes_call takes_none5 (fun _ _ _ _ h => h)) (pa_cons (pv 7) pa_nil)) rfl)))) pss_nil))))
      (pss_cons (ps_set (i := 8) sc_law.nd rfl (.inl rfl) (pe_callTy call_dictD (by rfl) T.n_dict (by decide +kernel) (pa_cons (pv 4) pa_nil)))
      (pss_cons (by exact (ps_setLc (i := 9) (own := [("_law_n", 10)]) (g := gName 10) (tt := tYes) (te := tOp (rIxT K) (tCall (spLTold K 6) [] E0 (tCons (tTup (tCons (tC (.str "call")) (tCons (tC (.str "tower")) (tCons (tTup (tCons (tTup (tCons (tC (.str "int")) (tCons (tVar 10) tNil))) tNil)) tNil)))) (tCons tDNewK tNil))) (tC (.int 0)))
          rfl sc_law.nd rfl rfl rfl (pi_list (pe_lst (pa_cons pe_int (pa_cons pe_int (pa_cons pe_int pa_nil))))) (blkOk_by (N := ["_law_script", "_law_row_here", "_law_names_here", "_law_known", "_law_values", "_law_k", "_law_number", "_law_value_here", "_law_kept", "_law_told_here", "_law_n", "_law_great", "_law_tree_here", "_law_due"]) (sc := defScope s_law) (by decide +kernel))
          (fun _ _ _ _ _ => pg_name (i := 10) sc_law.nd rfl (Or.inl rfl)) (fun _ _ _ _ _ => pts_nil)
          (fun _ _ _ _ _ => pe_ix ix_tup (pe_cl G_law_told hr pass0 (pa_cons (pe_tup (pa_cons pe_str (pa_cons pe_str (pa_cons (pe_tup (pa_cons (pe_tup (pa_cons pe_str (pa_cons (pv 10) pa_nil))) pa_nil)) pa_nil)))) (pa_cons pe_dnewK pa_nil))) pe_int (fun _ _ => rfl))))
      (pss_cons (ps_expr (pe_bm PySem.F.plainAttrs_list PySem.F.slot_list_append PySem.F.type_list_append mt_append (pv 9) (pa_cons (pe_ix ix_tup (pe_cl G_law_told hr pass0 (pa_cons (pe_tup (pa_cons pe_str (pa_cons pe_str (pa_cons (pe_tup (pa_cons (pe_tup (pa_cons pe_str (pa_cons (pe_tup (pa_cons pe_str (pa_cons pe_int pa_nil))) pa_nil))) pa_nil)) pa_nil)))) (pa_cons pe_dnewK pa_nil))) pe_int (fun _ _ => rfl)) pa_nil)))
      (pss_cons (ps_set (i := 11) sc_law.nd rfl (.inl rfl) (pe_tup (pa_cons pe_str (pa_cons pe_str (pa_cons (pe_tup (pa_cons (pe_tup (pa_cons pe_str (pa_cons pe_int pa_nil))) pa_nil)) pa_nil)))))
      (pss_cons (ps_expr (pe_bm PySem.F.plainAttrs_list PySem.F.slot_list_append PySem.F.type_list_append mt_append (pv 9) (pa_cons (pe_ix ix_tup (pe_cl G_law_told hr pass0 (pa_cons (pe_tup (pa_cons pe_str (pa_cons (pv 11) (pa_cons (pe_tup (pa_cons pe_str (pa_cons pe_str pa_nil))) pa_nil)))) (pa_cons pe_dnewK pa_nil))) pe_int (fun _ _ => rfl)) pa_nil)))
      (pss_cons (ps_expr (pe_bm PySem.F.plainAttrs_list PySem.F.slot_list_append PySem.F.type_list_append mt_append (pv 9) (pa_cons (pe_ix ix_tup (pe_cl G_law_told hr pass0 (pa_cons (pe_tup (pa_cons pe_str (pa_cons (pe_tup (pa_cons pe_str (pa_cons pe_str pa_nil))) (pa_cons (pv 11) pa_nil)))) (pa_cons pe_dnewK pa_nil))) pe_int (fun _ _ => rfl)) pa_nil)))
      (pss_cons (ps_if (pt_cmpR (op_neD hr.units) (pv 9) (pe_lst (pa_cons pe_str (pa_cons pe_str (pa_cons pe_str (pa_cons pe_str (pa_cons pe_str (pa_cons pe_str pa_nil))))))) (nomark _)) (pss_one (ps_ret pe_bl)) pss_nil)
      (pss_cons (ps_for (passes_of rfl) rfl (pi_range1 (by rfl) T.n_range (pa_cons pe_int pa_nil)) (pg_name (i := 5) sc_law.nd rfl (.inl rfl)) (pss_cons (ps_set (i := 12) sc_law.nd rfl (.inl rfl) (pe_cl G_law_tree hr pass0 (pa_cons (pv 1) (pa_cons (pe_lst (pa_cons (pe_op op_add pe_int (pe_op op_mul pe_int (pv 5))) pa_nil)) (pa_cons (pe_op op_add pe_int (pe_op op_mod (pe_callTy call_int1 (by rfl) T.n_int (by decide +kernel) (pa_cons (pe_cl G_law_at hr pass0 (pa_cons (pv 1) (pa_cons (pe_op op_add pe_int (pv 5)) pa_nil))) pa_nil)) pe_int)) (pa_cons (pv 2) pa_nil))))))
        (pss_cons (ps_set (i := 13) sc_law.nd rfl (.inl rfl) (pe_cl G_law_value hr pass0 (pa_cons (pv 12) (pa_cons (pv 3) pa_nil))))
        (pss_one (ps_if (pt_cmpR op_ne (pe_ix ix_tup (pv 13) pe_int (fun _ _ => rfl)) pe_str (nomark _)) (pss_cons (ps_set (i := 9) sc_law.nd rfl (.inl rfl) (pe_cl G_law_told hr pass0 (pa_cons (pv 12) (pa_cons (pv 4) pa_nil))))
          (pss_cons (ps_if (pt_cmpR op_eq (pe_ix ix_tup (pv 13) pe_int (fun _ _ => rfl)) pe_str (nomark _)) (pss_one (ps_set (i := 13) sc_law.nd rfl (.inl rfl) (pe_tup (pa_cons pe_str (pa_cons (pe_cl G_of_int hr (E := E0) (passes_call takes_none5 (fun _ _ _ _ h => h)) (pa_cons (pe_ix ix_tup (pv 13) pe_int (fun _ _ => rfl)) pa_nil)) pa_nil))))) pss_nil)
          (pss_one (ps_if (pt_cmpR (op_neD hr.units) (pv 9) (pv 13) (nomark _)) (pss_one (ps_ret pe_bl)) pss_nil)))) pss_nil)))))
      (pss_one (ps_ret (pe_cmpR (op_eq_refs hr.units0) (pv 4) (pv 8) (nomark _)))))))))))))))), ?_⟩
    -- the row
    refine ⟨_, rfl, a, ns, rfl, hS, hlen, fun H1 L s1 nL hL => ?_⟩
    -- the names
    refine ⟨small16 (by show 4 ≤ 4000; omega), fun p0 hp0 => ?_⟩
    have t0 := same_new (o := .lst [V.str "a", .str "b", .str "ab", .str "zzzz"]) hp0
    refine ⟨_, rfl, L, 0, rfl, hL.same t0, fun r0 r1 r2 => .inl ⟨r0, rfl, r0, 4, rfl, rfl, pos4, 1, _, rfl, rfl, _, rfl, p0, _, rfl, .inl (.inl upd_same), fun Nm hNm => ?_⟩⟩
    obtain ⟨nms, eN, n0, n4, nnd⟩ := cut4 (k := r0 % 4) (by omega) (by omega)
    rw [eN]
    have t1 := same_new (o := .lst (nms.map V.str)) hNm
    refine fun kd hkd => fun vd hvd => ?_
    have t2 := same_new (o := .dK []) hkd
    have t3 := same_new (o := .dK []) hvd
    have nkv : kd ≠ vd := ne_of_none upd_same hvd
    have lenN : (nms.map V.str).length = nms.length := List.length_map _
    refine ⟨_, rfl, _, _, rfl, .inl ⟨_, .inl (.inl (t3 _ _ (t2 _ _ upd_same))), rfl⟩, _, rfl, by omega, by omega, ?_⟩
    rw [show ((nms.map V.str).length : Int).toNat = nms.length by rw [lenN]; omega]
    refine for_range (fun i σ H' => ∃ (env : Str → Option Int) (ks : List Str) (kv1 : List (Key × V)) (y5 y6 y7 : Option V), σ = [some (.ref a), some (.ref L), some (.ref Nm), some (.ref kd), some (.ref vd), y5, y6, y7, none, none, none, none, none, none] ∧ RowAt H' L ∧ H' Nm = some (.lst (nms.map V.str)) ∧
        VD K H' kd vd env ks ∧ H' kd = some (.dK kv1) ∧ kv1.length ≤ i ∧ ks.length ≤ i ∧ (∀ x ∈ ks, x ∈ nms.take i))
      ⟨env0, [], [], none, none, none, rfl, hL.same (t0.trans (t1.trans (t2.trans t3))), t3 _ _ (t2 _ _ upd_same), ⟨⟨[], t3 _ _ upd_same, fun _ => rfl⟩, env_none K upd_same, (fun _ _ h => nomatch h), [], upd_same, rfl, List.nodup_nil, fun _ h => nomatch h⟩, t3 _ _ upd_same, Nat.le_refl _, Nat.le_refl _, fun _ h => nomatch h⟩ ?_ ?_
    · rintro i σ H2 hi ⟨env, ks, kv1, y5, y6, y7, rfl, row2, hN2, vd2, hkd2, lkd, lks, sub⟩
      refine ⟨_, rfl, _, rfl, 1, _, rfl, rfl, L, _, rfl, row2, fun r r0 r1 => .inl ⟨r, rfl, ?_⟩⟩
      refine ⟨_, rfl, r, 6, rfl, rfl, by show (0 : Int) < 6; decide, _, _, rfl, rfl, _, rfl, ite2 (fun _ => ?_) fun _ => ⟨env, ks, kv1, _, _, _, rfl, row2, hN2, vd2, hkd2, by omega, by omega, fun x hx => ?_⟩⟩
      · obtain ⟨z, hz, z40⟩ := six (a := 0) (b := 1) (c := -1) (d := r / 6) (e := 400 - r) (f := r % 30) (k := r / 36 % 6) (by omega) (by omega) T40 (t40_of (by decide) (by decide)) (t40_of (by decide) (by decide)) (t40_of (by decide) (by decide)) (t40_of (by omega) (by omega)) (t40_of (by omega) (by omega)) (t40_of (by omega) (by omega))
        have hg : nms[i]? = some nms[i] := List.getElem?_eq_getElem hi
        generalize nms[i] = x at hg
        have hxs : x ∉ ks := fun hm => by
          obtain ⟨j, hj⟩ := List.mem_iff_getElem?.mp (sub x hm)
          rw [List.getElem?_take] at hj
          split at hj
          · have := nd_ix nnd hj hg; omega
          · cases hj
        refine ⟨1, rfl, _, rfl, r, 6, rfl, rfl, ⟨by decide, by decide⟩, _, rfl, 400, r, rfl, rfl, _, rfl, r, 30, rfl, rfl, by show (0 : Int) < 30; decide, small16 (by show 6 ≤ 4000; omega), fun l hl => ?_⟩
        refine ⟨_, rfl, r, 36, rfl, rfl, ⟨by decide, by decide⟩, _, 6, rfl, rfl, by show (0 : Int) < 6; decide, l, _, _, _, rfl, rfl, .inl (.inl upd_same), hz, ?_⟩
        have u1 := same_new (o := .lst [V.int 0, .int 1, .int (-1), .int (r / 6), .int (400 - r), .int (r % 30)]) hl
        refine ⟨_, rfl, le2, fun p hp => ?_⟩
        have u2 := u1.trans (same_new (o := .tup [.str "value", .int z]) hp)
        have name : ∀ {H' : Hp} {Q' : VK}, H' Nm = some (.lst (nms.map V.str)) → Q' (.str x) H' → rIxL K (.ref Nm) (.int (0 + (i : Int))) H' Q' := fun {H' Q'} h q => ⟨Nm, _, _, _, rfl, rfl, .inl (.inl h), atI_eq (j := i) (by omega) (by rw [List.getElem?_map, hg]; rfl), q⟩
        have vd3 := vd2.same u2
        have hkd3 := u2 _ _ hkd2
        obtain ⟨kv2, hvd2, k2m, k2n, k2r⟩ := vd3.dict
        have lk2 : kv2.length = ks.length := by
          have := congrArg List.length k2m
          rw [List.length_map, List.length_map] at this; exact this
        refine ⟨_, rfl, _, rfl, _, rfl, name (u2 _ _ hN2) ⟨kd, _, rfl, DPut.k (k := .inr x) hkd3 (by have := sizeLine_eq; omega), ?_⟩⟩
        refine ⟨_, rfl, z, rfl, z40, fun H6 v s6 hv => ?_⟩
        have keepK : ∀ q o, H2 q = some o → (∀ kvs, o ≠ .dK kvs) → H6 q = some o := fun q o e ne => s6 _ _ (by
          rw [upd_ne (fun w => by rw [w, hkd2] at e; cases e; exact ne _ rfl)]
          exact u2 _ _ e)
        have hN6 := keepK Nm _ hN2 (fun _ w => nomatch w)
        have hvd6 : H6 vd = some (.dK kv2) := s6 _ _ (by rw [upd_ne nkv.symm]; exact hvd2)
        refine ⟨_, rfl, _, rfl, _, rfl, name hN6 ⟨vd, _, rfl, DPut.k (k := .inr x) hvd6 (by have := sizeLine_eq; omega), ?_⟩⟩
        have vd7 := vd3.put hkd3 hvd2 upd_same s6 hv z40 hxs nkv
        obtain ⟨rw2, hrw, hok⟩ := row2
        refine ⟨setE env x z, ks ++ [x], putK kv1 (.inr x) (.ref p), _, _, _, rfl, ⟨rw2, ?_, hok⟩, ?_, vd7, ?_, ?_, ?_, fun y hy => ?_⟩
        · have := keepK L _ hrw (fun _ w => nomatch w)
          rw [upd_ne (fun w => by rw [w, hvd6] at this; cases this)]; exact this
        · rw [upd_ne (fun w => by rw [w, hvd6] at hN6; cases hN6)]; exact hN6
        · rw [upd_ne nkv]; exact s6 _ _ upd_same
        · have := length_putK kv1 (.inr x) (.ref p); omega
        · rw [List.length_append]; show ks.length + 1 ≤ _; omega
        · rw [take_next hg]
          rcases List.mem_append.mp hy with w | w
          · exact List.mem_append_left _ (sub y w)
          · exact List.mem_append_right _ w
      · have := sub x hx
        exact List.mem_of_mem_take (by rw [List.take_take]; rw [Nat.min_eq_left (Nat.le_succ _)]; exact this)
    · rintro σ H2 ⟨env, ks, kv1, y5, y6, y7, rfl, row2, hN2, vd2, hkd2, lkd, lks, sub⟩
      obtain ⟨kv2, hvd2, k2m, k2n, k2r⟩ := vd2.dict
      refine ⟨_, rfl, vd, kv2, rfl, .inl hvd2, fun kp hkp => ?_⟩
      have v1 := same_new (o := .dK kv2) hkp
      -- what stands from here on
      generalize hHk : upd H2 kp (.dK kv2) = Hk at v1
      have hkp1 : Hk kp = some (.dK kv2) := by rw [← hHk]; exact upd_same
      have rowK := row2.same v1
      have hNK := v1 _ _ hN2
      have vdK := vd2.same v1
      have hvdK := v1 _ _ hvd2
      -- what the fixed trees tell
      refine ⟨le3v, fun l0 hl0 => ⟨l0, rfl, ⟨_, .inl (.inl upd_same)⟩, fun D hD => ?_⟩⟩
      have w0 := same_new (o := .lst [V.int 39, .int 40, .int 41]) hl0
      have nDk : Hk D = none := Same.none w0 hD
      refine lc_list (xs := [V.int 39, .int 40, .int 41]) (fun i H' => Same Hk H' ∧ H' l0 = some (.lst [V.int 39, .int 40, .int 41]) ∧ H' D = some (.lst (([V.str "value", .str "large", .str "refused"] : List V).take i)))
        ⟨w0.trans (same_new hD), same_new hD _ _ upd_same, upd_same⟩ (fun i H' _ p => .inl (.inl p.2.1)) ?_ ?_
      · rintro i x H3 hx ⟨w3, hl3, hD3⟩
        obtain ⟨z, wd, ex, ht, ew⟩ : ∃ z wd, x = .int z ∧ tells (.fn1 .tower (.int z)) wd ∧ ([V.str "value", .str "large", .str "refused"] : List V)[i]? = some (.str wd) := by
          match i, hx with
          | 0, hx => cases hx; exact ⟨39, _, rfl, .inl ⟨rfl, rfl⟩, rfl⟩
          | 1, hx => cases hx; exact ⟨40, _, rfl, .inr (.inl ⟨.inl rfl, rfl⟩), rfl⟩
          | 2, hx => cases hx; exact ⟨41, _, rfl, tells41, rfl⟩
          | i + 3, hx => simp at hx
        subst ex
        refine ⟨rfl, lc_yes ⟨_, rfl, le2, fun p1 h1 => ⟨le1v, fun p2 h2 => ⟨le3v, fun p3 h3 => fun d hd => ?_⟩⟩⟩⟩
        have c3 := same_new (o := .dK []) hd
        have c2 := (same_new (o := .tup [.str "call", .str "tower", .ref p2]) h3).trans c3
        have c1 := (same_new (o := .tup [.ref p1]) h2).trans c2
        have c0 := (same_new (o := .tup [.str "int", .int z]) h1).trans c1
        refine told_by (t := .fn1 .tower (.int z)) (tow_at (t := .int z) (c3 _ _ upd_same) (c2 _ _ upd_same) ⟨p1, rfl, .inl (.inl (c1 _ _ upd_same))⟩) (by show 0 + 1 < 6; omega) upd_same ht fun H4 p u s4 h4 => ?_
        refine ⟨p, _, _, _, rfl, rfl, .inl (.inl h4), atI_nat (j := 0) rfl, _, s4 _ _ (c0 _ _ hD3), ?_, ?_⟩
        · rw [List.length_take]
          show min i 3 < _
          exact small1000 (by omega)
        · refine ⟨same_set (w3.trans (c0.trans s4)) nDk, ?_, ?_⟩
          · have hl4 := s4 _ _ (c0 _ _ hl3)
            have n0 : l0 ≠ D := fun e => by rw [← e, upd_same] at hD; cases hD
            rw [upd_ne n0]; exact hl4
          · rw [upd_same, take_next ew]
      · rintro H3 ⟨w3, hl3, hD3⟩
        have hD3 : H3 D = some (.lst [V.str "value", .str "large", .str "refused"]) := hD3
        -- tower(-1)
        refine ⟨_, rfl, .inl ⟨rfl, _, .inl (.inl hD3)⟩, le2, fun p1 h1 => ⟨le2, fun p2 h2 => ⟨le1v, fun p3 h3 => ⟨le3v, fun p4 h4 => fun d hd => ?_⟩⟩⟩⟩
        have c4 := same_new (o := .dK []) hd
        have c3 := (same_new (o := .tup [.str "call", .str "tower", .ref p3]) h4).trans c4
        have c2 := (same_new (o := .tup [.ref p2]) h3).trans c3
        have c1 := (same_new (o := .tup [.str "neg", .ref p1]) h2).trans c2
        have c0 := (same_new (o := .tup [.str "int", .int 1]) h1).trans c1
        refine told_by (t := .fn1 .tower (.neg (.int 1))) (tow_at (t := .neg (.int 1)) (c4 _ _ upd_same) (c3 _ _ upd_same) ⟨p2, .ref p1, rfl, .inl (.inl (c2 _ _ upd_same)), p1, rfl, .inl (.inl (c1 _ _ upd_same))⟩) (by show 0 + 1 + 1 < 6; omega) upd_same tells_neg fun H4 q u s4 hq => ?_
        have e4 := c0.trans s4
        refine ⟨q, _, _, _, rfl, rfl, .inl (.inl hq), atI_nat (j := 0) rfl, D, _, _, rfl, rfl, e4 _ _ hD3, small1000 (by show 3 ≤ 1000; omega), ?_⟩
        have w5 := same_set (p := D) (o := .lst [V.str "value", .str "large", .str "refused", .str "refused"]) (w3.trans e4) nDk
        have hD5 : (upd H4 D (.lst [V.str "value", .str "large", .str "refused", .str "refused"])) D = _ := upd_same
        -- great
        refine ⟨le2, fun g1 k1 => ⟨le1v, fun g2 k2 => ⟨le3v, fun g3 k3 => ?_⟩⟩⟩
        have b2 := same_new (o := .tup [.str "call", .str "tower", .ref g2]) k3
        have b1 := (same_new (o := .tup [.ref g1]) k2).trans b2
        have b0 := (same_new (o := .tup [.str "int", .int 40]) k1).trans b1
        have gT : IsT K (upd (upd (upd (upd H4 D (.lst [V.str "value", .str "large", .str "refused", .str "refused"])) g1 (.tup [.str "int", .int 40])) g2 (.tup [.ref g1])) g3 (.tup [.str "call", .str "tower", .ref g2])) (.ref g3) (.fn1 .tower (.int 40)) := tow_at (t := .int 40) upd_same (b2 _ _ upd_same) ⟨g1, rfl, .inl (.inl (b1 _ _ upd_same))⟩
        have w6 := w5.trans b0
        have hD6 := b0 _ _ hD5
        -- great + q
        refine ⟨_, rfl, .inl ⟨rfl, _, .inl (.inl hD6)⟩, _, rfl, le2, fun q1 m1 => ⟨le3v, fun q2 m2 => fun d2 hd2 => ?_⟩⟩
        have a2 := same_new (o := .dK []) hd2
        have a1 := (same_new (o := .tup [.str "add", .ref g3, .ref q1]) m2).trans a2
        have a0 := (same_new (o := .tup [.str "name", .str "q"]) m1).trans a1
        refine told_by (t := .bin .add (.fn1 .tower (.int 40)) (.name "q")) ⟨q2, .ref g3, .ref q1, rfl, .inl (.inl (a2 _ _ upd_same)), gT.tx (Tx.of a0), q1, rfl, .inl (.inl (a1 _ _ upd_same))⟩ (by show max (0 + 1) 0 + 1 < 6; decide) upd_same (.inr (.inl ⟨.inr ⟨_, rfl⟩, rfl⟩)) fun H7 q u7 s7 hq7 => ?_
        have e7 := a0.trans s7
        refine ⟨q, _, _, _, rfl, rfl, .inl (.inl hq7), atI_nat (j := 0) rfl, D, _, _, rfl, rfl, e7 _ _ hD6, small1000 (by show 4 ≤ 1000; omega), ?_⟩
        have w8 := same_set (p := D) (o := .lst [V.str "value", .str "large", .str "refused", .str "refused", .str "large"]) (w6.trans e7) nDk
        have hD8 : (upd H7 D (.lst [V.str "value", .str "large", .str "refused", .str "refused", .str "large"])) D = _ := upd_same
        have gT8 : IsT K (upd H7 D (.lst [V.str "value", .str "large", .str "refused", .str "refused", .str "large"])) (.ref g3) (.fn1 .tower (.int 40)) := (gT.tx (Tx.of e7)).tx (Tx.set (e7 _ _ hD6) trivial)
        -- q + great
        refine ⟨_, rfl, .inl ⟨rfl, _, .inl (.inl hD8)⟩, le2, fun q3 m3 => ⟨_, rfl, le3v, fun q4 m4 => fun d4 hd4 => ?_⟩⟩
        have f2 := same_new (o := .dK []) hd4
        have f1 := (same_new (o := .tup [.str "add", .ref q3, .ref g3]) m4).trans f2
        have f0 := (same_new (o := .tup [.str "name", .str "q"]) m3).trans f1
        refine told_by (t := .bin .add (.name "q") (.fn1 .tower (.int 40))) ⟨q4, .ref q3, .ref g3, rfl, .inl (.inl (f2 _ _ upd_same)), ⟨q3, rfl, .inl (.inl (f1 _ _ upd_same))⟩, gT8.tx (Tx.of f0)⟩ (by show max 0 (0 + 1) + 1 < 6; decide) upd_same (.inr (.inr (.inr ⟨rfl, rfl⟩))) fun H9 q u9 s9 hq9 => ?_
        have e9 := f0.trans s9
        refine ⟨q, _, _, _, rfl, rfl, .inl (.inl hq9), atI_nat (j := 0) rfl, D, _, _, rfl, rfl, e9 _ _ hD8, small1000 (by show 5 ≤ 1000; omega), ?_⟩
        have w10 := same_set (p := D) (o := .lst [V.str "value", .str "large", .str "refused", .str "refused", .str "large", .str "missing"]) (w8.trans e9) nDk
        have hD10 : (upd H9 D (.lst [V.str "value", .str "large", .str "refused", .str "refused", .str "large", .str "missing"])) D = some (.lst [V.str "value", .str "large", .str "refused", .str "refused", .str "large", .str "missing"]) := upd_same
        refine ⟨_, rfl, small16 (by show 6 ≤ 4000; omega), fun l6 hl6 => ?_⟩
        have x1 := same_new (o := .lst [V.str "value", .str "large", .str "refused", .str "refused", .str "large", .str "missing"]) hl6
        have dp : ∀ {H' : Hp} {b : Addr}, H' b = some (.lst [V.str "value", .str "large", .str "refused", .str "refused", .str "large", .str "missing"]) → Dp K H' (.ref b) (.list [.str "value", .str "large", .str "refused", .str "refused", .str "large", .str "missing"]) := fun h => .lst (.inl (.inl h)) (.cons (.str _) (.cons (.str _) (.cons (.str _) (.cons (.str _) (.cons (.str _) (.cons (.str _) .nil))))))
        refine ⟨_, _, dp (x1 _ _ hD10), dp upd_same, by decide +kernel, by decide +kernel, _, rfl, ?_⟩
        rw [same_six]
        refine iteF ?_
        have w11 := w10.trans x1
        -- three trees
        refine ⟨3, rfl, by decide, by decide, for_range (fun i σ H' => ∃ (z5 z6 z7 z9 z10 z11 z12 z13 : Option V), σ = [some (.ref a), some (.ref L), some (.ref Nm), some (.ref kd), some (.ref vd), z5, z6, z7, some (.ref kp), z9, z10, z11, z12, z13] ∧ Same Hk H')
          ⟨_, _, _, _, _, _, _, _, rfl, w11⟩ ?_ ?_⟩
        · rintro i σ Ha hi ⟨z5, z6, z7, z9, z10, z11, z12, z13, rfl, wa⟩
          refine ⟨_, rfl, _, rfl, 60, _, rfl, rfl, .inl ⟨by decide, by decide⟩, 10, _, rfl, rfl, le1v, fun S hS => ?_⟩
          have ws := wa.trans (same_new (o := .lst [V.int (10 + 60 * (0 + (i : Int)))]) hS)
          refine ⟨_, rfl, _, rfl, 5, _, rfl, rfl, L, _, rfl, rowK.same ws, fun r r0 r1 => .inl ⟨r, rfl, r, 5, rfl, rfl, by show (0 : Int) < 5; decide, 1, _, rfl, rfl, _, rfl, ?_⟩⟩
          have hLa := rowK.same wa
          refine ⟨L, S, Nm, 1 + r % 5, nms, rfl, ⟨rowK.same ws, ?_, ?_, ⟨_, upd_same⟩, ws _ _ hNK, n0, n4⟩, by omega, by show 1 + r % 5 < 6; omega, fun Hb tv t fr _ hT hht => ?_⟩
          · obtain ⟨rw3, e3, _⟩ := hLa
            exact ne_of_none e3 hS
          · exact ne_of_none (wa _ _ hNK) hS
          · have wb := wa.trans (fr_back hS fr)
            have ht6 : t.ht < 6 := by omega
            refine ⟨_, rfl, _, rfl, tv, t, kd, env, rfl, hT, ht6, vdK.known.same wb, vdK.t40, fun Hc p sc hp => ?_⟩
            have wc := wb.trans sc
            have hTc := hT.tx (Tx.of sc)
            refine ⟨_, rfl, p, _, _, _, rfl, rfl, .inl (.inl hp), atI_nat (j := 0) rfl, rfl, _, rfl, ?_⟩
            cases hv : valP env t with
            | great =>
              have b : (!decide (V.str (R.wd .great) = V.str "great")) = false := (by decide +kernel : (!decide (V.str "great" = V.str "great")) = false)
              rw [b]
              exact iteF ⟨_, _, _, _, _, _, _, _, rfl, wc⟩
            | v z =>
              rw [hv] at hp
              have b : (!decide (V.str (R.wd (.v z)) = V.str "great")) = true := (by decide +kernel : (!decide (V.str "value" = V.str "great")) = true)
              rw [b]
              have z40 := valP_t40 vdK.t40 hv
              refine iteT ⟨_, rfl, _, rfl, tv, t, vd, env, rfl, hTc, ht6, vdK.vals.same wc, vdK.t40, .inr (.inr ?_)⟩
              rw [hv]
              intro Hd q u sd hq hN
              have wd := wc.trans sd
              have hpd := sd _ _ hp
              refine ⟨_, rfl, p, _, _, _, rfl, rfl, .inl (.inl hpd), atI_nat (j := 0) rfl, rfl, _, rfl, yes_s (h := (by decide +kernel : decide (V.str "value" = V.str "value") = true)) ?_⟩
              refine ⟨_, rfl, p, _, _, _, rfl, rfl, .inl (.inl hpd), atI_nat (j := 1) rfl, z, rfl, z40, fun He u2 se hN2 => ⟨le2, fun p2 hp2 => ?_⟩⟩
              have wn := same_new (o := .tup [.str "value", u2]) hp2
              refine ⟨_, rfl, _, rfl, .tuple [.str "value", pd 7 z], .tuple [.str "value", pd 7 z], .tup (.inl (.inl (wn _ _ (se _ _ hq)))) (.cons (.str _) (.cons ((hN.tx (Tx.of (se.trans wn))).data) .nil)), .tup (.inl (.inl upd_same)) (.cons (.str _) (.cons ((hN2.tx (Tx.of wn)).data) .nil)), pair_shape _ _, pair_shape _ _, _, rfl, ?_⟩
              rw [pair_self _ z40.sm.dp]
              exact iteF ⟨_, _, _, _, _, _, _, _, rfl, (wd.trans se).trans wn⟩
            | refused =>
              rw [hv] at hp
              have b : (!decide (V.str (R.wd .refused) = V.str "great")) = true := (by decide +kernel : (!decide (V.str "refused" = V.str "great")) = true)
              rw [b]
              refine iteT ⟨_, rfl, _, rfl, tv, t, vd, env, rfl, hTc, ht6, vdK.vals.same wc, vdK.t40, .inr (.inr ?_)⟩
              rw [hv]
              intro Hd q sd hq
              have hpd := sd _ _ hp
              refine ⟨_, rfl, p, _, _, _, rfl, rfl, .inl (.inl hpd), atI_nat (j := 0) rfl, rfl, _, rfl, no_s (h := (by decide +kernel : decide (V.str "refused" = V.str "value") = false)) ?_⟩
              refine ⟨_, rfl, _, rfl, .tuple [.str "refused", .int 0], .tuple [.str "refused", .int 0], .tup (.inl (.inl hq)) (.cons (.str _) (.cons (.int _) .nil)), .tup (.inl (.inl hpd)) (.cons (.str _) (.cons (.int _) .nil)), int_shape _ _, int_shape _ _, _, rfl, ?_⟩
              rw [pair_int]
              exact iteF ⟨_, _, _, _, _, _, _, _, rfl, wc.trans sd⟩
            | missing =>
              rw [hv] at hp
              have b : (!decide (V.str (R.wd .missing) = V.str "great")) = true := (by decide +kernel : (!decide (V.str "missing" = V.str "great")) = true)
              rw [b]
              refine iteT ⟨_, rfl, _, rfl, tv, t, vd, env, rfl, hTc, ht6, vdK.vals.same wc, vdK.t40, .inr (.inr ?_)⟩
              rw [hv]
              intro Hd q sd hq
              have hpd := sd _ _ hp
              refine ⟨_, rfl, p, _, _, _, rfl, rfl, .inl (.inl hpd), atI_nat (j := 0) rfl, rfl, _, rfl, no_s (h := (by decide +kernel : decide (V.str "missing" = V.str "value") = false)) ?_⟩
              refine ⟨_, rfl, _, rfl, .tuple [.str "missing", .int 0], .tuple [.str "missing", .int 0], .tup (.inl (.inl hq)) (.cons (.str _) (.cons (.int _) .nil)), .tup (.inl (.inl hpd)) (.cons (.str _) (.cons (.int _) .nil)), int_shape _ _, int_shape _ _, _, rfl, ?_⟩
              rw [pair_int]
              exact iteF ⟨_, _, _, _, _, _, _, _, rfl, wc.trans sd⟩
            | range =>
              rw [hv] at hp
              have b : (!decide (V.str (R.wd .range) = V.str "great")) = true := (by decide +kernel : (!decide (V.str "range" = V.str "great")) = true)
              rw [b]
              refine iteT ⟨_, rfl, _, rfl, tv, t, vd, env, rfl, hTc, ht6, vdK.vals.same wc, vdK.t40, .inr (.inr ?_)⟩
              rw [hv]
              intro Hd q sd hq
              have hpd := sd _ _ hp
              refine ⟨_, rfl, p, _, _, _, rfl, rfl, .inl (.inl hpd), atI_nat (j := 0) rfl, rfl, _, rfl, no_s (h := (by decide +kernel : decide (V.str "range" = V.str "value") = false)) ?_⟩
              refine ⟨_, rfl, _, rfl, .tuple [.str "range", .int 0], .tuple [.str "range", .int 0], .tup (.inl (.inl hq)) (.cons (.str _) (.cons (.int _) .nil)), .tup (.inl (.inl hpd)) (.cons (.str _) (.cons (.int _) .nil)), int_shape _ _, int_shape _ _, _, rfl, ?_⟩
              rw [pair_int]
              exact iteF ⟨_, _, _, _, _, _, _, _, rfl, wc.trans sd⟩
        · rintro σ Ha ⟨z5, z6, z7, z9, z10, z11, z12, z13, rfl, wa⟩
          refine ⟨_, rfl, _, rfl, vd, kp, kv2, rfl, rfl, wa _ _ hvdK, wa _ _ hkp1, ?_, k2r, hQ _⟩
          rw [k2m]
          exact List.pairwise_map.mpr (k2n.imp fun h e => h (inr_inj e))
end
end Sr
set_option Elab.async false
set_option linter.all false
set_option maxRecDepth 100000
set_option maxHeartbeats 0
/-! What the top of the text leaves. -/
namespace Sr
open PySem PySem.Spec PyProof.Rows L2
def dd_size_of : He.DefD := ⟨("size_of", none), "size_of", "size_of", defArgs s_size_of, defBody s_size_of, defScope s_size_of, [], []⟩
def dd_height_of : He.DefD := ⟨("height_of", none), "height_of", "height_of", defArgs s_height_of, defBody s_height_of, defScope s_height_of, [], []⟩
def dd_compare : He.DefD := ⟨("compare", none), "compare", "compare", defArgs s_compare, defBody s_compare, defScope s_compare, [], []⟩
def dd_sign_of : He.DefD := ⟨("sign_of", none), "sign_of", "sign_of", defArgs s_sign_of, defBody s_sign_of, defScope s_sign_of, [], []⟩
def dd_in_order : He.DefD := ⟨("in_order", none), "in_order", "in_order", defArgs s_in_order, defBody s_in_order, defScope s_in_order, [], []⟩
def dd_gathered : He.DefD := ⟨("gathered", none), "gathered", "gathered", defArgs s_gathered, defBody s_gathered, defScope s_gathered, [], []⟩
def dd_sign_at : He.DefD := ⟨("sign_at", none), "sign_at", "sign_at", defArgs s_sign_at, defBody s_sign_at, defScope s_sign_at, [], []⟩
def dd_next_of : He.DefD := ⟨("next_of", none), "next_of", "next_of", defArgs s_next_of, defBody s_next_of, defScope s_next_of, [], []⟩
def dd_from_int : He.DefD := ⟨("from_int", none), "from_int", "from_int", defArgs s_from_int, defBody s_from_int, defScope s_from_int, [], []⟩
def dd_is_allowed : He.DefD := ⟨("is_allowed", none), "is_allowed", "is_allowed", defArgs s_is_allowed, defBody s_is_allowed, defScope s_is_allowed, [], []⟩
def dd_allowed : He.DefD := ⟨("allowed", none), "allowed", "allowed", defArgs s_allowed, defBody s_allowed, defScope s_allowed, [], []⟩
def dd_of_int : He.DefD := ⟨("of_int", none), "of_int", "of_int", defArgs s_of_int, defBody s_of_int, defScope s_of_int, [], []⟩
def dd_power_of_two : He.DefD := ⟨("power_of_two", none), "power_of_two", "power_of_two", defArgs s_power_of_two, defBody s_power_of_two, defScope s_power_of_two, [], []⟩
def dd_to_int : He.DefD := ⟨("to_int", none), "to_int", "to_int", defArgs s_to_int, defBody s_to_int, defScope s_to_int, [], []⟩
def dd_negate : He.DefD := ⟨("negate", none), "negate", "negate", defArgs s_negate, defBody s_negate, defScope s_negate, [], []⟩
def dd_plus : He.DefD := ⟨("plus", none), "plus", "plus", defArgs s_plus, defBody s_plus, defScope s_plus, [], []⟩
def dd_minus : He.DefD := ⟨("minus", none), "minus", "minus", defArgs s_minus, defBody s_minus, defScope s_minus, [], []⟩
def dd_add : He.DefD := ⟨("add", none), "add", "add", defArgs s_add, defBody s_add, defScope s_add, [], []⟩
def dd_subtract : He.DefD := ⟨("subtract", none), "subtract", "subtract", defArgs s_subtract, defBody s_subtract, defScope s_subtract, [], []⟩
def dd_check_place : He.DefD := ⟨("check_place", none), "check_place", "check_place", defArgs s_check_place, defBody s_check_place, defScope s_check_place, [], []⟩
def dd_is_borrowed : He.DefD := ⟨("is_borrowed", none), "is_borrowed", "is_borrowed", defArgs s_is_borrowed, defBody s_is_borrowed, defScope s_is_borrowed, [], []⟩
def dd_floored : He.DefD := ⟨("floored", none), "floored", "floored", defArgs s_floored, defBody s_floored, defScope s_floored, [], []⟩
def dd_floor_shift : He.DefD := ⟨("floor_shift", none), "floor_shift", "floor_shift", defArgs s_floor_shift, defBody s_floor_shift, defScope s_floor_shift, [], []⟩
def dd_digit : He.DefD := ⟨("digit", none), "digit", "digit", defArgs s_digit, defBody s_digit, defScope s_digit, [], []⟩
def dd_digit_at : He.DefD := ⟨("digit_at", none), "digit_at", "digit_at", defArgs s_digit_at, defBody s_digit_at, defScope s_digit_at, [], []⟩
def dd_length_of : He.DefD := ⟨("length_of", none), "length_of", "length_of", defArgs s_length_of, defBody s_length_of, defScope s_length_of, [], []⟩
def dd_length : He.DefD := ⟨("length", none), "length", "length", defArgs s_length, defBody s_length, defScope s_length, [], []⟩
def dd_low : He.DefD := ⟨("low", none), "low", "low", defArgs s_low, defBody s_low, defScope s_low, [], []⟩
def dd_shifted : He.DefD := ⟨("shifted", none), "shifted", "shifted", defArgs s_shifted, defBody s_shifted, defScope s_shifted, [], []⟩
def dd_shift : He.DefD := ⟨("shift", none), "shift", "shift", defArgs s_shift, defBody s_shift, defScope s_shift, [], []⟩
def dd_product : He.DefD := ⟨("product", none), "product", "product", defArgs s_product, defBody s_product, defScope s_product, [], []⟩
def dd_multiply : He.DefD := ⟨("multiply", none), "multiply", "multiply", defArgs s_multiply, defBody s_multiply, defScope s_multiply, [], []⟩
def dd_check_modulus : He.DefD := ⟨("check_modulus", none), "check_modulus", "check_modulus", defArgs s_check_modulus, defBody s_check_modulus, defScope s_check_modulus, [], []⟩
def dd_row_of_two : He.DefD := ⟨("row_of_two", none), "row_of_two", "row_of_two", defArgs s_row_of_two, defBody s_row_of_two, defScope s_row_of_two, [], []⟩
def dd_Powers_init : He.DefD := ⟨("Powers", some "__init__"), "__init__", "Powers.__init__", defArgs s_Powers_init, defBody s_Powers_init, defScope s_Powers_init, [], []⟩
def dd_Powers_row : He.DefD := ⟨("Powers", some "row"), "row", "Powers.row", defArgs s_Powers_row, defBody s_Powers_row, defScope s_Powers_row, [], []⟩
def dd_Powers_power : He.DefD := ⟨("Powers", some "power"), "power", "Powers.power", defArgs s_Powers_power, defBody s_Powers_power, defScope s_Powers_power, [], []⟩
def dd_Powers_number : He.DefD := ⟨("Powers", some "number"), "number", "Powers.number", defArgs s_Powers_number, defBody s_Powers_number, defScope s_Powers_number, [], []⟩
def dd_remainder : He.DefD := ⟨("remainder", none), "remainder", "remainder", defArgs s_remainder, defBody s_remainder, defScope s_remainder, [], []⟩
def dd_tower : He.DefD := ⟨("tower", none), "tower", "tower", defArgs s_tower, defBody s_tower, defScope s_tower, [], []⟩
def dd_small_modulus : He.DefD := ⟨("small_modulus", none), "small_modulus", "small_modulus", defArgs s_small_modulus, defBody s_small_modulus, defScope s_small_modulus, [], []⟩
def dd_called : He.DefD := ⟨("called", none), "called", "called", defArgs s_called, defBody s_called, defScope s_called, [], []⟩
def dd_operated : He.DefD := ⟨("operated", none), "operated", "operated", defArgs s_operated, defBody s_operated, defScope s_operated, [], []⟩
def dd_Known_init : He.DefD := ⟨("Known", some "__init__"), "__init__", "Known.__init__", defArgs s_Known_init, defBody s_Known_init, defScope s_Known_init, [], []⟩
def dd_Known_look : He.DefD := ⟨("Known", some "look"), "look", "Known.look", defArgs s_Known_look, defBody s_Known_look, defScope s_Known_look, [], []⟩
def dd_value_by : He.DefD := ⟨("value_by", none), "value_by", "value_by", defArgs s_value_by, defBody s_value_by, defScope s_value_by, [], []⟩
def dd_value_of : He.DefD := ⟨("value_of", none), "value_of", "value_of", defArgs s_value_of, defBody s_value_of, defScope s_value_of, [], []⟩
def dd_law_row : He.DefD := ⟨("_law_row", none), "_law_row", "_law_row", defArgs s_law_row, defBody s_law_row, defScope s_law_row, [], []⟩
def dd_law_at : He.DefD := ⟨("_law_at", none), "_law_at", "_law_at", defArgs s_law_at, defBody s_law_at, defScope s_law_at, [], []⟩
def dd_law_next : He.DefD := ⟨("_law_next", none), "_law_next", "_law_next", defArgs s_law_next, defBody s_law_next, defScope s_law_next, [], []⟩
def dd_law_tree : He.DefD := ⟨("_law_tree", none), "_law_tree", "_law_tree", defArgs s_law_tree, defBody s_law_tree, defScope s_law_tree, [], []⟩
def dd_law_whole : He.DefD := ⟨("_law_whole", none), "_law_whole", "_law_whole", defArgs s_law_whole, defBody s_law_whole, defScope s_law_whole, [], []⟩
def dd_law_called : He.DefD := ⟨("_law_called", none), "_law_called", "_law_called", defArgs s_law_called, defBody s_law_called, defScope s_law_called, [], []⟩
def dd_law_shifted : He.DefD := ⟨("_law_shifted", none), "_law_shifted", "_law_shifted", defArgs s_law_shifted, defBody s_law_shifted, defScope s_law_shifted, [], []⟩
def dd_law_operated : He.DefD := ⟨("_law_operated", none), "_law_operated", "_law_operated", defArgs s_law_operated, defBody s_law_operated, defScope s_law_operated, [], []⟩
def dd_law_value : He.DefD := ⟨("_law_value", none), "_law_value", "_law_value", defArgs s_law_value, defBody s_law_value, defScope s_law_value, [], []⟩
def dd_law_told : He.DefD := ⟨("_law_told", none), "_law_told", "_law_told", defArgs s_law_told, defBody s_law_told, defScope s_law_told, [], []⟩
def dd_law : He.DefD := ⟨("law", none), "law", "law", defArgs s_law, defBody s_law, defScope s_law, [], []⟩
def fnAll : List He.DefD := [dd_size_of, dd_height_of, dd_compare, dd_sign_of, dd_in_order, dd_gathered, dd_sign_at, dd_next_of, dd_from_int, dd_is_allowed, dd_allowed, dd_of_int, dd_power_of_two, dd_to_int, dd_negate, dd_plus, dd_minus, dd_add, dd_subtract, dd_check_place, dd_is_borrowed, dd_floored, dd_floor_shift, dd_digit, dd_digit_at, dd_length_of, dd_length, dd_low, dd_shifted, dd_shift, dd_product, dd_multiply, dd_check_modulus, dd_row_of_two, dd_Powers_init, dd_Powers_row, dd_Powers_power, dd_Powers_number, dd_remainder, dd_tower, dd_small_modulus, dd_called, dd_operated, dd_Known_init, dd_Known_look, dd_value_by, dd_value_of, dd_law_row, dd_law_at, dd_law_next, dd_law_tree, dd_law_whole, dd_law_called, dd_law_shifted, dd_law_operated, dd_law_value, dd_law_told, dd_law]
def fa0 : List He.Fa := [.glo "size_of", .glo "height_of", .glo "compare", .glo "sign_of", .glo "in_order", .glo "gathered", .glo "sign_at", .glo "next_of", .glo "from_int", .glo "is_allowed", .glo "allowed", .glo "of_int", .glo "power_of_two", .glo "to_int", .glo "negate", .glo "plus", .glo "minus", .glo "add", .glo "subtract", .glo "check_place", .glo "is_borrowed", .glo "floored", .glo "floor_shift", .glo "digit", .glo "digit_at", .glo "length_of", .glo "length", .glo "low", .glo "shifted", .glo "shift"]
def fa1 : List He.Fa := [.glo "product", .glo "multiply", .glo "check_modulus", .glo "row_of_two", .glo "remainder", .glo "tower", .glo "small_modulus", .glo "called", .glo "operated", .glo "value_by", .glo "value_of", .glo "_law_row", .glo "_law_at", .glo "_law_next", .glo "_law_tree", .glo "_law_whole", .glo "_law_called", .glo "_law_shifted", .glo "_law_operated", .glo "_law_value", .glo "_law_told", .glo "law", .glo "ReckonError", .glo "NotAllowed", .glo "BadRange", .glo "TooLarge", .glo "Missing", .glo "Powers", .glo "Known", .free "sum"]
def fa2 : List He.Fa := [.free "len", .free "max", .free "zip", .free "list", .free "tuple", .free "range", .free "abs", .free "int", .free "isinstance", .free "min", .free "dict", .int "MAX_SIZE" 300, .int "MAX_HEIGHT" 40, .int "MAX_DIGITS" 2900, .int "MAX_BINARY" 64, .int "MAX_PRODUCT" 400, .int "MAX_MODULUS" 10000, .int "MAX_TOWER" 40, .cls "Powers", .cls "Known", .noat "Powers" "rows", .noat "Known" "_values", .meth "Powers" "row", .meth "Powers" "power", .meth "Powers" "number", .meth "Known" "look", .mkr "Powers", .mkr "Known", .exc "NotAllowed", .exc "BadRange"]
def fa3 : List He.Fa := [.exc "Missing", .exc "TooLarge", .exm "NotAllowed" "NotAllowed" true, .exm "NotAllowed" "BadRange" false, .exm "NotAllowed" "Missing" false, .exm "NotAllowed" "TooLarge" false, .exm "BadRange" "NotAllowed" false, .exm "BadRange" "BadRange" true, .exm "BadRange" "Missing" false, .exm "BadRange" "TooLarge" false, .exm "Missing" "NotAllowed" false, .exm "Missing" "BadRange" false, .exm "Missing" "Missing" true, .exm "Missing" "TooLarge" false, .exm "TooLarge" "NotAllowed" false, .exm "TooLarge" "BadRange" false, .exm "TooLarge" "Missing" false, .exm "TooLarge" "TooLarge" true]
def faAll : List He.Fa := fa0 ++ fa1 ++ fa2 ++ fa3
/-- isinstance of a caught error -/
def xb1 (K : PySem.W.Frag) (x : Str) : Bool :=
  He.eqO (PySem.W.findIn K (.ref (He.ga K x)) "__getattribute__") (some (some (.builtin "BaseException.__getattribute__"))) && He.eqO (PySem.W.findIn K (.ref (He.ga K x)) "__getattr__") (some none) && decide (PySem.W.subIn K (.ref (He.ga K x)) (.type "BaseException") = some true) &&
  PySem.W.hasDictIn K (He.ga K x) && He.eqO (PySem.W.findIn K (.ref (He.ga K x)) "__class__") (some (some (.builtin "object.__class__"))) && decide (PySem.W.mroIn K (He.ga K x) (.type "object") = some true)
def xb2 (K : PySem.W.Frag) (x y : Str) (b : Bool) : Bool := decide (PySem.W.kitOne K (.ref (He.ga K x)) (.ref (He.ga K y)) = some b)
def xb (K : PySem.W.Frag) : Bool := xb1 K "NotAllowed" && xb1 K "BadRange" && xb1 K "Missing" && xb2 K "NotAllowed" "ReckonError" true && xb2 K "BadRange" "ReckonError" true && xb2 K "Missing" "ReckonError" true &&
  xb2 K "NotAllowed" "BadRange" false && xb2 K "BadRange" "Missing" false && xb2 K "Missing" "TooLarge" false && He.eqO (PySem.W.specialIn K (.builtin "object.__class__") "__get__") (some (some (.builtin "getset_descriptor.__get__"))) && decide (PySem.W.takesIn K (.builtin "object.__class__") = some true)
/-! ### the hook: facts by names, and what isinstance asks -/
def obsK (K : PySem.W.Frag) : He.AlD := let z := He.obsD faAll fnAll K; (z.1 && xb K, z.2)
def Says (K : PySem.W.Frag) : Prop := He.SaysD faAll fnAll K ∧ xb K = true
def obsX (g : Addr → Option Obj) : He.AlD := obsK (He.frG g (He.asD g 5))
theorem says_of {K : PySem.W.Frag} (e : obsK K = He.valD fnAll) : Says K := by
  have e1 : (obsK K).1 = true := by rw [e]; rfl
  have e2 : (obsK K).2 = (He.valD fnAll).2 := by rw [e]
  have e1 : ((He.obsD faAll fnAll K).1 && xb K) = true := e1
  obtain ⟨h1, h2⟩ := He.ba e1
  exact ⟨Prod.ext h1 e2, h2⟩
def hk : PySem.W.Hook where
  α := He.AlD
  obs := fun s => obsX s.heap.get?
  val := fun _ => He.valD fnAll
  says := fun _ h => ∃ K : PySem.W.Frag, K.In h ∧ Says K
  of := fun _ _ e => ⟨_, He.frG_in, says_of e⟩
  keeps := fun _ _ _ ⟨K, hK, c⟩ k => ⟨K, PySem.W.Frag.In.keeps hK k, c⟩
abbrev hdR : PySem.W.OpenRow := PySem.W.OpenLaw.row PySem.Challenge.rw_sandreckoner_k28_whole_values
def ob (s : PySem.W.SharedT) : He.AlD := obsX (HandSHeadRun.getT s)
theorem ob_eq (s : PySem.W.SharedT) : ob s = hk.obs s.abs := by
  have e : HandSHeadRun.getT s = s.abs.heap.get? := funext fun a => HandSHeadRun.getT_eq s a
  show obsX (HandSHeadRun.getT s) = obsX s.abs.heap.get?
  rw [e]
def nm0 : List PySem.Str := ["ReckonError", "NotAllowed", "BadRange", "TooLarge", "Missing", "MAX_SIZE", "MAX_HEIGHT", "MAX_DIGITS", "MAX_BINARY", "size_of", "height_of", "compare", "sign_of", "in_order", "gathered", "sign_at", "next_of", "from_int", "is_allowed", "allowed", "of_int", "power_of_two", "to_int", "negate", "plus", "minus", "add", "subtract", "check_place", "is_borrowed"]
def nm1 : List PySem.Str := ["floored", "floor_shift", "digit", "digit_at", "length_of", "length", "low", "MAX_PRODUCT", "shifted", "shift", "product", "multiply", "MAX_MODULUS", "check_modulus", "row_of_two", "Powers", "remainder", "MAX_TOWER", "tower", "small_modulus", "called", "operated", "Known", "value_by", "value_of", "_law_row", "_law_at", "_law_next", "_law_tree", "_law_rank"]
def nm2 : List PySem.Str := ["_law_operand", "_law_plain", "_law_levels", "_law_names", "_law_whole", "_law_called", "_law_shifted", "_law_operated", "_law_value", "_law_told"]
def nmAll : List PySem.Str := nm0 ++ nm1 ++ nm2
theorem run (w : World) : HandSHeadRun.RunEq hdR (PySem.W.view hdR.prog [78]) hk ob 6000 nmAll w := by
  intro os
  kernel_rfl
end Sr
set_option Elab.async false
set_option linter.all false
set_option maxRecDepth 100000
set_option maxHeartbeats 4000000
/-! The text's facts out of the head's, and the law. -/
namespace Sr
open PySem PySem.Spec PyProof.Rows L2

structure XB (K : PySem.W.Frag) : Prop where
  b1 : xb1 K "NotAllowed" = true
  b2 : xb1 K "BadRange" = true
  b3 : xb1 K "Missing" = true
  k_NotAllowed_ReckonError : xb2 K "NotAllowed" "ReckonError" true = true
  k_BadRange_ReckonError : xb2 K "BadRange" "ReckonError" true = true
  k_Missing_ReckonError : xb2 K "Missing" "ReckonError" true = true
  k_NotAllowed_BadRange : xb2 K "NotAllowed" "BadRange" false = true
  k_BadRange_Missing : xb2 K "BadRange" "Missing" false = true
  k_Missing_TooLarge : xb2 K "Missing" "TooLarge" false = true
  s1 : He.eqO (PySem.W.specialIn K (.builtin "object.__class__") "__get__") (some (some (.builtin "getset_descriptor.__get__"))) = true
  s2 : decide (PySem.W.takesIn K (.builtin "object.__class__") = some true) = true
theorem xb_of {K : PySem.W.Frag} (h : xb K = true) : XB K := by
  unfold xb at h
  simp only [Bool.and_eq_true] at h
  obtain ⟨⟨⟨⟨⟨⟨⟨⟨⟨⟨a1, a2⟩, a3⟩, a4⟩, a5⟩, a6⟩, a7⟩, a8⟩, a9⟩, a10⟩, a11⟩ := h
  exact ⟨a1, a2, a3, a4, a5, a6, a7, a8, a9, a10, a11⟩
theorem exc_c {K : PySem.W.Frag} {x : Str} (h : xb1 K x = true) (s1 : He.eqO (PySem.W.specialIn K (.builtin "object.__class__") "__get__") (some (some (.builtin "getset_descriptor.__get__"))) = true) (s2 : decide (PySem.W.takesIn K (.builtin "object.__class__") = some true) = true) : ExcC K (He.ga K x) := by
  unfold xb1 at h
  simp only [Bool.and_eq_true] at h
  obtain ⟨⟨⟨⟨⟨a1, a2⟩, a3⟩, a4⟩, a5⟩, a6⟩ := h
  exact { hg := He.eqO_ok a1, hk := He.eqO_ok a2, hs := of_decide_eq_true a3, hd := a4, ha := He.eqO_ok a5, hn := He.eqO_ok s1, ht := of_decide_eq_true s2, hm := of_decide_eq_true a6 }
theorem txt_of {K : PySem.W.Frag} {h : Heap} {mg : Str → Option Value} (X : K.In h) (G : h.Ns mainGlobals mg) (c : Says K) (k : XB K) : Txt K mg where
  f_size_of := c.1.def_ 0 (d := dd_size_of) rfl
  g_size_of := He.glo_ok X G (c.1.fact 0 (f := .glo "size_of") rfl)
  f_height_of := c.1.def_ 1 (d := dd_height_of) rfl
  g_height_of := He.glo_ok X G (c.1.fact 1 (f := .glo "height_of") rfl)
  f_compare := c.1.def_ 2 (d := dd_compare) rfl
  g_compare := He.glo_ok X G (c.1.fact 2 (f := .glo "compare") rfl)
  f_sign_of := c.1.def_ 3 (d := dd_sign_of) rfl
  g_sign_of := He.glo_ok X G (c.1.fact 3 (f := .glo "sign_of") rfl)
  f_in_order := c.1.def_ 4 (d := dd_in_order) rfl
  g_in_order := He.glo_ok X G (c.1.fact 4 (f := .glo "in_order") rfl)
  f_gathered := c.1.def_ 5 (d := dd_gathered) rfl
  g_gathered := He.glo_ok X G (c.1.fact 5 (f := .glo "gathered") rfl)
  f_sign_at := c.1.def_ 6 (d := dd_sign_at) rfl
  g_sign_at := He.glo_ok X G (c.1.fact 6 (f := .glo "sign_at") rfl)
  f_next_of := c.1.def_ 7 (d := dd_next_of) rfl
  g_next_of := He.glo_ok X G (c.1.fact 7 (f := .glo "next_of") rfl)
  f_from_int := c.1.def_ 8 (d := dd_from_int) rfl
  g_from_int := He.glo_ok X G (c.1.fact 8 (f := .glo "from_int") rfl)
  f_is_allowed := c.1.def_ 9 (d := dd_is_allowed) rfl
  g_is_allowed := He.glo_ok X G (c.1.fact 9 (f := .glo "is_allowed") rfl)
  f_allowed := c.1.def_ 10 (d := dd_allowed) rfl
  g_allowed := He.glo_ok X G (c.1.fact 10 (f := .glo "allowed") rfl)
  f_of_int := c.1.def_ 11 (d := dd_of_int) rfl
  g_of_int := He.glo_ok X G (c.1.fact 11 (f := .glo "of_int") rfl)
  f_power_of_two := c.1.def_ 12 (d := dd_power_of_two) rfl
  g_power_of_two := He.glo_ok X G (c.1.fact 12 (f := .glo "power_of_two") rfl)
  f_to_int := c.1.def_ 13 (d := dd_to_int) rfl
  g_to_int := He.glo_ok X G (c.1.fact 13 (f := .glo "to_int") rfl)
  f_negate := c.1.def_ 14 (d := dd_negate) rfl
  g_negate := He.glo_ok X G (c.1.fact 14 (f := .glo "negate") rfl)
  f_plus := c.1.def_ 15 (d := dd_plus) rfl
  g_plus := He.glo_ok X G (c.1.fact 15 (f := .glo "plus") rfl)
  f_minus := c.1.def_ 16 (d := dd_minus) rfl
  g_minus := He.glo_ok X G (c.1.fact 16 (f := .glo "minus") rfl)
  f_add := c.1.def_ 17 (d := dd_add) rfl
  g_add := He.glo_ok X G (c.1.fact 17 (f := .glo "add") rfl)
  f_subtract := c.1.def_ 18 (d := dd_subtract) rfl
  g_subtract := He.glo_ok X G (c.1.fact 18 (f := .glo "subtract") rfl)
  f_check_place := c.1.def_ 19 (d := dd_check_place) rfl
  g_check_place := He.glo_ok X G (c.1.fact 19 (f := .glo "check_place") rfl)
  f_is_borrowed := c.1.def_ 20 (d := dd_is_borrowed) rfl
  g_is_borrowed := He.glo_ok X G (c.1.fact 20 (f := .glo "is_borrowed") rfl)
  f_floored := c.1.def_ 21 (d := dd_floored) rfl
  g_floored := He.glo_ok X G (c.1.fact 21 (f := .glo "floored") rfl)
  f_floor_shift := c.1.def_ 22 (d := dd_floor_shift) rfl
  g_floor_shift := He.glo_ok X G (c.1.fact 22 (f := .glo "floor_shift") rfl)
  f_digit := c.1.def_ 23 (d := dd_digit) rfl
  g_digit := He.glo_ok X G (c.1.fact 23 (f := .glo "digit") rfl)
  f_digit_at := c.1.def_ 24 (d := dd_digit_at) rfl
  g_digit_at := He.glo_ok X G (c.1.fact 24 (f := .glo "digit_at") rfl)
  f_length_of := c.1.def_ 25 (d := dd_length_of) rfl
  g_length_of := He.glo_ok X G (c.1.fact 25 (f := .glo "length_of") rfl)
  f_length := c.1.def_ 26 (d := dd_length) rfl
  g_length := He.glo_ok X G (c.1.fact 26 (f := .glo "length") rfl)
  f_low := c.1.def_ 27 (d := dd_low) rfl
  g_low := He.glo_ok X G (c.1.fact 27 (f := .glo "low") rfl)
  f_shifted := c.1.def_ 28 (d := dd_shifted) rfl
  g_shifted := He.glo_ok X G (c.1.fact 28 (f := .glo "shifted") rfl)
  f_shift := c.1.def_ 29 (d := dd_shift) rfl
  g_shift := He.glo_ok X G (c.1.fact 29 (f := .glo "shift") rfl)
  f_product := c.1.def_ 30 (d := dd_product) rfl
  g_product := He.glo_ok X G (c.1.fact 30 (f := .glo "product") rfl)
  f_multiply := c.1.def_ 31 (d := dd_multiply) rfl
  g_multiply := He.glo_ok X G (c.1.fact 31 (f := .glo "multiply") rfl)
  f_check_modulus := c.1.def_ 32 (d := dd_check_modulus) rfl
  g_check_modulus := He.glo_ok X G (c.1.fact 32 (f := .glo "check_modulus") rfl)
  f_row_of_two := c.1.def_ 33 (d := dd_row_of_two) rfl
  g_row_of_two := He.glo_ok X G (c.1.fact 33 (f := .glo "row_of_two") rfl)
  f_Powers_init := c.1.def_ 34 (d := dd_Powers_init) rfl
  f_Powers_row := c.1.def_ 35 (d := dd_Powers_row) rfl
  f_Powers_power := c.1.def_ 36 (d := dd_Powers_power) rfl
  f_Powers_number := c.1.def_ 37 (d := dd_Powers_number) rfl
  f_remainder := c.1.def_ 38 (d := dd_remainder) rfl
  g_remainder := He.glo_ok X G (c.1.fact 34 (f := .glo "remainder") rfl)
  f_tower := c.1.def_ 39 (d := dd_tower) rfl
  g_tower := He.glo_ok X G (c.1.fact 35 (f := .glo "tower") rfl)
  f_small_modulus := c.1.def_ 40 (d := dd_small_modulus) rfl
  g_small_modulus := He.glo_ok X G (c.1.fact 36 (f := .glo "small_modulus") rfl)
  f_called := c.1.def_ 41 (d := dd_called) rfl
  g_called := He.glo_ok X G (c.1.fact 37 (f := .glo "called") rfl)
  f_operated := c.1.def_ 42 (d := dd_operated) rfl
  g_operated := He.glo_ok X G (c.1.fact 38 (f := .glo "operated") rfl)
  f_Known_init := c.1.def_ 43 (d := dd_Known_init) rfl
  f_Known_look := c.1.def_ 44 (d := dd_Known_look) rfl
  f_value_by := c.1.def_ 45 (d := dd_value_by) rfl
  g_value_by := He.glo_ok X G (c.1.fact 39 (f := .glo "value_by") rfl)
  f_value_of := c.1.def_ 46 (d := dd_value_of) rfl
  g_value_of := He.glo_ok X G (c.1.fact 40 (f := .glo "value_of") rfl)
  f_law_row := c.1.def_ 47 (d := dd_law_row) rfl
  g_law_row := He.glo_ok X G (c.1.fact 41 (f := .glo "_law_row") rfl)
  f_law_at := c.1.def_ 48 (d := dd_law_at) rfl
  g_law_at := He.glo_ok X G (c.1.fact 42 (f := .glo "_law_at") rfl)
  f_law_next := c.1.def_ 49 (d := dd_law_next) rfl
  g_law_next := He.glo_ok X G (c.1.fact 43 (f := .glo "_law_next") rfl)
  f_law_tree := c.1.def_ 50 (d := dd_law_tree) rfl
  g_law_tree := He.glo_ok X G (c.1.fact 44 (f := .glo "_law_tree") rfl)
  f_law_whole := c.1.def_ 51 (d := dd_law_whole) rfl
  g_law_whole := He.glo_ok X G (c.1.fact 45 (f := .glo "_law_whole") rfl)
  f_law_called := c.1.def_ 52 (d := dd_law_called) rfl
  g_law_called := He.glo_ok X G (c.1.fact 46 (f := .glo "_law_called") rfl)
  f_law_shifted := c.1.def_ 53 (d := dd_law_shifted) rfl
  g_law_shifted := He.glo_ok X G (c.1.fact 47 (f := .glo "_law_shifted") rfl)
  f_law_operated := c.1.def_ 54 (d := dd_law_operated) rfl
  g_law_operated := He.glo_ok X G (c.1.fact 48 (f := .glo "_law_operated") rfl)
  f_law_value := c.1.def_ 55 (d := dd_law_value) rfl
  g_law_value := He.glo_ok X G (c.1.fact 49 (f := .glo "_law_value") rfl)
  f_law_told := c.1.def_ 56 (d := dd_law_told) rfl
  g_law_told := He.glo_ok X G (c.1.fact 50 (f := .glo "_law_told") rfl)
  f_law := c.1.def_ 57 (d := dd_law) rfl
  g_law := He.glo_ok X G (c.1.fact 51 (f := .glo "law") rfl)
  c_ReckonError := He.glo_ok X G (c.1.fact 52 (f := .glo "ReckonError") rfl)
  c_NotAllowed := He.glo_ok X G (c.1.fact 53 (f := .glo "NotAllowed") rfl)
  c_BadRange := He.glo_ok X G (c.1.fact 54 (f := .glo "BadRange") rfl)
  c_TooLarge := He.glo_ok X G (c.1.fact 55 (f := .glo "TooLarge") rfl)
  c_Missing := He.glo_ok X G (c.1.fact 56 (f := .glo "Missing") rfl)
  c_Powers := He.glo_ok X G (c.1.fact 57 (f := .glo "Powers") rfl)
  c_Known := He.glo_ok X G (c.1.fact 58 (f := .glo "Known") rfl)
  n_sum := He.free_ok X G (c.1.fact 59 (f := .free "sum") rfl)
  n_len := He.free_ok X G (c.1.fact 60 (f := .free "len") rfl)
  n_max := He.free_ok X G (c.1.fact 61 (f := .free "max") rfl)
  n_zip := He.free_ok X G (c.1.fact 62 (f := .free "zip") rfl)
  n_list := He.free_ok X G (c.1.fact 63 (f := .free "list") rfl)
  n_tuple := He.free_ok X G (c.1.fact 64 (f := .free "tuple") rfl)
  n_range := He.free_ok X G (c.1.fact 65 (f := .free "range") rfl)
  n_abs := He.free_ok X G (c.1.fact 66 (f := .free "abs") rfl)
  n_int := He.free_ok X G (c.1.fact 67 (f := .free "int") rfl)
  n_isinstance := He.free_ok X G (c.1.fact 68 (f := .free "isinstance") rfl)
  n_min := He.free_ok X G (c.1.fact 69 (f := .free "min") rfl)
  n_dict := He.free_ok X G (c.1.fact 70 (f := .free "dict") rfl)
  i_MAX_SIZE := He.int_ok X G (c.1.fact 71 (f := .int "MAX_SIZE" 300) rfl)
  i_MAX_HEIGHT := He.int_ok X G (c.1.fact 72 (f := .int "MAX_HEIGHT" 40) rfl)
  i_MAX_DIGITS := He.int_ok X G (c.1.fact 73 (f := .int "MAX_DIGITS" 2900) rfl)
  i_MAX_BINARY := He.int_ok X G (c.1.fact 74 (f := .int "MAX_BINARY" 64) rfl)
  i_MAX_PRODUCT := He.int_ok X G (c.1.fact 75 (f := .int "MAX_PRODUCT" 400) rfl)
  i_MAX_MODULUS := He.int_ok X G (c.1.fact 76 (f := .int "MAX_MODULUS" 10000) rfl)
  i_MAX_TOWER := He.int_ok X G (c.1.fact 77 (f := .int "MAX_TOWER" 40) rfl)
  clP := He.cls_ok (c.1.fact 78 (f := .cls "Powers") rfl)
  clK := He.cls_ok (c.1.fact 79 (f := .cls "Known") rfl)
  noP := He.noat_ok (c.1.fact 80 (f := .noat "Powers" "rows") rfl)
  noK := He.noat_ok (c.1.fact 81 (f := .noat "Known" "_values") rfl)
  m_row := He.meth_ok (c.1.fact 82 (f := .meth "Powers" "row") rfl)
  m_power := He.meth_ok (c.1.fact 83 (f := .meth "Powers" "power") rfl)
  m_number := He.meth_ok (c.1.fact 84 (f := .meth "Powers" "number") rfl)
  m_look := He.meth_ok (c.1.fact 85 (f := .meth "Known" "look") rfl)
  mkP := He.mkr_ok (c.1.fact 86 (f := .mkr "Powers") rfl)
  mkK := He.mkr_ok (c.1.fact 87 (f := .mkr "Known") rfl)
  e_NotAllowed := He.exc_ok (c.1.fact 88 (f := .exc "NotAllowed") rfl)
  e_BadRange := He.exc_ok (c.1.fact 89 (f := .exc "BadRange") rfl)
  e_Missing := He.exc_ok (c.1.fact 90 (f := .exc "Missing") rfl)
  e_TooLarge := He.exc_ok (c.1.fact 91 (f := .exc "TooLarge") rfl)
  x_NotAllowed_NotAllowed := He.exm_ok (c.1.fact 92 (f := .exm "NotAllowed" "NotAllowed" true) rfl)
  x_NotAllowed_BadRange := He.exm_ok (c.1.fact 93 (f := .exm "NotAllowed" "BadRange" false) rfl)
  x_NotAllowed_Missing := He.exm_ok (c.1.fact 94 (f := .exm "NotAllowed" "Missing" false) rfl)
  x_NotAllowed_TooLarge := He.exm_ok (c.1.fact 95 (f := .exm "NotAllowed" "TooLarge" false) rfl)
  x_BadRange_NotAllowed := He.exm_ok (c.1.fact 96 (f := .exm "BadRange" "NotAllowed" false) rfl)
  x_BadRange_BadRange := He.exm_ok (c.1.fact 97 (f := .exm "BadRange" "BadRange" true) rfl)
  x_BadRange_Missing := He.exm_ok (c.1.fact 98 (f := .exm "BadRange" "Missing" false) rfl)
  x_BadRange_TooLarge := He.exm_ok (c.1.fact 99 (f := .exm "BadRange" "TooLarge" false) rfl)
  x_Missing_NotAllowed := He.exm_ok (c.1.fact 100 (f := .exm "Missing" "NotAllowed" false) rfl)
  x_Missing_BadRange := He.exm_ok (c.1.fact 101 (f := .exm "Missing" "BadRange" false) rfl)
  x_Missing_Missing := He.exm_ok (c.1.fact 102 (f := .exm "Missing" "Missing" true) rfl)
  x_Missing_TooLarge := He.exm_ok (c.1.fact 103 (f := .exm "Missing" "TooLarge" false) rfl)
  x_TooLarge_NotAllowed := He.exm_ok (c.1.fact 104 (f := .exm "TooLarge" "NotAllowed" false) rfl)
  x_TooLarge_BadRange := He.exm_ok (c.1.fact 105 (f := .exm "TooLarge" "BadRange" false) rfl)
  x_TooLarge_Missing := He.exm_ok (c.1.fact 106 (f := .exm "TooLarge" "Missing" false) rfl)
  x_TooLarge_TooLarge := He.exm_ok (c.1.fact 107 (f := .exm "TooLarge" "TooLarge" true) rfl)
  q_NotAllowed := exc_c k.b1 k.s1 k.s2
  q_BadRange := exc_c k.b2 k.s1 k.s2
  q_Missing := exc_c k.b3 k.s1 k.s2
  k_NotAllowed_ReckonError := of_decide_eq_true k.k_NotAllowed_ReckonError
  k_BadRange_ReckonError := of_decide_eq_true k.k_BadRange_ReckonError
  k_Missing_ReckonError := of_decide_eq_true k.k_Missing_ReckonError
  k_NotAllowed_BadRange := of_decide_eq_true k.k_NotAllowed_BadRange
  k_BadRange_Missing := of_decide_eq_true k.k_BadRange_Missing
  k_Missing_TooLarge := of_decide_eq_true k.k_Missing_TooLarge
theorem facts {P : Program} {w : World} {K : PySem.W.Frag} {h : Heap} {mg : Str → Option Value} {f : Addr} (X : K.In h) (G : h.Ns mainGlobals mg) (hfa : mg ("law" : Str) = some (.ref f)) (c : Says K) :
    ∃ fd : FuncData, (∀ (s : Shared) (v : Value), BindsTo s fd ⟨[v], []⟩ [("_law_script", v)]) ∧ ∀ base : Heap, K.In base → base.Ns mainGlobals mg → FnOk P w K mg base CX0 82 f fd ["_law_script"] (spLaw K) := by
  have T : Txt K mg := txt_of X G c (xb_of c.2)
  obtain ⟨fd, F⟩ := T.f_law
  have e := hfa.symm.trans T.g_law
  cases e
  have b := FunD.bindsA (ps := ["_law_script"]) F fun _ _ _ _ _ _ us hl => match us, hl with | [_], _ => rfl
  exact ⟨fd, fun s v => b s [v] rfl, fun base _ _ => ok_law T F⟩
end Sr
open PySem PySem.W PySem.Calls PyProof.Rows
theorem PySem.Challenge.cw_sandreckoner_k28_whole_values_holds : PySem.Challenge.rw_sandreckoner_k28_whole_values.Holds := by
  w_on; o_law
  refine HandSHeadRun.head_any (r := OpenLaw.row PySem.Challenge.rw_sandreckoner_k28_whole_values) (q := view (OpenLaw.row PySem.Challenge.rw_sandreckoner_k28_whole_values).prog [78]) (H := Sr.hk) (ob := Sr.ob) (M := 6000) (loose := Sr.nmAll) (d := HandSHeadRun.topDef (OpenLaw.row PySem.Challenge.rw_sandreckoner_k28_whole_values).prog 78) (kwd := []) Sr.ob_eq
    (by kernel_rfl) (fun s => by kernel_rfl) Sr.run (by kernel_rfl) (by kernel_rfl) (by kernel_rfl) (by rfl) (by first | assumption | decide +kernel) (by decide +kernel) ⟨rfl, rfl, rfl, rfl, rfl, by decide +kernel⟩ ?hw ?hc
  case hw => w_witness2
  case hc =>
    refine L2.walk_ofE (l := PySem.Challenge.rw_sandreckoner_k28_whole_values) (n := 63) (k := 82) (x := "_law_script") (CX := L2.CX0) rfl (by decide) (by kernel_rfl) ⟨rfl, by decide, by decide⟩ ?F (fun _ _ _ _ z => z)
    intro w mg fa h Y G hmg0
    obtain ⟨K, KX, c⟩ := Y
    have hmg : mg ("law" : PySem.Str) = some (.ref fa) := by
      have e : (HandSHeadRun.topDef (OpenLaw.row PySem.Challenge.rw_sandreckoner_k28_whole_values).prog 78).name = ("law" : PySem.Str) := by kernel_rfl
      rw [← e]
      exact hmg0
    obtain ⟨fd, hb, hF⟩ := Sr.facts (P := (PySem.Challenge.rw_sandreckoner_k28_whole_values).prog) (w := w) KX G hmg c
    exact ⟨K, fd, Sr.spLaw K, KX, hb, fun H a ns hl _ hS => ⟨a, ns, rfl, hS, hl, fun _ => rfl⟩, hF⟩
