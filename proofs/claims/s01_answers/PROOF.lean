import PyProof.Rows.All
import Wide.All
import OpenK.AllK
import Wide.FinOn
import PyProof.EqAt
import PyProof.EqKinds
import PyProof.TupleCall
import Open.SpecLaws
import KE.OsGo
import KE.DataCmp
import KE.DataMinMax
import HandS.ForSpec
import HandS.Comp
import HandS.Dict
import HandS.Iter
import HandS.WordsDict
import HandS.Walk
import HandS.TupAny
import HandS.Wide
import HandS.CallLocal
import HandS.More
import HandS.SortInts
import PySem.Challenge.RW_wirewear_s01_answers
set_option Elab.async false
set_option linter.all false
set_option maxRecDepth 100000
set_option maxHeartbeats 4000000
section
set_option autoImplicit false
namespace WM
open OwWear

/-! ### fractions: a pair (part, whole), whole above 0, against Rat -/
/-- a fraction as the program holds it -/
def FracIs (f : Int × Int) (q : Rat) : Prop := 0 < f.2 ∧ (f.1 : Rat) / (f.2 : Rat) = q
/-- in lowest terms -/
def FracLow (f : Int × Int) (q : Rat) : Prop := f.1 = q.num ∧ f.2 = (q.den : Int)

theorem FracLow.is {f : Int × Int} {q : Rat} (h : FracLow f q) : FracIs f q := by
  obtain ⟨h1, h2⟩ := h
  refine ⟨by rw [h2]; have := q.den_pos; omega, ?_⟩
  rw [h1, h2, ← Rat.divInt_eq_div, Rat.num_divInt_den]

theorem low_int (z : Int) : FracLow (z, 1) (z : Rat) := ⟨rfl, rfl⟩

/-- lowest: both divided by their greatest common divisor -/
def lowestI (n w : Int) : Int × Int := (n / (Int.gcd n w : Int), w / (Int.gcd n w : Int))
theorem low_lowest {n w : Int} (hw : 0 < w) : FracLow (lowestI n w) ((n : Rat) / (w : Rat)) := by
  rw [← Rat.divInt_eq_div]
  refine ⟨?_, ?_⟩
  · rw [Rat.num_divInt, Int.sign_eq_one_of_pos hw, Int.one_mul, Int.gcd_comm w n]; rfl
  · rw [Rat.den_divInt, if_neg (by omega), Int.gcd_comm w n]
    show w / (Int.gcd n w : Int) = _
    rw [Int.natCast_ediv, Int.natAbs_of_nonneg (by omega)]

/-- from one support to another -/
def betwI (a p b q x : Int) : Int × Int := if a = b then (p, 1) else lowestI (p * (b - a) + (q - p) * (x - a)) (b - a)

theorem low_betw {a p b q x : Int} (h : a < b) : FracLow (betwI a p b q x) ((p : Rat) + ((q : Rat) - (p : Rat)) * ((x : Rat) - (a : Rat)) / ((b : Rat) - (a : Rat))) := by
  unfold betwI
  rw [if_neg (by omega)]
  have hw : 0 < b - a := by omega
  have hne : ((b - a : Int) : Rat) ≠ 0 := by
    intro z
    have := Rat.intCast_eq_zero_iff.mp z
    omega
  have e : (p : Rat) + ((q : Rat) - (p : Rat)) * ((x : Rat) - (a : Rat)) / ((b : Rat) - (a : Rat)) = ((p * (b - a) + (q - p) * (x - a) : Int) : Rat) / ((b - a : Int) : Rat) := by
    rw [← Rat.intCast_sub, ← Rat.intCast_sub, ← Rat.intCast_sub, Rat.intCast_add, Rat.intCast_mul, Rat.intCast_mul]
    rw [Rat.div_def, Rat.div_def, Rat.add_mul, Rat.mul_assoc (p : Rat), Rat.mul_inv_cancel _ hne, Rat.mul_one]
  rw [e]
  exact low_lowest hw

/-! ### the cell -/
def cellI (f : Int × Int) (h n : Int) : Int := if f.1 < -h * f.2 ∨ h * f.2 < f.1 then -1 else min (n - 1) ((f.1 + h * f.2) * n / (2 * h * f.2))
def optI : Option Nat → Int
  | none => -1
  | some c => (c : Int)
theorem cell_is {f : Int × Int} {q : Rat} (hf : FracIs f q) {h n : Nat} (hh : 1 ≤ h) (hn : 1 ≤ n) : cellI f h n = optI (cellOf h n q) := by
  obtain ⟨pt, wh⟩ := f
  obtain ⟨hw, e⟩ := hf
  simp only at hw e
  have hwq : (0 : Rat) < (wh : Rat) := Rat.intCast_pos.mpr hw
  have hne : (wh : Rat) ≠ 0 := Rat.ne_of_gt hwq
  have ept : (pt : Rat) = q * (wh : Rat) := by rw [← e, Rat.div_mul_cancel hne]
  have hh' : (0 : Int) < (h : Int) := by omega
  have hn' : (0 : Int) < (n : Int) := by omega
  -- the two tests
  have t1 : q < -(h : Rat) ↔ pt < -(h : Int) * wh := by
    rw [← Rat.intCast_lt_intCast, ept, Rat.intCast_mul, Rat.intCast_neg, Rat.intCast_natCast]
    exact (Rat.mul_lt_mul_right hwq).symm
  have t2 : (h : Rat) < q ↔ (h : Int) * wh < pt := by
    rw [← Rat.intCast_lt_intCast, ept, Rat.intCast_mul, Rat.intCast_natCast]
    exact (Rat.mul_lt_mul_right hwq).symm
  have t3 : q = (h : Rat) ↔ pt = (h : Int) * wh := by
    rw [← Rat.intCast_inj, ept, Rat.intCast_mul, Rat.intCast_natCast]
    constructor
    · intro z; rw [z]
    · intro z
      have := congrArg (fun r => r / (wh : Rat)) z
      simp only [Rat.mul_div_cancel hne] at this
      exact this
  unfold cellI cellOf
  simp only
  by_cases c : pt < -(h : Int) * wh ∨ (h : Int) * wh < pt
  · rw [if_pos c, if_pos (by rw [t1, t2]; exact c)]
    rfl
  · rw [if_neg c, if_neg (by rw [t1, t2]; exact c)]
    have c1 : -(h : Int) * wh ≤ pt := by omega
    have c2 : pt ≤ (h : Int) * wh := by omega
    have hD : 0 < 2 * (h : Int) * wh := Int.mul_pos (by omega) hw
    have n1 : 0 ≤ pt + (h : Int) * wh := by
      have : -(h : Int) * wh = -((h : Int) * wh) := Int.neg_mul _ _
      omega
    by_cases d : pt = (h : Int) * wh
    · rw [if_pos (t3.mpr d)]
      show min ((n : Int) - 1) _ = ((n - 1 : Nat) : Int)
      have : (pt + (h : Int) * wh) * n / (2 * h * wh) = n := by
        have e2 : pt + (h : Int) * wh = 2 * h * wh := by rw [d, Int.mul_assoc]; omega
        rw [e2]
        exact Int.mul_ediv_cancel_left _ (by omega)
      rw [this]
      omega
    · rw [if_neg (fun z => d (t3.mp z))]
      show min ((n : Int) - 1) _ = ((Rat.floor _).toNat : Int)
      have n2 : pt + (h : Int) * wh < 2 * h * wh := by
        have : 2 * (h : Int) * wh = (h : Int) * wh + (h : Int) * wh := by rw [Int.mul_assoc]; omega
        omega
      have hb : (pt + (h : Int) * wh) * n / (2 * h * wh) < n := by
        refine Int.ediv_lt_of_lt_mul hD ?_
        rw [Int.mul_comm (n : Int)]
        exact Int.mul_lt_mul_of_pos_right n2 hn'
      have hz : 0 ≤ (pt + (h : Int) * wh) * n / (2 * h * wh) := Int.ediv_nonneg (Int.mul_nonneg n1 (by omega)) (by omega)
      have efl : Rat.floor ((q + (h : Rat)) * (n : Rat) / (2 * (h : Rat))) = (pt + (h : Int) * wh) * n / (2 * h * wh) := by
        have hhq : (0 : Rat) < 2 * (h : Rat) := Rat.mul_pos (by decide) (Rat.natCast_pos.mpr (by omega))
        have hDq : (0 : Rat) < ((2 * h * wh : Int) : Rat) := Rat.intCast_pos.mpr hD
        have eq : (q + (h : Rat)) * (n : Rat) / (2 * (h : Rat)) = (((pt + (h : Int) * wh) * n : Int) : Rat) / ((2 * h * wh : Int) : Rat) := by
          have e1 : (((pt + (h : Int) * wh) * n : Int) : Rat) = (q + (h : Rat)) * (n : Rat) * (wh : Rat) := by
            rw [Rat.intCast_mul, Rat.intCast_add, Rat.intCast_mul, ept, Rat.intCast_natCast, Rat.intCast_natCast, ← Rat.add_mul]
            rw [Rat.mul_assoc, Rat.mul_comm (wh : Rat), ← Rat.mul_assoc]
          have e2 : ((2 * h * wh : Int) : Rat) = 2 * (h : Rat) * (wh : Rat) := by
            rw [Rat.intCast_mul, Rat.intCast_mul, Rat.intCast_natCast]; rfl
          rw [e1, e2]
          generalize 2 * (h : Rat) = D
          rw [Rat.div_def, Rat.div_def, Rat.inv_mul_rev, Rat.mul_assoc _ (wh : Rat), ← Rat.mul_assoc (wh : Rat), Rat.mul_inv_cancel _ hne, Rat.one_mul]
        rw [eq, ← Rat.divInt_eq_div]
        rw [Rat.floor_def, Rat.num_divInt, Rat.den_divInt, if_neg (by omega), Int.sign_eq_one_of_pos hD, Int.one_mul]
        generalize hN : (pt + (h : Int) * wh) * n = N
        generalize hW : 2 * (h : Int) * wh = W at hD
        rw [Int.natCast_ediv, Int.natAbs_of_nonneg (by omega)]
        have g0 : (Int.gcd W N : Int) ≠ 0 := by
          have := Int.gcd_pos_of_ne_zero_left N (show W ≠ 0 by omega)
          omega
        have gp : 0 < (Int.gcd W N : Int) := by omega
        obtain ⟨a, ha⟩ := Int.gcd_dvd_left W N
        obtain ⟨b, hb⟩ := Int.gcd_dvd_right W N
        have ea : W / (Int.gcd W N : Int) = a := Int.ediv_eq_of_eq_mul_right g0 ha
        have eb : N / (Int.gcd W N : Int) = b := Int.ediv_eq_of_eq_mul_right g0 hb
        rw [ea, eb]
        clear ea eb hN hW
        generalize (Int.gcd W N : Int) = g at *
        subst ha hb
        rw [Int.mul_ediv_mul_of_pos _ _ gp]
      rw [efl, Int.toNat_of_nonneg hz]
      omega
end WM
end
section
set_option autoImplicit false
namespace WM
open OwWear

theorem cellI_lt {f : Int × Int} {h n : Int} (hn : 1 ≤ n) : cellI f h n < n := by
  unfold cellI
  split <;> omega
theorem cellOf_lt {q : Rat} {f : Int × Int} (hf : FracIs f q) {h n c : Nat} (hh : 1 ≤ h) (hn : 1 ≤ n) (e : cellOf h n q = some c) : c < n := by
  have h1 := cell_is hf hh hn
  rw [e] at h1
  have h2 := cellI_lt (f := f) (h := h) (n := n) (by omega)
  rw [h1] at h2
  have : ((c : Nat) : Int) < n := h2
  omega

/-! ### the two supports around a place -/
def Rising (l : List (Nat × Int)) : Prop := l.Pairwise fun a b => a.1 < b.1
theorem offset_left {l : List (Nat × Int)} {y : Nat × Int} {x : Nat} (h0 : l[0]? = some y) (h : x ≤ y.1) : offsetBy l x = (y.2 : Rat) := by
  match l, h0 with
  | [a], h0 => cases h0; rfl
  | a :: b :: r, h0 =>
    cases h0
    show (if x ≤ y.1 then _ else _) = _
    rw [if_pos h]
theorem offset_at : ∀ {l : List (Nat × Int)} {i : Nat} {y : Nat × Int} {x : Nat}, Rising l → l[i]? = some y → (y.1 = x ∨ (i + 1 = l.length ∧ y.1 ≤ x)) → offsetBy l x = (y.2 : Rat)
  | [], i, y, x, _, h, _ => by simp at h
  | [a], i, y, x, _, h, _ => by
    cases i with
    | zero => cases h; rfl
    | succ i => simp at h
  | a :: b :: r, 0, y, x, hr, h, hx => by
    cases h
    rcases hx with rfl | ⟨hl, _⟩
    · exact offset_left (l := a :: b :: r) rfl (Nat.le_refl _)
    · simp at hl
  | a :: b :: r, i + 1, y, x, hr, h, hx => by
    have hr' := List.pairwise_cons.mp hr
    have hy : y ∈ b :: r := List.mem_of_getElem? (i := i) h
    have hay : a.1 < y.1 := hr'.1 y hy
    have hyx : y.1 ≤ x := by rcases hx with rfl | ⟨_, h⟩ <;> omega
    have hby : b.1 ≤ y.1 := by
      rcases List.mem_cons.mp hy with rfl | m
      · exact Nat.le_refl _
      · exact Nat.le_of_lt ((List.pairwise_cons.mp hr'.2).1 y m)
    show (if x ≤ a.1 then _ else if x < b.1 then _ else offsetBy (b :: r) x) = _
    rw [if_neg (by omega), if_neg (by omega)]
    exact offset_at (l := b :: r) (i := i) hr'.2 h (by
      rcases hx with h | ⟨h1, h2⟩
      · exact Or.inl h
      · exact Or.inr ⟨by simpa using h1, h2⟩)
theorem offset_mid : ∀ {l : List (Nat × Int)} {i : Nat} {y z : Nat × Int} {x : Nat}, Rising l → l[i]? = some y → l[i + 1]? = some z → y.1 < x → x < z.1 →
    offsetBy l x = (y.2 : Rat) + ((z.2 : Rat) - (y.2 : Rat)) * ((x : Rat) - (y.1 : Rat)) / ((z.1 : Rat) - (y.1 : Rat))
  | [], i, y, z, x, _, h, _, _, _ => by simp at h
  | [a], i, y, z, x, _, _, h, _, _ => by simp at h
  | a :: b :: r, 0, y, z, x, hr, h1, h2, h3, h4 => by
    cases h1
    cases h2
    show (if x ≤ a.1 then _ else if x < b.1 then _ else offsetBy (b :: r) x) = _
    rw [if_neg (by omega), if_pos h4]
  | a :: b :: r, i + 1, y, z, x, hr, h1, h2, h3, h4 => by
    have hr' := List.pairwise_cons.mp hr
    have hy : y ∈ b :: r := List.mem_of_getElem? (i := i) h1
    have hay : a.1 < y.1 := hr'.1 y hy
    have hby : b.1 ≤ y.1 := by
      rcases List.mem_cons.mp hy with rfl | m
      · exact Nat.le_refl _
      · exact Nat.le_of_lt ((List.pairwise_cons.mp hr'.2).1 y m)
    show (if x ≤ a.1 then _ else if x < b.1 then _ else offsetBy (b :: r) x) = _
    rw [if_neg (by omega), if_neg (by omega)]
    exact offset_mid (l := b :: r) (i := i) hr'.2 h1 h2 h3 h4

def idxs (n : Nat) (p : Nat → Bool) : List Nat := (List.range n).filter p
theorem idxs_succ (n : Nat) (p : Nat → Bool) : idxs (n + 1) p = idxs n p ++ (if p n then [n] else []) := by
  unfold idxs
  rw [List.range_succ, List.filter_append, List.filter_cons, List.filter_nil]
theorem idxs_mem {n i : Nat} {p : Nat → Bool} : i ∈ idxs n p ↔ i < n ∧ p i = true := by
  unfold idxs
  rw [List.mem_filter, List.mem_range]
theorem idxs_last {p : Nat → Bool} : ∀ {n i : Nat}, (idxs n p).getLast? = some i → i < n ∧ p i = true ∧ ∀ j, i < j → j < n → p j = false
  | 0, i, h => by simp [idxs] at h
  | n + 1, i, h => by
    rw [idxs_succ] at h
    cases hp : p n with
    | true =>
      rw [hp, if_pos rfl, List.getLast?_append] at h
      have : n = i := by simpa using h
      subst this
      exact ⟨Nat.lt_succ_self _, hp, fun j h1 h2 => by omega⟩
    | false =>
      rw [hp, if_neg Bool.false_ne_true, List.append_nil] at h
      obtain ⟨h1, h2, h3⟩ := idxs_last h
      refine ⟨by omega, h2, fun j j1 j2 => ?_⟩
      by_cases e : j = n
      · rw [e]; exact hp
      · exact h3 j j1 (by omega)
theorem idxs_head {p : Nat → Bool} {n i : Nat} (h : (idxs n p).head? = some i) : i < n ∧ p i = true ∧ ∀ j, j < i → p j = false := by
  unfold idxs at h
  rw [List.head?_filter] at h
  obtain ⟨h1, h2, h3⟩ := List.find?_range_eq_some.mp h
  exact ⟨List.mem_range.mp h2, h1, fun j hj => by simpa using h3 j hj⟩
theorem idxs_nil {p : Nat → Bool} {n : Nat} (h : idxs n p = []) : ∀ j, j < n → p j = false := fun j hj => by
  cases e : p j with
  | false => rfl
  | true =>
    have := idxs_mem.mpr ⟨hj, e⟩
    rw [h] at this
    simp at this
def aheadI (ps : List Nat) (x : Nat) : List Nat := idxs ps.length fun i => decide (ps.getD i 0 ≤ x)
def behindI (ps : List Nat) (x : Nat) : List Nat := idxs ps.length fun i => decide (x ≤ ps.getD i 0)
def firstI (ps : List Nat) (x : Nat) : Nat := (aheadI ps x).getLast?.getD ((behindI ps x).head?.getD 0)
def secondI (ps : List Nat) (x : Nat) : Nat := (behindI ps x).head?.getD ((aheadI ps x).getLast?.getD 0)

theorem rising_lt {l : List (Nat × Int)} (hr : Rising l) {i j : Nat} {y z : Nat × Int} (hi : l[i]? = some y) (hj : l[j]? = some z) (h : i < j) : y.1 < z.1 := by
  obtain ⟨h1, e1⟩ := List.getElem?_eq_some_iff.mp hi
  obtain ⟨h2, e2⟩ := List.getElem?_eq_some_iff.mp hj
  have := List.pairwise_iff_getElem.mp hr i j h1 h2 h
  rw [e1, e2] at this
  exact this
/-- between the two supports the program's fraction is the specification's offset -/
theorem span_is {l : List (Nat × Int)} (hr : Rising l) (hne : l ≠ []) (x : Nat) :
    ∃ y z, l[firstI (l.map (·.1)) x]? = some y ∧ l[secondI (l.map (·.1)) x]? = some z ∧ y.1 ≤ z.1 ∧ FracLow (betwI y.1 y.2 z.1 z.2 x) (offsetBy l x) := by
  have hlen : 0 < l.length := List.length_pos_iff.mpr hne
  have hget : ∀ i y, l[i]? = some y → (l.map (·.1)).getD i 0 = y.1 := fun i y h => by
    rw [List.getD_eq_getElem?_getD, List.getElem?_map, h]; rfl
  have hsome : ∀ i, i < l.length → ∃ y, l[i]? = some y := fun i h => ⟨l[i], List.getElem?_eq_getElem h⟩
  have same : ∀ y : Nat × Int, offsetBy l x = (y.2 : Rat) → FracLow (betwI y.1 y.2 y.1 y.2 x) (offsetBy l x) := fun y e => by
    unfold betwI
    rw [if_pos rfl, e]
    exact low_int _
  have nA : (aheadI (l.map (·.1)) x).getLast? = none → aheadI (l.map (·.1)) x = [] := List.getLast?_eq_none_iff.mp
  have nB : (behindI (l.map (·.1)) x).head? = none → behindI (l.map (·.1)) x = [] := List.head?_eq_none_iff.mp
  unfold firstI secondI
  cases hA : (aheadI (l.map (·.1)) x).getLast? with
  | none =>
    have a0 := idxs_nil (nA hA)
    obtain ⟨y0, h0⟩ := hsome 0 hlen
    have c0 : x < y0.1 := by
      have := a0 0 (by simpa using hlen)
      rw [hget 0 y0 h0] at this
      have := of_decide_eq_false this
      omega
    cases hB : (behindI (l.map (·.1)) x).head? with
    | none =>
      have b0 := idxs_nil (nB hB) 0 (by simpa using hlen)
      rw [hget 0 y0 h0] at b0
      have := of_decide_eq_false b0
      omega
    | some s =>
      obtain ⟨s1, s2, s3⟩ := idxs_head hB
      have es : s = 0 := by
        rcases Nat.eq_zero_or_pos s with h | h
        · exact h
        · have := s3 0 h
          rw [hget 0 y0 h0] at this
          have := of_decide_eq_false this
          omega
      subst es
      exact ⟨y0, y0, h0, h0, Nat.le_refl _, same y0 (offset_left h0 (by omega))⟩
  | some f =>
    obtain ⟨f1, f2, f3⟩ := idxs_last hA
    have f1 : f < l.length := by simpa using f1
    obtain ⟨y, hy⟩ := hsome f f1
    rw [hget f y hy] at f2
    have f2 := of_decide_eq_true f2
    cases hB : (behindI (l.map (·.1)) x).head? with
    | none =>
      have b0 := idxs_nil (nB hB)
      have el : f + 1 = l.length := by
        rcases Nat.lt_or_ge (f + 1) l.length with h | h
        · obtain ⟨z, hz⟩ := hsome (f + 1) h
          have q1 := f3 (f + 1) (by omega) (by simpa using h)
          have q2 := b0 (f + 1) (by simpa using h)
          rw [hget _ z hz] at q1 q2
          have := of_decide_eq_false q1
          have := of_decide_eq_false q2
          omega
        · omega
      exact ⟨y, y, hy, hy, Nat.le_refl _, same y (offset_at hr hy (Or.inr ⟨el, f2⟩))⟩
    | some s =>
      obtain ⟨s1, s2, s3⟩ := idxs_head hB
      have s1 : s < l.length := by simpa using s1
      obtain ⟨z, hz⟩ := hsome s s1
      rw [hget s z hz] at s2
      have s2 := of_decide_eq_true s2
      have hfs : f ≤ s := by
        rcases Nat.lt_or_ge s f with h | h
        · have := rising_lt hr hz hy h
          omega
        · exact h
      have hsf : s ≤ f + 1 := by
        rcases Nat.lt_or_ge (f + 1) s with h | h
        · obtain ⟨u, hu⟩ := hsome (f + 1) (by omega)
          have q1 := f3 (f + 1) (by omega) (by simpa using (by omega : f + 1 < l.length))
          have q2 := s3 (f + 1) h
          rw [hget _ u hu] at q1 q2
          have := of_decide_eq_false q1
          have := of_decide_eq_false q2
          omega
        · exact h
      show ∃ y z, l[f]? = some y ∧ l[s]? = some z ∧ y.1 ≤ z.1 ∧ _
      by_cases e : f = s
      · subst e
        rw [hy] at hz
        cases hz
        exact ⟨y, y, hy, hy, Nat.le_refl _, same y (offset_at hr hy (Or.inl (by omega)))⟩
      · have es : s = f + 1 := by omega
        subst es
        have hlt := rising_lt hr hy hz (by omega)
        have c1 : y.1 < x := by
          have := s3 f (by omega)
          rw [hget f y hy] at this
          have := of_decide_eq_false this
          omega
        have c2 : x < z.1 := by
          have := f3 (f + 1) (by omega) (by simpa using s1)
          rw [hget _ z hz] at this
          have := of_decide_eq_false this
          omega
        refine ⟨y, z, hy, hz, by omega, ?_⟩
        rw [offset_mid hr hy hz c1 c2]
        exact low_betw (by omega)
end WM
end
section
set_option autoImplicit false
namespace WM
open OwWear

/-! ### touched -/
theorem counts_length (l : List (Option Nat)) (n : Nat) : (counts l n).length = n := by unfold counts; rw [List.length_map, List.length_range]
theorem counts_get (l : List (Option Nat)) {n j : Nat} (h : j < n) : (counts l n)[j]? = some (l.filter fun c => c == some j).length := by
  unfold counts
  rw [List.getElem?_map, List.getElem?_range h]
  rfl
theorem counts_snoc_none (l : List (Option Nat)) (n : Nat) : counts (l ++ [none]) n = counts l n := by
  unfold counts
  refine List.map_congr_left fun j _ => ?_
  rw [List.filter_append, List.filter_cons, List.filter_nil]
  simp
theorem counts_snoc_some (l : List (Option Nat)) {n c : Nat} (h : c < n) : counts (l ++ [some c]) n = (counts l n).set c ((l.filter fun x => x == some c).length + 1) := by
  refine List.ext_getElem? fun j => ?_
  rw [List.getElem?_set]
  by_cases hj : j < n
  · rw [counts_get _ hj]
    by_cases e : c = j
    · subst e
      rw [if_pos rfl, if_pos (by rw [counts_length]; exact h), List.filter_append, List.length_append]
      simp
    · rw [if_neg e, counts_get _ hj, List.filter_append, List.length_append]
      have : (List.filter (fun x => x == some j) [some c]) = [] := by simp [e]
      rw [this]; rfl
  · have hne : ¬ c = j := by omega
    rw [if_neg hne]
    rw [List.getElem?_eq_none (by rw [counts_length]; omega), List.getElem?_eq_none (by rw [counts_length]; omega)]
theorem offs_snoc_none (l : List (Option Nat)) : offs (l ++ [none]) = offs l + 1 := by
  unfold offs
  rw [List.filter_append, List.length_append]
  rfl
theorem offs_snoc_some (l : List (Option Nat)) (c : Nat) : offs (l ++ [some c]) = offs l := by
  unfold offs
  rw [List.filter_append, List.length_append]
  rfl
theorem counts_nil (n : Nat) : counts [] n = List.replicate n 0 := by
  unfold counts
  refine List.ext_getElem? fun j => ?_
  rw [List.getElem?_map, List.getElem?_replicate]
  by_cases hj : j < n
  · rw [List.getElem?_range hj, if_pos hj]; rfl
  · rw [List.getElem?_eq_none (by rw [List.length_range]; omega), if_neg hj]; rfl
/-- a count is no more than there are places -/
theorem counts_le (l : List (Option Nat)) (n : Nat) : ∀ c ∈ counts l n, c ≤ l.length := by
  intro c hc
  unfold counts at hc
  obtain ⟨j, _, rfl⟩ := List.mem_map.mp hc
  exact List.length_filter_le _ _

/-! ### the greatest of a list -/
theorem greatest_le : ∀ {l : List Nat} {x : Nat}, x ∈ l → x ≤ greatest l
  | y :: r, x, h => by
    show x ≤ max y (greatest r)
    rcases List.mem_cons.mp h with rfl | h
    · exact Nat.le_max_left _ _
    · exact Nat.le_trans (greatest_le h) (Nat.le_max_right _ _)
theorem greatest_mem : ∀ {l : List Nat}, l ≠ [] → greatest l ∈ l
  | [y], _ => by show max y 0 ∈ [y]; simp
  | y :: z :: r, _ => by
    have ih := greatest_mem (l := z :: r) (by simp)
    show max y (greatest (z :: r)) ∈ y :: z :: r
    rcases Nat.le_total y (greatest (z :: r)) with h | h
    · rw [Nat.max_eq_right h]; exact List.mem_cons_of_mem _ ih
    · rw [Nat.max_eq_left h]; exact List.mem_cons_self
theorem greatest_is {l : List Nat} {m : Nat} (h1 : m ∈ l) (h2 : ∀ y ∈ l, y ≤ m) : m = greatest l :=
  Nat.le_antisymm (greatest_le h1) (h2 _ (greatest_mem (by intro z; rw [z] at h1; simp at h1)))

/-! ### all choices -/
theorem choices_snoc (row : List Int) : ∀ k, choices row (k + 1) = (choices row k).flatMap fun c => row.map fun o => c ++ [o]
  | 0 => by
    show (row.flatMap fun o => [[]].map fun l => o :: l) = [[]].flatMap fun c => row.map fun o => c ++ [o]
    simp [List.flatMap_cons]
    induction row with
    | nil => rfl
    | cons a r ih => simp [List.flatMap_cons, ih]
  | k + 1 => by
    show (row.flatMap fun o => (choices row (k + 1)).map fun l => o :: l) = (row.flatMap fun o => (choices row k).map fun l => o :: l).flatMap _
    rw [List.flatMap_assoc]
    congr 1
    funext o
    rw [choices_snoc row k, List.map_flatMap, List.flatMap_map]
    congr 1
    funext c
    rw [List.map_map]
    rfl
theorem choices_length : ∀ (row : List Int) (k : Nat), (choices row k).length = row.length ^ k
  | _, 0 => rfl
  | row, k + 1 => by
    show (row.flatMap fun o => (choices row k).map fun l => o :: l).length = _
    rw [List.length_flatMap]
    simp only [List.length_map, choices_length row k]
    rw [Nat.pow_succ, Nat.mul_comm]
    generalize row.length ^ k = m
    induction row with
    | nil => simp
    | cons a r ih => simp only [List.map_cons, List.sum_cons, ih, List.length_cons, Nat.add_mul]; omega
theorem choices_each : ∀ {row : List Int} {k : Nat} {c : List Int}, c ∈ choices row k → c.length = k ∧ ∀ o ∈ c, o ∈ row
  | row, 0, c, h => by
    have : c = [] := by simpa [choices] using h
    subst this
    exact ⟨rfl, fun o h => by simp at h⟩
  | row, k + 1, c, h => by
    obtain ⟨o, ho, h⟩ := List.mem_flatMap.mp h
    obtain ⟨l, hl, rfl⟩ := List.mem_map.mp h
    obtain ⟨h1, h2⟩ := choices_each hl
    refine ⟨by rw [List.length_cons, h1], fun p hp => ?_⟩
    rcases List.mem_cons.mp hp with rfl | hp
    · exact ho
    · exact h2 p hp
/-- the lesser at the first place that differs, lists of one length -/
def lexL : List Int → List Int → Prop
  | a :: r, b :: s => a < b ∨ (a = b ∧ lexL r s)
  | _, _ => False
theorem lexL_asymm : ∀ {a b : List Int}, lexL a b → ¬ lexL b a
  | a :: r, b :: s, h1, h2 => by
    rcases h1 with h1 | ⟨h1, h1'⟩ <;> rcases h2 with h2 | ⟨h2, h2'⟩
    · omega
    · omega
    · omega
    · exact lexL_asymm h1' h2'
def Up (row : List Int) : Prop := row.Pairwise (· < ·)
theorem up_of_rising : ∀ {l : List Int}, WearSpec.rising l = true → Up l
  | [], _ => List.Pairwise.nil
  | [a], _ => List.pairwise_singleton _ _
  | a :: b :: l, h => by
    rw [WearSpec.rising, Bool.and_eq_true] at h
    have h1 := of_decide_eq_true h.1
    have ih := up_of_rising h.2
    refine List.pairwise_cons.mpr ⟨fun z hz => ?_, ih⟩
    rcases List.mem_cons.mp hz with rfl | hz
    · exact h1
    · exact Int.lt_trans h1 ((List.pairwise_cons.mp ih).1 z hz)
theorem choices_up {row : List Int} (hr : Up row) : ∀ k, (choices row k).Pairwise lexL
  | 0 => List.pairwise_singleton _ _
  | k + 1 => by
    show (row.flatMap fun o => (choices row k).map fun l => o :: l).Pairwise lexL
    have ih := choices_up hr k
    induction row with
    | nil => exact List.Pairwise.nil
    | cons a r _ =>
      generalize hc : choices (a :: r) k = cs at ih ⊢
      clear hc
      have key : ∀ q : List Int, Up q → (q.flatMap fun o => cs.map fun l => o :: l).Pairwise lexL := by
        intro q
        induction q with
        | nil => intro _; exact List.Pairwise.nil
        | cons b q ih2 =>
          intro hq
          obtain ⟨q1, q2⟩ := List.pairwise_cons.mp hq
          rw [List.flatMap_cons, List.pairwise_append]
          refine ⟨?_, ih2 q2, ?_⟩
          · rw [List.pairwise_map]
            exact ih.imp fun h => Or.inr ⟨rfl, h⟩
          · intro u hu v hv
            obtain ⟨u', _, rfl⟩ := List.mem_map.mp hu
            obtain ⟨o, ho, hv⟩ := List.mem_flatMap.mp hv
            obtain ⟨v', _, rfl⟩ := List.mem_map.mp hv
            exact Or.inl (q1 o ho)
      exact key _ hr

/-! ### the best -/
abbrev Val3 := (Nat × Nat) × List Int
def better (x y : Val3) : Prop := x.1.1 < y.1.1 ∨ (x.1.1 = y.1.1 ∧ x.1.2 < y.1.2)
instance (x y : Val3) : Decidable (better x y) := inferInstanceAs (Decidable (_ ∨ _))
def bestStep (b : Option Val3) (x : Val3) : Option Val3 := match b with
  | none => some x
  | some y => if better x y then some x else some y
def pick (b : Val3) : Option Val3 → Val3
  | none => b
  | some y => if better y b then y else b
theorem best_fold : ∀ (l : List Val3) (b : Val3), l.foldl bestStep (some b) = some (pick b (bestOf l))
  | [], b => rfl
  | x :: r, b => by
    show r.foldl bestStep (if better x b then some x else some b) = _
    have e : (if better x b then some x else some b) = some (if better x b then x else b) := by split <;> rfl
    rw [e, best_fold r]
    show _ = some (pick b (match bestOf r with
      | some y => if y.1.1 < x.1.1 ∨ (y.1.1 = x.1.1 ∧ y.1.2 < x.1.2) then some y else some x
      | none => some x))
    congr 1
    cases bestOf r with
    | none => rfl
    | some y =>
      show (if better y (if better x b then x else b) then y else (if better x b then x else b)) = pick b (if better y x then some y else some x)
      by_cases c1 : better x b <;> by_cases c2 : better y x <;> simp only [c1, c2, if_true, if_false, pick]
      · rw [if_pos]
        rcases c1 with c1 | ⟨c1, c1'⟩ <;> rcases c2 with c2 | ⟨c2, c2'⟩ <;> (unfold better; omega)
      · have : ¬ better y b := by
          intro c3
          apply c1
          unfold better at *
          omega
        rw [if_neg this]
theorem best_is (l : List Val3) : l.foldl bestStep none = bestOf l := by
  cases l with
  | nil => rfl
  | cons x r =>
    show r.foldl bestStep (some x) = _
    rw [best_fold]
    show _ = (match bestOf r with
      | some y => if y.1.1 < x.1.1 ∨ (y.1.1 = x.1.1 ∧ y.1.2 < x.1.2) then some y else some x
      | none => some x)
    cases bestOf r with
    | none => rfl
    | some y =>
      show some (if better y x then y else x) = (if better y x then some y else some x)
      split <;> rfl

/-! ### the first of the least; the first of the greatest -/
theorem leastOf_mem : ∀ {l : List (Nat × Nat)} {u : Nat × Nat}, leastOf l = some u → u ∈ l
  | [], u, h => by cases h
  | x :: r, u, h => by
    have h : (match leastOf r with
      | some y => if y.2 < x.2 then some y else some x
      | none => some x) = some u := h
    cases hr : leastOf r with
    | none => rw [hr] at h; cases h; exact List.mem_cons_self
    | some w =>
      rw [hr] at h
      simp only at h
      split at h
      · cases h; exact List.mem_cons_of_mem _ (leastOf_mem hr)
      · cases h; exact List.mem_cons_self
theorem leastOf_eq : ∀ {l : List (Nat × Nat)} {i : Nat} {y : Nat × Nat}, l[i]? = some y → (∀ z ∈ l, y.2 ≤ z.2) → (∀ (j : Nat) z, j < i → l[j]? = some z → y.2 < z.2) → leastOf l = some y
  | [], i, y, h, _, _ => by simp at h
  | x :: r, 0, y, h, h2, _ => by
    have e : x = y := Option.some.inj h
    subst e
    show (match leastOf r with
      | some y' => if y'.2 < x.2 then some y' else some x
      | none => some x) = some x
    cases hr : leastOf r with
    | none => rfl
    | some u =>
      have hu : u ∈ r := leastOf_mem hr
      have := h2 u (List.mem_cons_of_mem _ hu)
      show (if u.2 < x.2 then some u else some x) = some x
      rw [if_neg (by omega)]
  | x :: r, i + 1, y, h, h2, h3 => by
    have ih := leastOf_eq (l := r) (i := i) (y := y) h (fun z hz => h2 z (List.mem_cons_of_mem _ hz)) (fun j z hj hz => h3 (j + 1) z (by omega) hz)
    have hx := h3 0 x (by omega) rfl
    show (match leastOf r with
      | some y' => if y'.2 < x.2 then some y' else some x
      | none => some x) = some y
    rw [ih]
    show (if y.2 < x.2 then some y else some x) = some y
    rw [if_pos hx]
theorem soonest_none : ∀ {l : List (Nat × Option Nat)}, (∀ p ∈ l, p.2 = none) → soonest l = none
  | [], _ => rfl
  | (x, some n) :: r, h => by
    have := h (x, some n) List.mem_cons_self
    cases this
  | (x, none) :: r, h => soonest_none (l := r) fun p hp => h p (List.mem_cons_of_mem _ hp)
theorem soonest_mem : ∀ {l : List (Nat × Option Nat)} {u : Nat × Nat}, soonest l = some u → (u.2, some u.1) ∈ l
  | [], u, h => by cases h
  | (x, none) :: r, u, h => List.mem_cons_of_mem _ (soonest_mem (l := r) h)
  | (x, some n) :: r, u, h => by
    have h : (match soonest r with
      | some y => if y.1 < n then some y else some (n, x)
      | none => some (n, x)) = some u := h
    cases hr : soonest r with
    | none => rw [hr] at h; cases h; exact List.mem_cons_self
    | some w =>
      rw [hr] at h
      simp only at h
      split at h
      · cases h; exact List.mem_cons_of_mem _ (soonest_mem hr)
      · cases h; exact List.mem_cons_self
theorem soonest_eq : ∀ {l : List (Nat × Option Nat)} {i x n : Nat}, l[i]? = some (x, some n) → (∀ p ∈ l, ∀ m, p.2 = some m → n ≤ m) → (∀ (j : Nat) p m, j < i → l[j]? = some p → p.2 = some m → n < m) → soonest l = some (n, x)
  | [], i, x, n, h, _, _ => by simp at h
  | q :: r, 0, x, n, h, h2, _ => by
    cases h
    show (match soonest r with
      | some y => if y.1 < n then some y else some (n, x)
      | none => some (n, x)) = some (n, x)
    cases hr : soonest r with
    | none => rfl
    | some u =>
      have := h2 _ (List.mem_cons_of_mem _ (soonest_mem hr)) _ rfl
      show (if u.1 < n then some u else some (n, x)) = some (n, x)
      rw [if_neg (by omega)]
  | (z, o) :: r, i + 1, x, n, h, h2, h3 => by
    have ih := soonest_eq (l := r) (i := i) (x := x) (n := n) h (fun p hp => h2 p (List.mem_cons_of_mem _ hp)) (fun j p m hj hp => h3 (j + 1) p m (by omega) hp)
    cases o with
    | none => exact ih
    | some m =>
      have hx := h3 0 _ m (by omega) rfl rfl
      show (match soonest r with
        | some y => if y.1 < m then some y else some (m, z)
        | none => some (m, z)) = some (n, x)
      rw [ih]
      show (if n < m then some (n, x) else some (m, z)) = some (n, x)
      rw [if_pos hx]
def mostStep (b x : Nat × Nat) : Nat × Nat := if b.2 < x.2 then x else b
def pickM (b : Nat × Nat) : Option (Nat × Nat) → Nat × Nat
  | none => b
  | some y => if b.2 < y.2 then y else b
theorem most_fold : ∀ (l : List (Nat × Nat)) (b : Nat × Nat), l.foldl mostStep b = pickM b (mostOf l)
  | [], b => rfl
  | x :: r, b => by
    show r.foldl mostStep (mostStep b x) = _
    rw [most_fold r]
    show _ = pickM b (match mostOf r with
      | some y => if x.2 < y.2 then some y else some x
      | none => some x)
    cases mostOf r with
    | none => rfl
    | some y =>
      show (if (mostStep b x).2 < y.2 then y else mostStep b x) = pickM b (if x.2 < y.2 then some y else some x)
      unfold mostStep
      by_cases c1 : b.2 < x.2 <;> by_cases c2 : x.2 < y.2 <;> simp only [c1, c2, if_true, if_false, pickM]
      · rw [if_pos (by omega)]
      · rw [if_neg (by omega)]
theorem most_is {l : List (Nat × Nat)} (h : ∀ x ∈ l, 0 < x.2) : l.foldl mostStep (0, 0) = (mostOf l).getD (0, 0) := by
  rw [most_fold]
  cases e : mostOf l with
  | none => rfl
  | some y =>
    have hm : ∀ {l : List (Nat × Nat)} {y}, mostOf l = some y → y ∈ l := by
      intro l
      induction l with
      | nil => intro y hy; cases hy
      | cons a r ih =>
        intro y hy
        unfold mostOf at hy
        cases hr : mostOf r with
        | none => rw [hr] at hy; cases hy; exact List.mem_cons_self
        | some w =>
          rw [hr] at hy
          simp only at hy
          split at hy
          · cases hy; exact List.mem_cons_of_mem _ (ih hr)
          · cases hy; exact List.mem_cons_self
    have := h y (hm e)
    show (if 0 < y.2 then y else (0, 0)) = y
    rw [if_pos this]

/-! ### pieces and splices, from the left -/
def pieceStep (acc : List (Nat × Nat)) (x : Nat) : List (Nat × Nat) := match acc.getLast? with
  | some (a, b) => if b + 1 = x then acc.dropLast ++ [(a, x)] else acc ++ [(x, x)]
  | none => [(x, x)]
/-- joining two rows of pieces -/
def joinP (l r : List (Nat × Nat)) : List (Nat × Nat) := match l.getLast?, r with
  | some (a, b), (c, d) :: s => if c = b + 1 then l.dropLast ++ (a, d) :: s else l ++ (c, d) :: s
  | _, _ => l ++ r
theorem pieces_cons (x : Nat) (r : List Nat) : pieces (x :: r) = joinP [(x, x)] (pieces r) := by
  rw [pieces]
  cases pieces r with
  | nil => rfl
  | cons p l => rfl
theorem pieceStep_eq (acc : List (Nat × Nat)) (x : Nat) : pieceStep acc x = joinP acc [(x, x)] := by
  unfold pieceStep joinP
  cases h : acc.getLast? with
  | none =>
    have : acc = [] := List.getLast?_eq_none_iff.mp h
    subst this; rfl
  | some p =>
    obtain ⟨a, b⟩ := p
    simp only
    by_cases c : b + 1 = x
    · rw [if_pos c, if_pos c.symm]
    · rw [if_neg c, if_neg (fun z => c z.symm)]
theorem joinP_nil_left (r : List (Nat × Nat)) : joinP [] r = r := rfl
theorem joinP_nil_right (l : List (Nat × Nat)) : joinP l [] = l := by
  unfold joinP
  cases l.getLast? with
  | none => simp
  | some p => simp
theorem joinP_cons_cons (p q : Nat × Nat) (l r : List (Nat × Nat)) : joinP (p :: q :: l) r = p :: joinP (q :: l) r := by
  unfold joinP
  have e : (p :: q :: l).getLast? = (q :: l).getLast? := by simp [List.getLast?_cons_cons]
  rw [e]
  cases h : (q :: l).getLast? with
  | none => rfl
  | some u =>
    obtain ⟨a, b⟩ := u
    cases r with
    | nil => rfl
    | cons v s =>
      obtain ⟨c, d⟩ := v
      simp only
      by_cases h : c = b + 1
      · rw [if_pos h, if_pos h, List.dropLast_cons_of_ne_nil (by simp), List.cons_append]
      · rw [if_neg h, if_neg h, List.cons_append]
theorem joinP_one_one (a b c d : Nat) (s : List (Nat × Nat)) : joinP [(a, b)] ((c, d) :: s) = if c = b + 1 then (a, d) :: s else (a, b) :: (c, d) :: s := rfl
theorem joinP_assoc1 (p : Nat × Nat) (x : Nat) (r : List (Nat × Nat)) (hr : r ≠ []) : joinP (joinP [p] [(x, x)]) r = joinP [p] (joinP [(x, x)] r) := by
  obtain ⟨a, b⟩ := p
  match r, hr with
  | (c, d) :: s, _ =>
    rw [joinP_one_one, joinP_one_one]
    by_cases h1 : x = b + 1 <;> by_cases h2 : c = x + 1
    · rw [if_pos h1, if_pos h2, joinP_one_one, joinP_one_one, if_pos h1, if_pos h2]
    · rw [if_pos h1, if_neg h2, joinP_one_one, joinP_one_one, if_pos h1, if_neg h2]
    · rw [if_neg h1, if_pos h2, joinP_cons_cons, joinP_one_one, joinP_one_one, if_neg h1, if_pos h2]
    · rw [if_neg h1, if_neg h2, joinP_cons_cons, joinP_one_one, joinP_one_one, if_neg h1, if_neg h2]
theorem joinP_assoc : ∀ (l : List (Nat × Nat)) (x : Nat) (r : List (Nat × Nat)), joinP (joinP l [(x, x)]) r = joinP l (joinP [(x, x)] r)
  | l, x, [] => by rw [joinP_nil_right, joinP_nil_right]
  | [], x, q :: r => rfl
  | [p], x, q :: r => joinP_assoc1 p x _ (by simp)
  | p :: q' :: l, x, q :: r => by
    rw [joinP_cons_cons p q' l, joinP_cons_cons p q' l]
    have ih := joinP_assoc (q' :: l) x (q :: r)
    cases hj : joinP (q' :: l) [(x, x)] with
    | nil =>
      exfalso
      have : joinP (q' :: l) [(x, x)] ≠ [] := by
        unfold joinP
        cases (q' :: l).getLast? with
        | none => simp
        | some u => simp only; split <;> simp
      exact this hj
    | cons u t => rw [joinP_cons_cons, ← hj, ih]
theorem pieces_fold : ∀ (l : List Nat) (acc : List (Nat × Nat)), l.foldl pieceStep acc = joinP acc (pieces l)
  | [], acc => by show acc = joinP acc []; rw [joinP_nil_right]
  | x :: r, acc => by
    show r.foldl pieceStep (pieceStep acc x) = _
    rw [pieces_fold r, pieceStep_eq, joinP_assoc, pieces_cons]
theorem pieces_is (l : List Nat) : l.foldl pieceStep [] = pieces l := by rw [pieces_fold]; rfl
theorem pieces_length : ∀ l : List Nat, (pieces l).length ≤ l.length
  | [] => Nat.le_refl _
  | x :: r => by
    have ih := pieces_length r
    rw [pieces]
    cases h : pieces r with
    | nil => simp
    | cons p s =>
      obtain ⟨a, b⟩ := p
      rw [h] at ih
      simp only
      split <;> simp at ih ⊢ <;> omega

def spliceStep (n : Nat) (acc : List Nat) (x : Nat) : List Nat := match acc.getLast? with
  | some a => if a + n ≤ x then acc ++ [x] else acc
  | none => [x]
theorem splice_fold (n : Nat) (hn : 1 ≤ n) : ∀ (f : Nat) (l : List Nat), l.length ≤ f → l.Pairwise (· < ·) → ∀ (acc : List Nat) (a : Nat), acc.getLast? = some a → (∀ x ∈ l, a < x) →
    l.foldl (spliceStep n) acc = acc ++ splices n f (l.filter fun y => decide (a + n ≤ y))
  | f, [], _, _, acc, a, _, _ => by
    cases f <;> simp [splices]
  | 0, x :: r, h, _, acc, a, _, _ => by simp at h
  | f + 1, x :: r, h, hs, acc, a, ha, hx => by
    obtain ⟨s1, s2⟩ := List.pairwise_cons.mp hs
    have hl : r.length ≤ f := by simpa using h
    show r.foldl (spliceStep n) (spliceStep n acc x) = _
    have est : spliceStep n acc x = if a + n ≤ x then acc ++ [x] else acc := by unfold spliceStep; rw [ha]
    rw [est]
    by_cases c : a + n ≤ x
    · rw [if_pos c, splice_fold n hn f r hl s2 (acc ++ [x]) x (by simp) s1, List.append_assoc]
      congr 1
      rw [List.filter_cons, if_pos (by simpa using c)]
      show x :: _ = x :: splices n f ((r.filter fun y => decide (a + n ≤ y)).filter fun y => decide (x + n ≤ y))
      have e : (r.filter fun y => decide (a + n ≤ y)).filter (fun y => decide (x + n ≤ y)) = r.filter fun y => decide (x + n ≤ y) := by
        rw [List.filter_filter]
        refine List.filter_congr fun y hy => ?_
        have := s1 y hy
        by_cases h1 : x + n ≤ y
        · simp [h1]; omega
        · simp [h1]
      rw [e]; rfl
    · rw [if_neg c, splice_fold n hn f r hl s2 acc a ha (fun y hy => hx y (List.mem_cons_of_mem _ hy)), List.filter_cons, if_neg (by simpa using c)]
      congr 1
      -- one more to an end changes nothing
      have more : ∀ (f : Nat) (l : List Nat), l.length ≤ f → splices n f l = splices n (f + 1) l := by
        intro f
        induction f with
        | zero =>
          intro l hl
          have : l = [] := List.length_eq_zero_iff.mp (by omega)
          subst this; rfl
        | succ f ih =>
          intro l hl
          cases l with
          | nil => rfl
          | cons y t =>
            show y :: splices n f _ = y :: splices n (f + 1) _
            congr 1
            exact ih _ (Nat.le_trans (List.length_filter_le _ _) (by simpa using hl))
      exact more f _ (Nat.le_trans (List.length_filter_le _ _) hl)
theorem splices_is {n f : Nat} (hn : 1 ≤ n) {l : List Nat} (hl : l.length ≤ f) (hs : l.Pairwise (· < ·)) : l.foldl (spliceStep n) [] = splices n f l := by
  cases l with
  | nil => cases f <;> rfl
  | cons x r =>
    cases f with
    | zero => simp at hl
    | succ f =>
      obtain ⟨s1, s2⟩ := List.pairwise_cons.mp hs
      show r.foldl (spliceStep n) [x] = x :: splices n f _
      rw [splice_fold n hn f r (by simpa using hl) s2 [x] x rfl s1]
      rfl
theorem splices_length (n : Nat) : ∀ (f : Nat) (l : List Nat), (splices n f l).length ≤ f
  | 0, l => by cases l <;> simp [splices]
  | f + 1, [] => by simp [splices]
  | f + 1, x :: r => by
    show (x :: splices n f _).length ≤ _
    have := splices_length n f (r.filter fun y => decide (x + n ≤ y))
    simp; omega
end WM
end
section
set_option autoImplicit false
namespace WM
open OwWear

/-! ### sums -/
theorem range_map_succ {α : Type} (f : Nat → α) (n : Nat) : (List.range (n + 1)).map f = (List.range n).map f ++ [f n] := by
  rw [List.range_succ, List.map_append]; rfl
/-- what the first i kinds take on a weekday -/
def onPart (w : Wire) (d : Nat) (p : Place) (i : Nat) : Nat := (((w.kinds.take i).zipIdx).map fun (x : Kind × Nat) => w.passes d x.2 * x.1.takes p).sum
theorem onPart_zero (w : Wire) (d : Nat) (p : Place) : onPart w d p 0 = 0 := rfl
theorem zipIdx_snoc {α : Type} (l : List α) (a : α) : (l ++ [a]).zipIdx = l.zipIdx ++ [(a, l.length)] := by
  rw [List.zipIdx_append]; simp
theorem take_succ_get {α : Type} {l : List α} {i : Nat} {x : α} (h : l[i]? = some x) : l.take (i + 1) = l.take i ++ [x] := by
  rw [List.take_add_one, h]; rfl
theorem onPart_succ (w : Wire) (d : Nat) (p : Place) {i : Nat} {k : Kind} (h : w.kinds[i]? = some k) : onPart w d p (i + 1) = onPart w d p i + w.passes d i * k.takes p := by
  have hi : i < w.kinds.length := (List.getElem?_eq_some_iff.mp h).1
  unfold onPart
  rw [take_succ_get h, zipIdx_snoc, List.map_append, List.sum_append, List.length_take, Nat.min_eq_left (by omega)]
  simp
theorem onPart_all (w : Wire) (d : Nat) (p : Place) : onPart w d p w.kinds.length = w.takesOn d p := by
  unfold onPart
  rw [List.take_length]; rfl
theorem takesWeek_eq (w : Wire) (p : Place) : w.takesWeek p = ((List.range 7).map fun d => w.takesOn d p).sum := rfl
/-- what the first k of days from a weekday on take -/
def restOf (w : Wire) (from_ : Nat) (p : Place) (k : Nat) : Nat := ((List.range k).map fun i => w.takesOn ((from_ + i) % 7) p).sum
theorem restOf_zero (w : Wire) (f : Nat) (p : Place) : restOf w f p 0 = 0 := rfl
theorem restOf_succ (w : Wire) (f : Nat) (p : Place) (k : Nat) : restOf w f p (k + 1) = restOf w f p k + w.takesOn ((f + k) % 7) p := by
  unfold restOf
  rw [range_map_succ, List.sum_append]; simp
theorem takesDays_eq (w : Wire) (f n : Nat) (p : Place) : w.takesDays f n p = n / 7 * w.takesWeek p + restOf w f p (n % 7) := rfl
theorem restOf_seven (w : Wire) {f : Nat} (hf : f < 7) (p : Place) : restOf w f p 7 = w.takesWeek p := by
  rw [takesWeek_eq]
  unfold restOf
  have e7 : List.range 7 = [0, 1, 2, 3, 4, 5, 6] := by decide
  generalize hg : (fun d => w.takesOn d p) = g
  have h : (fun i => w.takesOn ((f + i) % 7) p) = fun i => g ((f + i) % 7) := by rw [← hg]
  rw [h, e7]
  rcases (by omega : f = 0 ∨ f = 1 ∨ f = 2 ∨ f = 3 ∨ f = 4 ∨ f = 5 ∨ f = 6) with rfl | rfl | rfl | rfl | rfl | rfl | rfl <;> simp only [List.map_cons, List.map_nil, List.sum_cons, List.sum_nil, Nat.reduceAdd, Nat.reduceMod] <;> omega
theorem takesDays_full (w : Wire) {f : Nat} (hf : f < 7) (p : Place) (full : Nat) {k : Nat} (hk : k ≤ 7) : w.takesDays f (7 * full + k) p = full * w.takesWeek p + restOf w f p k := by
  rw [takesDays_eq]
  by_cases h : k = 7
  · subst h
    have e1 : (7 * full + 7) / 7 = full + 1 := by omega
    have e2 : (7 * full + 7) % 7 = 0 := by omega
    rw [e1, e2, restOf_seven w hf, restOf_zero, Nat.add_mul]; omega
  · have e1 : (7 * full + k) / 7 = full := by omega
    have e2 : (7 * full + k) % 7 = k := by omega
    rw [e1, e2]
/-- until, as the program's loop finds it: k days behind full weeks -/
theorem until_some (w : Wire) (p : Place) {b k full : Nat} (hb : b < p.left) (hw : w.takesWeek p ≠ 0) (hf : full = (p.left - b - 1) / w.takesWeek p)
    (h1 : 1 ≤ k) (h7 : k ≤ 7) (hd : p.left ≤ b + (full * w.takesWeek p + restOf w (w.day % 7) p k)) (hn : ∀ j, 1 ≤ j → j < k → b + (full * w.takesWeek p + restOf w (w.day % 7) p j) < p.left) : w.until_ p b = some (7 * full + k) := by
  have hday : w.day % 7 < 7 := Nat.mod_lt _ (by decide)
  unfold Wire.until_
  rw [if_neg (by omega)]
  simp only
  rw [if_neg hw, ← hf, List.find?_map]
  have : List.find? ((fun n => decide (p.left - w.takesDays (w.day % 7) n p ≤ b)) ∘ fun i => 7 * full + (i + 1)) (List.range 7) = some (k - 1) := by
    rw [List.find?_range_eq_some]
    refine ⟨?_, List.mem_range.mpr (by omega), fun j hj => ?_⟩
    · show decide (p.left - w.takesDays (w.day % 7) (7 * full + (k - 1 + 1)) p ≤ b) = true
      rw [takesDays_full w hday p full (by omega), show k - 1 + 1 = k by omega]
      exact decide_eq_true (by omega)
    · show (!decide (p.left - w.takesDays (w.day % 7) (7 * full + (j + 1)) p ≤ b)) = true
      rw [takesDays_full w hday p full (by omega)]
      have := hn (j + 1) (by omega) (by omega)
      rw [decide_eq_false (by omega)]; rfl
  rw [this]
  show some (7 * full + (k - 1 + 1)) = _
  rw [show k - 1 + 1 = k by omega]
theorem until_zero (w : Wire) (p : Place) {b : Nat} (h : p.left ≤ b) : w.until_ p b = some 0 := by
  unfold Wire.until_
  rw [if_pos h]
theorem until_never (w : Wire) (p : Place) {b : Nat} (h : b < p.left) (hw : w.takesWeek p = 0) : w.until_ p b = none := by
  unfold Wire.until_
  rw [if_neg (by omega)]
  simp only
  rw [if_pos hw]

/-! ### places from lo up to hi (not hi) changed -/
def amongN (l : List Place) (lo hi : Nat) (f : Place → Place) : List Place := l.zipIdx.map fun (p : Place × Nat) => if lo ≤ p.2 ∧ p.2 < hi then f p.1 else p.1
theorem amongN_get (l : List Place) (lo hi : Nat) (f : Place → Place) (i : Nat) : (amongN l lo hi f)[i]? = (l[i]?).map fun p => if lo ≤ i ∧ i < hi then f p else p := by
  unfold amongN
  rw [List.getElem?_map, List.getElem?_zipIdx]
  cases l[i]? with
  | none => rfl
  | some p => simp
theorem amongN_length (l : List Place) (lo hi : Nat) (f : Place → Place) : (amongN l lo hi f).length = l.length := by
  unfold amongN
  rw [List.length_map, List.length_zipIdx]
theorem amongN_nil (l : List Place) {lo hi : Nat} (f : Place → Place) (h : hi ≤ lo) : amongN l lo hi f = l := by
  refine List.ext_getElem? fun i => ?_
  rw [amongN_get]
  cases l[i]? with
  | none => rfl
  | some p => simp; intro _ _; omega
theorem amongN_succ (l : List Place) {lo hi : Nat} (f : Place → Place) {p : Place} (h : lo ≤ hi) (hp : l[hi]? = some p) : amongN l lo (hi + 1) f = (amongN l lo hi f).set hi (f p) := by
  refine List.ext_getElem? fun i => ?_
  have hlt : hi < l.length := (List.getElem?_eq_some_iff.mp hp).1
  rw [amongN_get, List.getElem?_set, amongN_length, amongN_get]
  by_cases e : hi = i
  · subst e
    rw [if_pos rfl, if_pos hlt, hp]
    simp [h]
  · rw [if_neg e]
    cases l[i]? with
    | none => rfl
    | some q =>
      simp only [Option.map_some]
      by_cases c : lo ≤ i ∧ i < hi
      · rw [if_pos c, if_pos (by omega)]
      · rw [if_neg c, if_neg (by omega)]
theorem amongN_at (l : List Place) {lo hi : Nat} (f : Place → Place) {p : Place} (hp : l[hi]? = some p) : (amongN l lo hi f)[hi]? = some p := by
  rw [amongN_get, hp]
  simp
theorem amongN_all (l : List Place) (f : Place → Place) : amongN l 0 l.length f = l.map f := by
  refine List.ext_getElem? fun i => ?_
  rw [amongN_get, List.getElem?_map]
  cases h : l[i]? with
  | none => rfl
  | some p =>
    have := (List.getElem?_eq_some_iff.mp h).1
    simp [this]
theorem among_eq (w : Wire) (x y : Nat) (f : Place → Place) : WearSpec.Wire.among w x y f = { w with places := amongN w.places x (y + 1) f } := by
  unfold WearSpec.Wire.among amongN
  congr 1
  refine List.map_congr_left fun p _ => ?_
  by_cases c : x ≤ p.2 ∧ p.2 ≤ y
  · rw [if_pos c, if_pos (by omega)]
  · rw [if_neg c, if_neg (by omega)]
theorem map_set_same {α β : Type} {l : List α} {i : Nat} {p q : α} {f : α → β} (h : l[i]? = some p) (e : f q = f p) : (l.set i q).map f = l.map f := by
  refine List.ext_getElem? fun j => ?_
  rw [List.getElem?_map, List.getElem?_map, List.getElem?_set]
  have hlt := (List.getElem?_eq_some_iff.mp h).1
  by_cases c : i = j
  · subst c
    rw [if_pos rfl, if_pos hlt, h]
    simp [e]
  · rw [if_neg c]

/-! ### worn -/
theorem worn_eq (w : Wire) (b : Nat) : w.worn b = (List.range w.places.length).filter fun x => decide ((w.places.getD x ⟨0, 0, 0⟩).left ≤ b) := by
  unfold Wire.worn
  refine List.filter_congr fun x hx => ?_
  have h := List.mem_range.mp hx
  rw [List.getElem?_eq_getElem h, List.getD_eq_getElem?_getD, List.getElem?_eq_getElem h]
  rfl
theorem worn_up (w : Wire) (b : Nat) : (w.worn b).Pairwise (· < ·) := List.Pairwise.filter _ List.pairwise_lt_range
theorem worn_le (w : Wire) (b : Nat) : (w.worn b).length ≤ w.places.length := by
  have := List.length_filter_le (fun (x : Nat) => (w.places[x]?).any fun (p : Place) => decide (p.left ≤ b)) (List.range w.places.length)
  rw [List.length_range] at this
  exact this
theorem worn_lt (w : Wire) (b : Nat) : ∀ x ∈ w.worn b, x < w.places.length := fun x hx => List.mem_range.mp (List.mem_filter.mp hx).1

/-! ### services -/
theorem passes_modify (w : Wire) (hs : w.services.length = 7) {d k n : Nat} (hd : d ≤ 6) (e f : Nat) :
    ({ w with services := w.services.modify d fun (l : List Nat) => WearSpec.setAt l k n } : Wire).passes e f = if e = d ∧ f = k then n else w.passes e f := by
  unfold Wire.passes
  simp only
  have gD : ∀ (l : List (List Nat)), l.getD e [] = (l[e]?).getD [] := fun _ => List.getD_eq_getElem?_getD ..
  rw [gD, gD, List.getElem?_modify]
  by_cases c : d = e
  · subst c
    obtain ⟨l, hl⟩ : ∃ l, w.services[d]? = some l := ⟨_, List.getElem?_eq_getElem (by omega)⟩
    rw [hl]
    simp only [if_true, Option.map_some, Option.map_eq_map, Option.getD_some, true_and]
    unfold WearSpec.setAt
    rw [List.getD_eq_getElem?_getD, List.getElem?_set, List.getD_eq_getElem?_getD]
    by_cases c2 : k = f
    · subst c2
      rw [if_pos rfl, if_pos rfl, if_pos (by rw [List.length_append, List.length_replicate]; omega)]
      rfl
    · rw [if_neg c2, if_neg (fun z => c2 z.symm)]
      by_cases c3 : f < l.length
      · rw [List.getElem?_append_left c3]
      · rw [List.getElem?_append_right (by omega), List.getElem?_replicate]
        rw [List.getElem?_eq_none (by omega : l.length ≤ f)]
        split <;> rfl
  · rw [if_neg (fun z => c z.1.symm)]
    simp [c]

/-! ### supports -/
theorem putSupport_rising {x : Nat} {o : Int} : ∀ {l : List (Nat × Int)}, Rising l → Rising (putSupport x o l)
  | [], _ => List.pairwise_singleton _ _
  | y :: r, h => by
    obtain ⟨h1, h2⟩ := List.pairwise_cons.mp h
    unfold putSupport
    by_cases c : x < y.1
    · rw [if_pos c]
      refine List.pairwise_cons.mpr ⟨fun z hz => ?_, h⟩
      rcases List.mem_cons.mp hz with rfl | hz
      · exact c
      · exact Nat.lt_trans c (h1 z hz)
    · rw [if_neg c]
      by_cases c2 : x = y.1
      · rw [if_pos c2]
        exact List.pairwise_cons.mpr ⟨fun z hz => by rw [c2]; exact h1 z hz, h2⟩
      · rw [if_neg c2]
        refine List.pairwise_cons.mpr ⟨?_, putSupport_rising h2⟩
        have : ∀ {l : List (Nat × Int)}, (∀ z ∈ l, y.1 < z.1) → ∀ z ∈ putSupport x o l, y.1 < z.1 := by
          intro l
          induction l with
          | nil =>
            intro _ z hz
            have : z = (x, o) := by simpa [putSupport] using hz
            subst this
            show y.1 < x
            omega
          | cons u t ih =>
            intro hl z hz
            unfold putSupport at hz
            have hxy : y.1 < x := by omega
            split at hz
            · rcases List.mem_cons.mp hz with rfl | hz
              · exact hxy
              · exact hl z hz
            · split at hz
              · rcases List.mem_cons.mp hz with rfl | hz
                · exact hxy
                · exact hl z (List.mem_cons_of_mem _ hz)
              · rcases List.mem_cons.mp hz with rfl | hz
                · exact hl z List.mem_cons_self
                · exact ih (fun u hu => hl u (List.mem_cons_of_mem _ hu)) z hz
        exact this h1
/-- what stands at a place, if a support is there -/
def supAt (l : List (Nat × Int)) (x : Nat) : Option Int := (l.find? fun y => y.1 == x).map (·.2)
theorem supAt_nil (x : Nat) : supAt [] x = none := rfl
theorem supAt_cons (y : Nat × Int) (r : List (Nat × Int)) (x : Nat) : supAt (y :: r) x = if y.1 = x then some y.2 else supAt r x := by
  unfold supAt
  rw [List.find?_cons]
  by_cases c : y.1 = x
  · simp [c]
  · have e : (y.1 == x) = false := by simpa using c
    rw [if_neg c, e]
theorem supAt_any (l : List (Nat × Int)) (x : Nat) : (l.any fun y => y.1 == x) = (supAt l x).isSome := by
  induction l with
  | nil => rfl
  | cons y r ih =>
    rw [List.any_cons, supAt_cons, ih]
    by_cases c : y.1 = x
    · simp [c]
    · simp [c]
theorem supAt_put (x : Nat) (o : Int) (z : Nat) : ∀ (l : List (Nat × Int)), supAt (putSupport x o l) z = if x = z then some o else supAt l z
  | [] => by rw [putSupport, supAt_cons]
  | y :: r => by
    unfold putSupport
    by_cases c : x < y.1
    · rw [if_pos c, supAt_cons]
    · rw [if_neg c]
      by_cases c2 : x = y.1
      · rw [if_pos c2, supAt_cons, supAt_cons]
        by_cases c3 : x = z
        · rw [if_pos c3, if_pos c3]
        · rw [if_neg c3, if_neg c3, if_neg (by omega)]
      · rw [if_neg c2, supAt_cons, supAt_put x o z r, supAt_cons]
        by_cases c3 : y.1 = z
        · rw [if_pos c3, if_pos c3, if_neg (by omega)]
        · rw [if_neg c3, if_neg c3]
theorem supAt_drop (x z : Nat) (l : List (Nat × Int)) : supAt (l.filter fun y => y.1 != x) z = if x = z then none else supAt l z := by
  induction l with
  | nil => simp [supAt_nil]
  | cons y r ih =>
    rw [List.filter_cons]
    by_cases c : y.1 = x
    · rw [if_neg (by simp [c]), ih, supAt_cons]
      by_cases c2 : x = z
      · rw [if_pos c2, if_pos c2]
      · rw [if_neg c2, if_neg c2, if_neg (by omega)]
    · rw [if_pos (by simp [c]), supAt_cons, supAt_cons, ih]
      by_cases c2 : x = z
      · rw [if_pos c2, if_pos c2, if_neg (by omega)]
      · rw [if_neg c2, if_neg c2]
theorem putSupport_length {x : Nat} {o : Int} : ∀ (l : List (Nat × Int)), Rising l → (putSupport x o l).length = if (supAt l x).isSome then l.length else l.length + 1
  | [], _ => rfl
  | y :: r, h => by
    obtain ⟨h1, h2⟩ := List.pairwise_cons.mp h
    have hn : x ≤ y.1 → supAt r x = none := fun hx => by
      unfold supAt
      rw [List.find?_eq_none.mpr fun z hz => by
        have := h1 z hz
        simp; omega]
      rfl
    unfold putSupport
    by_cases c : x < y.1
    · have e : supAt (y :: r) x = none := by rw [supAt_cons, if_neg (by omega), hn (by omega)]
      rw [if_pos c, e]; rfl
    · rw [if_neg c]
      by_cases c2 : x = y.1
      · have e : supAt (y :: r) x = some y.2 := by rw [supAt_cons, if_pos c2.symm]
        rw [if_pos c2, e]; rfl
      · have e : supAt (y :: r) x = supAt r x := by rw [supAt_cons, if_neg (fun z => c2 z.symm)]
        rw [if_neg c2, e, List.length_cons, putSupport_length r h2]
        split <;> simp
theorem mem_putSupport {x : Nat} {o : Int} {z : Nat × Int} : ∀ {l : List (Nat × Int)}, z ∈ putSupport x o l → z = (x, o) ∨ z ∈ l
  | [], h => by simp [putSupport] at h; exact Or.inl h
  | y :: r, h => by
    unfold putSupport at h
    split at h
    · rcases List.mem_cons.mp h with h | h
      · exact Or.inl h
      · exact Or.inr h
    · split at h
      · rcases List.mem_cons.mp h with h | h
        · exact Or.inl h
        · exact Or.inr (List.mem_cons_of_mem _ h)
      · rcases List.mem_cons.mp h with h | h
        · exact Or.inr (h ▸ List.mem_cons_self)
        · rcases mem_putSupport h with h | h
          · exact Or.inl h
          · exact Or.inr (List.mem_cons_of_mem _ h)
theorem supAt_mem {l : List (Nat × Int)} (hr : Rising l) {x : Nat} {o : Int} : (x, o) ∈ l ↔ supAt l x = some o := by
  induction l with
  | nil => simp [supAt_nil]
  | cons y r ih =>
    obtain ⟨h1, h2⟩ := List.pairwise_cons.mp hr
    rw [List.mem_cons, supAt_cons, ih h2]
    by_cases c : y.1 = x
    · rw [if_pos c]
      constructor
      · rintro (h | h)
        · rw [← h]
        · have := h1 _ ((ih h2).mpr h)
          simp at this; omega
      · intro h
        left
        have : y.2 = o := Option.some.inj h
        rw [← this, ← c]
    · rw [if_neg c]
      constructor
      · rintro (h | h)
        · exact absurd (by rw [← h]) c
        · exact h
      · exact Or.inr
/-- two rising rows with the same supports are one -/
theorem rising_ext : ∀ {l m : List (Nat × Int)}, Rising l → Rising m → (∀ x, supAt l x = supAt m x) → l = m
  | [], [], _, _, _ => rfl
  | [], y :: r, _, _, h => by
    have := h y.1
    rw [supAt_cons, if_pos rfl] at this
    cases this
  | y :: r, [], _, _, h => by
    have := h y.1
    rw [supAt_cons, if_pos rfl] at this
    cases this
  | y :: r, z :: s, hl, hm, h => by
    obtain ⟨l1, l2⟩ := List.pairwise_cons.mp hl
    obtain ⟨m1, m2⟩ := List.pairwise_cons.mp hm
    have gone : ∀ {t : List (Nat × Int)} {x : Nat}, (∀ u ∈ t, x < u.1) → ∀ v, v ≤ x → supAt t v = none := fun {t x} ht v hv => by
      unfold supAt
      rw [List.find?_eq_none.mpr fun u hu => by
        have := ht u hu
        simp; omega]
      rfl
    have e1 : y.1 = z.1 := by
      rcases Nat.lt_trichotomy y.1 z.1 with c | c | c
      · have := h y.1
        rw [supAt_cons, if_pos rfl, supAt_cons, if_neg (by omega), gone m1 _ (by omega)] at this
        cases this
      · exact c
      · have := h z.1
        rw [supAt_cons, if_neg (by omega), gone l1 _ (by omega), supAt_cons, if_pos rfl] at this
        cases this
    have e2 : y = z := by
      have := h y.1
      rw [supAt_cons, if_pos rfl, supAt_cons, if_pos e1.symm] at this
      exact Prod.ext e1 (Option.some.inj this)
    subst e2
    congr 1
    refine rising_ext l2 m2 fun x => ?_
    by_cases c : x ≤ y.1
    · rw [gone l1 x c, gone m1 x c]
    · have := h x
      rw [supAt_cons, supAt_cons, if_neg (by omega), if_neg (by omega)] at this
      exact this
theorem laid_length (l : List (Nat × Int)) (o : List Int) (h : o.length = l.length) : (laidBy l o).length = l.length := by
  unfold laidBy
  rw [List.length_zipWith, h, Nat.min_self]
theorem laid_keys (l : List (Nat × Int)) (o : List Int) (h : o.length = l.length) : (laidBy l o).map (·.1) = l.map (·.1) := by
  induction l generalizing o with
  | nil => rfl
  | cons y r ih =>
    cases o with
    | nil => simp at h
    | cons z t =>
      show y.1 :: (laidBy r t).map (·.1) = y.1 :: r.map (·.1)
      rw [ih t (by simpa using h)]
theorem rising_iff (l : List (Nat × Int)) : Rising l ↔ (l.map (·.1)).Pairwise (· < ·) := by
  unfold Rising
  rw [List.pairwise_map]
theorem laid_rising {l : List (Nat × Int)} {o : List Int} (hr : Rising l) (h : o.length = l.length) : Rising (laidBy l o) := by
  rw [rising_iff, laid_keys l o h, ← rising_iff]
  exact hr
theorem laid_get {l : List (Nat × Int)} {o : List Int} {i : Nat} {y : Nat × Int} {z : Int} (h1 : l[i]? = some y) (h2 : o[i]? = some z) : (laidBy l o)[i]? = some (y.1, z) := by
  unfold laidBy
  rw [List.getElem?_zipWith, h1, h2]
end WM
end
namespace PySem
namespace LowX
open PySem.W PySem.Calls PyProof.Rows PySem.HandSPX
/-! ### the text of __init__ -/
def iA (p1 p2 : Pos) : Arguments := { posonlyargs := [], args := [{ arg := "self", annotation := none, pos := p1 }, { arg := "code", annotation := none, pos := p2 }], vararg := none, kwonlyargs := [], kw_defaults := [], kwarg := none, defaults := [] }
def iB (q1 q2 q3 q4 : Pos) : List Stmt := [.Assign [.Attribute (.Name "self" q1) "code" q2] (.Name "code" q3) q4]
def iS : Scope := { kind := .function, names := [(PySem.Str.ofString "self", .local), (PySem.Str.ofString "code", .local)], isGenerator := false, isCoroutine := false, more := [] }
/-- what the written part says of Low, at C, and of its __init__, at fI -/
structure LowTxt (K : Frag) (mg : Str → Option Value) (C fI : Addr) : Prop where
  gC : mg "Stop" = some (.ref C)
  cls : ∃ nm q N bs bm sn sub ab col dd k0 k1 k2 k3 k5, K.lookup C = some (excClassObj nm q C N bs bm true sn sub ab col dd k0 k1 k2 k3 k5 "ValueError.__new__") ∧ refsVE bm = true
  sa : findIn K (.ref C) "__setattr__" = some (some (.builtin "object.__setattr__"))
  ga : findIn K (.ref C) "__getattribute__" = some (some (.builtin "BaseException.__getattribute__"))
  gg : findIn K (.ref C) "__getattr__" = some none
  noN : findIn K (.ref C) "code" = some none
  iC : findIn K (.ref C) "__init__" = some (some (.ref fI))
  tC : typeIn K (.ref fI) = some (.type "function")
  kC : keepIn K (.ref C) = true
  exC : subIn K (.ref C) (.type "BaseException") = some true
  tyC : typeIn K (.ref C) = some (.type "type")
  hdC : hasDictIn K C = true
  te : exmOne K (.ref C) (.ref C) = some true
  fn : ∃ (oc : Value) (od : Option Addr) (doc pm : Value) (an : Option Addr) (cdv ct : Value) (osl : Array (Option Value)) (p1 p2 q1 q2 q3 q4 : Pos),
    K.lookup fI = some ⟨oc, od, .func (fnOf "__init__" "Stop.__init__" (iA p1 p2) (iB q1 q2 q3 q4) iS .none .none doc pm an cdv ct), osl⟩ ∧ codeIn K cdv "Stop.__init__" = true
theorem one_size (v : Value) : [v].length ≤ sizeLine := by
  rw [sizeLine_eq]
  exact (by decide : 1 ≤ 16777216)
theorem kept_but {K : Frag} {h h' : Heap} {x : Addr} (X : K.In h) (hx : K.lookup x = none) (k : ∀ b o, b ≠ x → h.get? b = some o → h'.get? b = some o) : K.In h' := fun a o e =>
  k a o (fun z => by rw [z, hx] at e; cases e) (X a o e)
theorem ldC {M : Model} {s : Shared} {name : Str} {scope : Scope} {L a : Addr} {cd : Value} {m : Str → Option Value} {x : Str} {pos : Pos} {v : Value} {Q : Value → Shared → Prop} {A : Around} {E : Value → Shared → Prop} (hn : s.heap.Ns L m) (hv : m x = some v) (h : Q v s)
    (hk : scope.kind = .function := by rfl) (hl : (envOfC name scope L a cd).kindOf x = some .local := by rfl) (hd : (x == ("__debug__" : Str)) = false := by decide) :
    wpAny M A (eval (.Name x pos) (envOfC name scope L a cd)) Q E s := wpAny_Name (wpAny_loadName_local hk hl hn hv h) hd
/-- what __init__ leaves of a fresh exception at x -/
structure InitEnd (h h' : Heap) (x C dx t1 : Addr) (v : Value) : Prop where
  keep : ∀ b o, b ≠ x → h.get? b = some o → h'.get? b = some o
  obj : h'.get? x = some { cls := .ref C, dict := some dx, data := .fields #[.ref t1, .none, .none, .none, .bool false, .none] }
  dbig : h.objs.size ≤ dx
  dne : dx ≠ x
  ns : h'.Ns1 dx (fun y => if y = "code" then some v else none)
/-- a made Low -/
structure OwnMade (h h' : Heap) (e C d : Addr) (v : Value) : Prop where
  keep : ∀ b o, h.get? b = some o → h'.get? b = some o
  new : h.objs.size ≤ e
  obj : ∃ oe vs, h'.get? e = some oe ∧ oe.cls = .ref C ∧ oe.dict = some d ∧ oe.data = .fields vs ∧ vs[1]? = some .none
  dbig : h.objs.size ≤ d
  dne : d ≠ e
  ns : h'.Ns1 d (fun y => if y = "code" then some v else none)
section
variable {prog : Program} {w : World} {A : Around} {E : Value → Shared → Prop} {R : Result → Shared → Prop} {s : Shared} {K : Frag} {mg : Str → Option Value} {C fI : Addr}
theorem low_init (T : LowTxt K mg C fI) {x t0 : Addr} {v : Value} (X : K.In s.heap) (hlim : s.heap.NoLimit) (hx : s.heap.get? x = some (excO C t0)) (hnx : K.lookup x = none) (hroom : A.depth < recursionLimit)
    (hq : ∀ h' tk dx, InitEnd s.heap h' x C dx t0 v → R (.ok (.ret .none)) { s with heap := h', toks := tk }) :
    codeAny (model prog w) A (.call (.ref fI) ⟨[.ref x, v], []⟩) R s := by
  obtain ⟨oc, od, doc, pm, an, cdv, ct, osl, p1, p2, q1, q2, q3, q4, ho, hcd⟩ := T.fn
  obtain ⟨nm, q, N, bs, bm, sn, sub, ab, col, dd, k0, k1, k2, k3, k5, hC, hbm⟩ := T.cls
  have hcl : clsIn K C = some { name := nm, bases := bs, mro := .ref C :: bm, ns := N, qualname := q, hasDict := true, slotNames := sn, subclasses := sub, abstract := ab, collection := col, hasDel := false } := by unfold clsIn; rw [hC] <;> rfl
  refine Att.call_fn (binds := [("self", .ref x), ("code", v)]) X hlim ho hcd hroom (BindsTo.of_eq (by first | rfl | with_unfolding_all rfl)) (by first | rfl | decide | with_unfolding_all rfl) (fun s₁ IC => ?_) rfl rfl rfl
  obtain ⟨h₁, tk₁, rfl⟩ := IC.toInCall.same
  have k : ∀ b o, s.heap.get? b = some o → h₁.get? b = some o := IC.toInCall.keep
  have hn := IC.toInCall.ns
  have hxL : s.heap.objs.size ≠ x := Nat.ne_of_gt (Heap.lt_size hx)
  have X₁ : K.In h₁ := X.keeps k
  have hx₁ := k _ _ hx
  -- self.by = by
  show wpAny _ _ (execs _ _) _ _ _
  refine wpAny_execs_cons (plainObj_wpAny_Assign_Attribute ?_)
  refine ldC (v := v) hn (by first | rfl | with_unfolding_all rfl | kernel_rfl) (ldC (v := .ref x) hn (by first | rfl | with_unfolding_all rfl | kernel_rfl) ?_)
  refine set_plain X₁ (ox := excO C t0) (od := none) ⟨hx₁, rfl, rfl, trivial⟩ T.sa ?_
  refine exc_osa X₁ hx₁ hcl (show refsVE (.ref C :: bm) = true from hbm) rfl T.noN (fun h₃ tk₃ dx k₃ dn dne hx₃ hn₃ => ?_)
  show wpAny _ _ (execs _ _) _ _ _
  have z : s.heap.objs.size < h₁.objs.size := hn.lt
  exact wpAny_execs_nil (hq h₃ tk₃ dx ⟨fun b o hb e => k₃ b o hb (k b o e), hx₃, Nat.le_of_lt (Nat.lt_of_lt_of_le z dn), dne, hn₃⟩)
theorem low_made (T : LowTxt K mg C fI) {v : Value} (X : K.In s.heap) (hlim : s.heap.NoLimit) (hroom : A.depth + 1 < recursionLimit)
    (hq : ∀ h' tk e d, OwnMade s.heap h' e C d v → R (.ok (.ret (.ref e))) { s with heap := h', toks := tk }) :
    codeAny (model prog w) A (.call (.ref C) ⟨[v], []⟩) R s := by
  obtain ⟨nm, q, N, bs, bm, sn, sub, ab, col, dd, k0, k1, k2, k3, k5, hC, hbm⟩ := T.cls
  obtain ⟨hp, g, dr, tk, os⟩ := s
  have k : ∀ b o, hp.get? b = some o → ((hp.push (kdv_tup [v])).push (excO C hp.objs.size)).get? b = some o := fun b o e => Heap.get?_push_of_some _ (Heap.get?_push_of_some _ e)
  have hget : ((hp.push (kdv_tup [v])).push (excO C hp.objs.size)).get? (hp.objs.size + 1) = some (excO C hp.objs.size) := by heap_get
  have hnx : K.lookup (hp.objs.size + 1) = none := by
    cases e : K.lookup (hp.objs.size + 1) with
    | none => rfl
    | some o =>
      have z : hp.get? (hp.objs.size + 1) = some o := X _ _ e
      exact absurd (Nat.lt_of_succ_lt (Heap.lt_size z)) (Nat.lt_irrefl _)
  refine call_own F.excBase_ValueError (fun X => refsVE_contains X bm hbm) (X _ _ hC) (looks_findIn X T.iC) (fun self => bind_fn X self T.tC) (one_size v) ?_
  refine low_init (s := ⟨(hp.push (kdv_tup [v])).push (excO C hp.objs.size), g, dr, tk, os⟩) T (X.keeps k) (hlim.keeps k) hget hnx ?_ fun h' tk' dx ⟨k', hx, dn, dne, hns⟩ => ?_
  · show A.depth + 1 < recursionLimit
    exact hroom
  · have old : ∀ b o, hp.get? b = some o → h'.get? b = some o := fun b o e => k' b o (Nat.ne_of_lt (Nat.lt_succ_of_lt (Heap.lt_size e))) (k b o e)
    have z : hp.objs.size + 1 + 1 ≤ dx := by
      first
        | (simpa only [Heap.size_push] using dn)
        | exact dn
        | (have q := dn; rw [Heap.size_push, Heap.size_push] at q; exact q)
    exact ⟨rfl, hq h' tk' (hp.objs.size + 1) dx ⟨old, Nat.le_succ _, ⟨_, _, hx, rfl, rfl, rfl, rfl⟩, Nat.le_trans (Nat.le_trans (Nat.le_succ _) (Nat.le_succ _)) z, dne, hns⟩⟩
end
end LowX
end PySem
namespace L2
open PySem PySem.Spec PyProof.Rows
theorem relO_low {v : V} {v' : Value} (r : RelV v v') (f : Str) : RelO (List.lookup f [(("code" : Str), v)]) (if f = "code" then some v' else none) := by
  by_cases hw : f = "code"
  · subst hw
    rw [if_pos rfl]
    have q : List.lookup ("code" : Str) [(("code" : Str), v)] = some v := by simp [List.lookup]
    rw [q]
    exact r
  · rw [if_neg hw]
    have qw : (f == ("code" : Str)) = false := by simpa using hw
    have q2 : List.lookup f [(("code" : Str), v)] = none := by simp [List.lookup, qw]
    rw [q2]
    trivial
section
variable {X : Cx} {C fI : Addr}
/-- Low(e) -/
def tMkLow (C : Addr) (ta : TA) : St → Hp → XK → Prop := fun σ H Q => ta σ H fun vs H1 => ∃ v, vs = [v] ∧ ∀ d, H1 d = none → Q (.ref C) (some d) (upd H1 d (.xd [(("code" : Str), v)]))
theorem pmk_low {a : Expr} {ta : TA} {p pos : Pos} {k : Nat} (T : PySem.LowX.LowTxt X.K X.mg C fI) (hr : Room k X.A) (ha : PA X [a] ta) (hg : Gl X "Stop" := by rfl)
    (he : starEach (a :: []) X.env = (false, eval a X.env) :: starEach [] X.env := by rfl) (hpl : (backTo pos (starEach [] X.env)).any (·.1) = false := by rfl) :
    PMk X (.Call (.Name "Stop" p) [a] [] pos) (tMkLow C ta) := by
  intro pins s σ H Q I h
  refine wpAny_Call_Name_kw (ld_glob I hg T.gC ?_)
  refine PySem.W.callWith_K (h₀ := X.base) I.ok.mod.kin T.kC (thn (ha.run pos pins s σ H _ I h) fun us s1 hh => ?_) he hpl
  obtain ⟨vs, H1, I1, r1, v, ev, q1⟩ := hh
  subst ev
  refine ⟨I1.kIn, ?_⟩
  cases r1 with
  | cons rv rn =>
    rename_i v' us'
    cases rn
    show wpAny _ _ (call (.ref C) [v']) _ _ _
    have hlim := I1.nolimit
    obtain ⟨hp, g, dr, tk, os⟩ := s1
    refine wpAny_call (PySem.LowX.low_made T I1.kIn hlim (by have := hr.dp; omega) fun h' tk' e d M => ?_)
    show MkP X pins σ Q (.ref e) ⟨h', g, dr, tk', os⟩
    obtain ⟨oe, fv, hoe, hc, hd, hdat, h1⟩ := M.obj
    have hns := M.ns
    obtain ⟨G', g1, g2⟩ := restrict h' fun b => decide (b ≠ e)
    have gk : ∀ b, b ≠ e → G'.get? b = h'.get? b := fun b hb => g1 b (decide_eq_true hb)
    have ge : G'.get? e = none := g2 e (by simp)
    have old : ∀ b o, hp.get? b = some o → G'.get? b = some o := fun b o q => (gk b (Nat.ne_of_lt (Nat.lt_of_lt_of_le (Heap.lt_size q) M.new))).trans (M.keep b o q)
    have ob : ObjOk X.prog X.w (upd H1 d (.xd [(("code" : Str), v)])) G' d (.xd [(("code" : Str), v)]) :=
      ⟨_, hns.at (fun o q => (gk d M.dne).trans q), fun f => relO_low rv f⟩
    have J : Inv X pins σ (upd H1 d (.xd [(("code" : Str), v)])) ⟨G', g, dr, tk', os⟩ := I1.laid (t' := tk') old M.dbig ob
    refine ⟨e, oe, fv, ⟨G', g, dr, tk', os⟩, _, .ref C, some d, rfl, J, fun b o q => ?_, ge, hoe, ⟨hc, hd⟩, hdat, h1, ?_, rfl, I1.bare, raises_own T.exC T.tyC, q1 d (I1.hok.fresh M.dbig)⟩
    · by_cases hb : b = e
      · have q' : G'.get? b = some o := q
        rw [hb, ge] at q'; cases q'
      · exact (gk b hb).symm.trans q
    · rw [upd_ne (Ne.symm M.dne)]
      exact I1.hok.fresh M.new
/-- raise Low(e) -/
def tRaiseLow (C : Addr) (W : WX) (ta : TA) : TS := fun _ σ H => tMkLow C ta σ H fun cls d H' => W cls d σ H'
theorem ps_raiseLow {a : Expr} {ta : TA} {W : WX} {p pos pos2 : Pos} {k : Nat} (hc : X.calm = true) (T : PySem.LowX.LowTxt X.K X.mg C fI) (hr : Room k X.A) (tk : Takes X W) (ha : PA X [a] ta) (hg : Gl X "Stop" := by rfl)
    (he : starEach (a :: []) X.env = (false, eval a X.env) :: starEach [] X.env := by rfl) (hpl : (backTo pos (starEach [] X.env)).any (·.1) = false := by rfl) :
    PS X (.Raise (some (.Call (.Name "Stop" p) [a] [] pos)) none pos2) (tRaiseLow C W ta) := ps_raise hc tk (pmk_low T hr ha hg he hpl)
/-- low.by, low the exception that the suite holds (at a; its class cls, its dict d) -/
def tByLow (C : Addr) (a : Addr) (cls : Value) (d : Option Addr) (te : TE) : TE := fun σ H Q => te σ H fun x H1 => x = .ref a ∧ cls = .ref C ∧ ∃ (dd : Addr) (v : V), d = some dd ∧ H1 dd = some (.xd [(("code" : Str), v)]) ∧ Q v H1
theorem pe_byLow {a : Addr} {oe : Obj} {cls : Value} {d : Option Addr} {pn : List (Addr × Obj)} {e : Expr} {te : TE} {pos : Pos} (T : PySem.LowX.LowTxt X.K X.mg C fI) (hz : Zc cls d oe) (hf : ∃ vs, oe.data = .fields vs) (he : PE (X.suite a ((a, oe) :: pn)) e te)
    (hb : attributeBase e "code" X.env (eval e X.env) = eval e X.env := by rfl) :
    PE (X.suite a ((a, oe) :: pn)) (.Attribute e "code" pos) (tByLow C a cls d te) := by
  refine ⟨fun pins s σ H Q I h => ?_⟩
  refine attr_of hb (thn (he.run pins s σ H _ I h) fun u s1 hh => ?_)
  obtain ⟨x, H1, I1, rx, ex, ec, dd, v, ed, ea, q⟩ := hh
  subst ex
  obtain rfl : u = Value.ref a := rx
  subst ec
  subst ed
  obtain ⟨ha, _⟩ := I1.pin (a, oe) (List.mem_append_left _ List.mem_cons_self)
  obtain ⟨vs, hd⟩ := hf
  have hx : ObjOk X.prog X.w H1 s1.heap dd (.xd [(("code" : Str), v)]) := I1.hok dd _ ea
  obtain ⟨mA, hns, hr⟩ := hx
  obtain ⟨od, ho, hl⟩ := lookIn_ns hns
  have l : List.lookup ("code" : Str) [(("code" : Str), v)] = some v := by simp [List.lookup]
  obtain ⟨u, hu, ru⟩ := RelO.some_of (v := v) (o := mA "code") (by rw [← l]; exact hr "code")
  have J : PySem.W.InstAt s1.heap a oe C (some od) := ⟨ha, hz.1, by unfold PySem.W.notCls; rw [hd] <;> rfl, by rw [hz.2]; exact ho⟩
  exact HandSPX.exc_get I1.kIn J T.ga T.gg T.exC (PySem.W.findObj_own T.hdC T.noN rfl (by rw [hl, hu])) (handed_of ru) ⟨v, H1, I1.tok _, ru, q⟩
end
end L2
namespace WW
open PySem PySem.Spec PyProof.Rows L2

/-! ### e[lo::2] of a list of ints -/
def tStep2 (K : PySem.W.Frag) (te : TE) (tl : TO) : TE := fun σ H Q => te σ H fun x H1 => tl σ H1 fun lo H2 => ∃ (a : Addr) (ns : List Int), x = .ref a ∧ SqL K H2 a (ns.map V.int) ∧
  ∀ p, H2 p = none → Q (.ref p) (upd H2 p (.lst ((pickNums ns lo none (some 2)).map V.int)))
theorem pe_step2 {X : Cx} {e : Expr} {te : TE} {lo : Option Expr} {tl : TO} {k : Nat} {p1 p3 pos : Pos} (he : PE X e te) (hlo : PO X lo tl) : PE X (.Subscript e (.Slice lo none (some (.Constant (.int 2) k p1)) p3) pos) (tStep2 X.K te tl) := by
  refine ⟨fun pins s σ H Q I h => ?_⟩
  refine Subscript_ (thn (he.run pins s σ H _ I h) fun v s1 ⟨x, H1, I1, r1, q1⟩ => ?_)
  have hst : PO X (some (.Constant (.int 2) k p1)) (tPart (tC (.int 2))) := po_some pe_int
  refine wpAny_Slice (thn (hlo.run pins s1 σ H1 _ I1 q1) fun vl s2 ⟨l, H2, I2, pl, q2⟩ => ?_)
  refine thn (po_none.run pins s2 σ H2 (fun o H3 => o = none ∧ H3 = H2) I2 ⟨rfl, rfl⟩) fun vu s3 ⟨u, H3, I3, pu, eu, e3⟩ => ?_
  subst eu e3
  refine thn (hst.run pins s3 σ H3 (fun o H4 => o = some 2 ∧ H4 = H3) I3 ⟨2, rfl, rfl, rfl⟩) fun vs s4 ⟨o, H4, I4, ps, eo, e4⟩ => ?_
  subst eo e4
  obtain ⟨a, ns, ex, hx, q⟩ := q2
  subst ex
  cases r1
  have I5 : Inv X pins σ H4 { s4 with heap := s4.heap.push { cls := .type "slice", data := .fields #[vl, vu, vs] } } := I4.kept (t' := s4.toks) fun b ob q => Heap.get?_push_of_some _ q
  obtain ⟨its, r, ht, hz⟩ := I5.list hx
  have hi : IntsAre its ns := r.ints
  show wpAny (model X.prog X.w) X.A (subscriptTail e (.Slice lo none (some (.Constant (.int 2) k p1)) p3) (.ref a) (.ref s4.heap.objs.size)) (EP X pins σ Q) X.xe { s4 with heap := s4.heap.push { cls := .type "slice", data := .fields #[vl, vu, vs] } }
  refine tail_any (ops := [.ref a, .ref s4.heap.objs.size]) ht.isList.typeIs (PySem.slot_list_getitem.lookup) ?_ (by with_unfolding_all rfl)
  refine wpAny_getItem_list_slice ht.isList (Heap.IsSliceOf.new _ vl vu vs) pl pu ps (by decide) ?_ (by rw [List.size_toArray, ← r.length]; exact hz)
  refine ⟨.ref _, _, I5.laid (t' := s4.toks) (o := .lst ((pickNums ns l none (some 2)).map V.int)) (fun b ob q => Heap.get?_push_of_some _ q) (Nat.le_refl _) ?_, rfl, q _ (I5.hok.fresh (Nat.le_refl _))⟩
  refine ⟨?_, (slicePick its.toArray l none (some 2)).toList, 0, vals_of_ints (hi.pick l none (some 2)), Heap.get?_push_size _ rfl⟩
  have := length_pickNums_le hi l none (some 2)
  rw [List.length_map] at hz ⊢
  omega
theorem fm_range {α : Type} : ∀ xs : List α, (List.range xs.length).filterMap (fun k => xs[k]?) = xs
  | [] => rfl
  | x :: r => by
    rw [List.length_cons, List.range_succ_eq_map, List.filterMap_cons]
    show x :: ((List.range r.length).map Nat.succ).filterMap (fun k => (x :: r)[k]?) = x :: r
    rw [List.filterMap_map]
    congr 1
    exact fm_range r
/-- the pairs, laid one behind another -/
def flatP : List (Nat × Nat) → List Int
  | [] => []
  | (a, b) :: r => (a : Int) :: (b : Int) :: flatP r
theorem flatP_get : ∀ (l : List (Nat × Nat)) (k : Nat), (flatP l)[2 * k]? = (l[k]?).map (fun p => (p.1 : Int)) ∧ (flatP l)[2 * k + 1]? = (l[k]?).map fun p => (p.2 : Int)
  | [], k => by simp [flatP]
  | (a, b) :: r, 0 => ⟨rfl, rfl⟩
  | (a, b) :: r, k + 1 => flatP_get r k
theorem flatP_length : ∀ l : List (Nat × Nat), (flatP l).length = 2 * l.length
  | [] => rfl
  | (a, b) :: r => by
    show (flatP r).length + 1 + 1 = 2 * (r.length + 1)
    rw [flatP_length r]; omega
theorem pick_evens (l : List (Nat × Nat)) : pickNums (flatP l) none none (some 2) = l.map fun p => (p.1 : Int) := by
  unfold pickNums sliceBounds sliceRange
  simp only [flatP_length, Option.getD_some]
  have e : (if (0 : Int) < ((2 * l.length : Nat) : Int) then (((2 * l.length : Nat) : Int) - 0 + 2 - 1) / 2 else 0).toNat = l.length := by split <;> omega
  simp only [show (2 : Int) > 0 by decide, if_true]
  rw [e, List.filterMap_map]
  have e2 : ((fun x => (flatP l)[x]?) ∘ fun (k : Nat) => ((0 : Int) + 2 * (k : Int)).toNat) = fun k => (l.map fun p => (p.1 : Int))[k]? := by
    funext k
    show (flatP l)[((0 : Int) + 2 * (k : Int)).toNat]? = _
    rw [show ((0 : Int) + 2 * (k : Int)).toNat = 2 * k by omega, (flatP_get l k).1, List.getElem?_map]
  rw [e2]
  have := fm_range (l.map fun p => (p.1 : Int))
  rw [List.length_map] at this
  exact this
theorem pick_odds (l : List (Nat × Nat)) : pickNums (flatP l) (some 1) none (some 2) = l.map fun p => (p.2 : Int) := by
  unfold pickNums sliceBounds sliceRange
  simp only [flatP_length, Option.getD_some]
  simp only [show (2 : Int) > 0 by decide, if_true, show ¬ (1 : Int) < 0 by decide, if_false]
  have e : (if max 0 (min (1 : Int) ((2 * l.length : Nat) : Int)) < ((2 * l.length : Nat) : Int) then (((2 * l.length : Nat) : Int) - max 0 (min (1 : Int) ((2 * l.length : Nat) : Int)) + 2 - 1) / 2 else 0).toNat = l.length := by split <;> omega
  rw [e, List.filterMap_map]
  have e2 : ∀ k ∈ List.range l.length, ((fun x => (flatP l)[x]?) ∘ fun (k : Nat) => (max 0 (min (1 : Int) ((2 * l.length : Nat) : Int)) + 2 * (k : Int)).toNat) k = (l.map fun p => (p.2 : Int))[k]? := by
    intro k hk
    have := List.mem_range.mp hk
    show (flatP l)[(max 0 (min (1 : Int) ((2 * l.length : Nat) : Int)) + 2 * (k : Int)).toNat]? = _
    rw [show (max 0 (min (1 : Int) ((2 * l.length : Nat) : Int)) + 2 * (k : Int)).toNat = 2 * k + 1 by omega, (flatP_get l k).2, List.getElem?_map]
  have cg : ∀ {f g : Nat → Option Int} (js : List Nat), (∀ k ∈ js, f k = g k) → js.filterMap f = js.filterMap g := by
    intro f g js
    induction js with
    | nil => intro _; rfl
    | cons j js ih =>
      intro hj
      rw [List.filterMap_cons, List.filterMap_cons, hj j List.mem_cons_self, ih fun k hk => hj k (List.mem_cons_of_mem _ hk)]
  rw [cg _ e2]
  have := fm_range (l.map fun p => (p.2 : Int))
  rw [List.length_map] at this
  exact this

/-! ### < of data; the least of a list of pairs -/
def rLtD (K : PySem.W.Frag) : R2 := fun x y H Q => ∃ d e : PyData, Dp K H x d ∧ Dp K H y e ∧ PySem.W.alike d e = true ∧ d ≠ .none ∧ d.depth ≤ 60 ∧ Q (.bl (PySem.W.dataLt d e)) H
theorem op_ltD {X : Cx} (hu : X.A.units + 64 < cLine) : OpR X (compareOp .Lt) (rLtD X.K) := by
  intro pins s σ H x y v u Q I rx ry h
  obtain ⟨d, e, hd, he, ha, hn, hz, q⟩ := h
  obtain ⟨as, r1⟩ := Dp.reads I d x v hd rx
  obtain ⟨bs, r2⟩ := Dp.reads I e y u he ry
  have hm : min d.depth e.depth ≤ d.depth := Nat.min_le_left _ _
  exact PySem.W.lt_data r1 r2 ha hn (by omega) ⟨.bl _, H, I, rfl, q⟩
abbrev pd (p : Int × Int) : PyData := .tuple [.int p.1, .int p.2]
def ltPair (p q : Int × Int) : Bool := decide (p.1 < q.1) || (decide (p.1 = q.1) && decide (p.2 < q.2))
theorem lt_nil_nil : PyProof.Rows.lexLt PyProof.Rows.itemOrd (PySem.W.keyToksAll []) (PySem.W.keyToksAll []) = false := PyProof.Rows.lex_irrefl _
theorem lt_cons (x y : Int) (xs ys : List PyData) : PyProof.Rows.lexLt PyProof.Rows.itemOrd (PySem.W.keyToksAll (.int x :: xs)) (PySem.W.keyToksAll (.int y :: ys)) = (decide (x < y) || (decide (x = y) && PyProof.Rows.lexLt PyProof.Rows.itemOrd (PySem.W.keyToksAll xs) (PySem.W.keyToksAll ys))) := by
  by_cases e : x = y
  · subst e
    rw [PySem.W.dataLt_all_yes (x := .int x) (y := .int x) (by simp [PySem.W.alike]) (by simp [PyData.eqv])]
    simp
  · rw [PySem.W.dataLt_all_no (by simp [PySem.W.alike]) (by simpa [PyData.eqv] using e), PySem.W.dataLt_int]
    simp [e]
theorem dataLt_pair (p q : Int × Int) : PySem.W.dataLt (pd p) (pd q) = ltPair p q := by
  rw [PySem.W.dataLt_tuple, lt_cons, lt_cons, lt_nil_nil]
  simp [ltPair]
theorem alike_pair (p q : Int × Int) : PySem.W.alike (pd p) (pd q) = true := by simp [PySem.W.alike, PySem.W.alikeAll]
def minPair (p : Int × Int) (l : List (Int × Int)) : Int × Int := l.foldl (fun a y => if ltPair y a then y else a) p
theorem minD_pairs : ∀ (l : List (Int × Int)) (p : Int × Int), PySem.W.minD (pd p) (l.map pd) = pd (minPair p l)
  | [], p => rfl
  | q :: l, p => by
    show (l.map pd).foldl _ (if PySem.W.dataLt (pd q) (pd p) = true then pd q else pd p) = pd (l.foldl _ (if ltPair q p = true then q else p))
    have e : (if PySem.W.dataLt (pd q) (pd p) = true then pd q else pd p) = pd (if ltPair q p = true then q else p) := by
      rw [dataLt_pair]; split <;> rfl
    rw [e]
    exact minD_pairs l _
theorem minPair_le : ∀ (l : List (Int × Int)) (p q : Int × Int), (q = p ∨ q ∈ l) → ltPair q (minPair p l) = false
  | [], p, q, h => by
    have : q = p := by simpa using h
    subst this
    show ltPair q q = false
    simp [ltPair]
  | r :: l, p, q, h => by
    show ltPair q (minPair (if ltPair r p = true then r else p) l) = false
    have tr : ∀ a b c : Int × Int, ltPair b a = false → ltPair c b = false → ltPair c a = false := by
      intro a b c h1 h2
      simp only [ltPair, Bool.or_eq_false_iff, Bool.and_eq_false_iff, decide_eq_false_iff_not] at *
      omega
    have base := minPair_le l (if ltPair r p = true then r else p) _ (Or.inl rfl)
    have hmem : ∀ q ∈ l, ltPair q (minPair (if ltPair r p = true then r else p) l) = false := fun q hq => minPair_le l _ q (Or.inr hq)
    have irr : ∀ a : Int × Int, ltPair a a = false := by intro a; simp [ltPair]
    rcases h with rfl | h
    · by_cases c : ltPair r q = true
      · rw [if_pos c] at base ⊢
        refine tr _ r q base ?_
        simp only [ltPair, Bool.or_eq_true, Bool.and_eq_true, decide_eq_true_eq, Bool.or_eq_false_iff, Bool.and_eq_false_iff, decide_eq_false_iff_not] at *
        omega
      · rw [if_neg c] at base ⊢
        exact base
    · rcases List.mem_cons.mp h with rfl | h
      · by_cases c : ltPair q p = true
        · rw [if_pos c] at base ⊢
          exact base
        · rw [if_neg c] at base ⊢
          exact tr _ p q base (by simpa using c)
      · exact hmem q h
theorem minPair_mem : ∀ (l : List (Int × Int)) (p : Int × Int), minPair p l = p ∨ minPair p l ∈ l
  | [], p => Or.inl rfl
  | r :: l, p => by
    show minPair (if ltPair r p = true then r else p) l = p ∨ minPair (if ltPair r p = true then r else p) l ∈ r :: l
    rcases minPair_mem l (if ltPair r p = true then r else p) with h | h
    · rw [h]
      split
      · exact Or.inr List.mem_cons_self
      · exact Or.inl rfl
    · exact Or.inr (List.mem_cons_of_mem _ h)
/-! (off, most, choice): the data of even's values -/
abbrev vd (x : WM.Val3) : PyData := .tuple [.int (x.1.1 : Int), .int (x.1.2 : Int), .tuple (x.2.map .int)]
theorem alike_ints : ∀ c d : List Int, PySem.W.alikeAll (c.map .int) (d.map .int) = true
  | [], _ => by simp [PySem.W.alikeAll]
  | _ :: _, [] => by simp [PySem.W.alikeAll]
  | a :: c, b :: d => by simp [PySem.W.alikeAll, PySem.W.alike, alike_ints c d]
theorem alike_vd (x y : WM.Val3) : PySem.W.alike (vd x) (vd y) = true := by
  simp [PySem.W.alike, PySem.W.alikeAll, alike_ints]
theorem depth_ints : ∀ c : List Int, PyData.depthAll (c.map .int) ≤ 3
  | [] => by simp [PyData.depthAll]
  | a :: c => by
    have ih := depth_ints c
    simp only [List.map_cons, PyData.depthAll, PyData.depth]
    omega
theorem depth_vd (x : WM.Val3) : (vd x).depth ≤ 60 := by
  have := depth_ints x.2
  simp only [PyData.depth, PyData.depthAll]
  omega
theorem lt_ints_later : ∀ {c d : List Int}, WM.lexL c d → PyProof.Rows.lexLt PyProof.Rows.itemOrd (PySem.W.keyToksAll (d.map .int)) (PySem.W.keyToksAll (c.map .int)) = false
  | a :: c, b :: d, h => by
    rw [List.map_cons, List.map_cons, lt_cons]
    rcases h with h | ⟨h, h'⟩
    · simp; omega
    · subst h
      rw [lt_ints_later h']; simp
theorem lt_later {x y : WM.Val3} (h : WM.lexL y.2 x.2) : PySem.W.dataLt (vd x) (vd y) = decide (WM.better x y) := by
  rw [PySem.W.dataLt_tuple, lt_cons, lt_cons]
  have e : PyProof.Rows.lexLt PyProof.Rows.itemOrd (PySem.W.keyToksAll [.tuple (x.2.map .int)]) (PySem.W.keyToksAll [.tuple (y.2.map .int)]) = false := by
    cases q : PyData.eqv (.tuple (x.2.map .int)) (.tuple (y.2.map .int)) with
    | true =>
      rw [PySem.W.dataLt_all_yes (by simp [PySem.W.alike, alike_ints]) q]
      exact lt_nil_nil
    | false =>
      rw [PySem.W.dataLt_all_no (by simp [PySem.W.alike, alike_ints]) q, PySem.W.dataLt_tuple]
      exact lt_ints_later h
  rw [e]
  simp only [Bool.and_false, Bool.or_false]
  by_cases c1 : x.1.1 < y.1.1
  · rw [decide_eq_true (show (x.1.1 : Int) < (y.1.1 : Int) by omega), decide_eq_true (show WM.better x y from Or.inl c1)]; rfl
  · rw [decide_eq_false (show ¬ (x.1.1 : Int) < (y.1.1 : Int) by omega)]
    by_cases c2 : x.1.1 = y.1.1 ∧ x.1.2 < y.1.2
    · rw [decide_eq_true (show (x.1.1 : Int) = (y.1.1 : Int) by omega), decide_eq_true (show (x.1.2 : Int) < (y.1.2 : Int) by omega), decide_eq_true (show WM.better x y from Or.inr c2)]; rfl
    · rw [decide_eq_false (show ¬ WM.better x y by rintro (z | z); exact c1 z; exact c2 z)]
      by_cases c3 : x.1.1 = y.1.1
      · rw [decide_eq_false (show ¬ (x.1.2 : Int) < (y.1.2 : Int) by omega)]; simp
      · rw [decide_eq_false (show ¬ (x.1.1 : Int) = (y.1.1 : Int) by omega)]; rfl
/-- tuples at addresses -/
def AllT (H : Hp) (ts : List Addr) (rows : List (List V)) : Prop := ts.length = rows.length ∧ ∀ (i : Nat) t r, ts[i]? = some t → rows[i]? = some r → H t = some (.tup r)
theorem AllT.nil {H : Hp} : AllT H [] [] := ⟨rfl, fun i t r h => by simp at h⟩
theorem AllT.cons_iff {H : Hp} {t : Addr} {ts : List Addr} {r : List V} {rows : List (List V)} : AllT H (t :: ts) (r :: rows) ↔ H t = some (.tup r) ∧ AllT H ts rows := by
  constructor
  · rintro ⟨h1, h2⟩
    exact ⟨h2 0 t r rfl rfl, by simpa using h1, fun i t' r' a b => h2 (i + 1) t' r' a b⟩
  · rintro ⟨h1, h2, h3⟩
    refine ⟨by simpa using h2, fun i t' r' a b => ?_⟩
    cases i with
    | zero => cases a; cases b; exact h1
    | succ i => exact h3 i t' r' a b
theorem AllT.snoc {H : Hp} {t : Addr} {ts : List Addr} {r : List V} {rows : List (List V)} (a : AllT H ts rows) (h : H t = some (.tup r)) : AllT H (ts ++ [t]) (rows ++ [r]) := by
  refine ⟨by rw [List.length_append, List.length_append, a.1]; rfl, fun i t' r' e1 e2 => ?_⟩
  by_cases c : i < ts.length
  · rw [List.getElem?_append_left c] at e1
    rw [List.getElem?_append_left (by rw [← a.1]; exact c)] at e2
    exact a.2 i t' r' e1 e2
  · rw [List.getElem?_append_right (by omega)] at e1
    rw [List.getElem?_append_right (by rw [← a.1]; omega)] at e2
    have hz : i - ts.length = 0 := by
      rcases Nat.eq_zero_or_pos (i - ts.length) with h | h
      · exact h
      · rw [List.getElem?_eq_none (show [t].length ≤ i - ts.length from h)] at e1; cases e1
    rw [hz] at e1
    rw [← a.1, hz] at e2
    cases e1
    cases e2
    exact h
theorem AllT.append {H : Hp} : ∀ {ts us : List Addr} {rows more : List (List V)}, AllT H ts rows → AllT H us more → AllT H (ts ++ us) (rows ++ more)
  | [], us, [], more, _, b => b
  | [], _, _ :: _, _, a, _ => by have := a.1; simp at this
  | _ :: _, _, [], _, a, _ => by have := a.1; simp at this
  | t :: ts, us, r :: rows, more, a, b => by
    obtain ⟨h1, h2⟩ := AllT.cons_iff.mp a
    exact AllT.cons_iff.mpr ⟨h1, AllT.append h2 b⟩
theorem AllT.init {H : Hp} {t : Addr} {ts : List Addr} {r : List V} {rows : List (List V)} (a : AllT H (ts ++ [t]) (rows ++ [r])) : AllT H ts rows := by
  have hl : ts.length = rows.length := by have := a.1; rw [List.length_append, List.length_append] at this; exact Nat.add_right_cancel this
  refine ⟨hl, fun i u q e1 e2 => a.2 i u q ?_ ?_⟩
  · rw [List.getElem?_append_left (List.getElem?_eq_some_iff.mp e1).1]; exact e1
  · rw [List.getElem?_append_left (List.getElem?_eq_some_iff.mp e2).1]; exact e2
theorem AllT.keep {H H' : Hp} {ts : List Addr} {rows : List (List V)} (a : AllT H ts rows) (k : ∀ b xs, H b = some (.tup xs) → H' b = some (.tup xs)) : AllT H' ts rows := ⟨a.1, fun i t r e1 e2 => k t _ (a.2 i t r e1 e2)⟩
theorem AllT.get {H : Hp} {ts : List Addr} {rows : List (List V)} (a : AllT H ts rows) {i : Nat} {r : List V} (h : rows[i]? = some r) : ∃ t, ts[i]? = some t ∧ H t = some (.tup r) := by
  have hl := (List.getElem?_eq_some_iff.mp h).1
  have hi : i < ts.length := by rw [a.1]; exact hl
  exact ⟨ts[i], List.getElem?_eq_getElem hi, a.2 i _ r (List.getElem?_eq_getElem hi) h⟩
theorem dp_pairs {K : PySem.W.Frag} {H : Hp} : ∀ {ts : List Addr} {ps : List (Int × Int)}, AllT H ts (ps.map fun p => [V.int p.1, V.int p.2]) → DpAll K H (ts.map V.ref) (ps.map pd)
  | [], [], _ => .nil
  | [], _ :: _, a => by have := a.1; simp at this
  | _ :: _, [], a => by have := a.1; simp at this
  | t :: ts, p :: ps, a => by
    obtain ⟨h1, h2⟩ := AllT.cons_iff.mp a
    exact .cons (.tup (SqT.of h1) (.cons (.int _) (.cons (.int _) .nil))) (dp_pairs h2)
/-- min of a list of pairs: the first of the least -/
def rMinP (K : PySem.W.Frag) : List V → Hp → VK → Prop := fun vs H Q => ∃ (a : Addr) (ts : List Addr) (ps : List (Int × Int)), vs = [V.ref a] ∧ SqL K H a (ts.map V.ref) ∧ AllT H ts (ps.map fun p => [V.int p.1, V.int p.2]) ∧ 0 < ps.length ∧
  ∀ (t : Addr) (p : Int × Int), p ∈ ps → H t = some (.tup [.int p.1, .int p.2]) → (∀ q ∈ ps, ltPair q p = false) → Q (.ref t) H
theorem depth_pairs : ∀ l : List (Int × Int), PyData.depthAll (l.map pd) ≤ 3
  | [] => by simp [PyData.depthAll]
  | p :: l => by
    have ih := depth_pairs l
    show PyData.depthAll (pd p :: l.map pd) ≤ 3
    rw [PyData.depthAll]
    have : (pd p).depth ≤ 3 := by simp [PyData.depth, PyData.depthAll]
    omega
theorem cr_minP {X : Cx} (hc : X.calm = true) (hu : X.A.units + 64 < cLine) : CallR X (.builtin "min") (rMinP X.K) := by
  intro pins s σ H vs us Q I r h
  obtain ⟨a, ts, ps, rfl, hs, hT, hne, q⟩ := h
  obtain ⟨its, rv, hl, _⟩ := I.list hs
  rw [Vals.ref1 r]
  match ps, hne with
  | p :: ps, _ =>
    obtain ⟨as, hr⟩ := Dp.readsAll I ((p :: ps).map pd) (ts.map V.ref) its (dp_pairs hT) rv
    have ha : PySem.W.AlikeAll ((p :: ps).map pd) := by
      refine ⟨fun x hx y hy => ?_, fun x hx => ?_⟩
      · obtain ⟨x', _, rfl⟩ := List.mem_map.mp hx
        obtain ⟨y', _, rfl⟩ := List.mem_map.mp hy
        exact alike_pair _ _
      · obtain ⟨x', _, rfl⟩ := List.mem_map.mp hx
        intro z; cases z
    have hd := depth_pairs (p :: ps)
    refine PySem.W.min_list_data (I.ok.hd hc) hl.isList (x := pd p) (xs := ps.map pd) (by simpa using hr) ha (by have : PyData.depthAll (pd p :: ps.map pd) ≤ 3 := hd; omega) fun i v h' tk bs hv hm hk => ?_
    rw [minD_pairs] at hm
    -- which place it is
    have hit : its[i]? = some v := by simpa using hv
    have hi : i < its.length := (List.getElem?_eq_some_iff.mp hit).1
    have hlen : its.length = ts.length := by have := rv.length; rw [List.length_map] at this; omega
    have ht : ts[i]? = some ts[i] := List.getElem?_eq_getElem (by omega)
    have hrow : ((p :: ps).map fun p => [V.int p.1, V.int p.2])[i]? = some [V.int ((p :: ps)[i]'(by have := hT.1; rw [List.length_map] at this; omega)).1, V.int ((p :: ps)[i]'(by have := hT.1; rw [List.length_map] at this; omega)).2] := by
      rw [List.getElem?_map, List.getElem?_eq_getElem]; rfl
    have htup := hT.2 i _ _ ht hrow
    obtain ⟨u, hu1, hu2⟩ := rv.get (i := i) (x := V.ref ts[i]) (by rw [List.getElem?_map, ht]; rfl)
    rw [hit] at hu1
    cases hu1
    cases hu2
    have J : Inv X pins σ H { s with heap := h', toks := tk } := I.kept hk
    obtain ⟨cs, hc2⟩ := Dp.reads J (pd ((p :: ps)[i]'(by have := hT.1; rw [List.length_map] at this; omega))) (V.ref ts[i]) (.ref ts[i]) (.tup (SqT.of htup) (.cons (.int _) (.cons (.int _) .nil))) rfl
    have e := PySem.W.alike_unique _ _ _ _ _ (alike_pair _ _) hm hc2
    have e' : minPair p ps = (p :: ps)[i]'(by have := hT.1; rw [List.length_map] at this; omega) := by
      injection e with e
      injection e with e1 e2
      injection e2 with e2 _
      injection e1 with e1
      injection e2 with e2
      exact Prod.ext e1 e2
    refine ⟨.ref ts[i], H, J, rfl, q ts[i] (minPair p ps) ?_ ?_ ?_⟩
    · rw [e']; exact List.getElem_mem _
    · rw [e']; exact htup
    · intro q hq
      exact minPair_le ps p q (List.mem_cons.mp hq)

/-! ### a call of a local name that holds one of several defs, any of which may raise -/
structure HeldX (P : Program) (w : World) (K : PySem.W.Frag) (mg : Str → Option Value) (base : Heap) (k : Nat) (f : Addr) (sp : Sp) : Prop where
  ex : ∃ (fd : FuncData) (ps : List Str) (j : Nat), j ≤ k ∧ FnOk P w K mg base (L2.CX P w) j f fd ps sp ∧ PySem.W.keepIn K (.ref f) = true ∧ Binds K fd ps []
def tCallAX (i : Nat) (S : Addr → Sp → Prop) (E : XK) (t : TA) : TE := fun σ H Q => ∃ f sp, σ[i]? = some (some (.ref f)) ∧ S f sp ∧ t σ H fun vs H1 => sp vs H1 Q E
theorem pe_callAX {X : Cx} {k i : Nat} {E : XK} {x : Str} {p pos : Pos} {e : Expr} {es : List Expr} {t : TA} {S : Addr → Sp → Prop} (A : ∀ f sp, S f sp → HeldX X.prog X.w X.K X.mg X.base k f sp) (hr : Room k X.A) (hN : X.N[i]? = some x) (hv : Vis X.env.scope x) (hx : Passes (L2.CX X.prog X.w) X E) (ha : PA X (e :: es) t)
    (hdb : (x == ("__debug__" : Str)) = false := by decide) (hcd : (x == ("__classdict__" : Str)) = false := by decide)
    (he : starEach (e :: es) X.env = (false, eval e X.env) :: starEach es X.env := by rfl) (hpl : (backTo pos (starEach es X.env)).any (·.1) = false := by rfl) : PE X (.Call (.Name x p) (e :: es) [] pos) (tCallAX i S E t) := by
  refine ⟨fun pins s σ H Q I h => ?_⟩
  obtain ⟨f, sp, hs, hS, ht⟩ := h
  obtain ⟨fd, ps, j, hj, F, hk, hb⟩ := (A f sp hS).ex
  refine (pe_callL (i := i) (f := f) (sp := sp) (dvs := []) (E := E) F (hr.mono hj) hN hv hk hb .nil hx ha hdb hcd he hpl).run pins s σ H Q I ⟨hs, ?_⟩
  have e0 : (fun (vs : List V) (H1 : Hp) => sp (vs ++ []) H1 Q E) = fun vs H1 => sp vs H1 Q E := by
    funext vs H1
    rw [List.append_nil]
  show t σ H (fun vs H1 => sp (vs ++ []) H1 Q E)
  rw [e0]
  exact ht

/-- one statement in which nothing is raised -/
theorem PS_nox {X : Cx} {st : Stmt} {t : TS} (h : PS X.nox st t) : PS X st t := ⟨fun pins s σ H D I hw =>
  wpAny_mono (h.run pins s σ H D (I.wish _) hw) (fun _ _ q => q.unwish) fun _ _ z => False.elim z⟩
/-- xs[i], read ahead of xs[i] += e -/
def rGetL (K : PySem.W.Frag) : V → V → Hp → VK → Prop := fun o i H Q => ∃ (p : Addr) (xs : List V) (j : Nat) (v : V), o = .ref p ∧ i = .int (j : Int) ∧ SqL K H p xs ∧ xs[j]? = some v ∧ Q v H
theorem get_list {X : Cx} : PGet X (rGetL X.K) := by
  intro pins s σ H o i ov iv Q I ro ri h
  obtain ⟨p, xs, j, v, rfl, rfl, hp, hj, q⟩ := h
  cases ro
  obtain ⟨t, rfl⟩ := ri
  obtain ⟨its, r, pl, hz⟩ := I.list hp
  obtain ⟨w, ew, rw'⟩ := r.get hj
  have hn := line63
  have hl := r.length
  have hlt := (List.getElem?_eq_some_iff.mp hj).1
  exact wpAny_getItem_list pl.isList (by omega) (by omega) (by simpa using ew) ⟨v, H, I, rw', q⟩
end WW
namespace WW
open PySem PySem.Spec PyProof.Rows L2
open WM
open OwWear hiding Place Kind
abbrev Pl := OwWear.Place
abbrev Kd := OwWear.Kind

/-! ### the text; calls by name -/
def topS (i : Nat) : Stmt := PySem.Challenge.pw_wirewear_s01_answers.main.body.getD i (.Pass ⟨0, 0, 0, 0⟩)
section
variable (P : Program) (w : World) (K : PySem.W.Frag) (mg : Str → Option Value) (base : Heap)
/-- the def named x keeps the promise sp -/
structure Call1 (CX : CXT) (k : Nat) (x : Str) (sp : Sp) : Prop where
  ex : ∃ (f : Addr) (fd : FuncData) (ps : List Str), FnOk P w K mg base CX k f fd ps sp ∧ mg x = some (.ref f) ∧ PySem.W.keepIn K (.ref f) = true ∧ Binds K fd ps []
/-- the method m of the class at C keeps the promise sp -/
structure Meth1 (k : Nat) (C : Addr) (m : Str) (sp : Sp) : Prop where
  ex : ∃ (f : Addr) (fd : FuncData) (ps : List Str), FnOk P w K mg base CX0 k f fd ps sp ∧ Meth K C m f ∧ Binds K fd ps []
/-- the class named x, at C, makes instances; its __init__ keeps the promise sp -/
structure Make1 (k : Nat) (C : Addr) (x : Str) (sp : Sp) : Prop where
  ex : ∃ (f : Addr) (fd : FuncData) (ps : List Str), FnOk P w K mg base CX0 k f fd ps sp ∧ Mk K C f ∧ mg x = some (.ref C) ∧ Binds K fd ps []
end
/-- a def of the text, found by its name -/
structure Def1 (K : PySem.W.Frag) (mg : Str → Option Value) (x : Str) (st : Stmt) : Prop where
  ex : ∃ (f : Addr) (fd : FuncData), Fun K x x st f fd ∧ mg x = some (.ref f)
structure DefM (K : PySem.W.Frag) (C : Addr) (m qual : Str) (st : Stmt) : Prop where
  ex : ∃ (f : Addr) (fd : FuncData), Fun K m qual st f fd ∧ Meth K C m f
structure DefI (K : PySem.W.Frag) (mg : Str → Option Value) (C : Addr) (x qual : Str) (st : Stmt) : Prop where
  ex : ∃ (f : Addr) (fd : FuncData), Fun K "__init__" qual st f fd ∧ Mk K C f ∧ mg x = some (.ref C)
section
variable {X : Cx} {CX : CXT} {k j : Nat} {x : Str} {sp : Sp} {E : XK} {p pos : Pos} {e : Expr} {es : List Expr} {t : TA} {C : Addr} {m : Str} {apos : Pos} {o : Expr} {ta : TE}
theorem pe_c1 (c : Call1 X.prog X.w X.K X.mg X.base CX k x sp) (hr : Room j X.A) (hk : k ≤ j) (hx : Passes CX X E) (hg : Gl X x) (ha : PA X (e :: es) t) (hdb : (x == ("__debug__" : Str)) = false := by decide)
    (he : starEach (e :: es) X.env = (false, eval e X.env) :: starEach es X.env := by rfl) (hpl : (backTo pos (starEach es X.env)).any (·.1) = false := by rfl) : PE X (.Call (.Name x p) (e :: es) [] pos) (tCall sp [] E t) := by
  obtain ⟨f, fd, ps, F, hm, kp, b⟩ := c.ex
  exact pe_call F (hr.mono hk) hg hm kp b .nil hx ha hdb he hpl
theorem pe_c1S {E : L2.St → XK} (c : Call1 X.prog X.w X.K X.mg X.base CX k x sp) (hr : Room j X.A) (hk : k ≤ j) (hx : ∀ σ, PassesAt CX X σ (E σ)) (hg : Gl X x) (ha : PA X (e :: es) t) (hdb : (x == ("__debug__" : Str)) = false := by decide)
    (he : starEach (e :: es) X.env = (false, eval e X.env) :: starEach es X.env := by rfl) (hpl : (backTo pos (starEach es X.env)).any (·.1) = false := by rfl) : PE X (.Call (.Name x p) (e :: es) [] pos) (tCallS sp E t) := by
  obtain ⟨f, fd, ps, F, hm, kp, b⟩ := c.ex
  exact pe_callS F (hr.mono hk) hg hm kp b hx ha hdb he hpl
theorem pe_m1 {pl : Sem Bool} (c : Meth1 X.prog X.w X.K X.mg X.base k C m sp) (cl : Cls X.K C) (hr : Room j X.A) (hk : k ≤ j) (he : PE X o ta) (ha : PA X (e :: es) t)
    (hst : starEach (e :: es) X.env = (false, eval e X.env) :: starEach es X.env := by rfl) (hpl : (backTo pos (starEach es X.env)).any (·.1) = false := by rfl)
    (ht : eval (.Call (.Attribute o m apos) (e :: es) [] pos) X.env = (do
      let ov ← eval o X.env
      standAt apos.atName
      let (f, first) ← holding [ov] (getMethod ov m pl)
      callWith pos f first (backTo pos (starEach (e :: es) X.env)) (backToKw pos (keywordEach [] X.env))) := by rfl) : PE X (.Call (.Attribute o m apos) (e :: es) [] pos) (tMeth C m sp [] E0 ta t) := by
  obtain ⟨f, fd, ps, F, hm, b⟩ := c.ex
  exact pe_meth he cl hm F (hr.mono hk) b .nil pass0 ha hst hpl ht
theorem pe_mk1 (c : Make1 X.prog X.w X.K X.mg X.base k C x sp) (hr : Room j X.A) (hk : k + 1 ≤ j) (hg : Gl X x) (ha : PA X (e :: es) t) (hdb : (x == ("__debug__" : Str)) = false := by decide)
    (he : starEach (e :: es) X.env = (false, eval e X.env) :: starEach es X.env := by rfl) (hpl : (backTo pos (starEach es X.env)).any (·.1) = false := by rfl) : PE X (.Call (.Name x p) (e :: es) [] pos) (tMake C sp [] E0 t) := by
  obtain ⟨f, fd, ps, F, M, hm, b⟩ := c.ex
  exact pe_make M F (hr.mono hk) hg hm b .nil pass0 ha hdb he hpl
theorem pe_mk1n (c : Make1 X.prog X.w X.K X.mg X.base k C x sp) (hr : Room j X.A) (hk : k + 1 ≤ j) (hg : Gl X x) (hdb : (x == ("__debug__" : Str)) = false := by decide) : PE X (.Call (.Name x p) [] [] pos) (tMake C sp [] E0 tNil) := by
  obtain ⟨f, fd, ps, F, M, hm, b⟩ := c.ex
  exact pe_make0 M F (hr.mono hk) hg hm b .nil pass0 hdb
theorem pe_gi {n : Int} (hg : Gl X x) (h : ∃ t, X.mg x = some (.int n t)) (hd : (x == ("__debug__" : Str)) = false := by decide) : PE X (.Name x pos) (tC (.int n)) := by
  obtain ⟨t, h⟩ := h
  exact pe_glob hg h ⟨t, rfl⟩ hd
end

/-! ### within a comprehension: the written part by its own name -/
section
variable {X : Cx} {K : PySem.W.Frag} {a b e : Expr} {ta tb : TE} {f : Str} {pos : Pos}
theorem pe_fldK (hK : X.K = K) (he : PE X e ta) (hb : attributeBase e f X.env (eval e X.env) = eval e X.env) : PE X (.Attribute e f pos) (tFld K ta f) := by
  subst hK; exact pe_fld he hb
theorem pe_ixlK (hK : X.K = K) (ha : PE X a ta) (hb : PE X b tb) (hs : PlainIx b) : PE X (.Subscript a b pos) (tOp (rIxL K) ta tb) := by
  subst hK; exact pe_ix ix_list ha hb hs
theorem pe_catK (hK : X.K = K) (ha : PE X a ta) (hb : PE X b tb) : PE X (.BinOp a .Add b pos) (tOp (rCatA K) ta tb) := by
  subst hK; exact pe_op op_catA ha hb
end

/-! ### readings, one step -/
section
variable {K : PySem.W.Frag} {D : Ends} {σ : L2.St} {H : Hp} {Q : VK} {te ta tb : TE} {g : TG} {t u : TS} {c : TT} {v x y : V} {r : R2} {tr : TA}
theorem r_seq (h : t { D with nx := u D } σ H) : tSeq t u D σ H := h
theorem r_asg (h : te σ H fun x H1 => g x σ H1 D.nx) : tAsg te g D σ H := h
theorem r_drop (h : te σ H fun _ H1 => D.nx σ H1) : tDrop te D σ H := h
theorem r_ret (h : te σ H D.rt) : tRet te D σ H := h
theorem r_next (h : D.nx σ H) : tNext D σ H := h
theorem r_ifs (h : c σ H fun b H1 => if b = true then t D σ H1 else u D σ H1) : tIfS c t u D σ H := h
theorem r_gname {i : Nat} {R : L2.St → Hp → Prop} (h : R (σ.set i (some v)) H) : gName i v σ H R := h
theorem r_var {i : Nat} (h : σ[i]? = some (some v)) (q : Q v H) : tVar i σ H Q := ⟨v, h, q⟩
theorem r_c (h : Q v H) : tC v σ H Q := h
theorem r_op (h : ta σ H fun x H1 => tb σ H1 fun y H2 => r x y H2 Q) : tOp r ta tb σ H Q := h
theorem r_un {r : V → Hp → VK → Prop} (h : ta σ H fun x H1 => r x H1 Q) : tUn r ta σ H Q := h
theorem r_test {R : Bool → Hp → Prop} (h : te σ H fun x H' => ∃ k, x = .bl k ∧ R k H') : tTest te σ H R := h
theorem r_tB {R : Bool → Hp → Prop} (h : te σ H fun x H' => ∃ k, x = .bl k ∧ R k H') : tB te σ H R := h
theorem r_i0 {f : Int → Int → V} {i j : Int} (h : Q (f i j) H) : rI0 f (.int i) (.int j) H Q := ⟨i, j, rfl, rfl, h⟩
theorem r_i {C : Int → Int → Prop} {f : Int → Int → V} {i j : Int} (hc : C i j) (h : Q (f i j) H) : rI C f (.int i) (.int j) H Q := ⟨i, j, rfl, rfl, hc, h⟩
theorem r_u {f : Int → V} {i : Int} (h : Q (f i) H) : rU f (.int i) H Q := ⟨i, rfl, h⟩
theorem r_eqI {i j : Int} (h : Q (.bl (decide (V.int i = V.int j))) H) : rEq (.int i) (.int j) H Q := ⟨rfl, h⟩
theorem r_cons {R : List V → Hp → Prop} (h : ta σ H fun x H1 => tr σ H1 fun xs H2 => R (x :: xs) H2) : tCons ta tr σ H R := h
theorem r_nil {R : List V → Hp → Prop} (h : R [] H) : tNil σ H R := h
theorem r_tup (h : tr σ H fun xs H1 => xs.length ≤ sizeLine ∧ ∀ p, H1 p = none → Q (.ref p) (upd H1 p (.tup xs))) : tTup tr σ H Q := h
theorem r_lst (h : tr σ H fun xs H1 => xs.length ≤ sizeLine ∧ ∀ p, H1 p = none → Q (.ref p) (upd H1 p (.lst xs))) : tLst tr σ H Q := h
theorem r_cb {r : List V → Hp → VK → Prop} (h : tr σ H fun vs H1 => r vs H1 Q) : tCB r tr σ H Q := h
theorem r_call {sp : Sp} {dvs : List V} {E : XK} (h : tr σ H fun vs H1 => sp (vs ++ dvs) H1 Q E) : tCall sp dvs E tr σ H Q := h
theorem r_fld {f : Str} (h : ta σ H fun x H1 => ∃ a C dx fs v, x = .ref a ∧ H1 a = some (.ins C dx fs) ∧ Cls K C ∧ NoAttr K C f ∧ fs.lookup f = some v ∧ Q v H1) : tFld K ta f σ H Q := h
theorem r_if (h : c σ H fun b H1 => if b = true then ta σ H1 Q else tb σ H1 Q) : tIf c ta tb σ H Q := h
theorem r_gnil {R : L2.St → Hp → Prop} (h : R σ H) : gNil [] σ H R := ⟨rfl, h⟩
theorem r_gcons {R : L2.St → Hp → Prop} {gs : TGs} {vs : List V} (h : g v σ H fun σ' H' => gs vs σ' H' R) : gCons g gs (v :: vs) σ H R := ⟨v, vs, rfl, h⟩
theorem r_gtup {R : L2.St → Hp → Prop} {n : Nat} {gs : TGs} {a : Addr} {xs : List V} (hs : SqT K H a xs) (hl : xs.length = n) (h : gs xs σ H R) : gTup K n gs (.ref a) σ H R := ⟨a, xs, rfl, hs, hl, h⟩
theorem r_glst {R : L2.St → Hp → Prop} {n : Nat} {gs : TGs} {a : Addr} {xs : List V} (hs : SqL K H a xs) (hl : xs.length = n) (h : gs xs σ H R) : gLst K n gs (.ref a) σ H R := ⟨a, xs, rfl, hs, hl, h⟩
theorem r_for {wi : TI} (h : wi σ H fun J H1 => ∃ W : Nat → Nat → L2.St → Hp → Prop, (∃ m, W 0 m σ H1) ∧ ∀ i m σ H, W i m σ H →
    (J.stop i H ∧ D.nx σ H) ∨ (J.go i H ∧ ∃ N : L2.St → Hp → Prop, (∀ σ' H', N σ' H' → ∃ m', m' < m ∧ W (i + 1) m' σ' H') ∧ ∀ x H', J.yld i H x H' → g x σ H' fun σ2 H2 => t { D with nx := N, ct := N, bk := D.nx } σ2 H2)) : tFor wi g t D σ H := h
theorem r_rng1 {R : It → Hp → Prop} {ta : TA} (h : ta σ H fun vs H1 => ∃ j : Int, vs = [.int j] ∧ -(2 ^ 62) ≤ j ∧ j < 2 ^ 62 ∧ R (Itr 0 j.toNat) H1) : iRng1 ta σ H R := h
theorem r_rng2 {R : It → Hp → Prop} {ta : TA} (h : ta σ H fun vs H1 => ∃ i j : Int, vs = [.int i, .int j] ∧ (-(2 ^ 62) ≤ i ∧ i < 2 ^ 62 ∧ -(2 ^ 62) ≤ j ∧ j < 2 ^ 62) ∧ R (Itr i (j - i).toNat) H1) : iRng2 ta σ H R := h
theorem r_ilist {R : It → Hp → Prop} (h : ta σ H fun x H1 => ∃ a, x = .ref a ∧ (∃ xs, SqL K H1 a xs) ∧ R (Itl K a) H1) : iList K ta σ H R := h
theorem r_ienum {R : It → Hp → Prop} {ta : TA} (h : ta σ H fun vs H1 => ∃ a xs, vs = [.ref a] ∧ SqL K H1 a xs ∧ R (Ite K a) H1) : iEnum K ta σ H R := h
theorem r_izip {R : It → Hp → Prop} {ta : TA} (h : ta σ H fun vs H1 => ∃ a b xs ys, vs = [.ref a, .ref b] ∧ SqL K H1 a xs ∧ SqL K H1 b ys ∧ R (Itz K a b) H1) : iZip K ta σ H R := h
theorem r_par {i j : Nat} {ta : TA} (h : ta σ H fun vs H1 => ∃ v w, vs = [v, w] ∧ D.nx ((σ.set i (some v)).set j (some w)) H1) : tPar i j ta D σ H := h
theorem r_meth {C : Addr} {m : Str} {sp : Sp} {dvs : List V} {E : XK} {ta : TE} {t : TA} (h : ta σ H fun x H1 => ∃ a dx fs, x = .ref a ∧ H1 a = some (.ins C dx fs) ∧ fs.lookup m = none ∧ t σ H1 fun vs H2 => sp (x :: (vs ++ dvs)) H2 Q E) : tMeth C m sp dvs E ta t σ H Q := h
theorem r_aug {i : Nat} {ti : TIp} (hx : σ[i]? = some (some x)) (h : te σ H fun y H1 => ti x y H1 fun z H2 => D.nx (σ.set i (some z)) H2) : tAug i te ti D σ H := ⟨x, hx, h⟩
theorem r_ip {f : Int → Int → Int} {i j : Int} (h : Q (.int (f i j)) H) : ipI f (.int i) (.int j) H Q := ⟨i, j, rfl, rfl, h⟩
theorem r_bm {T : String} {r : V → List V → Hp → VK → Prop} {to : TE} {t : TA} (h : to σ H fun x H1 => tyV K T x H1 ∧ t σ H1 fun xs H2 => r x xs H2 Q) : tBM K T r to t σ H Q := h
theorem r_gsub {to ti : TE} {ts : TSet} {R : L2.St → Hp → Prop} (h : to σ H fun o H1 => ti σ H1 fun i H2 => ts o i v H2 fun H3 => R σ H3) : gSub to ti ts v σ H R := h
theorem r_sfld {tv : TE} {f : Str} (h : tv σ H fun y H1 => ta σ H1 fun x H2 => ∃ a C dx fs, x = .ref a ∧ H2 a = some (.ins C dx fs) ∧ Cls K C ∧ NoAttr K C f ∧ fs.length < 1000 ∧ D.nx σ (upd H2 a (.ins C dx (putF f y fs)))) : sFld K ta tv f D σ H := h
theorem r_sl {r : V → Option Int → Option Int → Hp → VK → Prop} {tl th : TO} (h : te σ H fun x H1 => tl σ H1 fun lo H2 => th σ H2 fun hi H3 => r x lo hi H3 Q) : tSl r te tl th σ H Q := h
theorem r_augS {to ti te : TE} {tget : V → V → Hp → VK → Prop} {tip : TIp} {tset : TSet} (h : to σ H fun o H1 => ti σ H1 fun i H2 => tget o i H2 fun x H3 => te σ H3 fun y H4 => tip x y H4 fun z H5 => tset o i z H5 fun H6 => D.nx σ H6) : tAugS to ti te tget tip tset D σ H := h
theorem r_lc {wi : TI} {tt : TT} {vs : List Nat} (h : wi σ H fun J H1 => ∀ D, H1 D = none → ∃ W : Nat → Nat → Hp → Prop, (∃ m, W 0 m (upd H1 D (.lst []))) ∧ ∀ i m H, W i m H →
    (J.stop i H ∧ Q (.ref D) H) ∨ (J.go i H ∧ ∃ Nx : Hp → Prop, (∀ H', Nx H' → ∃ m', m' < m ∧ W (i + 1) m' H') ∧ ∀ x H', J.yld i H x H' → g x (wipe σ vs) H' fun σ2 H2 => wipe σ2 vs = wipe σ vs ∧ tt σ2 H2 fun b H3 =>
      if b = true then te σ2 H3 fun y H4 => ∃ acc, H4 D = some (.lst acc) ∧ acc.length < sizeLine ∧ Nx (upd H4 D (.lst (acc ++ [y]))) else Nx H3)) : tLc wi g tt te vs σ H Q := h
/-- len of a list that stands | of a list of the written part -/
theorem r_len {R : Nat → Prop} {xs : List V} {a : Addr} (hs : SqL K H a xs) (h : R xs.length) : ∃ x n, [V.ref a] = [x] ∧ LenV K x H n ∧ R n := ⟨_, _, rfl, .inl ⟨xs, hs, rfl⟩, h⟩
theorem r_ixl {xs : List V} {a : Addr} {i : Int} {z : V} (hs : SqL K H a xs) (hi : atI xs i = some z) (h : Q z H) : rIxL K (.ref a) (.int i) H Q := ⟨a, xs, i, z, rfl, rfl, hs, hi, h⟩
theorem r_ixt {xs : List V} {a : Addr} {i : Int} {z : V} (hs : SqT K H a xs) (hi : atI xs i = some z) (h : Q z H) : rIxT K (.ref a) (.int i) H Q := ⟨a, xs, i, z, rfl, rfl, hs, hi, h⟩
/-- xs.append(e) -/
theorem r_append {l : Addr} {xs : List V} {z : V} (hl : H l = some (.lst xs)) (hz : xs.length < 100000) (h : Q .non (upd H l (.lst (xs ++ [z])))) : rAppend (.ref l) [z] H Q := ⟨l, xs, z, rfl, rfl, hl, Nat.lt_of_lt_of_le hz (by rw [sizeLine_eq]; decide), h⟩
theorem r_lenT {R : Nat → Prop} {xs : List V} {a : Addr} (hs : SqT K H a xs) (h : R xs.length) : ∃ x n, [V.ref a] = [x] ∧ LenV K x H n ∧ R n := ⟨_, _, rfl, .inr ⟨xs, hs, rfl⟩, h⟩
theorem r_dnotin {ty td : TE} (h : ty σ H fun y H1 => td σ H1 fun x H2 => ∃ a o, x = .ref a ∧ DGet H2 a y o ∧ Q (.bl (!o.isSome)) H2) : tDNotIn ty td σ H Q := h
theorem r_din {ty td : TE} (h : ty σ H fun y H1 => td σ H1 fun x H2 => ∃ a o, x = .ref a ∧ DGet H2 a y o ∧ Q (.bl o.isSome) H2) : tDIn ty td σ H Q := h
theorem r_dget {td ty : TE} (h : td σ H fun x H1 => ty σ H1 fun y H2 => ∃ a v, x = .ref a ∧ DGet H2 a y (some v) ∧ Q v H2) : tDGet td ty σ H Q := h
theorem r_sdput {td ty tv : TE} (h : tv σ H fun v H1 => td σ H1 fun x H2 => ty σ H2 fun y H3 => ∃ a H4, x = .ref a ∧ DPut H3 a y v H4 ∧ D.nx σ H4) : sDPut td ty tv D σ H := h
theorem r_dget2 {td ty tx : TE} (h : td σ H fun x H1 => ∃ a, x = .ref a ∧ IsD H1 a ∧ ty σ H1 fun y H2 => tx σ H2 fun z H3 => ∃ o, DGet H3 a y o ∧ Q (o.getD z) H3) : tDGet2 td ty tx σ H Q := h
theorem r_dpop1 {td ty : TE} (h : td σ H fun x H1 => ∃ a, x = .ref a ∧ IsD H1 a ∧ ty σ H1 fun y H2 => ∃ kvs k v, H2 a = some (.dK kvs) ∧ y = kV k ∧ valV kvs k = some v ∧ Q v (upd H2 a (.dK (dropK kvs k)))) : tDPop1 td ty σ H Q := h
theorem r_dnewT (h : ∀ p, H p = none → Q (.ref p) (upd H p (.dT []))) : tDNewT σ H Q := h
theorem r_dnewK (h : ∀ p, H p = none → Q (.ref p) (upd H p (.dK []))) : tDNewK σ H Q := h
theorem r_sfldaug {tv : TE} {rd : V → V → Hp → VK → Prop} {f : Str} (h : ta σ H fun x H1 => ∃ a C dx fs v, x = .ref a ∧ H1 a = some (.ins C dx fs) ∧ Cls K C ∧ NoAttr K C f ∧ fs.lookup f = some v ∧
    tv σ H1 fun y H2 => rd v y H2 fun z H3 => ∃ dx' fs', H3 a = some (.ins C dx' fs') ∧ fs'.length < 1000 ∧ D.nx σ (upd H3 a (.ins C dx' (putF f z fs')))) : sFldAug K ta tv rd f D σ H := h
theorem r_part {R : Option Int → Hp → Prop} (h : te σ H fun x H1 => ∃ i, x = .int i ∧ R (some i) H1) : tPart te σ H R := h
theorem r_nopart {R : Option Int → Hp → Prop} (h : R none H) : tNoPart σ H R := h
theorem r_and {R : Bool → Hp → Prop} {c d : TT} (h : c σ H fun b H1 => if b = true then d σ H1 R else R false H1) : tAnd c d σ H R := h
theorem r_or {R : Bool → Hp → Prop} {c d : TT} (h : c σ H fun b H1 => if b = true then R true H1 else d σ H1 R) : tOr c d σ H R := h
theorem r_not {R : Bool → Hp → Prop} {c : TT} (h : c σ H fun b H1 => R (!b) H1) : tNot c σ H R := h
theorem r_yes {R : Bool → Hp → Prop} (h : R true H) : tYes σ H R := h
theorem r_intEx {R : Int → Prop} {i : Int} (h : R i) : ∃ j, V.int i = .int j ∧ R j := ⟨i, rfl, h⟩
theorem r_bl {R : Bool → Prop} {b : Bool} (h : R b) : ∃ k, V.bl b = .bl k ∧ R k := ⟨b, rfl, h⟩
theorem iteD {p A B : Prop} [Decidable p] (h1 : p → A) (h2 : ¬ p → B) : if decide p = true then A else B := by
  by_cases h : p
  · rw [if_pos (decide_eq_true h)]; exact h1 h
  · rw [if_neg (by simpa using h)]; exact h2 h
theorem iteB {b : Bool} {A B : Prop} (h1 : b = true → A) (h2 : b = false → B) : if b = true then A else B := by
  cases b with
  | true => exact h1 rfl
  | false => exact h2 rfl
/-- both sides without a new object -/
theorem r_andV {a b : Bool} (h1 : ∀ Q : VK, Q (.bl a) H → ta σ H Q) (h2 : a = true → ∀ Q : VK, Q (.bl b) H → tb σ H Q) (q : Q (.bl (a && b)) H) : tAndV ta tb σ H Q := by
  refine h1 _ ⟨a, rfl, ?_⟩
  cases a with
  | true => exact iteT (h2 rfl _ q)
  | false => exact iteF q
theorem r_orV {a b : Bool} (h1 : ∀ Q : VK, Q (.bl a) H → ta σ H Q) (h2 : a = false → ∀ Q : VK, Q (.bl b) H → tb σ H Q) (q : Q (.bl (a || b)) H) : tOrV ta tb σ H Q := by
  refine h1 _ ⟨a, rfl, ?_⟩
  cases a with
  | true => exact iteT q
  | false => exact iteF (h2 rfl _ q)
theorem r_chain {a b d : Int} {p q : Int → Int → Bool} {tc : TE} (ha : ∀ Q : VK, Q (.int a) H → ta σ H Q) (hb : ∀ Q : VK, Q (.int b) H → tb σ H Q) (hc : ∀ Q : VK, Q (.int d) H → tc σ H Q) (h : Q (.bl (p a b && q b d)) H) :
    tChain (rI0 fun i j => .bl (p i j)) (rI0 fun i j => .bl (q i j)) ta tb tc σ H Q := by
  refine ha _ (hb _ ⟨a, b, rfl, rfl, p a b, rfl, ?_⟩)
  cases e : p a b with
  | true =>
    rw [e] at h
    exact iteT (hc _ ⟨b, d, rfl, rfl, h⟩)
  | false =>
    rw [e] at h
    exact iteF h
end
/-! ### heaps -/
theorem Same.new {H : Hp} {p : Addr} {o : HO} (h : H p = none) : Same H (upd H p o) := fun b u e => by
  rw [upd_ne (ne_of_none e h)]; exact e
theorem Same.mut {H H' : Hp} {p : Addr} {o : HO} (s : Same H H') (h : H p = none) : Same H (upd H' p o) := fun b u e => by
  rw [upd_ne (ne_of_none e h)]; exact s b u e
theorem Same.sqT {K : PySem.W.Frag} {H H' : Hp} {a : Addr} {xs : List V} (e : Same H H') (h : SqT K H a xs) : SqT K H' a xs := by
  rcases h with (h | ⟨o, h⟩) | h
  · exact .inl (.inl (e _ _ h))
  · exact .inl (.inr ⟨o, e _ _ h⟩)
  · exact .inr h
theorem AllT.same {H H' : Hp} {ts : List Addr} {rows : List (List V)} (s : Same H H') (a : AllT H ts rows) : AllT H' ts rows := a.keep fun b xs h => s b _ h
/-- all stands but what S names -/
def Only (S : List Addr) (H H' : Hp) : Prop := ∀ b o, H b = some o → b ∉ S → H' b = some o
theorem Only.refl (S : List Addr) (H : Hp) : Only S H H := fun _ _ h _ => h
theorem Same.only {S : List Addr} {H H' : Hp} (s : Same H H') : Only S H H' := fun b o h _ => s b o h
theorem Only.setp {S : List Addr} {H H' : Hp} {p : Addr} {o : HO} (s : Only S H H') (h : p ∈ S) : Only S H (L2.upd H' p o) := fun b u e hb => by
  rw [L2.upd_ne (fun z => hb (by rw [z]; exact h))]; exact s b u e hb
theorem Only.then {S : List Addr} {H H1 H2 : Hp} (a : Only S H H1) (b : Only S H1 H2) : Only S H H2 := fun c o h hc => b c o (a c o h hc) hc
theorem Only.new {S : List Addr} {H H' : Hp} {p : Addr} {o : HO} (s : Only S H H') (h : H p = none) : Only S H (upd H' p o) := fun b u e hb => by
  rw [upd_ne (ne_of_none e h)]; exact s b u e hb
/-- a new tuple, a new list, a new list of tuples is handed back; all else stands -/
def NewT (H : Hp) (xs : List V) (Q : VK) : Prop := ∀ (H' : Hp) (p : Addr), Same H H' → H p = none → H' p = some (.tup xs) → Q (.ref p) H'
def NewL (H : Hp) (xs : List V) (Q : VK) : Prop := ∀ (H' : Hp) (p : Addr), Same H H' → H p = none → H' p = some (.lst xs) → Q (.ref p) H'
def NewRows (H : Hp) (rows : List (List V)) (Q : VK) : Prop := ∀ (H' : Hp) (p : Addr) (ts : List Addr), Same H H' → H p = none → H' p = some (.lst (ts.map V.ref)) → AllT H' ts rows → Q (.ref p) H'
theorem sl60 {n : Nat} (h : n ≤ 100000) : n ≤ sizeLine := Nat.le_trans h (by rw [sizeLine_eq]; decide)
theorem sl60' {n : Nat} (h : n < 100000) : n < sizeLine := Nat.lt_of_lt_of_le h (by rw [sizeLine_eq]; decide)
theorem lk_here {k : Str} {v : V} {r : List (Str × V)} : List.lookup k ((k, v) :: r) = some v := by
  have e : (k == k) = true := beq_self_eq_true k
  simp only [List.lookup, e]
theorem lk_past {k g : Str} {v : V} {r : List (Str × V)} (h : (k == g) = false) : List.lookup k ((g, v) :: r) = List.lookup k r := by
  simp only [List.lookup, h]
theorem put_here {f : Str} {v x : V} {r : List (Str × V)} : putF f v ((f, x) :: r) = (f, v) :: r := if_pos rfl
theorem put_past {f g : Str} {v x : V} {r : List (Str × V)} (h : ¬ g = f) : putF f v ((g, x) :: r) = (g, x) :: putF f v r := if_neg h

theorem ixN_nat {n j : Nat} (hj : j < n) : ixN n (j : Int) = some j := by
  unfold ixN
  rw [if_pos (by omega), if_pos (by omega)]
  simp
def natsV (l : List Nat) : List V := l.map fun (n : Nat) => V.int (n : Int)
def cellsV (l : List (Option Nat)) : List V := l.map fun c => V.int (optI c)
theorem natsV_length (l : List Nat) : (natsV l).length = l.length := List.length_map ..
theorem natsV_get {l : List Nat} {i n : Nat} (h : l[i]? = some n) : (natsV l)[i]? = some (.int (n : Int)) := by
  unfold natsV
  rw [List.getElem?_map, h]; rfl
theorem natsV_last {l : List Nat} {k : Nat} (h : l.getLast? = some k) : atI (natsV l) (-1) = some (.int (k : Int)) := by
  have e : l = l.dropLast ++ [k] := by
    have hne : l ≠ [] := fun z => by rw [z] at h; cases h
    rw [List.getLast?_eq_some_getLast hne] at h
    have := List.dropLast_concat_getLast hne
    rw [Option.some.inj h] at this
    exact this.symm
  rw [e]
  unfold natsV
  rw [List.map_append]
  exact atI_last _ _
theorem natsV_head {l : List Nat} {k : Nat} (h : l.head? = some k) : atI (natsV l) 0 = some (.int (k : Int)) := by
  cases l with
  | nil => cases h
  | cons a r => cases h; exact at_of (j := 0) rfl rfl
theorem idxs_short {n : Nat} {p : Nat → Bool} (h : n < 100000) : (natsV (idxs n p)).length < sizeLine := by
  rw [natsV_length]
  have := List.length_filter_le p (List.range n)
  rw [List.length_range] at this
  exact Nat.lt_of_le_of_lt this (Nat.lt_of_lt_of_le h (by rw [sizeLine_eq]; decide))
theorem natsV_set (l : List Nat) (i n : Nat) : (natsV l).set i (.int (n : Int)) = natsV (l.set i n) := by
  unfold natsV
  rw [List.map_set]
theorem natsV_snoc (l : List Nat) (n : Nat) : natsV l ++ [.int (n : Int)] = natsV (l ++ [n]) := by
  unfold natsV
  rw [List.map_append]; rfl
theorem natsV_at {l : List Nat} {i n : Nat} (h : l[i]? = some n) : atI (natsV l) (i : Int) = some (.int (n : Int)) := atI_nat (natsV_get h)
/-- the item of a map -/
theorem map_get {α β : Type} {f : α → β} {l : List α} {i : Nat} {y : β} (h : (l.map f)[i]? = some y) : ∃ x, l[i]? = some x ∧ y = f x := by
  rw [List.getElem?_map] at h
  cases e : l[i]? with
  | none => rw [e] at h; cases h
  | some x => rw [e] at h; exact ⟨x, rfl, (Option.some.inj h).symm⟩
theorem get_map {α β : Type} {f : α → β} {l : List α} {i : Nat} {x : α} (h : l[i]? = some x) : (l.map f)[i]? = some (f x) := by
  rw [List.getElem?_map, h]; rfl
theorem get_lt {α : Type} {l : List α} {i : Nat} {x : α} (h : l[i]? = some x) : i < l.length := (List.getElem?_eq_some_iff.mp h).1
theorem get_some {α : Type} {l : List α} {i : Nat} (h : i < l.length) : ∃ x, l[i]? = some x := ⟨l[i], List.getElem?_eq_getElem h⟩
theorem flat_one {α : Type} (x : α) (n : Nat) : (List.replicate n [x]).flatten = List.replicate n x := by
  induction n with
  | zero => rfl
  | succ n ih => rw [List.replicate_succ, List.flatten_cons, ih, List.replicate_succ]; rfl
/-! ### how a wire lies in the heap -/
structure Lay where
  a : Addr
  dx : Addr
  al : Addr
  av : Addr
  ax : Addr
  ak : Addr
  sv : Addr
  su : Addr
def Lay.own (L : Lay) : List Addr := [L.a, L.al, L.av, L.ax, L.ak, L.sv, L.su]
def wF (L : Lay) (m day : Nat) : List (Str × V) := [("many", .int (m : Int)), ("left", .ref L.al), ("levels", .ref L.av), ("extras", .ref L.ax), ("kinds", .ref L.ak), ("services", .ref L.sv), ("supports", .ref L.su), ("day", .int (day : Int))]
def leftsV (l : List Pl) : List V := l.map fun p => V.int (p.left : Int)
def levelsV (l : List Pl) : List V := l.map fun p => V.int (p.level : Int)
def extrasV (l : List Pl) : List V := l.map fun p => V.int (p.extra : Int)
def kindsV (l : List Kd) : List (List V) := l.map fun k => [V.int (k.base : Int), V.int (k.factor : Int)]
structure SerOk (kvs : List (List Key × V)) (w : Wire) : Prop where
  val : ∀ d k : Nat, d ≤ 6 → (valV kvs [Sum.inl (d : Int), Sum.inl (k : Int)]).getD (.int 0) = .int (w.passes d k : Int)
  nd : (kvs.map (·.1)).Nodup
  few : ∀ key ∈ kvs.map (·.1), ∃ d k : Nat, d ≤ 6 ∧ k < 4 ∧ key = [Sum.inl (d : Int), Sum.inl (k : Int)]
structure SupOk (kvs : List (Key × V)) (l : List (Nat × Int)) : Prop where
  val : ∀ x : Nat, valV kvs (Sum.inl (x : Int)) = (supAt l x).map V.int
  nd : (kvs.map (·.1)).Nodup
  few : ∀ key ∈ kvs.map (·.1), ∃ x : Nat, key = Sum.inl (x : Int)
structure WireAt (C : Addr) (L : Lay) (H : Hp) (w : Wire) : Prop where
  ob : H L.a = some (.ins C L.dx (wF L w.places.length w.day))
  left : H L.al = some (.lst (leftsV w.places))
  lev : H L.av = some (.lst (levelsV w.places))
  ext : H L.ax = some (.lst (extrasV w.places))
  kin : ∃ ts : List Addr, H L.ak = some (.lst (ts.map V.ref)) ∧ AllT H ts (kindsV w.kinds)
  ser : ∃ kvs, H L.sv = some (.dT kvs) ∧ SerOk kvs w
  sup : ∃ kvs, H L.su = some (.dK kvs) ∧ SupOk kvs w.supports
  nd : L.al ≠ L.av ∧ L.al ≠ L.ax ∧ L.al ≠ L.ak ∧ L.av ≠ L.ax ∧ L.av ≠ L.ak ∧ L.ax ≠ L.ak
structure WireOk (w : Wire) : Prop where
  m2 : 2 ≤ w.places.length
  m60 : w.places.length ≤ 60
  pl : ∀ p ∈ w.places, p.left ≤ 1000000 ∧ p.level ≤ 100 ∧ p.extra ≤ 10000
  k4 : w.kinds.length ≤ 4
  kd : ∀ k ∈ w.kinds, k.base ≤ 1000 ∧ k.factor ≤ 1000
  s7 : w.services.length = 7
  sv : ∀ d k, w.passes d k ≤ 10000
  sr : Rising w.supports
  s6 : w.supports.length ≤ 6
  sp : ∀ y ∈ w.supports, y.1 < w.places.length ∧ -400 ≤ y.2 ∧ y.2 ≤ 400

/-! ### what the top has written -/
structure Ad where
  CW : Addr
  CH : Addr
  CS : Addr
  fS : Addr
  tD : Addr
  tN : Addr
  tW : Addr
def deedNames : List Str := ["call_begin", "call_draw", "call_gap", "call_kind", "call_service", "call_pass", "call_days", "call_splice", "call_measured", "call_left", "call_day", "call_due", "call_week", "call_least", "call_when", "call_until", "call_pieces", "call_splices", "call_against", "call_support", "call_take", "call_offset", "call_touches", "call_strip", "call_even", "call_lay"]
def numbersI : List Int := [2, 3, 2, 2, 3, 2, 1, 3, 2, 1, 0, 2, 1, 0, 1, 2, 1, 2, 0, 2, 1, 1, 2, 3, 2, 0]
structure Txt (K : PySem.W.Frag) (mg : Str → Option Value) (A : Ad) : Prop where
  clW : Cls K A.CW
  nW_many : NoAttr K A.CW "many"
  nW_left : NoAttr K A.CW "left"
  nW_levels : NoAttr K A.CW "levels"
  nW_extras : NoAttr K A.CW "extras"
  nW_kinds : NoAttr K A.CW "kinds"
  nW_services : NoAttr K A.CW "services"
  nW_supports : NoAttr K A.CW "supports"
  nW_day : NoAttr K A.CW "day"
  clH : Cls K A.CH
  nH_wire : NoAttr K A.CH "wire"
  low : PySem.LowX.LowTxt K mg A.CS A.fS
  g_WEEK : ∃ t, mg "WEEK" = some (.int 7 t)
  g_NOT_SO : ∃ t, mg "NOT_SO" = some (.int (-1) t)
  g_NOT_BEGUN : ∃ t, mg "NOT_BEGUN" = some (.int (-2) t)
  g_NOT_THERE : ∃ t, mg "NOT_THERE" = some (.int (-4) t)
  g_NO_ROOM : ∃ t, mg "NO_ROOM" = some (.int (-6) t)
  g_AS_TOLD : ∃ t, mg "AS_TOLD" = some (.int (-7) t)
  g_MILLION : ∃ t, mg "MILLION" = some (.int 1000000 t)
  g_MOST_OFFSET : ∃ t, mg "MOST_OFFSET" = some (.int 400 t)
  g_MOST_SUPPORTS : ∃ t, mg "MOST_SUPPORTS" = some (.int 6 t)
  g_DEEDS : mg "DEEDS" = some (.ref A.tD)
  g_NUMBERS : mg "NUMBERS" = some (.ref A.tN)
  g_WITH_ROW : mg "WITH_ROW" = some (.ref A.tW)
  t_DEEDS : ∃ fs : List Addr, (∀ H, SqT K H A.tD (fs.map V.ref)) ∧ fs.map (fun f => some (Value.ref f)) = deedNames.map mg
  t_NUMBERS : ∀ H, SqT K H A.tN (numbersI.map V.int)
  t_WITH_ROW : ∀ H, SqT K H A.tW (([18, 24, 25] : List Int).map V.int)
  b_abs : mg "abs" = none
  b_len : mg "len" = none
  b_min : mg "min" = none
  b_max : mg "max" = none
  b_sum : mg "sum" = none
  b_sorted : mg "sorted" = none
  b_all : mg "all" = none
  b_list : mg "list" = none
  b_range : mg "range" = none
  b_enumerate : mg "enumerate" = none
  b_zip : mg "zip" = none

/-! ### the promises -/
def spDivisor : Sp := fun vs H Q _ => ∃ a b : Int, vs = [.int a, .int b] ∧ 0 < b ∧ Q (.int (Int.gcd a b : Int)) H
def spLowest : Sp := fun vs H Q _ => ∃ n w : Int, vs = [.int n, .int w] ∧ 0 < w ∧ w < 1000 ∧ NewT H [.int (lowestI n w).1, .int (lowestI n w).2] Q
def spBetween : Sp := fun vs H Q _ => ∃ (f g : Addr) (a p b q x : Int), vs = [.ref f, .ref g, .int x] ∧ H f = some (.tup [.int a, .int p]) ∧ H g = some (.tup [.int b, .int q]) ∧ a ≤ b ∧ b - a < 1000 ∧ -400 ≤ p ∧ p ≤ 400 ∧ -400 ≤ q ∧ q ≤ 400 ∧ NewT H [.int (betwI a p b q x).1, .int (betwI a p b q x).2] Q
def spCellOf : Sp := fun vs H Q _ => ∃ (f : Addr) (o : Int × Int) (h n : Nat), vs = [.ref f, .int (h : Int), .int (n : Int)] ∧ H f = some (.tup [.int o.1, .int o.2]) ∧ 0 < o.2 ∧ o.2 < 1000 ∧ 1 ≤ h ∧ h ≤ 1000 ∧ 1 ≤ n ∧ n ≤ 40 ∧ Q (.int (cellI o h n)) H
def spTouched (K : PySem.W.Frag) : Sp := fun vs H Q _ => ∃ (l : Addr) (cs : List (Option Nat)) (n : Nat), vs = [.ref l, .int (n : Int)] ∧ SqL K H l (cellsV cs) ∧ (∀ c, some c ∈ cs → c < n) ∧ 1 ≤ n ∧ n ≤ 40 ∧ cs.length ≤ 1000 ∧
  ∀ (H' : Hp) (p q : Addr), Same H H' → H p = none → H' p = some (.tup [.int (offs cs : Int), .ref q]) → H q = none → H' q = some (.lst (natsV (counts cs n))) → Q (.ref p) H'
def spSpans (K : PySem.W.Frag) : Sp := fun vs H Q _ => ∃ (l : Addr) (ps : List Nat) (m : Nat), vs = [.ref l, .int (m : Int)] ∧ SqL K H l (natsV ps) ∧ ps ≠ [] ∧ ps.length ≤ 6 ∧ m ≤ 60 ∧
  NewRows H ((List.range m).map fun x => [V.int (firstI ps x : Int), V.int (secondI ps x : Int)]) Q
def spChoices (K : PySem.W.Frag) : Sp := fun vs H Q _ => ∃ (l : Addr) (row : List Int) (k : Nat), vs = [.ref l, .int (k : Int)] ∧ SqL K H l (row.map V.int) ∧ row.length ≤ 4 ∧ k ≤ 6 ∧
  NewRows H ((choices row k).map fun c => c.map V.int) Q
/-- what even's choices are worth -/
def worths (sup : List (Nat × Int)) (m h n : Nat) (row : List Int) : List Val3 := (choices row sup.length).map fun o => (worthOf sup m h n o, o)
/-- the program's best so far, at b -/
def BestAt (H H' : Hp) (b : Addr) : Option Val3 → Prop
  | none => H' b = some (.tup [])
  | some y => H b = none ∧ ∃ q : Addr, H' b = some (.tup [.int (y.1.1 : Int), .int (y.1.2 : Int), .ref q]) ∧ H' q = some (.tup (y.2.map V.int))
theorem BestAt.keep {H H1 H2 : Hp} {b : Addr} {o : Option Val3} (h : BestAt H H1 b o) (k : ∀ a xs, H1 a = some (.tup xs) → H2 a = some (.tup xs)) : BestAt H H2 b o := by
  cases o with
  | none => exact k _ _ h
  | some y => obtain ⟨h1, q, h2, h3⟩ := h; exact ⟨h1, q, k _ _ h2, k _ _ h3⟩
theorem bestOf_some : ∀ {l : List Val3}, l ≠ [] → ∃ y, bestOf l = some y ∧ y ∈ l
  | [], h => absurd rfl h
  | x :: r, _ => by
    show ∃ y, (match bestOf r with
      | some y => if y.1.1 < x.1.1 ∨ (y.1.1 = x.1.1 ∧ y.1.2 < x.1.2) then some y else some x
      | none => some x) = some y ∧ y ∈ x :: r
    cases e : bestOf r with
    | none => exact ⟨x, rfl, List.mem_cons_self⟩
    | some z =>
      have hr : r ≠ [] := fun q => by rw [q] at e; cases e
      obtain ⟨y, h1, h2⟩ := bestOf_some hr
      rw [e] at h1
      cases h1
      show ∃ y, (if z.1.1 < x.1.1 ∨ (z.1.1 = x.1.1 ∧ z.1.2 < x.1.2) then some z else some x) = some y ∧ y ∈ x :: r
      split
      · exact ⟨z, rfl, List.mem_cons_of_mem _ h2⟩
      · exact ⟨x, rfl, List.mem_cons_self⟩
theorem fold_mem : ∀ (l : List Val3) (b : Option Val3) (y : Val3), l.foldl bestStep b = some y → b = some y ∨ y ∈ l
  | [], b, y, h => Or.inl h
  | x :: r, b, y, h => by
    rcases fold_mem r _ y h with h | h
    · cases b with
      | none => cases h; exact Or.inr List.mem_cons_self
      | some z =>
        have h : (if better x z then some x else some z) = some y := h
        split at h
        · cases h; exact Or.inr List.mem_cons_self
        · exact Or.inl h
    · exact Or.inr (List.mem_cons_of_mem _ h)
/-- the cell of a place, by the two offsets of the supports around it -/
def cval (ps : List Nat) (h n : Int) (x a b : Int) : Int := cellI (betwI (ps.getD (firstI ps x.toNat) 0) a (ps.getD (secondI ps x.toNat) 0) b x) h n
def KnownOk (ps : List Nat) (h n : Int) (kvs : List (List Key × V)) : Prop := ∀ x a b : Int, valV kvs [Sum.inl x, Sum.inl a, Sum.inl b] = none ∨ valV kvs [Sum.inl x, Sum.inl a, Sum.inl b] = some (.int (cval ps h n x a b))
theorem KnownOk.put {ps : List Nat} {h n : Int} {kvs : List (List Key × V)} (k : KnownOk ps h n kvs) (x a b : Int) : KnownOk ps h n (putK kvs [Sum.inl x, Sum.inl a, Sum.inl b] (.int (cval ps h n x a b))) := fun y c d => by
  rw [valV_put]
  by_cases e : [(Sum.inl y : Key), Sum.inl c, Sum.inl d] = [Sum.inl x, Sum.inl a, Sum.inl b]
  · rw [if_pos e]
    injection e with e1 e
    injection e with e2 e
    injection e with e3 _
    injection e1 with e1
    injection e2 with e2
    injection e3 with e3
    subst e1 e2 e3
    exact Or.inr rfl
  · rw [if_neg e]
    exact k y c d
theorem cval_is {sup : List (Nat × Int)} (hr : Rising sup) (hne : sup ≠ []) {c : List Int} (hc : c.length = sup.length) (x h n : Nat) (hh : 1 ≤ h) (hn : 1 ≤ n) :
    ∃ i j p1 p2 a b, firstI (sup.map (·.1)) x = i ∧ secondI (sup.map (·.1)) x = j ∧ (sup.map (·.1))[i]? = some p1 ∧ (sup.map (·.1))[j]? = some p2 ∧ c[i]? = some a ∧ c[j]? = some b ∧ p1 ≤ p2 ∧
      cval (sup.map (·.1)) h n x a b = optI (cellOf h n (offsetBy (laidBy sup c) x)) ∧ FracLow (betwI p1 a p2 b x) (offsetBy (laidBy sup c) x) ∧ cval (sup.map (·.1)) h n x a b = cellI (betwI p1 a p2 b x) h n := by
  have hl := laid_rising hr hc
  have hk := laid_keys sup c hc
  have hne2 : laidBy sup c ≠ [] := fun z => hne (by
    have := laid_length sup c hc
    rw [z] at this
    exact List.length_eq_zero_iff.mp this.symm)
  obtain ⟨y, z, h1, h2, h3, h4⟩ := span_is hl hne2 x
  rw [hk] at h1 h2
  have gt : ∀ {i : Nat} {y : Nat × Int}, (laidBy sup c)[i]? = some y → (sup.map (·.1))[i]? = some y.1 ∧ c[i]? = some y.2 := by
    intro i y e
    have hi := get_lt e
    rw [laid_length sup c hc] at hi
    obtain ⟨u, hu⟩ := get_some hi
    obtain ⟨o, ho⟩ := get_some (show i < c.length by omega)
    rw [laid_get hu ho] at e
    cases e
    have := get_map (f := fun (y : Nat × Int) => y.1) hu
    exact ⟨this, ho⟩
  obtain ⟨a1, a2⟩ := gt h1
  obtain ⟨b1, b2⟩ := gt h2
  have ec : cval (sup.map (·.1)) h n x y.2 z.2 = cellI (betwI y.1 y.2 z.1 z.2 x) h n := by
    unfold cval
    rw [Int.toNat_natCast, List.getD_eq_getElem?_getD, List.getD_eq_getElem?_getD, a1, b1]; rfl
  exact ⟨_, _, y.1, z.1, y.2, z.2, rfl, rfl, a1, b1, a2, b2, h3, ec.trans (cell_is h4.is hh hn), h4, ec⟩
theorem betwI_den {a b : Int} (p q x : Int) (h : a ≤ b) (h2 : b - a < 1000) : 0 < (betwI a p b q x).2 ∧ (betwI a p b q x).2 < 1000 := by
  unfold betwI
  by_cases c : a = b
  · rw [if_pos c]; show (0 : Int) < 1 ∧ (1 : Int) < 1000; decide
  · rw [if_neg c]
    generalize p * (b - a) + (q - p) * (x - a) = N
    have hw : 0 < b - a := by omega
    have g0 := Int.gcd_pos_of_ne_zero_right N (show b - a ≠ 0 by omega)
    have gd := Int.gcd_dvd_right N (b - a)
    show 0 < (b - a) / (Int.gcd N (b - a) : Int) ∧ (b - a) / (Int.gcd N (b - a) : Int) < 1000
    obtain ⟨k, hk⟩ := gd
    have gz : (Int.gcd N (b - a) : Int) ≠ 0 := by omega
    have e : (b - a) / (Int.gcd N (b - a) : Int) = k := Int.ediv_eq_of_eq_mul_right gz hk
    rw [e]
    have kp : 0 < k := by
      rcases Int.lt_or_le 0 k with z | z
      · exact z
      · exfalso
        have : (Int.gcd N (b - a) : Int) * k ≤ 0 := Int.mul_nonpos_of_nonneg_of_nonpos (by omega) z
        omega
    have kl : k ≤ (Int.gcd N (b - a) : Int) * k := by
      have : 1 * k ≤ (Int.gcd N (b - a) : Int) * k := Int.mul_le_mul_of_nonneg_right (by omega) (by omega)
      omega
    omega
theorem Only.same {S : List Addr} {H H' : Hp} (o : Only S H H') (h : ∀ b ∈ S, H b = none) : Same H H' := fun b u e => o b u e fun hb => by
  rw [h b hb] at e; cases e
def spEvenest (K : PySem.W.Frag) : Sp := fun vs H Q _ => ∃ (lp lr : Addr) (sup : List (Nat × Int)) (m h n : Nat) (row : List Int), vs = [.ref lp, .int (m : Int), .int (h : Int), .int (n : Int), .ref lr] ∧
  SqL K H lp (natsV (sup.map (·.1))) ∧ SqL K H lr (row.map V.int) ∧ Rising sup ∧ sup ≠ [] ∧ sup.length ≤ 6 ∧ (∀ y ∈ sup, y.1 < m) ∧ 2 ≤ m ∧ m ≤ 60 ∧ 1 ≤ h ∧ h ≤ 1000 ∧ 1 ≤ n ∧ n ≤ 40 ∧ row ≠ [] ∧ row.length ≤ 4 ∧ Up row ∧ (∀ o ∈ row, -400 ≤ o ∧ o ≤ 400) ∧
  ∀ (H' : Hp) (p q : Addr) (y : Val3), bestOf (worths sup m h n row) = some y → y.2.length = sup.length → Same H H' → H p = none → H' p = some (.tup [.int (y.1.1 : Int), .int (y.1.2 : Int), .ref q]) → H' q = some (.tup (y.2.map V.int)) → Q (.ref p) H'
section
variable (K : PySem.W.Frag) (A : Ad)
def spInitW : Sp := fun vs H Q _ => ∃ (a dx : Addr) (m d : Nat), vs = [.ref a, .int (m : Int), .int (d : Int)] ∧ 2 ≤ m ∧ m ≤ 60 ∧ H a = some (.ins A.CW dx []) ∧
  ∀ (H' : Hp) (L : Lay), L.a = a → WireAt A.CW L H' (laid m d) → (∀ b ∈ L.own, b ≠ a → H b = none) → Only [a] H H' → Q .non H'
def spDue : Sp := fun vs H Q _ => ∃ (L : Lay) (w : Wire) (k x : Nat) (kd : Kd) (p : Pl), vs = [.ref L.a, .int (k : Int), .int (x : Int)] ∧ WireAt A.CW L H w ∧ WireOk w ∧ w.kinds[k]? = some kd ∧ w.places[x]? = some p ∧ Q (.int (kd.takes p : Int)) H
/-- a place's left made less -/
def lessAt (w : Wire) (x : Nat) (p : Pl) (n : Nat) : Wire := { w with places := w.places.set x { p with left := p.left - n } }
def spTake : Sp := fun vs H Q _ => ∃ (L : Lay) (w : Wire) (x n : Nat) (p : Pl), vs = [.ref L.a, .int (x : Int), .int (n : Int)] ∧ WireAt A.CW L H w ∧ w.places[x]? = some p ∧
  ∀ H' : Hp, WireAt A.CW L H' (lessAt w x p n) → Only L.own H H' → Q .non H'
def spOnDay : Sp := fun vs H Q _ => ∃ (L : Lay) (w : Wire) (d x : Nat) (p : Pl), vs = [.ref L.a, .int (d : Int), .int (x : Int)] ∧ WireAt A.CW L H w ∧ WireOk w ∧ d ≤ 6 ∧ w.places[x]? = some p ∧
  ∀ H' : Hp, Same H H' → Q (.int (w.takesOn d p : Int)) H'
def spWeek : Sp := fun vs H Q _ => ∃ (L : Lay) (w : Wire) (x : Nat) (p : Pl), vs = [.ref L.a, .int (x : Int)] ∧ WireAt A.CW L H w ∧ WireOk w ∧ w.places[x]? = some p ∧
  ∀ H' : Hp, Same H H' → Q (.int (w.takesWeek p : Int)) H'
def spPassDays : Sp := fun vs H Q _ => ∃ (L : Lay) (w : Wire) (n : Nat), vs = [.ref L.a, .int (n : Int)] ∧ WireAt A.CW L H w ∧ WireOk w ∧ n ≤ 1000000000 ∧
  ∀ H' : Hp, WireAt A.CW L H' (w.days n) → Only L.own H H' → Q .non H'
def daysV : Option Nat → V
  | some n => .int (n : Int)
  | none => .int (-1)
def spUntil : Sp := fun vs H Q _ => ∃ (L : Lay) (w : Wire) (x b : Nat) (p : Pl), vs = [.ref L.a, .int (x : Int), .int (b : Int)] ∧ WireAt A.CW L H w ∧ WireOk w ∧ w.places[x]? = some p ∧
  ∀ H' : Hp, Same H H' → Q (daysV (w.until_ p b)) H'
def spWorn : Sp := fun vs H Q _ => ∃ (L : Lay) (w : Wire) (b : Nat), vs = [.ref L.a, .int (b : Int)] ∧ WireAt A.CW L H w ∧ WireOk w ∧ NewL H (natsV (w.worn b)) Q
def pairV (p : Nat × Nat) : List V := [.int (p.1 : Int), .int (p.2 : Int)]
def spPieces : Sp := fun vs H Q _ => ∃ (L : Lay) (w : Wire) (b : Nat), vs = [.ref L.a, .int (b : Int)] ∧ WireAt A.CW L H w ∧ WireOk w ∧ NewRows H ((pieces (w.worn b)).map pairV) Q
def spSplices : Sp := fun vs H Q _ => ∃ (L : Lay) (w : Wire) (b n : Nat), vs = [.ref L.a, .int (b : Int), .int (n : Int)] ∧ WireAt A.CW L H w ∧ WireOk w ∧ 1 ≤ n ∧ n ≤ 60 ∧ NewL H (natsV (splices n w.places.length (w.worn b))) Q
def spInitH : Sp := fun vs H Q _ => ∃ (a dx : Addr), vs = [.ref a] ∧ H a = some (.ins A.CH dx []) ∧ Q .non (upd H a (.ins A.CH dx [("wire", .non)]))
/-- Stop(z) leaves -/
def Leaves (H : Hp) (z : Int) (E : XK) : Prop := ∀ d : Addr, H d = none → E (.ref A.CS) (some d) (upd H d (.xd [("code", .int z)]))
def spCheck : Sp := fun vs H Q E => ∃ (b : Bool) (z : Int), vs = [.bl b, .int z] ∧ (b = true → Q .non H) ∧ (b = false → Leaves A H z E)
def spCheckPlace : Sp := fun vs H Q E => ∃ (L : Lay) (w : Wire) (x : Int), vs = [.ref L.a, .int x] ∧ WireAt A.CW L H w ∧ (x < (w.places.length : Int) → Q .non H) ∧ (¬ x < (w.places.length : Int) → Leaves A H (-4) E)
def spCheckPan : Sp := fun vs H Q E => ∃ (h n : Nat), vs = [.int (h : Int), .int (n : Int)] ∧ (WearSpec.pan h n = true → Q .non H) ∧ (WearSpec.pan h n = false → Leaves A H (-1) E)
def offsetRows (w : Wire) : List (List V) := (List.range w.places.length).map fun x => [V.int (offsetBy w.supports x).num, V.int ((offsetBy w.supports x).den : Int)]
def spOffsetsOf : Sp := fun vs H Q _ => ∃ (L : Lay) (w : Wire), vs = [.ref L.a] ∧ WireAt A.CW L H w ∧ WireOk w ∧ NewRows H (offsetRows w) Q
def spTouchesOf : Sp := fun vs H Q _ => ∃ (L : Lay) (w : Wire) (h n : Nat), vs = [.ref L.a, .int (h : Int), .int (n : Int)] ∧ WireAt A.CW L H w ∧ WireOk w ∧ 1 ≤ h ∧ h ≤ 1000 ∧ 1 ≤ n ∧ n ≤ 40 ∧
  ∀ (H' : Hp) (p q : Addr), Same H H' → H p = none → H' p = some (.tup [.int (offs (cellsBy w.supports w.places.length h n) : Int), .ref q]) → H q = none → H' q = some (.lst (natsV (counts (cellsBy w.supports w.places.length h n) n))) → Q (.ref p) H'
/-- which numbers and which row a call bears -/
inductive Shape : Nat → List Int → List Int → WearSpec.Call → Prop
  | draw (x y a : Nat) : Shape 1 [(x : Int), (y : Int), (a : Int)] [] (.draw x y a)
  | gap (x e : Nat) : Shape 2 [(x : Int), (e : Int)] [] (.gap x e)
  | kind (b f : Nat) : Shape 3 [(b : Int), (f : Int)] [] (.kind b f)
  | service (w k n : Nat) : Shape 4 [(w : Int), (k : Int), (n : Int)] [] (.service w k n)
  | pass (k n : Nat) : Shape 5 [(k : Int), (n : Int)] [] (.pass k n)
  | days (n : Nat) : Shape 6 [(n : Int)] [] (.days n)
  | splice (x y d : Nat) : Shape 7 [(x : Int), (y : Int), (d : Int)] [] (.splice x y d)
  | measured (x d : Nat) : Shape 8 [(x : Int), (d : Int)] [] (.measured x d)
  | left (x : Nat) : Shape 9 [(x : Int)] [] (.left x)
  | day : Shape 10 [] [] .day
  | due (k x : Nat) : Shape 11 [(k : Int), (x : Int)] [] (.due k x)
  | week (x : Nat) : Shape 12 [(x : Int)] [] (.week x)
  | least : Shape 13 [] [] .least
  | when_ (b : Nat) : Shape 14 [(b : Int)] [] (.when_ b)
  | until_ (x b : Nat) : Shape 15 [(x : Int), (b : Int)] [] (.until_ x b)
  | pieces (b : Nat) : Shape 16 [(b : Int)] [] (.pieces b)
  | splices (b n : Nat) : Shape 17 [(b : Int), (n : Int)] [] (.splices b n)
  | against (l : List Nat) (h : l.length ≤ 120) : Shape 18 [] (l.map fun (n : Nat) => (n : Int)) (.against l)
  | support (x : Nat) (o : Int) : Shape 19 [(x : Int), o] [] (.support x o)
  | take (x : Nat) : Shape 20 [(x : Int)] [] (.take x)
  | offset (x : Nat) : Shape 21 [(x : Int)] [] (.offset x)
  | touches (h n : Nat) : Shape 22 [(h : Int), (n : Int)] [] (.touches h n)
  | strip (h n d : Nat) : Shape 23 [(h : Int), (n : Int), (d : Int)] [] (.strip h n d)
  | even (h n : Nat) (l : List Int) (hl : l.length ≤ 8) : Shape 24 [(h : Int), (n : Int)] l (.even h n l)
  | lay (l : List Int) (hl : l.length ≤ 8) : Shape 25 [] l (.lay l)
/-- **a call on a wire**: what the specification's act answers is answered; what it refuses is raised -/
def spCall (i : Nat) : Sp := fun vs H Q E => ∃ (L : Lay) (w : Wire) (an ar : Addr) (nums row : List Int) (c : WearSpec.Call), vs = [.ref L.a, .ref an, .ref ar] ∧ WireAt A.CW L H w ∧ WireOk w ∧
  H an = some (.lst (nums.map V.int)) ∧ H ar = some (.lst (row.map V.int)) ∧ an ∉ L.own ∧ ar ∉ L.own ∧ Shape i nums row c ∧
  (∀ (H' : Hp) (p : Addr), WireAt A.CW L H' (WearSpec.act w c).1 → Only L.own H H' → H p = none → H' p = some (.lst ((WearNeutral.told (WearSpec.act w c).2).map V.int)) → Q (.ref p) H') ∧
  (∀ (H' : Hp) (d : Addr) (z : Int), WearSpec.act w c = (w, WearSpec.says z) → Same H H' → H d = none → H' d = some (.xd [("code", .int z)]) → E (.ref A.CS) (some d) H')
def spBegin : Sp := fun vs H Q _ => ∃ x y z : V, vs = [x, y, z] ∧ NewL H [.int 0] Q
end
end WW
namespace WW
open PySem PySem.Spec PyProof.Rows L2
open WM
open OwWear hiding Place Kind

/-! ### a wire's attributes -/
section
variable {K : PySem.W.Frag} {mg : Str → Option Value} {A : Ad} {L : Lay} {H H' : Hp} {w : Wire} {m d : Nat}
def wKeys : List Str := ["many", "left", "levels", "extras", "kinds", "services", "supports", "day"]
theorem wF_none {x : Str} (h : (wKeys.all fun k => !(x == k)) = true) : (wF L m d).lookup x = none := by
  have e : ∀ (l : List (Str × V)) (ks : List Str), l.map (·.1) = ks → (ks.all fun k => !(x == k)) = true → l.lookup x = none := by
    intro l
    induction l with
    | nil => intro _ _ _; rfl
    | cons p r ih =>
      intro ks hk ha
      subst hk
      rw [List.map_cons, List.all_cons, Bool.and_eq_true] at ha
      obtain ⟨k, v⟩ := p
      rw [lk_past (by simpa using ha.1)]
      exact ih _ rfl ha.2
  exact e _ wKeys rfl h
theorem wF_many : (wF L m d).lookup ("many" : Str) = some (.int (m : Int)) := lk_here
theorem wF_left : (wF L m d).lookup ("left" : Str) = some (.ref L.al) := (lk_past (by decide +kernel)).trans lk_here
theorem wF_levels : (wF L m d).lookup ("levels" : Str) = some (.ref L.av) := (lk_past (by decide +kernel)).trans ((lk_past (by decide +kernel)).trans lk_here)
theorem wF_extras : (wF L m d).lookup ("extras" : Str) = some (.ref L.ax) := (lk_past (by decide +kernel)).trans ((lk_past (by decide +kernel)).trans ((lk_past (by decide +kernel)).trans lk_here))
theorem wF_kinds : (wF L m d).lookup ("kinds" : Str) = some (.ref L.ak) := (lk_past (by decide +kernel)).trans ((lk_past (by decide +kernel)).trans ((lk_past (by decide +kernel)).trans ((lk_past (by decide +kernel)).trans lk_here)))
theorem wF_services : (wF L m d).lookup ("services" : Str) = some (.ref L.sv) := (lk_past (by decide +kernel)).trans ((lk_past (by decide +kernel)).trans ((lk_past (by decide +kernel)).trans ((lk_past (by decide +kernel)).trans ((lk_past (by decide +kernel)).trans lk_here))))
theorem wF_supports : (wF L m d).lookup ("supports" : Str) = some (.ref L.su) := (lk_past (by decide +kernel)).trans ((lk_past (by decide +kernel)).trans ((lk_past (by decide +kernel)).trans ((lk_past (by decide +kernel)).trans ((lk_past (by decide +kernel)).trans ((lk_past (by decide +kernel)).trans lk_here)))))
theorem wF_day : (wF L m d).lookup ("day" : Str) = some (.int (d : Int)) := (lk_past (by decide +kernel)).trans ((lk_past (by decide +kernel)).trans ((lk_past (by decide +kernel)).trans ((lk_past (by decide +kernel)).trans ((lk_past (by decide +kernel)).trans ((lk_past (by decide +kernel)).trans ((lk_past (by decide +kernel)).trans lk_here))))))
theorem wF_putday (e : Nat) : putF "day" (.int (e : Int)) (wF L m d) = wF L m e := by
  unfold wF
  rw [put_past (by decide +kernel), put_past (by decide +kernel), put_past (by decide +kernel), put_past (by decide +kernel), put_past (by decide +kernel), put_past (by decide +kernel), put_past (by decide +kernel), put_here]
theorem fl_of {f : Str} {v : V} {R : V → Prop} (T : Txt K mg A) (W : WireAt A.CW L H w) (n : NoAttr K A.CW f) (l : (wF L w.places.length w.day).lookup f = some v) (q : R v) :
    ∃ a C dx fs v, V.ref L.a = .ref a ∧ H a = some (.ins C dx fs) ∧ Cls K C ∧ NoAttr K C f ∧ fs.lookup f = some v ∧ R v := ⟨L.a, A.CW, L.dx, _, v, rfl, W.ob, T.clW, n, l, q⟩
theorem fl_many {R : V → Prop} (T : Txt K mg A) (W : WireAt A.CW L H w) (q : R (.int (w.places.length : Int))) : ∃ a C dx fs v, V.ref L.a = .ref a ∧ H a = some (.ins C dx fs) ∧ Cls K C ∧ NoAttr K C "many" ∧ fs.lookup ("many" : Str) = some v ∧ R v := fl_of T W T.nW_many wF_many q
theorem fl_left {R : V → Prop} (T : Txt K mg A) (W : WireAt A.CW L H w) (q : R (.ref L.al)) : ∃ a C dx fs v, V.ref L.a = .ref a ∧ H a = some (.ins C dx fs) ∧ Cls K C ∧ NoAttr K C "left" ∧ fs.lookup ("left" : Str) = some v ∧ R v := fl_of T W T.nW_left wF_left q
theorem fl_levels {R : V → Prop} (T : Txt K mg A) (W : WireAt A.CW L H w) (q : R (.ref L.av)) : ∃ a C dx fs v, V.ref L.a = .ref a ∧ H a = some (.ins C dx fs) ∧ Cls K C ∧ NoAttr K C "levels" ∧ fs.lookup ("levels" : Str) = some v ∧ R v := fl_of T W T.nW_levels wF_levels q
theorem fl_extras {R : V → Prop} (T : Txt K mg A) (W : WireAt A.CW L H w) (q : R (.ref L.ax)) : ∃ a C dx fs v, V.ref L.a = .ref a ∧ H a = some (.ins C dx fs) ∧ Cls K C ∧ NoAttr K C "extras" ∧ fs.lookup ("extras" : Str) = some v ∧ R v := fl_of T W T.nW_extras wF_extras q
theorem fl_kinds {R : V → Prop} (T : Txt K mg A) (W : WireAt A.CW L H w) (q : R (.ref L.ak)) : ∃ a C dx fs v, V.ref L.a = .ref a ∧ H a = some (.ins C dx fs) ∧ Cls K C ∧ NoAttr K C "kinds" ∧ fs.lookup ("kinds" : Str) = some v ∧ R v := fl_of T W T.nW_kinds wF_kinds q
theorem fl_services {R : V → Prop} (T : Txt K mg A) (W : WireAt A.CW L H w) (q : R (.ref L.sv)) : ∃ a C dx fs v, V.ref L.a = .ref a ∧ H a = some (.ins C dx fs) ∧ Cls K C ∧ NoAttr K C "services" ∧ fs.lookup ("services" : Str) = some v ∧ R v := fl_of T W T.nW_services wF_services q
theorem fl_supports {R : V → Prop} (T : Txt K mg A) (W : WireAt A.CW L H w) (q : R (.ref L.su)) : ∃ a C dx fs v, V.ref L.a = .ref a ∧ H a = some (.ins C dx fs) ∧ Cls K C ∧ NoAttr K C "supports" ∧ fs.lookup ("supports" : Str) = some v ∧ R v := fl_of T W T.nW_supports wF_supports q
theorem fl_day {R : V → Prop} (T : Txt K mg A) (W : WireAt A.CW L H w) (q : R (.int (w.day : Int))) : ∃ a C dx fs v, V.ref L.a = .ref a ∧ H a = some (.ins C dx fs) ∧ Cls K C ∧ NoAttr K C "day" ∧ fs.lookup ("day" : Str) = some v ∧ R v := fl_of T W T.nW_day wF_day q
theorem me_of {x : Str} {R : Prop} (W : WireAt A.CW L H w) (h : (wKeys.all fun k => !(x == k)) = true) (q : R) : ∃ a dx fs, V.ref L.a = .ref a ∧ H a = some (.ins A.CW dx fs) ∧ fs.lookup x = none ∧ R := ⟨L.a, L.dx, _, rfl, W.ob, wF_none h, q⟩

/-! ### a wire where the heap has changed -/
theorem WireAt.same {C : Addr} (s : Same H H') (W : WireAt C L H w) : WireAt C L H' w := by
  obtain ⟨ts, k1, k2⟩ := W.kin
  obtain ⟨k3, s1, s2⟩ := W.ser
  obtain ⟨k4, u1, u2⟩ := W.sup
  exact ⟨s _ _ W.ob, s _ _ W.left, s _ _ W.lev, s _ _ W.ext, ⟨ts, s _ _ k1, AllT.same s k2⟩, ⟨k3, s _ _ s1, s2⟩, ⟨k4, s _ _ u1, u2⟩, W.nd⟩
theorem own_a : L.a ∈ L.own := by simp [Lay.own]
theorem own_al : L.al ∈ L.own := by simp [Lay.own]
theorem own_av : L.av ∈ L.own := by simp [Lay.own]
theorem own_ax : L.ax ∈ L.own := by simp [Lay.own]
theorem own_ak : L.ak ∈ L.own := by simp [Lay.own]
theorem own_sv : L.sv ∈ L.own := by simp [Lay.own]
theorem own_su : L.su ∈ L.own := by simp [Lay.own]
/-- what stands elsewhere stands -/
theorem up_ne {p b : Addr} {o u : HO} (h : H p = some o) (n : p ≠ b) : upd H b u p = some o := by rw [upd_ne n]; exact h
theorem up_other {p b : Addr} {o o' u : HO} (h : H p = some o) (hb : H b = some o') (n : o ≠ o') : upd H b u p = some o := up_ne h (ne_of h hb n)
theorem set_same {α β : Type} {l : List α} {i : Nat} {p q : α} {f : α → β} (h : l[i]? = some p) (e : f q = f p) : (l.set i q).map f = l.map f := map_set_same h e
theorem leftsV_same {l : List Pl} {x : Nat} {p q : Pl} (h : l[x]? = some p) (e : q.left = p.left) : leftsV (l.set x q) = leftsV l := map_set_same (f := fun p : Pl => V.int (p.left : Int)) h (by simp only [e])
theorem levelsV_same {l : List Pl} {x : Nat} {p q : Pl} (h : l[x]? = some p) (e : q.level = p.level) : levelsV (l.set x q) = levelsV l := map_set_same (f := fun p : Pl => V.int (p.level : Int)) h (by simp only [e])
theorem extrasV_same {l : List Pl} {x : Nat} {p q : Pl} (h : l[x]? = some p) (e : q.extra = p.extra) : extrasV (l.set x q) = extrasV l := map_set_same (f := fun p : Pl => V.int (p.extra : Int)) h (by simp only [e])
theorem WireAt.setLeft {C : Addr} (W : WireAt C L H w) {x v : Nat} {p : Pl} (hp : w.places[x]? = some p) :
    WireAt C L (upd H L.al (.lst ((leftsV w.places).set x (.int (v : Int))))) { w with places := w.places.set x { p with left := v } } := by
  obtain ⟨ts, k1, k2⟩ := W.kin
  obtain ⟨k3, s1, s2⟩ := W.ser
  obtain ⟨k4, u1, u2⟩ := W.sup
  obtain ⟨n1, n2, n3, n4, n5, n6⟩ := W.nd
  refine ⟨?_, ?_, ?_, ?_, ⟨ts, up_ne k1 n3.symm, k2.keep fun b xs e => up_other e W.left (by intro z; cases z)⟩, ⟨k3, up_other s1 W.left (by intro z; cases z), s2.1, s2.2, s2.3⟩, ⟨k4, up_other u1 W.left (by intro z; cases z), u2⟩, W.nd⟩
  · show _ = some (HO.ins C L.dx (wF L (w.places.set x { p with left := v }).length w.day))
    rw [List.length_set]
    exact up_other W.ob W.left (by intro z; cases z)
  · rw [upd_same]
    show _ = some (HO.lst (leftsV (w.places.set x { p with left := v })))
    unfold leftsV
    rw [List.map_set]
  · show _ = some (HO.lst (levelsV (w.places.set x { p with left := v })))
    rw [show levelsV (w.places.set x { p with left := v }) = levelsV w.places from levelsV_same hp rfl]
    exact up_ne W.lev n1.symm
  · show _ = some (HO.lst (extrasV (w.places.set x { p with left := v })))
    rw [show extrasV (w.places.set x { p with left := v }) = extrasV w.places from extrasV_same hp rfl]
    exact up_ne W.ext n2.symm
theorem WireAt.setLevel {C : Addr} (W : WireAt C L H w) {x v : Nat} {p : Pl} (hp : w.places[x]? = some p) :
    WireAt C L (upd H L.av (.lst ((levelsV w.places).set x (.int (v : Int))))) { w with places := w.places.set x { p with level := v } } := by
  obtain ⟨ts, k1, k2⟩ := W.kin
  obtain ⟨k3, s1, s2⟩ := W.ser
  obtain ⟨k4, u1, u2⟩ := W.sup
  obtain ⟨n1, n2, n3, n4, n5, n6⟩ := W.nd
  refine ⟨?_, ?_, ?_, ?_, ⟨ts, up_ne k1 n5.symm, k2.keep fun b xs e => up_other e W.lev (by intro z; cases z)⟩, ⟨k3, up_other s1 W.lev (by intro z; cases z), s2.1, s2.2, s2.3⟩, ⟨k4, up_other u1 W.lev (by intro z; cases z), u2⟩, W.nd⟩
  · show _ = some (HO.ins C L.dx (wF L (w.places.set x { p with level := v }).length w.day))
    rw [List.length_set]
    exact up_other W.ob W.lev (by intro z; cases z)
  · show _ = some (HO.lst (leftsV (w.places.set x { p with level := v })))
    rw [show leftsV (w.places.set x { p with level := v }) = leftsV w.places from leftsV_same hp rfl]
    exact up_ne W.left n1
  · rw [upd_same]
    show _ = some (HO.lst (levelsV (w.places.set x { p with level := v })))
    unfold levelsV
    rw [List.map_set]
  · show _ = some (HO.lst (extrasV (w.places.set x { p with level := v })))
    rw [show extrasV (w.places.set x { p with level := v }) = extrasV w.places from extrasV_same hp rfl]
    exact up_ne W.ext n4.symm
theorem WireAt.setExtra {C : Addr} (W : WireAt C L H w) {x v : Nat} {p : Pl} (hp : w.places[x]? = some p) :
    WireAt C L (upd H L.ax (.lst ((extrasV w.places).set x (.int (v : Int))))) { w with places := w.places.set x { p with extra := v } } := by
  obtain ⟨ts, k1, k2⟩ := W.kin
  obtain ⟨k3, s1, s2⟩ := W.ser
  obtain ⟨k4, u1, u2⟩ := W.sup
  obtain ⟨n1, n2, n3, n4, n5, n6⟩ := W.nd
  refine ⟨?_, ?_, ?_, ?_, ⟨ts, up_ne k1 n6.symm, k2.keep fun b xs e => up_other e W.ext (by intro z; cases z)⟩, ⟨k3, up_other s1 W.ext (by intro z; cases z), s2.1, s2.2, s2.3⟩, ⟨k4, up_other u1 W.ext (by intro z; cases z), u2⟩, W.nd⟩
  · show _ = some (HO.ins C L.dx (wF L (w.places.set x { p with extra := v }).length w.day))
    rw [List.length_set]
    exact up_other W.ob W.ext (by intro z; cases z)
  · show _ = some (HO.lst (leftsV (w.places.set x { p with extra := v })))
    rw [show leftsV (w.places.set x { p with extra := v }) = leftsV w.places from leftsV_same hp rfl]
    exact up_ne W.left n2
  · show _ = some (HO.lst (levelsV (w.places.set x { p with extra := v })))
    rw [show levelsV (w.places.set x { p with extra := v }) = levelsV w.places from levelsV_same hp rfl]
    exact up_ne W.lev n4
  · rw [upd_same]
    show _ = some (HO.lst (extrasV (w.places.set x { p with extra := v })))
    unfold extrasV
    rw [List.map_set]
theorem WireAt.setDay {C : Addr} (W : WireAt C L H w) (e : Nat) : WireAt C L (upd H L.a (.ins C L.dx (putF "day" (.int (e : Int)) (wF L w.places.length w.day)))) { w with day := e } := by
  obtain ⟨ts, k1, k2⟩ := W.kin
  obtain ⟨k3, s1, s2⟩ := W.ser
  obtain ⟨k4, u1, u2⟩ := W.sup
  refine ⟨?_, up_other W.left W.ob (by intro z; cases z), up_other W.lev W.ob (by intro z; cases z), up_other W.ext W.ob (by intro z; cases z), ⟨ts, up_other k1 W.ob (by intro z; cases z), k2.keep fun b xs e => up_other e W.ob (by intro z; cases z)⟩, ⟨k3, up_other s1 W.ob (by intro z; cases z), s2.1, s2.2, s2.3⟩, ⟨k4, up_other u1 W.ob (by intro z; cases z), u2⟩, W.nd⟩
  rw [upd_same, wF_putday]
theorem WireAt.setSup {C : Addr} (W : WireAt C L H w) {kvs : List (Key × V)} {l : List (Nat × Int)} (k : SupOk kvs l) : WireAt C L (upd H L.su (.dK kvs)) { w with supports := l } := by
  obtain ⟨ts, k1, k2⟩ := W.kin
  obtain ⟨k3, s1, s2⟩ := W.ser
  obtain ⟨k4, u1, u2⟩ := W.sup
  exact ⟨up_other W.ob u1 (by intro z; cases z), up_other W.left u1 (by intro z; cases z), up_other W.lev u1 (by intro z; cases z), up_other W.ext u1 (by intro z; cases z), ⟨ts, up_other k1 u1 (by intro z; cases z), k2.keep fun b xs e => up_other e u1 (by intro z; cases z)⟩, ⟨k3, up_other s1 u1 (by intro z; cases z), s2.1, s2.2, s2.3⟩, ⟨kvs, upd_same, k⟩, W.nd⟩
theorem WireAt.setSer {C : Addr} (W : WireAt C L H w) {kvs : List (List Key × V)} {l : List (List Nat)} (k : SerOk kvs { w with services := l }) : WireAt C L (upd H L.sv (.dT kvs)) { w with services := l } := by
  obtain ⟨ts, k1, k2⟩ := W.kin
  obtain ⟨k3, s1, s2⟩ := W.ser
  obtain ⟨k4, u1, u2⟩ := W.sup
  exact ⟨up_other W.ob s1 (by intro z; cases z), up_other W.left s1 (by intro z; cases z), up_other W.lev s1 (by intro z; cases z), up_other W.ext s1 (by intro z; cases z), ⟨ts, up_other k1 s1 (by intro z; cases z), k2.keep fun b xs e => up_other e s1 (by intro z; cases z)⟩, ⟨kvs, upd_same, k⟩, ⟨k4, up_other u1 s1 (by intro z; cases z), u2⟩, W.nd⟩
theorem WireAt.addKind {C : Addr} (W : WireAt C L H w) {ts : List Addr} {t : Addr} {kd : Kd} (k1 : H L.ak = some (.lst (ts.map V.ref))) (k2 : AllT H ts (kindsV w.kinds)) (ht : H t = some (.tup [.int (kd.base : Int), .int (kd.factor : Int)])) :
    WireAt C L (upd H L.ak (.lst (ts.map V.ref ++ [V.ref t]))) { w with kinds := w.kinds ++ [kd] } := by
  obtain ⟨k3, s1, s2⟩ := W.ser
  obtain ⟨k4, u1, u2⟩ := W.sup
  obtain ⟨n1, n2, n3, n4, n5, n6⟩ := W.nd
  refine ⟨up_other W.ob k1 (by intro z; cases z), up_ne W.left n3, up_ne W.lev n5, up_ne W.ext n6, ⟨ts ++ [t], ?_, ?_⟩, ⟨k3, up_other s1 k1 (by intro z; cases z), s2.1, s2.2, s2.3⟩, ⟨k4, up_other u1 k1 (by intro z; cases z), u2⟩, W.nd⟩
  · rw [upd_same, List.map_append]; rfl
  · show AllT _ (ts ++ [t]) (kindsV (w.kinds ++ [kd]))
    unfold kindsV
    rw [List.map_append]
    exact AllT.snoc (k2.keep fun b xs e => up_other e k1 (by intro z; cases z)) (up_other ht k1 (by intro z; cases z))
end
theorem laid_passes (m n d k : Nat) : (laid m n).passes d k = 0 := by
  show ((List.replicate 7 ([] : List Nat)).getD d []).getD k 0 = 0
  have e : (List.replicate 7 ([] : List Nat)).getD d [] = [] := by
    rw [List.getD_eq_getElem?_getD, List.getElem?_replicate]
    split <;> rfl
  rw [e]; rfl
/-! ### bounds -/
section
variable {w : Wire}
theorem takes_le (O : WireOk w) {kd : Kd} {p : Pl} (hk : kd ∈ w.kinds) (hp : p ∈ w.places) : kd.takes p ≤ 111000 := by
  have h1 := O.kd kd hk
  have h2 := O.pl p hp
  unfold OwWear.Kind.takes
  have : kd.factor * p.level ≤ 1000 * 100 := Nat.mul_le_mul h1.2 h2.2.1
  omega
theorem onPart_le (O : WireOk w) {p : Pl} (hp : p ∈ w.places) (d : Nat) (M : Nat) (hM : 10000 * 111000 ≤ M) : ∀ i, i ≤ w.kinds.length → onPart w d p i ≤ i * M
  | 0, _ => by rw [onPart_zero]; exact Nat.zero_le _
  | i + 1, h => by
    obtain ⟨kd, hk⟩ := get_some (show i < w.kinds.length by omega)
    have ih := onPart_le O hp d M hM i (by omega)
    rw [onPart_succ w d p hk]
    have h1 := takes_le O (List.mem_of_getElem? hk) hp
    have h2 := O.sv d i
    have h3 : w.passes d i * kd.takes p ≤ 10000 * 111000 := Nat.mul_le_mul h2 h1
    rw [Nat.add_mul, Nat.one_mul]
    exact Nat.add_le_add ih (Nat.le_trans h3 hM)
theorem takesOn_le (O : WireOk w) {p : Pl} (hp : p ∈ w.places) (d : Nat) : w.takesOn d p ≤ 4440000000 := by
  have h1 := onPart_le O hp d 1110000000 (by decide) _ (Nat.le_refl _)
  rw [onPart_all] at h1
  have h4 := O.k4
  omega
theorem restOf_le (O : WireOk w) {p : Pl} (hp : p ∈ w.places) (f M : Nat) (hM : 4440000000 ≤ M) : ∀ k, restOf w f p k ≤ k * M
  | 0 => by rw [restOf_zero]; exact Nat.zero_le _
  | k + 1 => by
    have ih := restOf_le O hp f M hM k
    rw [restOf_succ, Nat.add_mul, Nat.one_mul]
    exact Nat.add_le_add ih (Nat.le_trans (takesOn_le O hp ((f + k) % 7)) hM)
theorem takesWeek_le (O : WireOk w) {p : Pl} (hp : p ∈ w.places) : w.takesWeek p ≤ 31080000000 := by
  have := restOf_le O hp 0 4440000000 (by decide) 7
  rw [restOf_seven w (by decide)] at this
  omega
end
/-! ### passes, place by place -/
/-- at the first i places so much less is left -/
def partPass (w : Wire) (g : Pl → Nat) (i : Nat) : Wire := { w with places := amongN w.places 0 i fun p => { p with left := p.left - g p } }
section
variable {w : Wire} {g : Pl → Nat} {i : Nat}
theorem partPass_length : (partPass w g i).places.length = w.places.length := by
  show (amongN w.places 0 i fun p => { p with left := p.left - g p }).length = _
  exact amongN_length _ _ _ _
theorem partPass_zero : partPass w g 0 = w := by
  unfold partPass
  rw [amongN_nil _ _ (Nat.le_refl _)]
theorem partPass_at {p : Pl} (hp : w.places[i]? = some p) : (partPass w g i).places[i]? = some p := by
  show (amongN w.places 0 i fun p => { p with left := p.left - g p })[i]? = _
  exact amongN_at _ _ hp
theorem partPass_succ {p : Pl} (hp : w.places[i]? = some p) : lessAt (partPass w g i) i p (g p) = partPass w g (i + 1) := by
  unfold lessAt partPass
  rw [amongN_succ _ _ (Nat.zero_le _) hp]
theorem partPass_all : partPass w g w.places.length = { w with places := w.places.map fun p => { p with left := p.left - g p } } := by
  unfold partPass
  rw [amongN_all]
theorem partPass_ok (O : WireOk w) : WireOk (partPass w g i) := by
  refine ⟨by rw [partPass_length]; exact O.m2, by rw [partPass_length]; exact O.m60, fun r hr => ?_, O.k4, O.kd, O.s7, O.sv, O.sr, O.s6, fun y hy => by rw [partPass_length]; exact O.sp y hy⟩
  obtain ⟨j, hj⟩ := List.getElem?_of_mem hr
  have hj : (amongN w.places 0 i fun p => { p with left := p.left - g p })[j]? = some r := hj
  rw [amongN_get] at hj
  cases e : w.places[j]? with
  | none => rw [e] at hj; cases hj
  | some r0 =>
    rw [e] at hj
    have b0 := O.pl r0 (List.mem_of_getElem? e)
    have hj := Option.some.inj hj
    rw [← hj]
    split
    · exact ⟨Nat.le_trans (Nat.sub_le _ _) b0.1, b0.2⟩
    · exact b0
end
end WW
namespace WW
open PySem PySem.Spec PyProof.Rows L2
open WM
open OwWear hiding Place Kind
/-! ### dicts' keys -/
theorem mem_put {κ : Type} [DecidableEq κ] {kvs : List (κ × V)} {k key : κ} {v : V} (h : key ∈ (putK kvs k v).map (·.1)) : key = k ∨ key ∈ kvs.map (·.1) := by
  by_cases c : key = k
  · exact Or.inl c
  · right
    cases e : valV kvs key with
    | some u => exact valV_in e
    | none =>
      exfalso
      have e2 : valV (putK kvs k v) key = none := by rw [valV_put, if_neg c, e]
      exact valV_not e2 h
theorem nodup_put {κ : Type} [DecidableEq κ] {kvs : List (κ × V)} {k : κ} {v : V} (h : (kvs.map (·.1)).Nodup) : ((putK kvs k v).map (·.1)).Nodup := by
  cases e : valV kvs k with
  | none => exact nd_putK v h e
  | some u =>
    have hk : (putK kvs k v).map (·.1) = kvs.map (·.1) := by
      unfold putK
      rw [valV_any, e]
      simp only [Option.isSome_some, if_true, List.map_map]
      refine List.map_congr_left fun p _ => ?_
      simp only [Function.comp]
      split <;> rfl
    rw [hk]; exact h
theorem nodup_le {α : Type} [DecidableEq α] : ∀ {l m : List α}, l.Nodup → (∀ x ∈ l, x ∈ m) → l.length ≤ m.length
  | [], _, _, _ => Nat.zero_le _
  | a :: l, m, hn, hm => by
    obtain ⟨h1, h2⟩ := List.nodup_cons.mp hn
    have ha := hm a List.mem_cons_self
    have ih := nodup_le (l := l) (m := m.erase a) h2 fun x hx => (List.mem_erase_of_ne (fun z => h1 (by rw [← z]; exact hx))).mpr (hm x (List.mem_cons_of_mem _ hx))
    rw [List.length_erase_of_mem ha] at ih
    have := List.length_pos_of_mem ha
    rw [List.length_cons]; omega
def allKeys : List (List Key) := (List.range 7).flatMap fun (d : Nat) => (List.range 4).map fun (k : Nat) => [Sum.inl (d : Int), Sum.inl (k : Int)]
theorem nodup_few {l : List (List Key)} (hn : l.Nodup) (h : ∀ key ∈ l, ∃ d k : Nat, d ≤ 6 ∧ k < 4 ∧ key = [Sum.inl (d : Int), Sum.inl (k : Int)]) : l.length ≤ 28 := by
  have : l.length ≤ allKeys.length := nodup_le hn fun key hk => by
    obtain ⟨d, k, hd, hk4, rfl⟩ := h key hk
    exact List.mem_flatMap.mpr ⟨d, List.mem_range.mpr (by omega), List.mem_map.mpr ⟨k, List.mem_range.mpr hk4, rfl⟩⟩
  have e : allKeys.length = 28 := by decide
  omega
section
variable {K : PySem.W.Frag} {mg : Str → Option Value} {A : Ad} {L : Lay} {H H' : Hp} {w : Wire}
theorem r_check {b : Bool} {z : Int} {Q : VK} {E : XK} (h1 : b = true → Q .non H) (h2 : b = false → Leaves A H z E) : spCheck A ([V.bl b, V.int z] ++ []) H Q E := ⟨b, z, rfl, h1, h2⟩
theorem r_place {x : Int} {Q : VK} {E : XK} (W : WireAt A.CW L H w) (h1 : x < (w.places.length : Int) → Q .non H) (h2 : ¬ x < (w.places.length : Int) → Leaves A H (-4) E) : spCheckPlace A ([V.ref L.a, V.int x] ++ []) H Q E := ⟨L, w, x, rfl, W, h1, h2⟩
theorem leaves_of {c : WearSpec.Call} {E : XK} {z : Int} (e : ∀ (H' : Hp) (d : Addr) (z : Int), WearSpec.act w c = (w, WearSpec.says z) → Same H H' → H d = none → H' d = some (.xd [("code", .int z)]) → E (.ref A.CS) (some d) H') (s : Same H H') (ha : WearSpec.act w c = (w, WearSpec.says z)) : Leaves A H' z E :=
  fun d hd => e _ d z ha (Same.mut s (s.free hd)) (s.free hd) upd_same
theorem own_free {C p : Addr} {w' : Wire} (W : WireAt C L H' w') (o : Only L.own H H') (hp : H' p = none) : H p = none := by
  cases e3 : H p with
  | none => rfl
  | some u =>
    by_cases hin : p ∈ L.own
    · have : ∃ o, H' p = some o := by
        simp only [Lay.own, List.mem_cons, List.not_mem_nil, or_false] at hin
        obtain ⟨_, k1, _⟩ := W.kin
        obtain ⟨_, k2, _⟩ := W.ser
        obtain ⟨_, k3, _⟩ := W.sup
        rcases hin with rfl | rfl | rfl | rfl | rfl | rfl | rfl
        · exact ⟨_, W.ob⟩
        · exact ⟨_, W.left⟩
        · exact ⟨_, W.lev⟩
        · exact ⟨_, W.ext⟩
        · exact ⟨_, k1⟩
        · exact ⟨_, k2⟩
        · exact ⟨_, k3⟩
      obtain ⟨o2, h2⟩ := this
      rw [hp] at h2; cases h2
    · rw [o _ _ e3 hin] at hp; cases hp
/-- a call that has changed the wire hands back a new list -/
theorem ok_new {c : WearSpec.Call} {Q : VK} {xs : List Int} {w' : Wire}
    (k : ∀ (H' : Hp) (p : Addr), WireAt A.CW L H' (WearSpec.act w c).1 → Only L.own H H' → H p = none → H' p = some (.lst ((WearNeutral.told (WearSpec.act w c).2).map V.int)) → Q (.ref p) H')
    (a : WearSpec.act w c = (w', ⟨xs.headD 0, xs.tail⟩)) (hx : xs ≠ []) (W : WireAt A.CW L H' w') (o : Only L.own H H') (hl : (xs.map V.int).length ≤ 100000) : (xs.map V.int).length ≤ sizeLine ∧ ∀ p, H' p = none → Q (.ref p) (upd H' p (.lst (xs.map V.int))) := by
  refine ⟨sl60 hl, fun p hp => ?_⟩
  have hpH := own_free W o hp
  have e : WearNeutral.told ⟨xs.headD 0, xs.tail⟩ = xs := by
    cases xs with
    | nil => exact absurd rfl hx
    | cons x r => rfl
  refine k _ p ?_ (Only.new o hpH) hpH ?_
  · rw [a]; exact W.same (Same.new hp)
  · rw [a]
    show upd H' p _ p = some (.lst ((WearNeutral.told ⟨xs.headD 0, xs.tail⟩).map V.int))
    rw [e]; exact upd_same
theorem nums_at {ns : List Int} {i : Nat} {z : Int} (h : ns[i]? = some z) : atI (ns.map V.int) (i : Int) = some (.int z) := atI_nat (get_map h)
theorem at0 {x : V} {r : List V} : atI (x :: r) 0 = some x := at_of (j := 0) rfl rfl
theorem at1 {x y : V} {r : List V} : atI (x :: y :: r) 1 = some y := at_of (j := 1) rfl rfl
/-- a new list is handed back -/
theorem new_list {xs : List V} {Q : VK} (h : ∀ p, H p = none → Q (.ref p) (upd H p (.lst xs))) (hl : xs.length ≤ 100000) : xs.length ≤ sizeLine ∧ ∀ p, H p = none → Q (.ref p) (upd H p (.lst xs)) := ⟨sl60 hl, h⟩
/-- what a call that changes nothing hands back -/
theorem ok_same {c : WearSpec.Call} {Q : VK} {xs : List Int} {L : Lay}
    (k : ∀ (H' : Hp) (p : Addr), WireAt A.CW L H' (WearSpec.act w c).1 → Only L.own H H' → H p = none → H' p = some (.lst ((WearNeutral.told (WearSpec.act w c).2).map V.int)) → Q (.ref p) H')
    (W : WireAt A.CW L H w) (s : Same H H') (a1 : (WearSpec.act w c).1 = w) (a2 : WearNeutral.told (WearSpec.act w c).2 = xs) {p : Addr} (hp : H p = none) (h : H' p = some (.lst (xs.map V.int))) : Q (.ref p) H' :=
  k H' p (by rw [a1]; exact W.same s) (Same.only s) hp (by rw [a2]; exact h)
end
end WW
namespace WW
open PySem PySem.Spec PyProof.Rows L2
open WM
open OwWear hiding Place Kind
theorem days_cases (o : Option Nat) : ∃ z : Int, daysV o = .int z ∧ ((∃ n : Nat, o = some n ∧ z = (n : Int)) ∨ (o = none ∧ z = -1)) := by
  cases o with
  | none => exact ⟨-1, rfl, Or.inr ⟨rfl, rfl⟩⟩
  | some n => exact ⟨n, rfl, Or.inl ⟨n, rfl, rfl⟩⟩
theorem nats_V (z : Int) (l : List Nat) : ((z :: WearSpec.nats l).map V.int) = [V.int z] ++ natsV l := by
  unfold WearSpec.nats natsV
  rw [List.map_cons, List.map_map]; rfl
theorem pan_iff {h n : Nat} : WearSpec.pan h n = true ↔ 1 ≤ h ∧ h ≤ 1000 ∧ 1 ≤ n ∧ n ≤ 40 := by
  unfold WearSpec.pan
  simp only [Bool.and_eq_true, decide_eq_true_eq]
  omega
section
variable {kvs : List (Key × V)} {l : List (Nat × Int)}
theorem SupOk.nil : SupOk [] [] := ⟨fun _ => rfl, List.nodup_nil, fun _ h => by cases h⟩
theorem SupOk.put (s : SupOk kvs l) (x : Nat) (o : Int) : SupOk (putK kvs (Sum.inl (x : Int)) (.int o)) (putSupport x o l) := by
  refine ⟨fun z => ?_, nodup_put s.nd, fun key hk => ?_⟩
  · rw [valV_put, supAt_put]
    by_cases c : x = z
    · subst c
      rw [if_pos rfl, if_pos rfl]; rfl
    · rw [if_neg (fun q => c (by injection q with q; omega)), if_neg c]; exact s.val z
  · rcases mem_put hk with h | h
    · exact ⟨x, h⟩
    · exact s.few key h
theorem valV_drop {κ : Type} [DecidableEq κ] (kvs : List (κ × V)) (k j : κ) : valV (dropK kvs k) j = if j = k then none else valV kvs j := by
  unfold valV dropK
  rw [List.find?_filter]
  by_cases c : j = k
  · subst c
    rw [if_pos rfl]
    have : kvs.find? (fun a => decide (decide (a.1 ≠ j) = true ∧ decide (a.1 = j) = true)) = none := List.find?_eq_none.mpr fun x _ => by simp
    rw [this]; rfl
  · rw [if_neg c]
    congr 1
    congr 1
    funext a
    by_cases e : a.1 = j
    · simp [e, c]
    · simp [e]
theorem SupOk.drop (s : SupOk kvs l) (x : Nat) : SupOk (dropK kvs (Sum.inl (x : Int))) (l.filter fun (y : Nat × Int) => y.1 != x) := by
  refine ⟨fun z => ?_, nd_dropK s.nd, fun key hk => ?_⟩
  · rw [valV_drop, supAt_drop]
    by_cases c : x = z
    · subst c
      rw [if_pos rfl, if_pos rfl]; rfl
    · rw [if_neg (fun q => c (by injection q with q; omega)), if_neg c]; exact s.val z
  · obtain ⟨p, hp, rfl⟩ := List.mem_map.mp hk
    exact s.few _ (List.mem_map.mpr ⟨p, dropK_mem hp, rfl⟩)
theorem supAt_some {x : Nat} : (supAt l x).isSome = true ↔ x ∈ l.map (·.1) := by
  rw [← supAt_any, List.any_eq_true]
  constructor
  · rintro ⟨y, hy, e⟩
    exact List.mem_map.mpr ⟨y, hy, by simpa using e⟩
  · intro h
    obtain ⟨y, hy, e⟩ := List.mem_map.mp h
    exact ⟨y, hy, by simpa using e⟩
/-- the keys of the dict: the supports' places, in some order -/
theorem sup_keys (s : SupOk kvs l) (hr : Rising l) : ∃ ks : List Int, kvs.map (·.1) = ks.map Sum.inl ∧ ks.Perm (l.map fun y => (y.1 : Int)) := by
  refine ⟨(kvs.map (·.1)).map fun k => match k with | Sum.inl i => i | Sum.inr _ => 0, ?_, ?_⟩
  · rw [List.map_map]
    have : ∀ k ∈ kvs.map (·.1), ((Sum.inl : Int → Key) ∘ fun k => match k with | Sum.inl i => i | Sum.inr _ => 0) k = k := fun k hk => by
      obtain ⟨x, rfl⟩ := s.few k hk; rfl
    exact ((List.map_congr_left (g := id) this).trans (List.map_id _)).symm
  · have hinj : ∀ (a b : Key), a ∈ kvs.map (·.1) → b ∈ kvs.map (·.1) → (match a with | Sum.inl i => i | Sum.inr _ => (0 : Int)) = (match b with | Sum.inl i => i | Sum.inr _ => 0) → a = b := fun a b ha hb e => by
      obtain ⟨x, rfl⟩ := s.few a ha
      obtain ⟨y, rfl⟩ := s.few b hb
      have e : (x : Int) = (y : Int) := e
      rw [e]
    refine (List.perm_ext_iff_of_nodup ?_ ?_).mpr fun i => ?_
    · have nd := s.nd
      unfold List.Nodup at nd ⊢
      rw [List.pairwise_map]
      exact nd.imp_of_mem fun ha hb n e => n (hinj _ _ ha hb e)
    · unfold List.Nodup
      rw [List.pairwise_map]
      exact hr.imp fun h e => by omega
    · rw [List.mem_map, List.mem_map]
      constructor
      · rintro ⟨k, hk, rfl⟩
        obtain ⟨x, rfl⟩ := s.few k hk
        have hv : valV kvs (Sum.inl (x : Int)) ≠ none := fun z => valV_not z hk
        rw [s.val] at hv
        have : (supAt l x).isSome = true := by
          cases e : supAt l x with
          | none => rw [e] at hv; exact absurd rfl hv
          | some _ => rfl
        obtain ⟨y, hy, e⟩ := List.mem_map.mp (supAt_some.mp this)
        exact ⟨y, hy, by show (y.1 : Int) = (x : Int); rw [e]⟩
      · rintro ⟨y, hy, rfl⟩
        have := supAt_some.mpr (List.mem_map.mpr ⟨y, hy, rfl⟩)
        refine ⟨Sum.inl (y.1 : Int), ?_, rfl⟩
        obtain ⟨o, ho⟩ := Option.isSome_iff_exists.mp this
        exact valV_in (show valV kvs (Sum.inl (y.1 : Int)) = some (.int o) by rw [s.val, ho]; rfl)
theorem sup_len (s : SupOk kvs l) (hr : Rising l) : kvs.length = l.length := by
  obtain ⟨ks, h1, h2⟩ := sup_keys s hr
  have a := congrArg List.length h1
  rw [List.length_map, List.length_map] at a
  have b := h2.length_eq
  rw [List.length_map] at b
  omega
theorem sorted_is {ks ys : List Int} (hr : Rising l) (h1 : ks.Perm (l.map fun y => (y.1 : Int))) (h2 : ys.Perm ks) (h3 : ys.Pairwise (· ≤ ·)) : ys.map V.int = natsV (l.map (·.1)) := by
  have e : ys = l.map fun y => (y.1 : Int) := by
    refine List.Perm.eq_of_pairwise (le := (· ≤ ·)) (fun a b _ _ h1 h2 => by omega) h3 ?_ (h2.trans h1)
    rw [List.pairwise_map]
    exact hr.imp fun h => by omega
  rw [e]
  unfold natsV
  rw [List.map_map, List.map_map]; rfl
/-- sorted(wire.supports) -/
theorem sup_sorted (s : SupOk kvs l) (hr : Rising l) (h6 : l.length ≤ 6) : ∃ ks : List Int, kvs.map (·.1) = ks.map Sum.inl ∧ ks.length < 64 ∧ ∀ ys : List Int, ys.Perm ks → ys.Pairwise (· ≤ ·) → ys.map V.int = natsV (l.map (·.1)) := by
  obtain ⟨ks, h1, h2⟩ := sup_keys s hr
  refine ⟨ks, h1, ?_, fun ys e1 e2 => sorted_is hr h2 e1 e2⟩
  have := h2.length_eq
  rw [List.length_map] at this
  omega
theorem supAt_fold (z : Nat) : ∀ (ps l : List (Nat × Int)), Rising ps → supAt (ps.foldl (fun l y => putSupport y.1 y.2 l) l) z = (supAt ps z).or (supAt l z)
  | [], l, _ => rfl
  | y :: r, l, hr => by
    obtain ⟨h1, h2⟩ := List.pairwise_cons.mp hr
    rw [List.foldl_cons, supAt_fold z r _ h2, supAt_put, supAt_cons]
    by_cases c : y.1 = z
    · rw [if_pos c, if_pos c]
      have : supAt r z = none := by
        cases e : supAt r z with
        | none => rfl
        | some o =>
          have hm := (supAt_mem h2).mpr e
          have := h1 _ hm
          have : y.1 < z := this
          omega
      rw [this]; rfl
    · rw [if_neg c, if_neg c]
theorem fold_rising : ∀ (ps l : List (Nat × Int)), Rising l → Rising (ps.foldl (fun l y => putSupport y.1 y.2 l) l)
  | [], _, h => h
  | y :: r, l, h => fold_rising r _ (putSupport_rising h)
theorem fold_laid {row : List Int} (hr : Rising l) (h : row.length = l.length) : (laidBy l row).foldl (fun l y => putSupport y.1 y.2 l) l = laidBy l row := by
  refine rising_ext (fold_rising _ _ hr) (laid_rising hr h) fun z => ?_
  rw [supAt_fold z _ _ (laid_rising hr h)]
  cases e : supAt (laidBy l row) z with
  | some o => rfl
  | none =>
    cases e2 : supAt l z with
    | none => rfl
    | some o =>
      have := supAt_some.mp (show (supAt l z).isSome = true by rw [e2]; rfl)
      rw [← laid_keys l row h] at this
      have := supAt_some.mpr this
      rw [e] at this; cases this
end
/-! ### the offset at a place -/
theorem offset_span {l : List (Nat × Int)} (hr : Rising l) (hne : l ≠ []) (x : Nat) (hb : ∀ y ∈ l, y.1 < 60) : ∃ y z, l[firstI (l.map (·.1)) x]? = some y ∧ l[secondI (l.map (·.1)) x]? = some z ∧ y.1 ≤ z.1 ∧ z.1 < 60 ∧ FracLow (betwI y.1 y.2 z.1 z.2 x) (offsetBy l x) := by
  obtain ⟨y, z, h1, h2, h3, h4⟩ := span_is hr hne x
  exact ⟨y, z, h1, h2, h3, hb z (List.mem_of_getElem? h2), h4⟩
theorem offset_frac {l : List (Nat × Int)} (hr : Rising l) (x : Nat) (hb : ∀ y ∈ l, y.1 < 60) : FracIs ((offsetBy l x).num, ((offsetBy l x).den : Int)) (offsetBy l x) ∧ (offsetBy l x).den < 1000 := by
  constructor
  · exact FracLow.is ⟨rfl, rfl⟩
  · by_cases hne : l = []
    · subst hne; show (1 : Nat) < 1000; decide
    · obtain ⟨y, z, h1, h2, h3, h4, h5⟩ := offset_span hr hne x hb
      have := (betwI_den y.2 z.2 (x : Int) (show (y.1 : Int) ≤ (z.1 : Int) by omega) (by omega)).2
      rw [h5.2] at this
      omega
theorem r_andH {σ : L2.St} {H : Hp} {Q : VK} {ta tb : TE} (h : ta σ H fun x H1 => ∃ c, x = .bl c ∧ if c = true then tb σ H1 Q else Q (.bl false) H1) : tAndV ta tb σ H Q := h
theorem flat_pairs : ∀ {l : List Nat}, l.length % 2 = 0 → l.map (fun (n : Nat) => (n : Int)) = flatP (pairs l)
  | [], _ => rfl
  | [a], h => by simp at h
  | a :: b :: r, h => by
    have := flat_pairs (l := r) (by
      have h : (r.length + 1 + 1) % 2 = 0 := h
      omega)
    show (a : Int) :: (b : Int) :: r.map (fun (n : Nat) => (n : Int)) = (a : Int) :: (b : Int) :: flatP (pairs r)
    rw [this]
theorem pairs_length : ∀ l : List Nat, (pairs l).length ≤ l.length
  | [] => Nat.zero_le _
  | [a] => Nat.zero_le _
  | a :: b :: r => by
    have := pairs_length r
    show (pairs r).length + 1 ≤ r.length + 1 + 1
    omega
section
variable {K : PySem.W.Frag} {mg : Str → Option Value} {A : Ad} {L : Lay} {H H' : Hp} {w : Wire}
/-- a number, numbers behind it, are handed back -/
theorem ok_cat {c : WearSpec.Call} {Q : VK} {z : Int} {l : List Nat} {w' : Wire}
    (k : ∀ (H' : Hp) (p : Addr), WireAt A.CW L H' (WearSpec.act w c).1 → Only L.own H H' → H p = none → H' p = some (.lst ((WearNeutral.told (WearSpec.act w c).2).map V.int)) → Q (.ref p) H')
    (a : WearSpec.act w c = (w', ⟨z, WearSpec.nats l⟩)) (W : WireAt A.CW L H' w') (o : Only L.own H H') (hl : l.length ≤ 1000) : ∀ p, H' p = none → Q (.ref p) (upd H' p (.lst ([V.int z] ++ natsV l))) := by
  have e := (ok_new (xs := z :: WearSpec.nats l) k a (by simp) W o (by rw [nats_V, List.length_append, natsV_length]; show 1 + _ ≤ _; omega)).2
  rw [nats_V] at e
  exact e
theorem sl_cat {z : V} {l : List Nat} (hl : l.length ≤ 1000) : [z].length + (natsV l).length ≤ sizeLine := sl60 (by rw [natsV_length]; show 1 + _ ≤ _; omega)
end
/-! ### when: the days found so far -/
def foundW (w : Wire) (b i : Nat) : List (Int × Int) := (w.places.take i).zipIdx.filterMap fun (p : Pl × Nat) => (w.until_ p.1 b).map fun (n : Nat) => ((n : Int), (p.2 : Int))
section
variable {w : Wire} {b i : Nat} {p : Pl}
theorem foundW_succ (h : w.places[i]? = some p) : foundW w b (i + 1) = foundW w b i ++ ((w.until_ p b).map fun (n : Nat) => ((n : Int), (i : Int))).toList := by
  unfold foundW
  rw [take_succ_get h, zipIdx_snoc, List.filterMap_append]
  have e : (w.places.take i).length = i := by rw [List.length_take]; have := get_lt h; omega
  rw [e]
  cases hu : w.until_ p b with
  | none => simp [hu]
  | some n => simp [hu]
theorem foundW_some {n : Nat} (h : w.places[i]? = some p) (hu : w.until_ p b = some n) : foundW w b (i + 1) = foundW w b i ++ [((n : Int), (i : Int))] := by rw [foundW_succ h, hu]; rfl
theorem foundW_none (h : w.places[i]? = some p) (hu : w.until_ p b = none) : foundW w b (i + 1) = foundW w b i := by rw [foundW_succ h, hu]; exact List.append_nil _
theorem foundW_le (w : Wire) (b i : Nat) : (foundW w b i).length ≤ i := by
  unfold foundW
  refine Nat.le_trans (List.length_filterMap_le _ _) ?_
  rw [List.length_zipIdx, List.length_take]
  exact Nat.min_le_left _ _
theorem foundW_mem {z : Int × Int} : z ∈ foundW w b w.places.length ↔ ∃ (x n : Nat) (p : Pl), w.places[x]? = some p ∧ w.until_ p b = some n ∧ z = ((n : Int), (x : Int)) := by
  unfold foundW
  rw [List.take_length, List.mem_filterMap]
  constructor
  · rintro ⟨⟨p, x⟩, hm, hz⟩
    rw [List.mem_zipIdx_iff_getElem?] at hm
    obtain ⟨n, hn, rfl⟩ := Option.map_eq_some_iff.mp hz
    exact ⟨x, n, p, hm, hn, rfl⟩
  · rintro ⟨x, n, p, hp, hn, rfl⟩
    exact ⟨(p, x), List.mem_zipIdx_iff_getElem?.mpr hp, by show (w.until_ p b).map _ = _; rw [hn]; rfl⟩
theorem foundW_min {z : Int × Int} (hz : z ∈ foundW w b w.places.length) (hmin : ∀ q ∈ foundW w b w.places.length, ltPair q z = false) : ∃ x n : Nat, z = ((n : Int), (x : Int)) ∧ w.when_ b = some (n, x) := by
  obtain ⟨x, n, p, hp, hn, rfl⟩ := foundW_mem.mp hz
  have key : ∀ (y m : Nat) (q : Pl), w.places[y]? = some q → w.until_ q b = some m → n ≤ m ∧ (y < x → n < m) := by
    intro y m q hq hm
    have := hmin _ (foundW_mem.mpr ⟨y, m, q, hq, hm, rfl⟩)
    unfold ltPair at this
    simp only [Bool.or_eq_false_iff, Bool.and_eq_false_iff, decide_eq_false_iff_not] at this
    omega
  refine ⟨x, n, rfl, soonest_eq (i := x) ?_ ?_ ?_⟩
  · rw [List.getElem?_map, List.getElem?_zipIdx, hp]
    show some (0 + x, w.until_ p b) = _
    rw [hn, Nat.zero_add]
  · intro y hy m hm
    obtain ⟨⟨q, j⟩, hq, rfl⟩ := List.mem_map.mp hy
    exact (key j m q (List.mem_zipIdx_iff_getElem?.mp hq) hm).1
  · intro j y m hj hy hm
    rw [List.getElem?_map, List.getElem?_zipIdx] at hy
    cases eq : w.places[j]? with
    | none => rw [eq] at hy; cases hy
    | some q =>
      rw [eq] at hy
      have hy : (0 + j, w.until_ q b) = y := Option.some.inj hy
      subst hy
      exact (key j m q eq hm).2 hj
theorem foundW_nil (h : foundW w b w.places.length = []) : w.when_ b = none := by
  refine soonest_none fun y hy => ?_
  obtain ⟨⟨q, j⟩, hq, rfl⟩ := List.mem_map.mp hy
  show w.until_ q b = none
  cases e : w.until_ q b with
  | none => rfl
  | some n =>
    have := foundW_mem.mpr ⟨j, n, q, List.mem_zipIdx_iff_getElem?.mp hq, e, rfl⟩
    rw [h] at this; cases this
end
theorem wire_only {C : Addr} {L : Lay} {H H1 H' : Hp} {w : Wire} {kvs : List (Key × V)} {l : List (Nat × Int)} (W : WireAt C L H w) (s : Same H H1) (o : Only [L.su] H1 H') (hk : H' L.su = some (.dK kvs)) (sk : SupOk kvs l) : WireAt C L H' { w with supports := l } := by
  obtain ⟨ts, k1, k2⟩ := W.kin
  obtain ⟨k3, s1, s2⟩ := W.ser
  obtain ⟨k4, u1, u2⟩ := W.sup
  have g : ∀ {b : Addr} {u : HO}, H b = some u → (∀ kvs, u ≠ .dK kvs) → H' b = some u := fun {b u} hb hu => o _ _ (s _ _ hb) (by
    simp only [List.mem_singleton]
    intro z
    rw [z, u1] at hb
    exact hu _ (Option.some.inj hb).symm)
  exact ⟨g W.ob (by intro _ z; cases z), g W.left (by intro _ z; cases z), g W.lev (by intro _ z; cases z), g W.ext (by intro _ z; cases z), ⟨ts, g k1 (by intro _ z; cases z), k2.keep fun b xs e => g e (by intro _ z; cases z)⟩, ⟨k3, g s1 (by intro _ z; cases z), s2.1, s2.2, s2.3⟩, ⟨kvs, hk, sk⟩, W.nd⟩
end WW
namespace WW
open PySem PySem.Spec PyProof.Rows L2
open WM
open OwWear hiding Place Kind
/-! ### strip: the passes that each cell takes -/
def ceilI (d c : Int) : Int := -((-d) / c)
theorem ceil_le {d c p : Int} (h : 0 < c) : ceilI d c ≤ p ↔ d ≤ p * c := by
  unfold ceilI
  have := Int.le_ediv_iff_mul_le (a := -p) (b := -d) h
  rw [Int.neg_mul] at this
  omega
theorem ceil_nat {d m : Nat} (h : 0 < m) : ceilI (d : Int) (m : Int) = (((d + m - 1) / m : Nat) : Int) := by
  have h1 := Nat.div_mul_le_self (d + m - 1) m
  have h2 := Nat.lt_mul_div_succ (d + m - 1) h
  rw [Nat.mul_add, Nat.mul_one, Nat.mul_comm] at h2
  generalize (d + m - 1) / m = P at h1 h2
  have a1 : ceilI (d : Int) (m : Int) ≤ (P : Int) := (ceil_le (by omega)).mpr (by rw [← Int.natCast_mul]; omega)
  have a2 := (ceil_le (d := (d : Int)) (c := (m : Int)) (by omega)).mp (Int.le_refl _)
  generalize ceilI (d : Int) (m : Int) = t at a1 a2
  rcases Int.lt_or_le t (P : Int) with c | c
  · exfalso
    have b1 : t * (m : Int) ≤ ((P : Int) - 1) * (m : Int) := Int.mul_le_mul_of_nonneg_right (by omega) (by omega)
    rw [Int.sub_mul, Int.one_mul, ← Int.natCast_mul] at b1
    omega
  · omega
def foundS (l : List Nat) (d i : Nat) : List (Int × Int) := (l.take i).zipIdx.filterMap fun (p : Nat × Nat) => if 0 < p.1 then some (ceilI (d : Int) (p.1 : Int), (p.2 : Int)) else none
section
variable {l : List Nat} {d i c : Nat}
theorem foundS_succ (h : l[i]? = some c) : foundS l d (i + 1) = foundS l d i ++ (if 0 < c then [(ceilI (d : Int) (c : Int), (i : Int))] else []) := by
  unfold foundS
  rw [take_succ_get h, zipIdx_snoc, List.filterMap_append]
  have e : (l.take i).length = i := by rw [List.length_take]; have := get_lt h; omega
  rw [e]
  by_cases hc : 0 < c
  · simp [hc]
  · simp [hc]
theorem foundS_le (l : List Nat) (d i : Nat) : (foundS l d i).length ≤ i := by
  unfold foundS
  refine Nat.le_trans (List.length_filterMap_le _ _) ?_
  rw [List.length_zipIdx, List.length_take]
  exact Nat.min_le_left _ _
theorem foundS_mem {z : Int × Int} : z ∈ foundS l d l.length ↔ ∃ x c : Nat, l[x]? = some c ∧ 0 < c ∧ z = (ceilI (d : Int) (c : Int), (x : Int)) := by
  unfold foundS
  rw [List.take_length, List.mem_filterMap]
  constructor
  · rintro ⟨⟨c, x⟩, hm, hz⟩
    rw [List.mem_zipIdx_iff_getElem?] at hm
    have hz : (if 0 < c then some (ceilI (d : Int) (c : Int), (x : Int)) else none) = some z := hz
    split at hz
    · rename_i hc
      exact ⟨x, c, hm, hc, (Option.some.inj hz).symm⟩
    · cases hz
  · rintro ⟨x, c, hp, hc, rfl⟩
    exact ⟨(c, x), List.mem_zipIdx_iff_getElem?.mpr hp, if_pos hc⟩
theorem foundS_min {z : Int × Int} (hd : 1 ≤ d) (hz : z ∈ foundS l d l.length) (hmin : ∀ q ∈ foundS l d l.length, ltPair q z = false) : ∃ p j : Nat, z = ((p : Int), (j : Int)) ∧ strip l d = some (p, j) := by
  obtain ⟨j, c, hj, hc, rfl⟩ := foundS_mem.mp hz
  have hcm : c ≤ greatest l := greatest_le (List.mem_of_getElem? hj)
  have hm0 : 0 < greatest l := by omega
  have hne : l ≠ [] := fun z => by rw [z] at hj; cases hj
  have key : ∀ (y e : Nat), l[y]? = some e → 0 < e → ceilI (d : Int) (c : Int) ≤ ceilI (d : Int) (e : Int) ∧ (y < j → ceilI (d : Int) (c : Int) < ceilI (d : Int) (e : Int)) := by
    intro y e hy he
    have := hmin _ (foundS_mem.mpr ⟨y, e, hy, he, rfl⟩)
    unfold ltPair at this
    simp only [Bool.or_eq_false_iff, Bool.and_eq_false_iff, decide_eq_false_iff_not] at this
    omega
  obtain ⟨jm, hjm⟩ := List.getElem?_of_mem (greatest_mem hne)
  have k1 := (key jm _ hjm hm0).1
  have k2 := (ceil_le (d := (d : Int)) (c := (c : Int)) (by omega)).mp (Int.le_refl _)
  have e := ceil_nat (d := d) hm0
  have kpos : 0 ≤ ceilI (d : Int) (c : Int) := by
    rcases Int.lt_or_le (ceilI (d : Int) (c : Int)) 0 with z | z
    · have := Int.mul_le_mul_of_nonneg_right (c := (c : Int)) (show ceilI (d : Int) (c : Int) ≤ 0 by omega) (by omega)
      rw [Int.zero_mul] at this
      omega
    · exact z
  have k3 : ceilI (d : Int) (greatest l : Int) ≤ ceilI (d : Int) (c : Int) := (ceil_le (by omega)).mpr (by
    have := Int.mul_le_mul_of_nonneg_left (c := ceilI (d : Int) (c : Int)) (show (c : Int) ≤ (greatest l : Int) by omega) kpos
    omega)
  have k4 : ceilI (d : Int) (c : Int) = (((d + greatest l - 1) / greatest l : Nat) : Int) := by omega
  refine ⟨_, j, by rw [k4], ?_⟩
  show (if greatest l = 0 then none else (l.findIdx? fun (c : Nat) => decide (d ≤ (d + greatest l - 1) / greatest l * c)).map fun (j : Nat) => ((d + greatest l - 1) / greatest l, j)) = _
  rw [if_neg (by omega)]
  generalize (d + greatest l - 1) / greatest l = P at k4
  have hf : (l.findIdx? fun (c : Nat) => decide (d ≤ P * c)) = some j := by
    refine List.findIdx?_eq_some_iff_getElem.mpr ⟨get_lt hj, ?_, fun y hy => ?_⟩
    · have : l[j]'(get_lt hj) = c := (List.getElem?_eq_some_iff.mp hj).2
      rw [this]
      rw [k4, ← Int.natCast_mul] at k2
      exact decide_eq_true (by omega)
    · have hyl : y < l.length := by have := get_lt hj; omega
      rw [Bool.not_eq_true]
      refine decide_eq_false fun hle => ?_
      have hy' : l[y]? = some (l[y]'hyl) := List.getElem?_eq_getElem hyl
      generalize l[y]'hyl = e at hle hy'
      have he : 0 < e := by
        rcases Nat.eq_zero_or_pos e with z | z
        · rw [z, Nat.mul_zero] at hle; omega
        · exact z
      have := (key y e hy' he).2 hy
      have := (ceil_le (d := (d : Int)) (c := (e : Int)) (p := (P : Int)) (by omega)).mpr (by rw [← Int.natCast_mul]; omega)
      omega
  rw [hf]; rfl
theorem foundS_nil (h : foundS l d l.length = []) : strip l d = none := by
  have : greatest l = 0 := by
    by_cases hne : l = []
    · rw [hne]; rfl
    · obtain ⟨j, hj⟩ := List.getElem?_of_mem (greatest_mem hne)
      rcases Nat.eq_zero_or_pos (greatest l) with z | z
      · exact z
      · have := (foundS_mem (d := d)).mpr ⟨j, _, hj, z, rfl⟩
        rw [h] at this; cases this
  show (if greatest l = 0 then none else _) = none
  rw [if_pos this]
end
theorem all_id {α : Type} (l : List α) (f : α → Bool) : (l.map f).all id = l.all f := by
  rw [List.all_map]; rfl
theorem far_is (o : Int) : WearSpec.far o = !(decide ((-400 : Int) ≤ o) && decide (o ≤ 400)) := by
  unfold WearSpec.far
  by_cases c1 : o < -400
  · rw [decide_eq_true c1, decide_eq_false (show ¬ (-400 : Int) ≤ o by omega)]; rfl
  · by_cases c2 : 400 < o
    · rw [decide_eq_true c2, decide_eq_false (show ¬ o ≤ 400 by omega)]; simp
    · rw [decide_eq_false c1, decide_eq_false c2, decide_eq_true (show (-400 : Int) ≤ o by omega), decide_eq_true (show o ≤ 400 by omega)]; rfl
theorem far_all (l : List Int) : (l.all fun o => decide ((-400 : Int) ≤ o) && decide (o ≤ 400)) = !(l.any WearSpec.far) := by
  induction l with
  | nil => rfl
  | cons a r ih =>
    rw [List.all_cons, List.any_cons, ih, far_is, Bool.not_or, Bool.not_not]
/-- each one is less than the next -/
def risesB (l : List Int) : List Bool := (l.zip l.tail).map fun p => decide (p.1 < p.2)
theorem rises_is : ∀ l : List Int, (risesB l).all id = WearSpec.rising l
  | [] => rfl
  | [a] => rfl
  | a :: b :: r => by
    have ih := rises_is (b :: r)
    show (decide (a < b) && (risesB (b :: r)).all id) = (decide (a < b) && WearSpec.rising (b :: r))
    rw [ih]
theorem all_any {α : Type} (l : List α) (f g : α → Bool) (h : ∀ a, f a = !g a) : l.all f = !(l.any g) := by
  induction l with
  | nil => rfl
  | cons a r ih => rw [List.all_cons, List.any_cons, ih, h, Bool.not_or]
theorem short_snoc (w : Wire) (l : List (Nat × Nat)) (y : Nat × Nat) : w.short (l ++ [y]) = w.short l ++ (if y.2 < w.leftAt y.1 then [(y.1, w.leftAt y.1 - y.2)] else []) := by
  unfold Wire.short
  rw [List.filter_append, List.map_append]
  by_cases c : y.2 < w.leftAt y.1
  · rw [if_pos c]; simp [c]
  · rw [if_neg c]; simp [c]
theorem short_pos (w : Wire) (l : List (Nat × Nat)) : ∀ x ∈ w.short l, 0 < x.2 := by
  intro x hx
  unfold Wire.short at hx
  obtain ⟨y, hy, rfl⟩ := List.mem_map.mp hx
  have := of_decide_eq_true (List.mem_filter.mp hy).2
  show 0 < w.leftAt y.1 - y.2
  omega
theorem cut_tail (l : List Int) : cutV (l.map V.int) (some 1) none = l.tail.map V.int := by
  cases l with
  | nil => rfl
  | cons a r =>
    unfold cutV
    have e1 : HT.sIx ((a :: r).map V.int).length 0 (some 1) = 1 := by
      have := HT.sIx_nat ((a :: r).map V.int).length 0 1
      rw [show (some ((1 : Nat) : Int)) = some (1 : Int) from rfl] at this
      rw [this, List.length_map, List.length_cons]
      omega
    have e2 : HT.sIx ((a :: r).map V.int).length ((a :: r).map V.int).length none = ((a :: r).map V.int).length := by
      unfold HT.sIx; rfl
    rw [e1, e2]
    show (r.map V.int).take _ = r.map V.int
    exact List.take_of_length_le (by simp)
theorem r_step2 {K : PySem.W.Frag} {σ : L2.St} {H : Hp} {Q : VK} {te : TE} {tl : TO} (h : te σ H fun x H1 => tl σ H1 fun lo H2 => ∃ (a : Addr) (ns : List Int), x = .ref a ∧ SqL K H2 a (ns.map V.int) ∧
  ∀ p, H2 p = none → Q (.ref p) (upd H2 p (.lst ((pickNums ns lo none (some 2)).map V.int)))) : tStep2 K te tl σ H Q := h
theorem odds_V (ps : List (Nat × Nat)) : (pickNums (flatP ps) (some 1) none (some 2)).map V.int = ps.map fun y => V.int (y.2 : Int) := by
  rw [pick_odds, List.map_map]; rfl
theorem evens_V (ps : List (Nat × Nat)) : (pickNums (flatP ps) none none (some 2)).map V.int = ps.map fun y => V.int (y.1 : Int) := by
  rw [pick_evens, List.map_map]; rfl
end WW
namespace WW
open PySem PySem.Spec PyProof.Rows L2
open WM
open OwWear hiding Place Kind
/-! ### a wire stays as it may be -/
def PlOk (p : Pl) : Prop := p.left ≤ 1000000 ∧ p.level ≤ 100 ∧ p.extra ≤ 10000
theorem ok_places {w : Wire} (O : WireOk w) (ps : List Pl) (day : Nat) (hl : ps.length = w.places.length) (hp : ∀ p ∈ ps, PlOk p) : WireOk { w with places := ps, day := day } :=
  ⟨by rw [hl]; exact O.m2, by rw [hl]; exact O.m60, hp, O.k4, O.kd, O.s7, O.sv, O.sr, O.s6, fun y hy => by rw [hl]; exact O.sp y hy⟩
theorem ok_among {w : Wire} (O : WireOk w) (x y : Nat) (f : Pl → Pl) (hf : ∀ p, PlOk p → PlOk (f p)) : WireOk (WearSpec.Wire.among w x y f) := by
  rw [among_eq]
  refine ok_places O _ w.day (amongN_length _ _ _ _) fun p hp => ?_
  obtain ⟨i, hi⟩ := List.getElem?_of_mem hp
  rw [amongN_get] at hi
  cases e : w.places[i]? with
  | none => rw [e] at hi; cases hi
  | some q =>
    rw [e] at hi
    have hi := Option.some.inj hi
    have hq : PlOk q := O.pl q (List.mem_of_getElem? e)
    rw [← hi]
    split
    · exact hf q hq
    · exact hq
theorem ok_less {w : Wire} (O : WireOk w) (g : Pl → Nat) (day : Nat) : WireOk { w with places := w.places.map fun (p : Pl) => { p with left := p.left - g p }, day := day } :=
  ok_places O _ day (List.length_map ..) fun p hp => by
    obtain ⟨q, hq, rfl⟩ := List.mem_map.mp hp
    have := O.pl q hq
    exact ⟨Nat.le_trans (Nat.sub_le _ _) this.1, this.2⟩
theorem ok_sup {w : Wire} (O : WireOk w) (l : List (Nat × Int)) (hr : Rising l) (h6 : l.length ≤ 6) (hs : ∀ y ∈ l, y.1 < w.places.length ∧ -400 ≤ y.2 ∧ y.2 ≤ 400) : WireOk { w with supports := l } :=
  ⟨O.m2, O.m60, O.pl, O.k4, O.kd, O.s7, O.sv, hr, h6, hs⟩
theorem far_no {o : Int} (h : ¬ WearSpec.far o = true) : -400 ≤ o ∧ o ≤ 400 := by
  rw [far_is] at h
  simp at h
  omega
theorem laid_ok {m d : Nat} (h2 : 2 ≤ m) (h60 : m ≤ 60) (hd : d ≤ 1000000) : WireOk (laid m d) := by
  have hl : (laid m d).places.length = m := List.length_replicate
  refine ⟨by rw [hl]; exact h2, by rw [hl]; exact h60, fun p hp => ?_, Nat.zero_le _, fun k hk => (by cases hk), rfl, fun e k => (by rw [laid_passes]; exact Nat.zero_le _), List.Pairwise.nil, Nat.zero_le _, fun y hy => (by cases hy)⟩
  have := (List.mem_replicate.mp (show p ∈ List.replicate m (⟨d, 0, 0⟩ : Pl) from hp)).2
  rw [this]
  exact ⟨hd, Nat.zero_le _, Nat.zero_le _⟩
theorem act_ok {w : Wire} (O : WireOk w) (c : WearSpec.Call) : WireOk (WearSpec.act w c).1 := by
  cases c with
  | begin_ m d => exact O
  | draw x y a =>
    show WireOk (if 100 < a ∨ y < x then (w, WearSpec.says (-1)) else if w.places.length ≤ y then (w, WearSpec.says (-4)) else (WearSpec.Wire.among w x y fun (p : Pl) => { p with level := a }, WearSpec.says 0)).1
    split
    · exact O
    split
    · exact O
    · show WireOk (WearSpec.Wire.among w x y fun (p : Pl) => { p with level := a })
      refine ok_among O _ _ _ fun p hp => ?_
      exact ⟨hp.1, by show a ≤ 100; omega, hp.2.2⟩
  | gap x e =>
    show WireOk (if 10000 < e then (w, WearSpec.says (-1)) else if w.places.length ≤ x then (w, WearSpec.says (-4)) else (WearSpec.Wire.among w x x fun (p : Pl) => { p with extra := e }, WearSpec.says 0)).1
    split
    · exact O
    split
    · exact O
    · show WireOk (WearSpec.Wire.among w x x fun (p : Pl) => { p with extra := e })
      refine ok_among O _ _ _ fun p hp => ?_
      exact ⟨hp.1, hp.2.1, by show e ≤ 10000; omega⟩
  | kind b f =>
    show WireOk (if 1000 < b ∨ 1000 < f then (w, WearSpec.says (-1)) else if 4 ≤ w.kinds.length then (w, WearSpec.says (-6)) else ({ w with kinds := w.kinds ++ [⟨b, f⟩] }, WearSpec.says (w.kinds.length : Int))).1
    split
    · exact O
    split
    · exact O
    · refine ⟨O.m2, O.m60, O.pl, ?_, fun k hk => ?_, O.s7, O.sv, O.sr, O.s6, O.sp⟩
      · show (w.kinds ++ [_]).length ≤ 4
        rw [List.length_append]
        show w.kinds.length + 1 ≤ 4
        omega
      · rcases List.mem_append.mp (show k ∈ w.kinds ++ [_] from hk) with h | h
        · exact O.kd k h
        · have := List.mem_singleton.mp h
          rw [this]
          exact ⟨by show b ≤ 1000; omega, by show f ≤ 1000; omega⟩
  | service d k n =>
    show WireOk (if 6 < d ∨ 10000 < n then (w, WearSpec.says (-1)) else if w.kinds.length ≤ k then (w, WearSpec.says (-4)) else ({ w with services := w.services.modify d fun (l : List Nat) => WearSpec.setAt l k n }, WearSpec.says 0)).1
    split
    · exact O
    split
    · exact O
    · refine ⟨O.m2, O.m60, O.pl, O.k4, O.kd, ?_, fun e f => ?_, O.sr, O.s6, O.sp⟩
      · show (w.services.modify d _).length = 7
        rw [List.length_modify]; exact O.s7
      · have := passes_modify w O.s7 (d := d) (k := k) (n := n) (by omega) e f
        show ({ w with services := w.services.modify d fun (l : List Nat) => WearSpec.setAt l k n } : Wire).passes e f ≤ 10000
        rw [this]
        split
        · omega
        · exact O.sv e f
  | pass k n =>
    show WireOk (if 1000000 < n then (w, WearSpec.says (-1)) else match w.kinds[k]? with
      | none => (w, WearSpec.says (-4))
      | some x => (w.pass x n, WearSpec.says 0)).1
    split
    · exact O
    split
    · exact O
    · exact ok_less O _ w.day
  | days n =>
    show WireOk (if 1000000000 < n then (w, WearSpec.says (-1)) else (w.days n, WearSpec.says 0)).1
    split
    · exact O
    · exact ok_less O _ _
  | splice x y d =>
    show WireOk (if 1000000 < d ∨ y < x then (w, WearSpec.says (-1)) else if w.places.length ≤ y then (w, WearSpec.says (-4)) else (WearSpec.Wire.among w x y fun (p : Pl) => { p with left := d }, WearSpec.says 0)).1
    split
    · exact O
    split
    · exact O
    · show WireOk (WearSpec.Wire.among w x y fun (p : Pl) => { p with left := d })
      refine ok_among O _ _ _ fun p hp => ?_
      exact ⟨by show d ≤ 1000000; omega, hp.2⟩
  | measured x d =>
    show WireOk (if 1000000 < d then (w, WearSpec.says (-1)) else if w.places.length ≤ x then (w, WearSpec.says (-4)) else (WearSpec.Wire.among w x x fun (p : Pl) => { p with left := d }, WearSpec.tells 0 [(d : Int) - (w.leftAt x : Int)])).1
    split
    · exact O
    split
    · exact O
    · show WireOk (WearSpec.Wire.among w x x fun (p : Pl) => { p with left := d })
      refine ok_among O _ _ _ fun p hp => ?_
      exact ⟨by show d ≤ 1000000; omega, hp.2⟩
  | support x o =>
    show WireOk (if WearSpec.far o = true then (w, WearSpec.says (-1)) else if w.places.length ≤ x then (w, WearSpec.says (-4)) else if 6 ≤ w.supports.length ∧ (w.supports.any fun (y : Nat × Int) => y.1 == x) = false then (w, WearSpec.says (-6)) else ({ w with supports := putSupport x o w.supports }, WearSpec.says 0)).1
    split
    · exact O
    rename_i hf
    split
    · exact O
    split
    · exact O
    · rename_i h4 h6
      refine ok_sup O _ (putSupport_rising O.sr) ?_ fun y hy => ?_
      · rw [putSupport_length _ O.sr]
        rw [supAt_any] at h6
        have := O.s6
        cases e : (supAt w.supports x).isSome with
        | true => simpa using this
        | false =>
          rw [e] at h6
          show w.supports.length + 1 ≤ 6
          simp at h6
          omega
      · rcases mem_putSupport hy with h | h
        · rw [h]; exact ⟨by show x < _; omega, far_no hf⟩
        · exact O.sp y h
  | take x =>
    show WireOk (if (w.supports.any fun (y : Nat × Int) => y.1 == x) = false then (w, WearSpec.says (-4)) else ({ w with supports := w.supports.filter fun (y : Nat × Int) => y.1 != x }, WearSpec.says 0)).1
    split
    · exact O
    · exact ok_sup O _ (O.sr.filter _) (Nat.le_trans (List.length_filter_le _ _) O.s6) fun y hy => O.sp y (List.mem_filter.mp hy).1
  | lay row =>
    show WireOk (if row.length ≠ w.supports.length ∨ row.any WearSpec.far = true then (w, WearSpec.says (-1)) else ({ w with supports := laidBy w.supports row }, WearSpec.says 0)).1
    split
    · exact O
    · rename_i h
      have h1 : row.length = w.supports.length := Decidable.byContradiction fun z => h (Or.inl z)
      have h2 : ∀ o ∈ row, -400 ≤ o ∧ o ≤ 400 := fun o ho => far_no fun z => h (Or.inr (List.any_eq_true.mpr ⟨o, ho, z⟩))
      refine ok_sup O _ (laid_rising O.sr h1) (by rw [laid_length _ _ h1]; exact O.s6) fun y hy => ?_
      obtain ⟨i, hi⟩ := List.getElem?_of_mem hy
      have hil := get_lt hi
      rw [laid_length _ _ h1] at hil
      obtain ⟨u, hu⟩ := get_some hil
      obtain ⟨o, ho⟩ := get_some (show i < row.length by omega)
      rw [laid_get hu ho] at hi
      cases hi
      exact ⟨(O.sp u (List.mem_of_getElem? hu)).1, h2 o (List.mem_of_getElem? ho)⟩
  | left x => exact O
  | day => exact O
  | due k x => exact O
  | week x => exact O
  | least => exact O
  | when_ b => exact O
  | until_ x b => exact O
  | pieces b => exact O
  | splices b n => exact O
  | against row => exact O
  | offset x => exact O
  | touches h n => exact O
  | strip h n d => exact O
  | even h n row => exact O
end WW
namespace WW
open PySem PySem.Spec PyProof.Rows L2
open WM
open OwWear hiding Place Kind
/-! ### the holder -/
def HoldAt (A : Ad) (h dx : Addr) (S : List Addr) (H : Hp) : Option Wire → Prop
  | none => H h = some (.ins A.CH dx [("wire", .non)]) ∧ S = [h]
  | some w => ∃ L : Lay, H h = some (.ins A.CH dx [("wire", .ref L.a)]) ∧ WireAt A.CW L H w ∧ WireOk w ∧ h ∉ L.own ∧ S = h :: L.own
/-- what S' names more than S is new -/
def Grow (S S' : List Addr) (H : Hp) : Prop := ∀ b ∈ S', b ∈ S ∨ H b = none
inductive ShapeB : Nat → List Int → List Int → WearSpec.Call → Prop
  | begin_ (m d : Nat) : ShapeB 0 [(m : Int), (d : Int)] [] (.begin_ m d)
  | other {i : Nat} {nums row : List Int} {c : WearSpec.Call} (h : Shape i nums row c) : ShapeB i nums row c
section
variable (A : Ad)
def spCalled : Sp := fun vs H Q E => ∃ (h dx an ar : Addr) (S : List Addr) (s : Option Wire) (i : Nat) (nums row : List Int) (c : WearSpec.Call), vs = [.ref h, .int (i : Int), .ref an, .ref ar] ∧ HoldAt A h dx S H s ∧
  H an = some (.lst (nums.map V.int)) ∧ H ar = some (.lst (row.map V.int)) ∧ an ∉ S ∧ ar ∉ S ∧ ShapeB i nums row c ∧
  (∀ (H' : Hp) (S' : List Addr) (p : Addr), HoldAt A h dx S' H' (WearSpec.step s c).1 → Only S H H' → Grow S S' H → H p = none → H' p = some (.lst ((WearNeutral.told (WearSpec.step s c).2).map V.int)) → Q (.ref p) H') ∧
  (∀ (H' : Hp) (d : Addr) (z : Int), WearSpec.step s c = (s, WearSpec.says z) → Same H H' → H d = none → H' d = some (.xd [("code", .int z)]) → E (.ref A.CS) (some d) H')
def spAnswered : Sp := fun vs H Q _ => ∃ (h dx an ar : Addr) (S : List Addr) (s : Option Wire) (i : Nat) (nums row : List Int) (c : WearSpec.Call), vs = [.ref h, .int (i : Int), .ref an, .ref ar] ∧ HoldAt A h dx S H s ∧
  H an = some (.lst (nums.map V.int)) ∧ H ar = some (.lst (row.map V.int)) ∧ an ∉ S ∧ ar ∉ S ∧ ShapeB i nums row c ∧
  (∀ (H' : Hp) (S' : List Addr) (p : Addr), HoldAt A h dx S' H' (WearSpec.step s c).1 → Only S H H' → Grow S S' H → H p = none → H' p = some (.lst ((WearNeutral.told (WearSpec.step s c).2).map V.int)) → Q (.ref p) H')
def spAns (K : PySem.W.Frag) : Sp := fun vs H Q _ => ∃ (a : Addr) (ns : List Int), vs = [.ref a] ∧ SqL K H a (ns.map V.int) ∧ ns.length ≤ 31700 ∧ PyWrowwr.answers_asked ns = true ∧
  ∀ (H' : Hp) (p : Addr), H' p = some (.lst ((PyWrowwr.answers ns).map V.int)) → Q (.ref p) H'
def deedSp (i : Nat) : Sp := if i = 0 then spBegin else spCall A i
def DeedAt (mg : Str → Option Value) (f : Addr) (sp : Sp) : Prop := ∃ (i : Nat) (x : Str), deedNames[i]? = some x ∧ mg x = some (.ref f) ∧ sp = deedSp A i
end
section
variable {K : PySem.W.Frag} {mg : Str → Option Value} {A : Ad} {h dx : Addr} {S S' : List Addr} {H H' : Hp} {s : Option Wire}
theorem deed_at (T : Txt K mg A) {i : Nat} (hi : i < 26) : ∃ (fs : List Addr) (f : Addr), (∀ H, SqT K H A.tD (fs.map V.ref)) ∧ atI (fs.map V.ref) (i : Int) = some (.ref f) ∧ DeedAt A mg f (deedSp A i) := by
  obtain ⟨fs, h1, h2⟩ := T.t_DEEDS
  obtain ⟨x, hx⟩ := get_some (l := deedNames) (show i < deedNames.length from hi)
  have e : (fs.map fun f => some (Value.ref f))[i]? = some (mg x) := by rw [h2]; exact get_map hx
  obtain ⟨f, hf, e2⟩ := map_get e
  exact ⟨fs, f, h1, atI_nat (get_map hf), i, x, hx, e2, rfl⟩
theorem HoldAt.field (hh : HoldAt A h dx S H s) : ∃ v0, H h = some (.ins A.CH dx [("wire", v0)]) := by
  cases s with
  | none => exact ⟨_, hh.1⟩
  | some w => obtain ⟨L, h1, _⟩ := hh; exact ⟨_, h1⟩
theorem HoldAt.mem (hh : HoldAt A h dx S H s) : h ∈ S := by
  cases s with
  | none => rw [hh.2]; exact List.mem_cons_self
  | some w => obtain ⟨L, _, _, _, _, e⟩ := hh; rw [e]; exact List.mem_cons_self
theorem HoldAt.same (e : Same H H') (hh : HoldAt A h dx S H s) : HoldAt A h dx S H' s := by
  cases s with
  | none => exact ⟨e _ _ hh.1, hh.2⟩
  | some w => obtain ⟨L, h1, W, O, n, q⟩ := hh; exact ⟨L, e _ _ h1, W.same e, O, n, q⟩
/-- where something that is no tuple and not its own is written anew -/
theorem wire_other {C : Addr} {L : Lay} {w : Wire} {p : Addr} {o u : HO} (W : WireAt C L H w) (hp : H p = some o) (ho : ∀ xs, o ≠ .tup xs) (n : p ∉ L.own) : WireAt C L (upd H p u) w := by
  obtain ⟨ts, k1, k2⟩ := W.kin
  obtain ⟨k3, s1, s2⟩ := W.ser
  obtain ⟨k4, u1, u2⟩ := W.sup
  have g : ∀ {b : Addr} {v : HO}, b ∈ L.own → H b = some v → upd H p u b = some v := fun hb hv => by
    rw [upd_ne (fun z => n (by rw [← z]; exact hb))]; exact hv
  exact ⟨g own_a W.ob, g own_al W.left, g own_av W.lev, g own_ax W.ext, ⟨ts, g own_ak k1, k2.keep fun b xs e => by rw [upd_ne (ne_of e hp (fun z => ho _ z.symm))]; exact e⟩, ⟨k3, g own_sv s1, s2.1, s2.2, s2.3⟩, ⟨k4, g own_su u1, u2⟩, W.nd⟩
theorem HoldAt.other {p : Addr} {xs ys : List V} (hh : HoldAt A h dx S H s) (hp : H p = some (.lst xs)) (n : p ∉ S) : HoldAt A h dx S (upd H p (.lst ys)) s := by
  have hne : h ≠ p := fun z => n (by rw [← z]; exact hh.mem)
  cases s with
  | none => exact ⟨by rw [upd_ne hne]; exact hh.1, hh.2⟩
  | some w =>
    obtain ⟨L, h1, W, O, n1, q⟩ := hh
    exact ⟨L, by rw [upd_ne hne]; exact h1, wire_other W hp (by intro _ z; cases z) (fun z => n (by rw [q]; exact List.mem_cons_of_mem _ z)), O, n1, q⟩
theorem hold_some (hh : HoldAt A h dx S H s) {b : Addr} (hb : b ∈ S) : ∃ o, H b = some o := by
  cases s with
  | none =>
    rw [hh.2] at hb
    rw [List.mem_singleton.mp hb]; exact ⟨_, hh.1⟩
  | some w =>
    obtain ⟨L, h1, W, O, n, q⟩ := hh
    rw [q] at hb
    rcases List.mem_cons.mp hb with z | z
    · rw [z]; exact ⟨_, h1⟩
    · simp only [Lay.own, List.mem_cons, List.not_mem_nil, or_false] at z
      obtain ⟨_, k1, _⟩ := W.kin
      obtain ⟨_, k2, _⟩ := W.ser
      obtain ⟨_, k3, _⟩ := W.sup
      rcases z with rfl | rfl | rfl | rfl | rfl | rfl | rfl
      · exact ⟨_, W.ob⟩
      · exact ⟨_, W.left⟩
      · exact ⟨_, W.lev⟩
      · exact ⟨_, W.ext⟩
      · exact ⟨_, k1⟩
      · exact ⟨_, k2⟩
      · exact ⟨_, k3⟩
theorem Shape.pos {i : Nat} {nums row : List Int} {c : WearSpec.Call} (sh : Shape i nums row c) : 1 ≤ i ∧ i < 26 := by cases sh <;> exact ⟨by decide, by decide⟩
theorem ShapeB.lt {i : Nat} {nums row : List Int} {c : WearSpec.Call} (sh : ShapeB i nums row c) : i < 26 := by
  cases sh with
  | begin_ m d => decide
  | other h => exact h.pos.2
theorem step_some {i : Nat} {nums row : List Int} {c : WearSpec.Call} (sh : Shape i nums row c) (w : Wire) : WearSpec.step (some w) c = (some (WearSpec.act w c).1, (WearSpec.act w c).2) := by cases sh <;> rfl
theorem step_none {i : Nat} {nums row : List Int} {c : WearSpec.Call} (sh : Shape i nums row c) : WearSpec.step none c = (none, WearSpec.says (-2)) := by cases sh <;> rfl
theorem r_make {C : Addr} {sp : Sp} {dvs : List V} {E : XK} {t : TA} {σ : L2.St} {Q : VK} (q : t σ H fun vs H1 => ∀ x dx, H1 x = none → H1 dx = none → dx ≠ x → sp (.ref x :: (vs ++ dvs)) (upd (upd H1 dx (.own x)) x (.ins C dx [])) (fun v H2 => v = .non ∧ Q (.ref x) H2) E) : tMake C sp dvs E t σ H Q := q
theorem r_callS {sp : Sp} {E : L2.St → XK} {t : TA} {σ : L2.St} {Q : VK} (q : t σ H fun vs H1 => sp vs H1 Q (E σ)) : tCallS sp E t σ H Q := q
theorem r_callAX {i : Nat} {D : Addr → Sp → Prop} {E : XK} {t : TA} {σ : L2.St} {Q : VK} {f : Addr} {sp : Sp} (h1 : σ[i]? = some (some (.ref f))) (h2 : D f sp) (q : t σ H fun vs H1 => sp vs H1 Q E) : tCallAX i D E t σ H Q := ⟨f, sp, h1, h2, q⟩
/-- a list that stands: new objects and changes of S leave it -/
def Stands (K : PySem.W.Frag) (H : Hp) (S : List Addr) (a : Addr) (xs : List V) : Prop := (∃ o, H a = some o ∧ a ∉ S ∧ ∀ H', H' a = some o → SqL K H' a xs) ∨ ∀ H', SqL K H' a xs
theorem Stands.seq {a : Addr} {xs : List V} (z : Stands K H S a xs) : SqL K H a xs := by
  rcases z with ⟨o, h1, _, h2⟩ | h
  · exact h2 H h1
  · exact h H
theorem stands_of {a : Addr} {xs : List V} (z : SqL K H a xs) : Stands K H [] a xs := by
  rcases z with (h | ⟨o, h⟩) | h
  · exact Or.inl ⟨_, h, by simp, fun H' e => .inl (.inl e)⟩
  · exact Or.inl ⟨_, h, by simp, fun H' e => .inl (.inr ⟨o, e⟩)⟩
  · exact Or.inr fun H' => .inr h
theorem Stands.then {a : Addr} {xs : List V} (z : Stands K H S a xs) (o : Only S H H') (g : Grow S S' H) : Stands K H' S' a xs := by
  rcases z with ⟨u, h1, h2, h3⟩ | h
  · refine Or.inl ⟨u, o _ _ h1 h2, fun hm => ?_, h3⟩
    rcases g a hm with k | k
    · exact h2 k
    · rw [h1] at k; cases k
  · exact Or.inr h
theorem Grow.refl (S : List Addr) (H : Hp) : Grow S S H := fun _ hb => Or.inl hb
end
/-! ### the calls, one behind another -/
def rowed (i : Nat) : Prop := i = 18 ∨ i = 24 ∨ i = 25
instance (i : Nat) : Decidable (rowed i) := by unfold rowed; infer_instance
def numsN (i : Nat) : Nat := (numbersI.getD i 0).toNat
theorem shape_at : ∀ i : Nat, i < 26 → PyWrowwr.shape (i : Int) = some (numsN i, if rowed i then 1 else 0) := by decide +kernel
theorem nums_get : ∀ i : Nat, i < 26 → numbersI[i]? = some (numsN i : Int) := by decide +kernel
theorem in_row : ∀ i : Nat, i < 26 → inV (.int (i : Int)) (([18, 24, 25] : List Int).map V.int) = decide (rowed i) := by decide +kernel
theorem w32 {z : Int} (h : WearNeutral.whole32 z = true) : ((z.toNat : Nat) : Int) = z := by
  unfold WearNeutral.whole32 at h
  rw [Bool.and_eq_true] at h
  have := of_decide_eq_true h.1
  omega
theorem long_len {l : List Int} {n : Nat} {lo hi : Int} (h : WearNeutral.long l n lo hi = true) : l.length ≤ n ∧ ∀ z ∈ l, lo ≤ z := by
  unfold WearNeutral.long at h
  rw [Bool.and_eq_true] at h
  refine ⟨of_decide_eq_true h.1, fun z hz => ?_⟩
  have := List.all_eq_true.mp h.2 z hz
  rw [Bool.and_eq_true] at this
  exact of_decide_eq_true this.1
/-- what a call that may be asked is -/
def IsCall (c : WearNeutral.Call) (i : Nat) (nums row : List Int) (call : WearSpec.Call) : Prop :=
  ShapeB i nums row call ∧ WearNeutral.callOf c = some call ∧ ((c = [(i : Int) :: nums] ∧ row = [] ∧ ¬ rowed i) ∨ (c = [(i : Int) :: nums, row] ∧ rowed i))
theorem asked_is {c : WearNeutral.Call} (h : WearNeutral.asked1 c = true) : ∃ i nums row call, IsCall c i nums row call := by
  unfold WearNeutral.asked1 at h
  split at h
  · rename_i m d; rw [Bool.and_eq_true] at h
    rw [← w32 h.1, ← w32 h.2]; exact ⟨_, _, _, _, ShapeB.begin_ _ _, rfl, Or.inl ⟨rfl, rfl, by decide⟩⟩
  · rename_i x y a; rw [Bool.and_eq_true, Bool.and_eq_true] at h
    rw [← w32 h.1.1, ← w32 h.1.2, ← w32 h.2]; exact ⟨_, _, _, _, .other (.draw _ _ _), rfl, Or.inl ⟨rfl, rfl, by decide⟩⟩
  · rw [Bool.and_eq_true] at h
    rw [← w32 h.1, ← w32 h.2]; exact ⟨_, _, _, _, .other (.gap _ _), rfl, Or.inl ⟨rfl, rfl, by decide⟩⟩
  · rw [Bool.and_eq_true] at h
    rw [← w32 h.1, ← w32 h.2]; exact ⟨_, _, _, _, .other (.kind _ _), rfl, Or.inl ⟨rfl, rfl, by decide⟩⟩
  · rw [Bool.and_eq_true, Bool.and_eq_true] at h
    rw [← w32 h.1.1, ← w32 h.1.2, ← w32 h.2]; exact ⟨_, _, _, _, .other (.service _ _ _), rfl, Or.inl ⟨rfl, rfl, by decide⟩⟩
  · rw [Bool.and_eq_true] at h
    rw [← w32 h.1, ← w32 h.2]; exact ⟨_, _, _, _, .other (.pass _ _), rfl, Or.inl ⟨rfl, rfl, by decide⟩⟩
  · rw [← w32 h]; exact ⟨_, _, _, _, .other (.days _), rfl, Or.inl ⟨rfl, rfl, by decide⟩⟩
  · rw [Bool.and_eq_true, Bool.and_eq_true] at h
    rw [← w32 h.1.1, ← w32 h.1.2, ← w32 h.2]; exact ⟨_, _, _, _, .other (.splice _ _ _), rfl, Or.inl ⟨rfl, rfl, by decide⟩⟩
  · rw [Bool.and_eq_true] at h
    rw [← w32 h.1, ← w32 h.2]; exact ⟨_, _, _, _, .other (.measured _ _), rfl, Or.inl ⟨rfl, rfl, by decide⟩⟩
  · rw [← w32 h]; exact ⟨_, _, _, _, .other (.left _), rfl, Or.inl ⟨rfl, rfl, by decide⟩⟩
  · exact ⟨_, _, _, _, .other .day, rfl, Or.inl ⟨rfl, rfl, by decide⟩⟩
  · rw [Bool.and_eq_true] at h
    rw [← w32 h.1, ← w32 h.2]; exact ⟨_, _, _, _, .other (.due _ _), rfl, Or.inl ⟨rfl, rfl, by decide⟩⟩
  · rw [← w32 h]; exact ⟨_, _, _, _, .other (.week _), rfl, Or.inl ⟨rfl, rfl, by decide⟩⟩
  · exact ⟨_, _, _, _, .other .least, rfl, Or.inl ⟨rfl, rfl, by decide⟩⟩
  · rw [← w32 h]; exact ⟨_, _, _, _, .other (.when_ _), rfl, Or.inl ⟨rfl, rfl, by decide⟩⟩
  · rw [Bool.and_eq_true] at h
    rw [← w32 h.1, ← w32 h.2]; exact ⟨_, _, _, _, .other (.until_ _ _), rfl, Or.inl ⟨rfl, rfl, by decide⟩⟩
  · rw [← w32 h]; exact ⟨_, _, _, _, .other (.pieces _), rfl, Or.inl ⟨rfl, rfl, by decide⟩⟩
  · rw [Bool.and_eq_true] at h
    rw [← w32 h.1, ← w32 h.2]; exact ⟨_, _, _, _, .other (.splices _ _), rfl, Or.inl ⟨rfl, rfl, by decide⟩⟩
  · rename_i l
    obtain ⟨h1, h2⟩ := long_len h
    have e : (l.map Int.toNat).map (fun (n : Nat) => (n : Int)) = l := by
      rw [List.map_map]
      have : ∀ z ∈ l, ((fun (n : Nat) => (n : Int)) ∘ Int.toNat) z = z := fun z hz => by have := h2 z hz; show ((z.toNat : Nat) : Int) = z; omega
      exact (List.map_congr_left (g := id) this).trans (List.map_id _)
    have sh := Shape.against (l.map Int.toNat) (by rw [List.length_map]; exact h1)
    rw [e] at sh
    exact ⟨_, _, _, _, .other sh, rfl, Or.inr ⟨rfl, by decide⟩⟩
  · rw [Bool.and_eq_true] at h
    rw [← w32 h.1]; exact ⟨_, _, _, _, .other (.support _ _), rfl, Or.inl ⟨rfl, rfl, by decide⟩⟩
  · rw [← w32 h]; exact ⟨_, _, _, _, .other (.take _), rfl, Or.inl ⟨rfl, rfl, by decide⟩⟩
  · rw [← w32 h]; exact ⟨_, _, _, _, .other (.offset _), rfl, Or.inl ⟨rfl, rfl, by decide⟩⟩
  · rw [Bool.and_eq_true] at h
    rw [← w32 h.1, ← w32 h.2]; exact ⟨_, _, _, _, .other (.touches _ _), rfl, Or.inl ⟨rfl, rfl, by decide⟩⟩
  · rw [Bool.and_eq_true, Bool.and_eq_true] at h
    rw [← w32 h.1.1, ← w32 h.1.2, ← w32 h.2]; exact ⟨_, _, _, _, .other (.strip _ _ _), rfl, Or.inl ⟨rfl, rfl, by decide⟩⟩
  · rw [Bool.and_eq_true, Bool.and_eq_true] at h
    rw [← w32 h.1.1, ← w32 h.1.2]; exact ⟨_, _, _, _, .other (.even _ _ _ (long_len h.2).1), rfl, Or.inr ⟨rfl, by decide⟩⟩
  · exact ⟨_, _, _, _, .other (.lay _ (long_len h).1), rfl, Or.inr ⟨rfl, by decide⟩⟩
  · cases h
theorem whole_is (c : List (List Int)) : PyWrowwr.whole c = c := by
  unfold PyWrowwr.whole
  split <;> rfl
/-- one call off the list -/
theorem parse_one {p : Int} {r t : List Int} {c : List (List Int)} (hc : PyFlat.call PyWrowwr.shape (p :: r) = some (c, t)) (ha : WearNeutral.asked1 c = true) :
    ∃ (i : Nat) (nums row : List Int) (call : WearSpec.Call), p = (i : Int) ∧ ShapeB i nums row call ∧ WearNeutral.callOf c = some call ∧ numsN i ≤ r.length ∧ nums = r.take (numsN i) ∧
      ((¬ rowed i ∧ row = [] ∧ t = r.drop (numsN i)) ∨ (rowed i ∧ ∃ (m : Nat) (r' : List Int), r.drop (numsN i) = (m : Int) :: r' ∧ m ≤ r'.length ∧ row = r'.take m ∧ t = r'.drop m)) := by
  obtain ⟨i, nums, row, call, sh, hcall, hform⟩ := asked_is ha
  have hi := sh.lt
  have hp : p = (i : Int) ∧ ∃ n k xs, PyWrowwr.shape p = some (n, k) ∧ n ≤ r.length ∧ PyFlat.rows k (r.drop n) = some (xs, t) ∧ c = (p :: r.take n) :: xs := by
    unfold PyFlat.call at hc
    simp only at hc
    cases hs : PyWrowwr.shape p with
    | none => rw [hs] at hc; cases hc
    | some nk =>
      obtain ⟨n, k⟩ := nk
      rw [hs] at hc
      simp only at hc
      by_cases hl : r.length < n
      · rw [if_pos hl] at hc; cases hc
      · rw [if_neg hl] at hc
        cases hr : PyFlat.rows k (r.drop n) with
        | none => rw [hr] at hc; cases hc
        | some xt =>
          obtain ⟨xs, t'⟩ := xt
          rw [hr] at hc
          have hc := Option.some.inj hc
          have e1 : (p :: r.take n) :: xs = c := congrArg Prod.fst hc
          have e2 : t' = t := congrArg Prod.snd hc
          refine ⟨?_, n, k, xs, rfl, by omega, by rw [← e2]; exact hr, e1.symm⟩
          rcases hform with ⟨h1, _⟩ | ⟨h1, _⟩
          · rw [h1] at e1; injection e1 with e1 _; injection e1 with e1 _
          · rw [h1] at e1; injection e1 with e1 _; injection e1 with e1 _
  obtain ⟨rfl, n, k, xs, hs, hn, hr, hcc⟩ := hp
  rw [shape_at i hi] at hs
  have hs := Option.some.inj hs
  have en : numsN i = n := congrArg Prod.fst hs
  have ek : (if rowed i then 1 else 0) = k := congrArg Prod.snd hs
  subst en
  refine ⟨i, nums, row, call, rfl, sh, hcall, hn, ?_, ?_⟩
  · rcases hform with ⟨h1, _⟩ | ⟨h1, _⟩
    · rw [h1] at hcc; injection hcc with e1 _; injection e1 with _ e1
    · rw [h1] at hcc; injection hcc with e1 _; injection e1 with _ e1
  · rcases hform with ⟨h1, h2, h3⟩ | ⟨h1, h2⟩
    · left
      rw [if_neg h3] at ek
      subst ek
      have hr : some (([] : List (List Int)), r.drop (numsN i)) = some (xs, t) := hr
      exact ⟨h3, h2, (congrArg Prod.snd (Option.some.inj hr)).symm⟩
    · right
      rw [if_pos h2] at ek
      subst ek
      refine ⟨h2, ?_⟩
      rw [h1] at hcc
      injection hcc with _ hx
      unfold PyFlat.rows at hr
      cases hd : r.drop (numsN i) with
      | nil => rw [hd] at hr; cases hr
      | cons m0 r' =>
        rw [hd] at hr
        have er : PyFlat.row (m0 :: r') = if 0 ≤ m0 ∧ m0.toNat ≤ r'.length then some (r'.take m0.toNat, r'.drop m0.toNat) else none := rfl
        rw [er] at hr
        by_cases hm : 0 ≤ m0 ∧ m0.toNat ≤ r'.length
        · rw [if_pos hm] at hr
          have hr : some ([r'.take m0.toNat], r'.drop m0.toNat) = some (xs, t) := hr
          have hr := Option.some.inj hr
          have e1 : [r'.take m0.toNat] = xs := congrArg Prod.fst hr
          have e2 : r'.drop m0.toNat = t := congrArg Prod.snd hr
          rw [← e1] at hx
          injection hx with hx _
          refine ⟨m0.toNat, r', ?_, hm.2, hx, e2.symm⟩
          rw [Int.toNat_of_nonneg hm.1]
        · rw [if_neg hm] at hr; cases hr
theorem cut_nat (l : List Int) {a b : Nat} (hb : b ≤ l.length) (hab : a ≤ b) : cutV (l.map V.int) (some (a : Int)) (some (b : Int)) = ((l.drop a).take (b - a)).map V.int := by
  unfold cutV
  rw [HT.sIx_nat, HT.sIx_nat, List.length_map, Nat.min_eq_left hb, Nat.min_eq_left (show a ≤ l.length by omega), List.map_take, List.map_drop]
/-- what is still to be answered -/
def Rest (s : Option Wire) (rest : List Int) (out : List Int) : Prop := ∃ (f : Nat) (cs : List (List (List Int))), PyFlat.calls PyWrowwr.shape f rest = some cs ∧ (∀ c ∈ cs, WearNeutral.asked1 c = true) ∧ out = PyFlat.told (PyFlat.played WearNeutral.step s cs)
theorem rest_start {ns : List Int} (h : PyWrowwr.answers_asked ns = true) : Rest none ns (PyWrowwr.answers ns) ∧ (PyWrowwr.answers ns).length ≤ 10000000 := by
  unfold PyWrowwr.answers_asked at h
  unfold PyWrowwr.answers
  unfold PyWrowwr.calls
  unfold PyWrowwr.answers PyWrowwr.calls at h
  cases e : PyFlat.calls PyWrowwr.shape ns.length ns with
  | none => rw [e] at h; cases h
  | some raw =>
    rw [e] at h
    have hw : raw.map PyWrowwr.whole = raw := by
      have : ∀ c ∈ raw, PyWrowwr.whole c = id c := fun c _ => whole_is c
      exact (List.map_congr_left this).trans (List.map_id _)
    simp only [hw, Bool.and_eq_true] at h ⊢
    obtain ⟨⟨_, h2⟩, h3⟩ := h
    unfold WearNeutral.asked at h2
    simp only [Bool.and_eq_true] at h2
    unfold PyFlat.short at h3
    exact ⟨⟨_, raw, e, fun c hc => List.all_eq_true.mp h2.1.2 c hc, rfl⟩, of_decide_eq_true h3⟩
theorem rest_nil {s : Option Wire} {out : List Int} (h : Rest s [] out) : out = [] := by
  obtain ⟨f, cs, h1, _, h3⟩ := h
  have : cs = [] := by
    cases f with
    | zero => exact (Option.some.inj h1).symm
    | succ f => exact (Option.some.inj h1).symm
  rw [h3, this]; rfl
theorem rest_cons {s : Option Wire} {p : Int} {r out : List Int} (h : Rest s (p :: r) out) :
    ∃ (i : Nat) (nums row : List Int) (call : WearSpec.Call) (t out' : List Int), p = (i : Int) ∧ ShapeB i nums row call ∧ numsN i ≤ r.length ∧ nums = r.take (numsN i) ∧
      ((¬ rowed i ∧ row = [] ∧ t = r.drop (numsN i)) ∨ (rowed i ∧ ∃ (m : Nat) (r' : List Int), r.drop (numsN i) = (m : Int) :: r' ∧ m ≤ r'.length ∧ row = r'.take m ∧ t = r'.drop m)) ∧
      Rest (WearSpec.step s call).1 t out' ∧ out = (((WearNeutral.told (WearSpec.step s call).2).length : Nat) : Int) :: (WearNeutral.told (WearSpec.step s call).2 ++ out') := by
  obtain ⟨f, cs, h1, h2, h3⟩ := h
  cases f with
  | zero => cases h1
  | succ f =>
    unfold PyFlat.calls at h1
    cases hc : PyFlat.call PyWrowwr.shape (p :: r) with
    | none => rw [hc] at h1; cases h1
    | some ct =>
      obtain ⟨c, t⟩ := ct
      rw [hc] at h1
      simp only at h1
      cases hr : PyFlat.calls PyWrowwr.shape f t with
      | none => rw [hr] at h1; cases h1
      | some cs' =>
        rw [hr] at h1
        have e : c :: cs' = cs := Option.some.inj h1
        subst e
        obtain ⟨i, nums, row, call, e1, e2, e3, e4, e5, e6⟩ := parse_one hc (h2 c List.mem_cons_self)
        have es : WearNeutral.step s c = ((WearSpec.step s call).1, WearNeutral.told (WearSpec.step s call).2) := by
          unfold WearNeutral.step
          rw [e3]
        refine ⟨i, nums, row, call, t, PyFlat.told (PyFlat.played WearNeutral.step (WearSpec.step s call).1 cs'), e1, e2, e4, e5, e6, ⟨f, cs', hr, fun x hx => h2 x (List.mem_cons_of_mem _ hx), rfl⟩, ?_⟩
        rw [h3]
        show PyFlat.told ((WearNeutral.step s c).2 :: PyFlat.played WearNeutral.step (WearNeutral.step s c).1 cs') = _
        rw [es]; rfl
end WW
namespace WW
open PySem PySem.Spec PyProof.Rows L2
open WM
open OwWear hiding Place Kind
section
variable {P : Program} {wd : World} {K : PySem.W.Frag} {mg : Str → Option Value} {base : Heap} {A : Ad}
local macro_rules | `(tactic| walk_at "rd") => `(tactic| with_reducible (first
  | refine r_seq ?_ | refine r_asg ?_ | refine r_drop ?_ | refine r_ret ?_ | refine r_next ?_ | refine r_ifs ?_ | refine r_gname ?_
  | refine r_var (by with_unfolding_all rfl) ?_ | refine r_c ?_ | refine r_op ?_ | refine r_un ?_ | refine r_test ?_ | refine r_tB ?_
  | refine r_i0 ?_ | refine r_u ?_ | refine r_eqI ?_ | refine r_cons ?_ | refine r_nil ?_ | refine r_tup ?_ | refine r_lst ?_ | refine r_cb ?_ | refine r_call ?_
  | refine r_fld ?_ | refine r_if ?_ | refine r_gcons ?_ | refine r_gnil ?_ | refine r_bl ?_ | refine r_intEx ?_
  | refine r_for ?_ | refine r_rng1 ?_ | refine r_rng2 ?_ | refine r_ilist ?_ | refine r_ienum ?_ | refine r_izip ?_ | refine r_par ?_ | refine r_meth ?_ | refine r_aug (by with_unfolding_all rfl) ?_ | refine r_ip ?_
  | refine r_bm ?_ | refine r_gsub ?_ | refine r_sfld ?_ | refine r_sl ?_ | refine r_part ?_ | refine r_nopart ?_ | refine r_and ?_ | refine r_or ?_ | refine r_augS ?_ | refine r_lc ?_ | refine r_dnotin ?_ | refine r_din ?_ | refine r_dget ?_ | refine r_sdput ?_ | refine r_dget2 ?_ | refine r_dpop1 ?_ | refine r_dnewT ?_ | refine r_dnewK ?_ | refine r_sfldaug ?_ | refine r_not ?_ | refine r_yes ?_))
local macro_rules | `(tactic| walk_at "run") => `(tactic| repeat walk_at "rd")
local macro_rules | `(tactic| walk_at "val") => `(tactic| (intro Q' q'; walk_at "run"; exact q'))
abbrev s_divisor : Stmt := topS 1
abbrev N_divisor : List Str := ["one", "other"]
theorem sc_divisor : FnScope N_divisor ["one", "other"] (defScope s_divisor) := ⟨rfl, rfl, rfl, by decide +kernel, rfl, by decide +kernel, by decide +kernel⟩
set_option maxHeartbeats 4000000 in
theorem cal_divisor (T : Txt K mg A) (D : Def1 K mg "divisor" s_divisor) : Call1 P wd K mg base CX0 1 "divisor" spDivisor := by
  obtain ⟨f, fd, F, hm⟩ := D.ex
  refine ⟨f, fd, ["one", "other"], F.ok (k := 0) sc_divisor (fun vs H Q E h => by obtain ⟨_, _, rfl, _⟩ := h; rfl) (fun cdv AA outer s H vs Q E hr h => ⟨_, (pss_cons (ps_set (i := 0) sc_divisor.nd rfl (Or.inl rfl) (pe_callB call_abs rfl T.b_abs (by decide +kernel) (pa_cons (pv 0) pa_nil)))
      (pss_cons (ps_while PassesOwn.never (pt_cmpR op_gt (pv 0) pe_int (nomark _))
      (pss_one (ps_par (i := 0) (j := 1) rfl sc_divisor.nd rfl rfl (by decide) rfl rfl (pa_cons (pe_op op_mod (pv 1) (pv 0)) (pa_cons (pv 0) pa_nil)) (by rfl))))
      (pss_one (ps_ret (pv 1))))), ?_⟩), hm, F.kp, F.binds (ps := ["one", "other"]) fun _ _ _ _ _ _ us hl => match us, hl with | [_, _], _ => rfl⟩
  obtain ⟨a, b, rfl, hb, q⟩ := h
  walk_at "run"
  refine ⟨a, rfl, ?_⟩
  walk_at "run"
  refine ⟨fun m σ H' => ∃ x y : Int, σ = [some (.int x), some (.int y)] ∧ H' = H ∧ m = x.toNat ∧ 0 ≤ x ∧ 0 < y ∧ Int.gcd x y = Int.gcd a b, ⟨_, _, b, rfl, rfl, rfl, ?_, hb, ?_⟩, ?_⟩
  · split <;> omega
  · split
    · exact Int.neg_gcd
    · rfl
  rintro m σ H' ⟨x, y, rfl, rfl, rfl, hx, hy, hg⟩
  walk_at "run"
  refine iteD (fun c => ⟨_, fun _ _ h => h, ?_⟩) fun c => ?_
  · walk_at "run"
    refine r_i (show (0 : Int) < x from c) ?_
    walk_at "run"
    refine ⟨_, _, rfl, _, ?_, y % x, x, rfl, rfl, rfl, Int.emod_nonneg _ (by omega), c, ?_⟩
    · have := Int.emod_lt_of_pos y c
      have := Int.emod_nonneg y (show x ≠ 0 by omega)
      omega
    · rw [← hg]
      obtain ⟨i, rfl⟩ := Int.eq_ofNat_of_zero_le hx
      obtain ⟨j, rfl⟩ := Int.eq_ofNat_of_zero_le (show 0 ≤ y by omega)
      rw [← Int.natCast_emod]
      show Nat.gcd (j % i) i = Nat.gcd i j
      exact (Nat.gcd_rec i j).symm
  · have e : x = 0 := by omega
    subst e
    walk_at "run"
    rw [← hg] at q
    rw [Int.gcd_zero_left] at q
    have e2 : ((y.natAbs : Nat) : Int) = y := by omega
    rw [e2] at q
    exact q
abbrev s_lowest : Stmt := topS 2
abbrev N_lowest : List Str := ["part", "whole", "shared"]
theorem sc_lowest : FnScope N_lowest ["part", "whole"] (defScope s_lowest) := ⟨rfl, rfl, rfl, by decide +kernel, rfl, by decide +kernel, by decide +kernel⟩
set_option maxHeartbeats 4000000 in
theorem cal_lowest (T : Txt K mg A) (D : Def1 K mg "lowest" s_lowest) (c_divisor : Call1 P wd K mg base CX0 1 "divisor" spDivisor) : Call1 P wd K mg base CX0 2 "lowest" spLowest := by
  obtain ⟨f, fd, F, hm⟩ := D.ex
  refine ⟨f, fd, ["part", "whole"], F.ok (k := 1) sc_lowest (fun vs H Q E h => by obtain ⟨_, _, rfl, _⟩ := h; rfl) (fun cdv AA outer s H vs Q E hr h => ⟨_, (pss_cons (ps_set (i := 2) sc_lowest.nd rfl (Or.inl rfl) (pe_c1 c_divisor hr (by decide) pass0 rfl (pa_cons (pv 0) (pa_cons (pv 1) pa_nil))))
      (pss_one (ps_ret (pe_tup (pa_cons (pe_op op_fdiv (pv 0) (pv 2)) (pa_cons (pe_op op_fdiv (pv 1) (pv 2)) pa_nil)))))), ?_⟩), hm, F.kp, F.binds (ps := ["part", "whole"]) fun _ _ _ _ _ _ us hl => match us, hl with | [_, _], _ => rfl⟩
  obtain ⟨n, w, rfl, hw, hw2, q⟩ := h
  have g1 : 0 < (Int.gcd n w : Int) := by
    have := Int.gcd_pos_of_ne_zero_right n (show w ≠ 0 by omega)
    omega
  have g2 : (Int.gcd n w : Int) ≤ w := Int.le_of_dvd hw (Int.gcd_dvd_right n w)
  walk_at "run"
  refine ⟨n, w, rfl, hw, ?_⟩
  walk_at "run"
  refine r_i ⟨g1, by omega⟩ ?_
  walk_at "run"
  refine r_i ⟨g1, by omega⟩ ?_
  walk_at "run"
  exact ⟨sl60 (by show 2 ≤ 100000; decide), fun p hp => q _ p (Same.new hp) hp upd_same⟩
abbrev s_between : Stmt := topS 3
abbrev N_between : List Str := ["first", "second", "place", "whole"]
theorem sc_between : FnScope N_between ["first", "second", "place"] (defScope s_between) := ⟨rfl, rfl, rfl, by decide +kernel, rfl, by decide +kernel, by decide +kernel⟩
set_option maxHeartbeats 4000000 in
theorem cal_between (T : Txt K mg A) (D : Def1 K mg "between" s_between) (c_lowest : Call1 P wd K mg base CX0 2 "lowest" spLowest) : Call1 P wd K mg base CX0 3 "between" spBetween := by
  obtain ⟨f, fd, F, hm⟩ := D.ex
  refine ⟨f, fd, ["first", "second", "place"], F.ok (k := 2) sc_between (fun vs H Q E h => by obtain ⟨_, _, _, _, _, _, _, rfl, _⟩ := h; rfl) (fun cdv AA outer s H vs Q E hr h => ⟨_, (pss_cons (ps_if (pt_cmpR op_eq (pe_ix ix_tup (pv 0) pe_int (fun _ _ => rfl)) (pe_ix ix_tup (pv 1) pe_int (fun _ _ => rfl)) (nomark _)) (pss_one (ps_ret (pe_tup (pa_cons (pe_ix ix_tup (pv 0) pe_int (fun _ _ => rfl)) (pa_cons pe_int pa_nil))))) pss_nil)
      (pss_cons (ps_set (i := 3) sc_between.nd rfl (Or.inl rfl) (pe_op op_sub (pe_ix ix_tup (pv 1) pe_int (fun _ _ => rfl)) (pe_ix ix_tup (pv 0) pe_int (fun _ _ => rfl))))
      (pss_one (ps_ret (pe_c1 c_lowest hr (by decide) pass0 rfl (pa_cons (pe_op op_add (pe_op op_mul (pe_ix ix_tup (pv 0) pe_int (fun _ _ => rfl)) (pv 3)) (pe_op op_mul (pe_op op_sub (pe_ix ix_tup (pv 1) pe_int (fun _ _ => rfl)) (pe_ix ix_tup (pv 0) pe_int (fun _ _ => rfl))) (pe_op op_sub (pv 2) (pe_ix ix_tup (pv 0) pe_int (fun _ _ => rfl))))) (pa_cons (pv 3) pa_nil))))))), ?_⟩), hm, F.kp, F.binds (ps := ["first", "second", "place"]) fun _ _ _ _ _ _ us hl => match us, hl with | [_, _, _], _ => rfl⟩
  obtain ⟨f0, g0, a, p, b, qq, x, rfl, hf, hg, hab, hd, p1, p2, q1, q2, q⟩ := h
  have ix0 : ∀ {y z : V}, atI [y, z] 0 = some y := fun {y z} => at_of (j := 0) rfl rfl
  have ix1 : ∀ {y z : V}, atI [y, z] 1 = some z := fun {y z} => at_of (j := 1) rfl rfl
  walk_at "run"
  refine ⟨_, _, _, _, rfl, rfl, SqT.of hf, ix0, ?_⟩
  walk_at "run"
  refine ⟨_, _, _, _, rfl, rfl, SqT.of hg, ix0, ?_⟩
  walk_at "run"
  refine iteD (fun c => ?_) fun c => ?_
  · have c : a = b := V.int.inj c
    walk_at "run"
    refine ⟨_, _, _, _, rfl, rfl, SqT.of hf, ix1, ?_⟩
    walk_at "run"
    refine ⟨sl60 (by show 2 ≤ 100000; decide), fun t ht => q _ t (Same.new ht) ht ?_⟩
    unfold betwI
    rw [if_pos c]
    exact upd_same
  · have c : a ≠ b := fun z => c (by rw [z])
    walk_at "run"
    refine ⟨_, _, _, _, rfl, rfl, SqT.of hg, ix0, ?_⟩
    walk_at "run"
    refine ⟨_, _, _, _, rfl, rfl, SqT.of hf, ix0, ?_⟩
    walk_at "run"
    refine ⟨_, _, _, _, rfl, rfl, SqT.of hf, ix1, ?_⟩
    walk_at "run"
    refine r_i (Or.inr ⟨by omega, by omega⟩) ?_
    walk_at "run"
    refine ⟨_, _, _, _, rfl, rfl, SqT.of hg, ix1, ?_⟩
    walk_at "run"
    refine ⟨_, _, _, _, rfl, rfl, SqT.of hf, ix1, ?_⟩
    walk_at "run"
    refine ⟨_, _, _, _, rfl, rfl, SqT.of hf, ix0, ?_⟩
    walk_at "run"
    refine r_i (Or.inl ⟨by omega, by omega⟩) ?_
    walk_at "run"
    refine ⟨_, _, rfl, by omega, by omega, ?_⟩
    unfold betwI at q
    rw [if_neg c] at q
    exact q
abbrev s_cell_of : Stmt := topS 4
abbrev N_cell_of : List Str := ["offset", "half", "many", "part", "whole"]
theorem sc_cell_of : FnScope N_cell_of ["offset", "half", "many"] (defScope s_cell_of) := ⟨rfl, rfl, rfl, by decide +kernel, rfl, by decide +kernel, by decide +kernel⟩
set_option maxHeartbeats 4000000 in
theorem cal_cell_of (T : Txt K mg A) (D : Def1 K mg "cell_of" s_cell_of) : Call1 P wd K mg base CX0 1 "cell_of" spCellOf := by
  obtain ⟨f, fd, F, hm⟩ := D.ex
  refine ⟨f, fd, ["offset", "half", "many"], F.ok (k := 0) sc_cell_of (fun vs H Q E h => by obtain ⟨_, _, _, _, rfl, _⟩ := h; rfl) (fun cdv AA outer s H vs Q E hr h => ⟨_, (pss_cons (ps_asg (pv 0) (pg_tup rfl (pgs_cons (pg_name (i := 3) sc_cell_of.nd rfl (Or.inl rfl)) (pgs_cons (pg_name (i := 4) sc_cell_of.nd rfl (Or.inl rfl)) pgs_nil))))
      (pss_cons (ps_if (PW.pt (pw_or (pt_cmpR op_lt (pv 3) (pe_op op_mul (pe_un un_neg (pv 1)) (pv 4)) (nomark _)) (pw_or1 (pt_cmpR op_gt (pv 3) (pe_op op_mul (pv 1) (pv 4)) (nomark _))))) (pss_one (ps_ret (pe_un un_neg pe_int))) pss_nil)
      (pss_one (ps_ret (pe_callB (call_min2 rfl) rfl T.b_min (by decide +kernel) (pa_cons (pe_op op_sub (pv 2) pe_int) (pa_cons (pe_op op_fdiv (pe_op op_mul (pe_op op_add (pv 3) (pe_op op_mul (pv 1) (pv 4))) (pv 2)) (pe_op op_mul (pe_op op_mul pe_int (pv 1)) (pv 4))) pa_nil))))))), ?_⟩), hm, F.kp, F.binds (ps := ["offset", "half", "many"]) fun _ _ _ _ _ _ us hl => match us, hl with | [_, _, _], _ => rfl⟩
  obtain ⟨f0, ⟨pt, wh⟩, h, n, rfl, hf, hw, hw2, h1, h2, n1, n2, q⟩ := h
  have m0 : (h : Int) * wh < 1000000 ∧ 0 < (h : Int) * wh := by
    have e1 : (h : Int) * wh ≤ 1000 * wh := Int.mul_le_mul_of_nonneg_right (by omega) (by omega)
    have e2 : 0 < (h : Int) * wh := Int.mul_pos (by omega) hw
    have : wh < 1000 := hw2
    omega
  have m1 : 2 * (h : Int) * wh = 2 * ((h : Int) * wh) := Int.mul_assoc _ _ _
  walk_at "run"
  refine r_gtup (SqT.of hf) rfl ?_
  walk_at "run"
  refine r_i (Or.inl ⟨by omega, by omega⟩) ?_
  walk_at "run"
  unfold cellI at q
  refine iteD (fun c => iteT ?_) fun c => ?_
  · rw [if_pos (Or.inl c)] at q
    walk_at "run"
    exact q
  walk_at "run"
  refine r_i (Or.inl ⟨by omega, by omega⟩) ?_
  walk_at "run"
  refine iteD (fun c2 => ?_) fun c2 => ?_
  · rw [if_pos (Or.inr c2)] at q
    walk_at "run"
    exact q
  rw [if_neg (by rintro (z | z); exact c z; exact c2 z)] at q
  walk_at "run"
  refine r_i (Or.inl ⟨by omega, by omega⟩) ?_
  walk_at "run"
  refine r_i (Or.inr ⟨by omega, by omega⟩) ?_
  walk_at "run"
  refine r_i (Or.inl ⟨by omega, by omega⟩) ?_
  walk_at "run"
  refine r_i (Or.inr ⟨by show -(2 ^ 64) < wh; omega, by show wh < 2 ^ 64; omega⟩) ?_
  walk_at "run"
  refine r_i ⟨by show 0 < 2 * (h : Int) * wh; omega, by show 2 * (h : Int) * wh < 1073741824; omega⟩ ?_
  walk_at "run"
  refine ⟨_, _, rfl, ?_⟩
  have e : (if (pt + ↑h * wh) * ↑n / (2 * ↑h * wh) < (n : Int) - 1 then (pt + ↑h * wh) * ↑n / (2 * ↑h * wh) else (n : Int) - 1) = min ((n : Int) - 1) ((pt + ↑h * wh) * ↑n / (2 * ↑h * wh)) := by
    split <;> omega
  rw [e]
  exact q
abbrev s_touched : Stmt := topS 5
abbrev N_touched : List Str := ["cells", "many", "counts", "off", "cell"]
theorem sc_touched : FnScope N_touched ["cells", "many"] (defScope s_touched) := ⟨rfl, rfl, rfl, by decide +kernel, rfl, by decide +kernel, by decide +kernel⟩
set_option maxHeartbeats 4000000 in
theorem cal_touched (T : Txt K mg A) (D : Def1 K mg "touched" s_touched) : Call1 P wd K mg base CX0 1 "touched" (spTouched K) := by
  obtain ⟨f, fd, F, hm⟩ := D.ex
  refine ⟨f, fd, ["cells", "many"], F.ok (k := 0) sc_touched (fun vs H Q E h => by obtain ⟨_, _, _, rfl, _⟩ := h; rfl) (fun cdv AA outer s H vs Q E hr h => ⟨_, (pss_cons (ps_set (i := 2) sc_touched.nd rfl (Or.inl rfl) (pe_op op_rep (pe_lst (pa_cons pe_int pa_nil)) (pv 1)))
      (pss_cons (ps_set (i := 3) sc_touched.nd rfl (Or.inl rfl) pe_int)
      (pss_cons (ps_for PassesOwn.never rfl (pi_list (pv 0)) (pg_name (i := 4) sc_touched.nd rfl (Or.inl rfl))
      (pss_one (ps_if (pt_cmpR op_lt (pv 4) pe_int (nomark _)) (pss_one (ps_aug (i := 3) sc_touched.nd rfl (Or.inl rfl) pe_int ip_add)) (pss_one (ps_augS (pv 2) (pv 4) get_list pe_int ip_add set_list)))))
      (pss_one (ps_ret (pe_tup (pa_cons (pv 3) (pa_cons (pv 2) pa_nil)))))))), ?_⟩), hm, F.kp, F.binds (ps := ["cells", "many"]) fun _ _ _ _ _ _ us hl => match us, hl with | [_, _], _ => rfl⟩
  obtain ⟨l, cs, n, rfl, hl, hc, n1, n2, hz, q⟩ := h
  walk_at "run"
  refine ⟨sl60 (by show 1 ≤ 100000; decide), fun p0 hp0 => ?_⟩
  walk_at "run"
  refine ⟨p0, n, [.int 0], rfl, rfl, upd_same, by omega, by omega, sl60 (by show 1 * (n : Int).toNat ≤ 100000; omega), fun q0 hq0 => ?_⟩
  walk_at "run"
  have sm : Same H (upd (upd H p0 (.lst [.int 0])) q0 (.lst (List.replicate (n : Int).toNat [V.int 0]).flatten)) := Same.mut (Same.new hp0) (by
    have := Same.free (Same.new (o := .lst [.int 0]) hp0) hq0
    exact this)
  have hq : H q0 = none := Same.free (Same.new (o := .lst [.int 0]) hp0) hq0
  refine ⟨l, rfl, ⟨_, sm.seq hl⟩, for_list (K := K) (a := l) (xs := cellsV cs) (fun i σ H' => ∃ v, σ = [some (.ref l), some (.int (n : Int)), some (.ref q0), some (.int (offs (cs.take i) : Int)), v] ∧ Same H H' ∧ H' q0 = some (.lst (natsV (counts (cs.take i) n)))) ?_ ?_ ?_ ?_⟩
  · refine ⟨none, rfl, sm, ?_⟩
    rw [upd_same, flat_one, Int.toNat_natCast]
    show some (HO.lst (List.replicate n (V.int 0))) = some (.lst (natsV (counts [] n)))
    rw [counts_nil]
    unfold natsV
    rw [List.map_replicate]; rfl
  · rintro i σ H' _ ⟨_, _, s1, _⟩
    exact s1.seq hl
  · rintro i x σ H' hx ⟨v, rfl, s1, hc1⟩
    obtain ⟨c, hci, rfl⟩ := map_get hx
    have et := take_succ_get hci
    walk_at "run"
    cases c with
    | none =>
      refine iteD (fun _ => ?_) fun z => absurd (by show (-1 : Int) < 0; decide) z
      walk_at "run"
      refine ⟨some (.int (optI none)), ?_, s1, ?_⟩
      · rw [et, offs_snoc_none]; rfl
      · rw [et, counts_snoc_none]; exact hc1
    | some c =>
      have hlt : c < n := hc c (List.mem_of_getElem? hci)
      refine iteD (fun z => absurd z (by show ¬ (c : Int) < 0; omega)) fun _ => ?_
      have hg := natsV_get (counts_get (cs.take i) hlt)
      walk_at "run"
      refine ⟨q0, _, c, _, rfl, rfl, SqL.of hc1, hg, ?_⟩
      walk_at "run"
      refine ⟨q0, _, _, c, rfl, rfl, hc1, ixN_nat (by rw [natsV_length, counts_length]; exact hlt), ?_⟩
      refine ⟨some (.int (optI (some c))), ?_, Same.mut s1 hq, ?_⟩
      · rw [et, offs_snoc_some]; rfl
      · rw [upd_same, et, counts_snoc_some _ hlt, ← natsV_set]; rfl
  · rintro σ H' ⟨v, rfl, s1, hc1⟩
    have e : cs.take (cellsV cs).length = cs := by unfold cellsV; rw [List.length_map, List.take_length]
    rw [e] at hc1 ⊢
    walk_at "run"
    exact ⟨sl60 (by show 2 ≤ 100000; decide), fun p hp => q _ p q0 (Same.mut s1 (Same.free s1 hp)) (Same.free s1 hp) upd_same hq (by rw [upd_ne (ne_of_none hc1 hp)]; exact hc1)⟩
abbrev s_spans_of : Stmt := topS 6
abbrev N_spans_of : List Str := ["places", "many", "found", "place", "ahead", "behind", "first", "second", "number", "own"]
theorem sc_spans_of : FnScope N_spans_of ["places", "many"] (defScope s_spans_of) := ⟨rfl, rfl, rfl, by decide +kernel, rfl, by decide +kernel, by decide +kernel⟩
set_option maxHeartbeats 4000000 in
theorem cal_spans_of (T : Txt K mg A) (D : Def1 K mg "spans_of" s_spans_of) : Call1 P wd K mg base CX0 1 "spans_of" (spSpans K) := by
  obtain ⟨f, fd, F, hm⟩ := D.ex
  refine ⟨f, fd, ["places", "many"], F.ok (k := 0) sc_spans_of (fun vs H Q E h => by obtain ⟨_, _, _, rfl, _⟩ := h; rfl) (fun cdv AA outer s H vs Q E hr h => ⟨_, (pss_cons (ps_set (i := 2) sc_spans_of.nd rfl (Or.inl rfl) (pe_lst pa_nil))
      (pss_cons (ps_for PassesOwn.never rfl (pi_range1 rfl T.b_range (pa_cons (pv 1) pa_nil)) (pg_name (i := 3) sc_spans_of.nd rfl (Or.inr rfl))
      (pss_cons (ps_setLc (i := 4) (own := [("number", 8), ("own", 9)]) (g := (gTup K 2 (gCons (gName 8) (gCons (gName 9) gNil)))) rfl sc_spans_of.nd rfl rfl (sw_true rfl rfl rfl (by decide +kernel)) (pi_enum rfl T.b_enumerate (pa_cons (pv 0) pa_nil)) (blkOk_by (own := [("number", 8), ("own", 9)]) (N := N_spans_of) (sc := defScope s_spans_of) (by decide +kernel)) (fun _ _ _ _ _ => (pg_tup rfl (pgs_cons (pg_name (i := 8) sc_spans_of.nd rfl (Or.inl rfl)) (pgs_cons (pg_name (i := 9) sc_spans_of.nd rfl (Or.inl rfl)) pgs_nil)))) (fun _ _ _ _ _ => (pts_one (pt_cmpR op_le (pv 9) (pv 3) (nomark _)))) (fun _ _ _ _ _ => (pv 8)))
      (pss_cons (ps_setLc (i := 5) (own := [("number", 8), ("own", 9)]) (g := (gTup K 2 (gCons (gName 8) (gCons (gName 9) gNil)))) rfl sc_spans_of.nd rfl rfl (sw_true rfl rfl rfl (by decide +kernel)) (pi_enum rfl T.b_enumerate (pa_cons (pv 0) pa_nil)) (blkOk_by (own := [("number", 8), ("own", 9)]) (N := N_spans_of) (sc := defScope s_spans_of) (by decide +kernel)) (fun _ _ _ _ _ => (pg_tup rfl (pgs_cons (pg_name (i := 8) sc_spans_of.nd rfl (Or.inl rfl)) (pgs_cons (pg_name (i := 9) sc_spans_of.nd rfl (Or.inl rfl)) pgs_nil)))) (fun _ _ _ _ _ => (pts_one (pt_cmpR op_ge (pv 9) (pv 3) (nomark _)))) (fun _ _ _ _ _ => (pv 8)))
      (pss_cons (ps_set (i := 6) sc_spans_of.nd rfl (Or.inl rfl) (pe_ifExp (pt_cmpR op_gt (pe_callB call_len rfl T.b_len (by decide +kernel) (pa_cons (pv 4) pa_nil)) pe_int (nomark _)) (pe_ix ix_list (pv 4) (pe_un un_neg pe_int) (fun _ _ => rfl)) (pe_ix ix_list (pv 5) pe_int (fun _ _ => rfl))))
      (pss_cons (ps_set (i := 7) sc_spans_of.nd rfl (Or.inl rfl) (pe_ifExp (pt_cmpR op_gt (pe_callB call_len rfl T.b_len (by decide +kernel) (pa_cons (pv 5) pa_nil)) pe_int (nomark _)) (pe_ix ix_list (pv 5) pe_int (fun _ _ => rfl)) (pe_ix ix_list (pv 4) (pe_un un_neg pe_int) (fun _ _ => rfl))))
      (pss_one (ps_expr (pe_bm PySem.F.plainAttrs_list PySem.F.slot_list_append PySem.F.type_list_append mt_append (pv 2) (pa_cons (pe_tup (pa_cons (pv 6) (pa_cons (pv 7) pa_nil))) pa_nil)))))))))
      (pss_one (ps_ret (pv 2))))), ?_⟩), hm, F.kp, F.binds (ps := ["places", "many"]) fun _ _ _ _ _ _ us hl => match us, hl with | [_, _], _ => rfl⟩
  obtain ⟨l, ps, m, rfl, hl, hne, h6, h60, q⟩ := h
  have hlen : 0 < ps.length := List.length_pos_iff.mpr hne
  walk_at "run"
  refine ⟨sl60 (by show 0 ≤ 100000; decide), fun F0 hF => ?_⟩
  walk_at "run"
  refine ⟨m, rfl, by omega, by omega, for_range (lo := 0) (n := (m : Int).toNat) (fun i σ H' => ∃ v3 v4 v5 v6 v7 ts, σ = [some (.ref l), some (.int (m : Int)), some (.ref F0), v3, v4, v5, v6, v7, none, none] ∧ Same H H' ∧ H' F0 = some (.lst (ts.map V.ref)) ∧ AllT H' ts ((List.range i).map fun x => [V.int (firstI ps x : Int), V.int (secondI ps x : Int)])) ?_ ?_ ?_⟩
  · exact ⟨none, none, none, none, none, [], rfl, Same.new hF, upd_same, AllT.nil⟩
  · rintro i σ H' hi ⟨v3, v4, v5, v6, v7, ts, rfl, s1, hT, aT⟩
    have hx : (0 : Int) + (i : Int) = (i : Int) := Int.zero_add _
    rw [hx]
    have dF : ∀ {H2 : Hp} {D : Addr}, Same H' H2 → H2 D = none → D ≠ F0 := fun s2 h => (ne_of_none (s2 _ _ hT) h).symm
    walk_at "run"
    refine ⟨l, natsV ps, rfl, s1.seq hl, fun D1 hD1 => lc_it (walk_enum (K := K) (a := l) (xs := natsV ps)) (fun j H2 => Same H' H2 ∧ H2 D1 = some (.lst (natsV (idxs j fun k => decide (ps.getD k 0 ≤ i))))) ⟨Same.new hD1, upd_same⟩ (fun j H2 _ p => (s1.trans p.1).seq hl) ?_ ?_⟩
    · rintro j x H2 H3 hj ⟨s2, hD⟩ ⟨T0, y, z, rfl, hT0, rfl, e1, e2⟩
      cases e1
      obtain ⟨p, hp, rfl⟩ := map_get e2
      refine r_gtup (SqT.of upd_same) rfl ?_
      walk_at "run"
      refine ⟨rfl, ?_⟩
      have hgd : ps.getD j 0 = p := by rw [List.getD_eq_getElem?_getD, hp]; rfl
      have hne1 : D1 ≠ T0 := ne_of_none hD hT0
      walk_at "run"
      refine iteD (fun c => ?_) fun c => ?_
      · have c' : decide (ps.getD j 0 ≤ i) = true := decide_eq_true (by rw [hgd]; omega)
        walk_at "run"
        refine ⟨_, (by rw [upd_ne hne1]; exact hD), idxs_short (by have := natsV_length ps; omega), ?_, ?_⟩
        · exact Same.mut (Same.mut s2 (s2.free hT0)) hD1
        · rw [upd_same, idxs_succ, c', if_pos rfl]; exact congrArg (fun z => some (HO.lst z)) (natsV_snoc _ _)
      · have c' : decide (ps.getD j 0 ≤ i) = false := decide_eq_false (by rw [hgd]; omega)
        refine ⟨Same.mut s2 (s2.free hT0), ?_⟩
        rw [upd_ne hne1, hD, idxs_succ, c', if_neg Bool.false_ne_true, List.append_nil]
    rintro Ha ⟨sa, hA⟩
    rw [natsV_length] at hA
    walk_at "run"
    refine ⟨l, natsV ps, rfl, (s1.trans sa).seq hl, fun D2 hD2 => lc_it (walk_enum (K := K) (a := l) (xs := natsV ps)) (fun j H2 => Same Ha H2 ∧ H2 D2 = some (.lst (natsV (idxs j fun k => decide (i ≤ ps.getD k 0))))) ⟨Same.new hD2, upd_same⟩ (fun j H2 _ p => ((s1.trans sa).trans p.1).seq hl) ?_ ?_⟩
    · rintro j x H2 H3 hj ⟨s2, hD⟩ ⟨T0, y, z, rfl, hT0, rfl, e1, e2⟩
      cases e1
      obtain ⟨p, hp, rfl⟩ := map_get e2
      refine r_gtup (SqT.of upd_same) rfl ?_
      walk_at "run"
      refine ⟨rfl, ?_⟩
      have hgd : ps.getD j 0 = p := by rw [List.getD_eq_getElem?_getD, hp]; rfl
      have hne1 : D2 ≠ T0 := ne_of_none hD hT0
      walk_at "run"
      refine iteD (fun c => ?_) fun c => ?_
      · have c' : decide (i ≤ ps.getD j 0) = true := decide_eq_true (by rw [hgd]; omega)
        walk_at "run"
        refine ⟨_, (by rw [upd_ne hne1]; exact hD), idxs_short (by have := natsV_length ps; omega), ?_, ?_⟩
        · exact Same.mut (Same.mut s2 (s2.free hT0)) hD2
        · rw [upd_same, idxs_succ, c', if_pos rfl]; exact congrArg (fun z => some (HO.lst z)) (natsV_snoc _ _)
      · have c' : decide (i ≤ ps.getD j 0) = false := decide_eq_false (by rw [hgd]; omega)
        refine ⟨Same.mut s2 (s2.free hT0), ?_⟩
        rw [upd_ne hne1, hD, idxs_succ, c', if_neg Bool.false_ne_true, List.append_nil]
    rintro Hb ⟨sb, hB⟩
    rw [natsV_length] at hB
    have hA2 : Hb D1 = some (.lst (natsV (aheadI ps i))) := sb _ _ hA
    have hB2 : Hb D2 = some (.lst (natsV (behindI ps i))) := hB
    have one : aheadI ps i ≠ [] ∨ behindI ps i ≠ [] := by
      rcases Nat.le_total (ps.getD 0 0) i with c | c
      · left
        intro z
        have := of_decide_eq_false (idxs_nil z 0 hlen)
        omega
      · right
        intro z
        have := of_decide_eq_false (idxs_nil z 0 hlen)
        omega
    -- first
    walk_at "run"
    refine r_len (SqL.of hA2) ?_
    walk_at "run"
    have firstv : ∀ k, (aheadI ps i).getLast? = some k → firstI ps i = k := fun k e => by unfold firstI; rw [e]; rfl
    have secondv : ∀ k, (behindI ps i).head? = some k → secondI ps i = k := fun k e => by unfold secondI; rw [e]; rfl
    have lenA : (natsV (aheadI ps i)).length = (aheadI ps i).length := natsV_length _
    have lenB : (natsV (behindI ps i)).length = (behindI ps i).length := natsV_length _
    have nilA : (aheadI ps i).length = 0 → aheadI ps i = [] := List.length_eq_zero_iff.mp
    have nilB : (behindI ps i).length = 0 → behindI ps i = [] := List.length_eq_zero_iff.mp
    -- what is left to do once both are known
    have fin : ∀ (σ2 : L2.St), σ2 = [some (.ref l), some (.int (m : Int)), some (.ref F0), some (.int (i : Int)), some (.ref D1), some (.ref D2), some (.int (firstI ps i : Int)), some (.int (secondI ps i : Int)), none, none] → ∀ D' : Ends, (∀ σ' H2, (∃ v3 v4 v5 v6 v7 ts, σ' = [some (.ref l), some (.int (m : Int)), some (.ref F0), v3, v4, v5, v6, v7, none, none] ∧ Same H H2 ∧ H2 F0 = some (.lst (ts.map V.ref)) ∧ AllT H2 ts ((List.range (i + 1)).map fun x => [V.int (firstI ps x : Int), V.int (secondI ps x : Int)])) → D'.nx σ' H2) →
        tDrop (tBM K "list" rAppend (tVar 2) (tCons (tTup (tCons (tVar 6) (tCons (tVar 7) tNil))) tNil)) D' σ2 Hb := by
      rintro σ2 rfl D' hD'
      have hTb : Hb F0 = some (.lst (ts.map V.ref)) := sb _ _ (sa _ _ hT)
      walk_at "run"
      refine ⟨.inl ⟨rfl, _, SqL.of hTb⟩, ?_⟩
      walk_at "run"
      refine ⟨sl60 (by show 2 ≤ 100000; decide), fun T0 hT0 => ?_⟩
      walk_at "run"
      have hne0 : F0 ≠ T0 := ne_of_none hTb hT0
      have hts : ts.length = i := by have := aT.1; rw [List.length_map, List.length_range] at this; exact this
      refine r_append (by rw [upd_ne hne0]; exact hTb) (by rw [List.length_map, hts]; omega) ?_
      refine hD' _ _ ⟨_, _, _, _, _, ts ++ [T0], rfl, ?_, ?_, ?_⟩
      · exact Same.mut (Same.mut ((s1.trans sa).trans sb) (((s1.trans sa).trans sb).free hT0)) hF
      · rw [upd_same, List.map_append]; rfl
      · rw [range_map_succ]
        have kp : ∀ b xs, Hb b = some (.tup xs) → upd (upd Hb T0 (.tup [V.int (firstI ps i : Int), V.int (secondI ps i : Int)])) F0 (.lst (ts.map V.ref ++ [V.ref T0])) b = some (.tup xs) := fun b xs e => by
          rw [upd_ne (ne_of e hTb (by intro z; cases z)), upd_ne (ne_of_none e hT0)]; exact e
        refine AllT.snoc ((AllT.same (sa.trans sb) aT).keep kp) ?_
        rw [upd_ne hne0.symm, upd_same]
    have second : ∀ (vf : V), vf = .int (firstI ps i : Int) → ∀ (D' : Ends), (∀ σ' H2, (∃ v3 v4 v5 v6 v7 ts, σ' = [some (.ref l), some (.int (m : Int)), some (.ref F0), v3, v4, v5, v6, v7, none, none] ∧ Same H H2 ∧ H2 F0 = some (.lst (ts.map V.ref)) ∧ AllT H2 ts ((List.range (i + 1)).map fun x => [V.int (firstI ps x : Int), V.int (secondI ps x : Int)])) → D'.nx σ' H2) →
        tSeq (tAsg (tIf (tTest (tOp (rI0 fun i j => V.bl (decide (j < i))) (tCB (fun xs H Q => ∃ x n, xs = [x] ∧ LenV K x H n ∧ Q (.int n) H) (tCons (tVar 5) tNil)) (tC (.int 0)))) (tOp (rIxL K) (tVar 5) (tC (.int 0))) (tOp (rIxL K) (tVar 4) (tUn (rU fun i => .int (-i)) (tC (.int 1))))) (gName 7))
          (tDrop (tBM K "list" rAppend (tVar 2) (tCons (tTup (tCons (tVar 6) (tCons (tVar 7) tNil))) tNil))) D' [some (.ref l), some (.int (m : Int)), some (.ref F0), some (.int (i : Int)), some (.ref D1), some (.ref D2), some vf, v7, none, none] Hb := by
      rintro vf rfl D' hD'
      walk_at "run"
      refine r_len (SqL.of hB2) ?_
      walk_at "run"
      refine iteD (fun c => ?_) fun c => ?_
      · walk_at "run"
        obtain ⟨k, hk⟩ : ∃ k, (behindI ps i).head? = some k := by
          cases e : (behindI ps i).head? with
          | none => rw [List.head?_eq_none_iff.mp e] at c; exact absurd c (by decide)
          | some k => exact ⟨k, rfl⟩
        refine r_ixl (SqL.of hB2) (natsV_head hk) ?_
        exact fin _ (by rw [secondv k hk]; rfl) D' hD'
      · walk_at "run"
        have hB0 : behindI ps i = [] := nilB (by omega)
        obtain ⟨k, hk⟩ : ∃ k, (aheadI ps i).getLast? = some k := by
          cases e : (aheadI ps i).getLast? with
          | none => rcases one with o | o
                    · exact absurd (List.getLast?_eq_none_iff.mp e) o
                    · exact absurd hB0 o
          | some k => exact ⟨k, rfl⟩
        refine r_ixl (SqL.of hA2) (natsV_last hk) ?_
        exact fin _ (by unfold secondI; rw [hB0, hk]; rfl) D' hD'
    refine iteD (fun c1 => ?_) fun c1 => ?_
    · walk_at "run"
      obtain ⟨k, hk⟩ : ∃ k, (aheadI ps i).getLast? = some k := by
        cases e : (aheadI ps i).getLast? with
        | none => rw [List.getLast?_eq_none_iff.mp e] at c1; exact absurd c1 (by decide)
        | some k => exact ⟨k, rfl⟩
      refine r_ixl (SqL.of hA2) (natsV_last hk) ?_
      exact second _ (by rw [firstv k hk]) _ fun σ' H2 h => h
    · walk_at "run"
      have hA0 : aheadI ps i = [] := nilA (by omega)
      obtain ⟨k, hk⟩ : ∃ k, (behindI ps i).head? = some k := by
        cases e : (behindI ps i).head? with
        | none => rcases one with o | o
                  · exact absurd hA0 o
                  · exact absurd (List.head?_eq_none_iff.mp e) o
        | some k => exact ⟨k, rfl⟩
      refine r_ixl (SqL.of hB2) (natsV_head hk) ?_
      exact second _ (by unfold firstI; rw [hA0, hk]; rfl) _ fun σ' H2 h => h
  · rintro σ H' ⟨v3, v4, v5, v6, v7, ts, rfl, s1, hT, aT⟩
    walk_at "run"
    exact q _ F0 ts s1 hF hT (by rw [Int.toNat_natCast] at aT; exact aT)
abbrev s_all_choices : Stmt := topS 7
abbrev N_all_choices : List Str := ["row", "many", "found", "turn", "longer", "choice", "one"]
theorem sc_all_choices : FnScope N_all_choices ["row", "many"] (defScope s_all_choices) := ⟨rfl, rfl, rfl, by decide +kernel, rfl, by decide +kernel, by decide +kernel⟩
set_option maxHeartbeats 4000000 in
theorem cal_all_choices (T : Txt K mg A) (D : Def1 K mg "all_choices" s_all_choices) : Call1 P wd K mg base CX0 1 "all_choices" (spChoices K) := by
  obtain ⟨f, fd, F, hm⟩ := D.ex
  refine ⟨f, fd, ["row", "many"], F.ok (k := 0) sc_all_choices (fun vs H Q E h => by obtain ⟨_, _, _, rfl, _⟩ := h; rfl) (fun cdv AA outer s H vs Q E hr h => ⟨_, (pss_cons (ps_set (i := 2) sc_all_choices.nd rfl (Or.inl rfl) (pe_lst (pa_cons (pe_tup pa_nil) pa_nil)))
      (pss_cons (ps_for PassesOwn.never rfl (pi_range1 rfl T.b_range (pa_cons (pv 1) pa_nil)) (pg_name (i := 3) sc_all_choices.nd rfl (Or.inl rfl))
      (pss_cons (ps_set (i := 4) sc_all_choices.nd rfl (Or.inl rfl) (pe_lst pa_nil))
      (pss_cons (ps_for PassesOwn.never rfl (pi_list (pv 2)) (pg_name (i := 5) sc_all_choices.nd rfl (Or.inr rfl))
      (pss_one (ps_expr (pe_bm PySem.F.plainAttrs_list PySem.F.slot_list_extend PySem.F.type_list_extend mt_extend (pv 4) (pa_cons (pe_lc (own := [("one", 6)]) (g := (gName 6)) rfl sc_all_choices.nd (pi_list (pv 0)) (blkOk_by (own := [("one", 6)]) (N := N_all_choices) (sc := defScope s_all_choices) (by decide +kernel)) (fun _ _ _ _ _ => (pg_name (i := 6) sc_all_choices.nd rfl (Or.inl rfl))) (fun _ _ _ _ _ => pts_nil) (fun _ _ _ _ _ => (pe_catK (K := K) rfl (pv 5) (pe_tup (pa_cons (pv 6) pa_nil))))) pa_nil)))))
      (pss_one (ps_set (i := 2) sc_all_choices.nd rfl (Or.inl rfl) (pv 4))))))
      (pss_one (ps_ret (pv 2))))), ?_⟩), hm, F.kp, F.binds (ps := ["row", "many"]) fun _ _ _ _ _ _ us hl => match us, hl with | [_, _], _ => rfl⟩
  obtain ⟨l, row, k, rfl, hl, h4, h6, q⟩ := h
  have big : ∀ j, j ≤ k → (choices row j).length ≤ 4096 := fun j hj => by
    rw [choices_length]
    have h1 : row.length ^ j ≤ 4 ^ j := Nat.pow_le_pow_left h4 j
    have h2 : (4 : Nat) ^ j ≤ 4 ^ 6 := Nat.pow_le_pow_right (by decide) (by omega)
    exact Nat.le_trans h1 (Nat.le_trans h2 (by decide))
  walk_at "run"
  refine ⟨sl60 (by show 0 ≤ 100000; decide), fun T0 hT0 => ?_⟩
  walk_at "run"
  refine ⟨sl60 (by show 1 ≤ 100000; decide), fun F0 hF0 => ?_⟩
  walk_at "run"
  have hne0 : T0 ≠ F0 := ne_of_none upd_same hF0
  refine ⟨k, rfl, by omega, by omega, for_range (lo := 0) (n := (k : Int).toNat) (fun i σ H' => ∃ Fi v3 v4 v5 ts, σ = [some (.ref l), some (.int (k : Int)), some (.ref Fi), v3, v4, v5, none] ∧ Same H H' ∧ H Fi = none ∧ H' Fi = some (.lst (ts.map V.ref)) ∧ AllT H' ts ((choices row i).map fun c => c.map V.int)) ?_ ?_ ?_⟩
  · refine ⟨F0, none, none, none, [T0], rfl, Same.mut (Same.new hT0) (Same.free (Same.new hT0) hF0), Same.free (Same.new hT0) hF0, upd_same, ?_⟩
    refine AllT.cons_iff.mpr ⟨?_, AllT.nil⟩
    rw [upd_ne hne0, upd_same]; rfl
  · rintro i σ H' hi ⟨Fi, v3, v4, v5, ts, rfl, s1, hn, hT, aT⟩
    have hik : i < k := by rw [Int.toNat_natCast] at hi; exact hi
    walk_at "run"
    refine ⟨sl60 (by show 0 ≤ 100000; decide), fun L0 hL0 => ?_⟩
    walk_at "run"
    have hts : ts.length = (choices row i).length := by have := aT.1; rw [List.length_map] at this; exact this
    have hLF : L0 ≠ Fi := (ne_of_none hT hL0).symm
    have hL : H L0 = none := s1.free hL0
    refine ⟨Fi, rfl, ⟨_, SqL.of (by rw [upd_ne hLF.symm]; exact hT)⟩, for_list (K := K) (a := Fi) (xs := ts.map V.ref) (fun j σ H2 => ∃ v5 us, σ = [some (.ref l), some (.int (k : Int)), some (.ref Fi), some (.int ((0 : Int) + (i : Int))), some (.ref L0), v5, none] ∧ Same H' H2 ∧ H2 L0 = some (.lst (us.map V.ref)) ∧ AllT H2 us ((((choices row i).take j).flatMap fun c => row.map fun o => c ++ [o]).map fun c => c.map V.int)) ?_ ?_ ?_ ?_⟩
    · exact ⟨v5, [], rfl, Same.new hL0, upd_same, AllT.nil⟩
    · rintro j σ H2 _ ⟨_, _, _, s2, _⟩
      exact SqL.of (s2 _ _ hT)
    · rintro j x σ H2 hx ⟨v5, us, rfl, s2, hU, aU⟩
      obtain ⟨t, ht, rfl⟩ := map_get hx
      have hj : j < (choices row i).length := by have := get_lt ht; omega
      obtain ⟨c, hc⟩ := get_some hj
      have htc : H2 t = some (.tup (c.map V.int)) := s2 _ _ (aT.2 j t _ ht (get_map hc))
      have hcl := (choices_each (List.mem_of_getElem? hc)).1
      have husl : us.length ≤ 4096 := by
        have := aU.1
        rw [List.length_map] at this
        rw [this]
        have e := big (i + 1) (by omega)
        rw [choices_snoc] at e
        refine Nat.le_trans ?_ e
        rw [List.length_flatMap, List.length_flatMap]
        have := List.take_append_drop j (choices row i)
        conv => rhs; rw [← this, List.map_append, List.sum_append]
        exact Nat.le_add_right _ _
      walk_at "run"
      refine ⟨.inl ⟨rfl, _, SqL.of hU⟩, ?_⟩
      walk_at "run"
      refine ⟨l, rfl, ⟨_, (s1.trans s2).seq hl⟩, fun D1 hD1 => lc_it (walk_list (K := K) (a := l) (xs := row.map V.int)) (fun z H3 => ∃ ws, Same H2 H3 ∧ H3 D1 = some (.lst (ws.map V.ref)) ∧ AllT H3 ws (((row.take z).map fun o => c ++ [o]).map fun c => c.map V.int)) ⟨[], Same.new hD1, upd_same, AllT.nil⟩ (fun z H3 _ p => by obtain ⟨_, s3, _⟩ := p; exact ((s1.trans s2).trans s3).seq hl) ?_ ?_⟩
      · rintro z x H3 H4 hz ⟨ws, s3, hW, aW⟩ ⟨rfl, hx⟩
        obtain ⟨o, ho, rfl⟩ := map_get hx
        walk_at "run"
        refine ⟨rfl, ?_⟩
        walk_at "run"
        refine iteT ?_
        walk_at "run"
        refine ⟨sl60 (by show 1 ≤ 100000; decide), fun O0 hO0 => ?_⟩
        have h3c : H4 t = some (.tup (c.map V.int)) := s3 _ _ htc
        have hneO : t ≠ O0 := ne_of_none h3c hO0
        have hneD : D1 ≠ O0 := ne_of_none hW hO0
        have hwl : ws.length = z := by
          have := aW.1
          rw [List.length_map, List.length_map, List.length_take] at this
          have := get_lt ho
          omega
        have et : row.take (z + 1) = row.take z ++ [o] := take_succ_get ho
        have hzr : z < row.length := get_lt ho
        refine ⟨t, O0, c.map V.int, [V.int o], rfl, rfl, SqT.of (by rw [upd_ne hneO]; exact h3c), SqT.of upd_same, sl60 (by rw [List.length_map, hcl]; show i + 1 ≤ 100000; omega), fun hc0 => ?_, fun _ z => absurd z (by simp), fun hc0 _ P0 hP0 => ?_⟩
        · have hcn : c = [] := by simpa using hc0
          refine ⟨_, (by rw [upd_ne hneD]; exact hW), by rw [List.length_map, hwl]; exact sl60' (by omega), ws ++ [O0], Same.mut (Same.mut s3 (s3.free hO0)) hD1, ?_, ?_⟩
          · rw [upd_same, List.map_append]; rfl
          · rw [et, List.map_append, List.map_append]
            have kp : ∀ b xs, H4 b = some (.tup xs) → upd (upd H4 O0 (.tup [V.int o])) D1 (.lst (ws.map V.ref ++ [V.ref O0])) b = some (.tup xs) := fun b xs e => by
              rw [upd_ne (ne_of e hW (by intro z; cases z)), upd_ne (ne_of_none e hO0)]; exact e
            refine AllT.snoc (aW.keep kp) ?_
            rw [upd_ne hneD.symm, upd_same, hcn]; rfl
        · have hneP : D1 ≠ P0 := by
            have : (upd H4 O0 (.tup [V.int o])) D1 = some (.lst (ws.map V.ref)) := by rw [upd_ne hneD]; exact hW
            exact ne_of_none this hP0
          have hP4 : H4 P0 = none := Same.free (Same.new hO0) hP0
          refine ⟨_, (by rw [upd_ne hneP, upd_ne hneD]; exact hW), by rw [List.length_map, hwl]; exact sl60' (by omega), ws ++ [P0], Same.mut (Same.mut (Same.mut s3 (s3.free hO0)) (s3.free hP4)) hD1, ?_, ?_⟩
          · rw [upd_same, List.map_append]; rfl
          · rw [et, List.map_append, List.map_append]
            have kp : ∀ b xs, H4 b = some (.tup xs) → upd (upd (upd H4 O0 (.tup [V.int o])) P0 (.tup (c.map V.int ++ [V.int o]))) D1 (.lst (ws.map V.ref ++ [V.ref P0])) b = some (.tup xs) := fun b xs e => by
              rw [upd_ne (ne_of e hW (by intro z; cases z)), upd_ne (ne_of_none e hP4), upd_ne (ne_of_none e hO0)]; exact e
            refine AllT.snoc (aW.keep kp) ?_
            rw [upd_ne hneP.symm, upd_same]
            show _ = some (HO.tup ((c ++ [o]).map V.int))
            rw [List.map_append]; rfl
      · rintro H3 ⟨ws, s3, hW, aW⟩
        rw [List.length_map, List.take_length] at aW
        walk_at "run"
        have hU3 : H3 L0 = some (.lst (us.map V.ref)) := s3 _ _ hU
        have hwl : ws.length ≤ 4 := by have := aW.1; rw [List.length_map, List.length_map] at this; omega
        refine ⟨L0, D1, us.map V.ref, ws.map V.ref, rfl, rfl, hU3, hW, sl60 (by rw [List.length_map, List.length_map]; omega), ?_⟩
        refine ⟨some (.ref t), us ++ ws, rfl, ?_, ?_, ?_⟩
        · exact Same.mut (s2.trans s3) hL0
        · rw [upd_same, List.map_append]
        · have kp : ∀ b xs, H3 b = some (.tup xs) → upd H3 L0 (.lst (us.map V.ref ++ ws.map V.ref)) b = some (.tup xs) := fun b xs e => by
            rw [upd_ne (ne_of e hU3 (by intro z; cases z))]; exact e
          rw [take_succ_get hc, List.flatMap_append, List.map_append, List.flatMap_singleton]
          exact AllT.append ((AllT.same s3 aU).keep kp) (aW.keep kp)
    · rintro σ H2 ⟨v5, us, rfl, s2, hU, aU⟩
      have e : (choices row i).take (ts.map V.ref).length = choices row i := by rw [List.length_map, hts, List.take_length]
      rw [e, ← choices_snoc] at aU
      walk_at "run"
      exact ⟨L0, _, _, _, us, rfl, s1.trans s2, hL, hU, aU⟩
  · rintro σ H' ⟨Fi, v3, v4, v5, ts, rfl, s1, hn, hT, aT⟩
    walk_at "run"
    exact q _ Fi ts s1 hn hT (by rw [Int.toNat_natCast] at aT; exact aT)
abbrev s_evenest : Stmt := topS 8
abbrev N_evenest : List Str := ["places", "many", "half", "cells", "row", "spans", "known", "best", "choice", "found", "place", "first", "second", "key", "one", "other", "off", "counts", "value"]
theorem sc_evenest : FnScope N_evenest ["places", "many", "half", "cells", "row"] (defScope s_evenest) := ⟨rfl, rfl, rfl, by decide +kernel, rfl, by decide +kernel, by decide +kernel⟩
set_option maxHeartbeats 4000000 in
theorem cal_evenest (T : Txt K mg A) (D : Def1 K mg "evenest" s_evenest) (c_between : Call1 P wd K mg base CX0 3 "between" spBetween) (c_cell_of : Call1 P wd K mg base CX0 1 "cell_of" spCellOf) (c_touched : Call1 P wd K mg base CX0 1 "touched" (spTouched K)) (c_spans_of : Call1 P wd K mg base CX0 1 "spans_of" (spSpans K)) (c_all_choices : Call1 P wd K mg base CX0 1 "all_choices" (spChoices K)) : Call1 P wd K mg base CX0 4 "evenest" (spEvenest K) := by
  obtain ⟨f, fd, F, hm⟩ := D.ex
  refine ⟨f, fd, ["places", "many", "half", "cells", "row"], F.ok (k := 3) sc_evenest (fun vs H Q E h => by obtain ⟨_, _, _, _, _, _, _, rfl, _⟩ := h; rfl) (fun cdv AA outer s H vs Q E hr h => ⟨_, (pss_cons (ps_set (i := 5) sc_evenest.nd rfl (Or.inl rfl) (pe_c1 c_spans_of hr (by decide) pass0 rfl (pa_cons (pv 0) (pa_cons (pv 1) pa_nil))))
      (pss_cons (ps_set (i := 6) sc_evenest.nd rfl (Or.inl rfl) pe_dnewT)
      (pss_cons (ps_set (i := 7) sc_evenest.nd rfl (Or.inl rfl) (pe_tup pa_nil))
      (pss_cons (ps_for PassesOwn.never rfl (pi_list (pe_c1 c_all_choices hr (by decide) pass0 rfl (pa_cons (pv 4) (pa_cons (pe_callB call_len rfl T.b_len (by decide +kernel) (pa_cons (pv 0) pa_nil)) pa_nil)))) (pg_name (i := 8) sc_evenest.nd rfl (Or.inl rfl))
      (pss_cons (ps_set (i := 9) sc_evenest.nd rfl (Or.inl rfl) (pe_lst pa_nil))
      (pss_cons (ps_for PassesOwn.never rfl (pi_enum rfl T.b_enumerate (pa_cons (pv 5) pa_nil)) (pg_tup rfl (pgs_cons (pg_name (i := 10) sc_evenest.nd rfl (Or.inl rfl)) (pgs_cons (pg_tup rfl (pgs_cons (pg_name (i := 11) sc_evenest.nd rfl (Or.inl rfl)) (pgs_cons (pg_name (i := 12) sc_evenest.nd rfl (Or.inl rfl)) pgs_nil))) pgs_nil)))
      (pss_cons (ps_set (i := 13) sc_evenest.nd rfl (Or.inl rfl) (pe_tup (pa_cons (pv 10) (pa_cons (pe_ix ix_tup (pv 8) (pv 11) (fun _ _ => rfl)) (pa_cons (pe_ix ix_tup (pv 8) (pv 12) (fun _ _ => rfl)) pa_nil)))))
      (pss_cons (ps_if (pt_cmp (pc_dnotin (hu_of hr) (pv 13) (pv 6))) (pss_cons (ps_set (i := 14) sc_evenest.nd rfl (Or.inl rfl) (pe_tup (pa_cons (pe_ix ix_list (pv 0) (pv 11) (fun _ _ => rfl)) (pa_cons (pe_ix ix_tup (pv 8) (pv 11) (fun _ _ => rfl)) pa_nil))))
      (pss_cons (ps_set (i := 15) sc_evenest.nd rfl (Or.inl rfl) (pe_tup (pa_cons (pe_ix ix_list (pv 0) (pv 12) (fun _ _ => rfl)) (pa_cons (pe_ix ix_tup (pv 8) (pv 12) (fun _ _ => rfl)) pa_nil))))
      (pss_one (ps_dput (hu_of hr) (pv 6) (pv 13) (pe_c1 c_cell_of hr (by decide) pass0 rfl (pa_cons (pe_c1 c_between hr (by decide) pass0 rfl (pa_cons (pv 14) (pa_cons (pv 15) (pa_cons (pv 10) pa_nil)))) (pa_cons (pv 2) (pa_cons (pv 3) pa_nil)))) rfl)))) pss_nil)
      (pss_one (ps_expr (pe_bm PySem.F.plainAttrs_list PySem.F.slot_list_append PySem.F.type_list_append mt_append (pv 9) (pa_cons (pe_dget (hu_of hr) (pv 6) (pv 13) (fun _ _ => rfl)) pa_nil)))))))
      (pss_cons (ps_asg (pe_c1 c_touched hr (by decide) pass0 rfl (pa_cons (pv 9) (pa_cons (pv 3) pa_nil))) (pg_tup rfl (pgs_cons (pg_name (i := 16) sc_evenest.nd rfl (Or.inl rfl)) (pgs_cons (pg_name (i := 17) sc_evenest.nd rfl (Or.inl rfl)) pgs_nil))))
      (pss_cons (ps_set (i := 18) sc_evenest.nd rfl (Or.inl rfl) (pe_tup (pa_cons (pv 16) (pa_cons (pe_callB (cr_max rfl) rfl T.b_max (by decide +kernel) (pa_cons (pv 17) pa_nil)) (pa_cons (pv 8) pa_nil)))))
      (pss_one (ps_if (PW.pt (pw_or (pt_cmpR op_eq (pe_callB call_len rfl T.b_len (by decide +kernel) (pa_cons (pv 7) pa_nil)) pe_int (nomark _)) (pw_or1 (pt_cmpR (op_ltD hr.units) (pv 18) (pv 7) (nomark _))))) (pss_one (ps_set (i := 7) sc_evenest.nd rfl (Or.inl rfl) (pv 18))) pss_nil)))))))
      (pss_one (ps_ret (pv 7))))))), ?_⟩), hm, F.kp, F.binds (ps := ["places", "many", "half", "cells", "row"]) fun _ _ _ _ _ _ us hl => match us, hl with | [_, _, _, _, _], _ => rfl⟩
  obtain ⟨lp, lr, sup, m, h0, n, row, rfl, hlp, hlr, hri, hne, h6, hlt, m2, m60, h1, h2, n1, n2, rne, r4, hup, hrb, q⟩ := h
  have hps : (sup.map (·.1)).length = sup.length := List.length_map ..
  walk_at "run"
  refine ⟨lp, sup.map (·.1), m, rfl, hlp, fun z => hne (by simpa using z), by rw [hps]; exact h6, m60, fun H1 SA ts s1 hSA hS1 aS1 => ?_⟩
  walk_at "run"
  intro KD hKD
  walk_at "run"
  refine ⟨sl60 (by show 0 ≤ 100000; decide), fun B0 hB0 => ?_⟩
  walk_at "run"
  have hKDn : H KD = none := s1.free hKD
  have s3 : Same H1 (upd (upd H1 KD (.dT [])) B0 (.tup [])) := Same.mut (Same.new hKD) (Same.free (Same.new hKD) hB0)
  refine r_len ((s1.trans s3).seq hlp) ?_
  walk_at "run"
  refine ⟨lr, row, sup.length, by rw [natsV_length, hps]; rfl, (s1.trans s3).seq hlr, r4, h6, fun H4 CA us s4 hCA hC4 aC4 => ?_⟩
  have hKDB : KD ≠ B0 := ne_of_none upd_same hB0
  have hK4 : H4 KD = some (.dT []) := s4 _ _ (by rw [upd_ne hKDB, upd_same])
  have hS4 : H4 SA = some (.lst (ts.map V.ref)) := s4 _ _ (s3 _ _ hS1)
  have hB4 : H4 B0 = some (.tup []) := s4 _ _ upd_same
  have aS4 : AllT H4 ts ((List.range m).map fun x => [V.int (firstI (sup.map (·.1)) x : Int), V.int (secondI (sup.map (·.1)) x : Int)]) := AllT.same (s3.trans s4) aS1
  have hus : us.length = (choices row sup.length).length := by have := aC4.1; rw [List.length_map] at this; exact this
  have big : (choices row sup.length).length ≤ 4096 := by
    rw [choices_length]
    have e1 : row.length ^ sup.length ≤ 4 ^ sup.length := Nat.pow_le_pow_left r4 _
    have e2 : (4 : Nat) ^ sup.length ≤ 4 ^ 6 := Nat.pow_le_pow_right (by decide) h6
    exact Nat.le_trans e1 (Nat.le_trans e2 (by decide))
  -- what stands, whatever the dict KD holds
  have kt : ∀ {Ha Hb : Hp} {kvs : List (List Key × V)}, Only [KD] Ha Hb → Ha KD = some (.dT kvs) → ∀ a xs, Ha a = some (.tup xs) → Hb a = some (.tup xs) := fun o hk a xs e => o a _ e (by
    intro z
    have := List.mem_singleton.mp z
    rw [this, hk] at e; cases e)
  have kl : ∀ {Ha Hb : Hp} {kvs : List (List Key × V)}, Only [KD] Ha Hb → Ha KD = some (.dT kvs) → ∀ a xs, Ha a = some (.lst xs) → Hb a = some (.lst xs) := fun o hk a xs e => o a _ e (by
    intro z
    have := List.mem_singleton.mp z
    rw [this, hk] at e; cases e)
  have sH4 : Only [KD] H H4 := Same.only ((s1.trans (Same.mut (Same.mut (Same.refl H1) hKD) (Same.free (Same.new hKD) hB0))).trans s4)
  have hB0H : H B0 = none := s1.free (Same.free (Same.new hKD) hB0)
  have hCAK : H4 CA = some (.lst (us.map V.ref)) := hC4
  refine ⟨CA, rfl, ⟨_, SqL.of hC4⟩, for_list (K := K) (a := CA) (xs := us.map V.ref) (fun j σ H' => ∃ bA v8 v9 v10 v11 v12 v13 v14 v15 v16 v17 v18 kvs, σ = [some (.ref lp), some (.int (m : Int)), some (.int (h0 : Int)), some (.int (n : Int)), some (.ref lr), some (.ref SA), some (.ref KD), some (.ref bA), v8, v9, v10, v11, v12, v13, v14, v15, v16, v17, v18] ∧ Only [KD] H4 H' ∧ H' KD = some (.dT kvs) ∧ KnownOk (sup.map (·.1)) h0 n kvs ∧ kvs.length ≤ 60 * j ∧ BestAt H H' bA (((worths sup m h0 n row).take j).foldl bestStep none)) ?_ ?_ ?_ ?_⟩
  · exact ⟨B0, none, none, none, none, none, none, none, none, none, none, none, [], rfl, Only.refl _ _, hK4, fun _ _ _ => Or.inl rfl, by simp, hB4⟩
  · rintro j σ H' _ ⟨_, _, _, _, _, _, _, _, _, _, _, _, _, _, o5, _⟩
    exact SqL.of (kl o5 hK4 _ _ hC4)
  · rintro j x σ H5 hx ⟨bA, v8, v9, v10, v11, v12, v13, v14, v15, v16, v17, v18, kvs, rfl, o5, hK5, k5, z5, b5⟩
    obtain ⟨ca, hca, rfl⟩ := map_get hx
    have hj : j < (choices row sup.length).length := by have := get_lt hca; omega
    obtain ⟨c, hc⟩ := get_some hj
    have hcm := choices_each (List.mem_of_getElem? hc)
    have hcl : c.length = sup.length := hcm.1
    have hct4 : H4 ca = some (.tup (c.map V.int)) := aC4.2 j ca _ hca (get_map hc)
    have hct5 : H5 ca = some (.tup (c.map V.int)) := kt o5 hK4 _ _ hct4
    have hS5 : H5 SA = some (.lst (ts.map V.ref)) := kl o5 hK4 _ _ hS4
    walk_at "run"
    refine ⟨sl60 (by show 0 ≤ 100000; decide), fun FA hFA => ?_⟩
    walk_at "run"
    have hFS : FA ≠ SA := (ne_of_none hS5 hFA).symm
    have hFK : FA ≠ KD := (ne_of_none hK5 hFA).symm
    have hts : ts.length = m := by have := aS4.1; rw [List.length_map, List.length_range] at this; exact this
    refine ⟨SA, ts.map V.ref, rfl, SqL.of (by rw [upd_ne hFS.symm]; exact hS5), for_it (walk_enum (K := K) (a := SA) (xs := ts.map V.ref)) (fun i σ H' => ∃ v10 v11 v12 v13 v14 v15 kvs, σ = [some (.ref lp), some (.int (m : Int)), some (.int (h0 : Int)), some (.int (n : Int)), some (.ref lr), some (.ref SA), some (.ref KD), some (.ref bA), some (.ref ca), some (.ref FA), v10, v11, v12, v13, v14, v15, v16, v17, v18] ∧ Only [KD] H5 H' ∧ H' KD = some (.dT kvs) ∧ KnownOk (sup.map (·.1)) h0 n kvs ∧ kvs.length ≤ 60 * j + i ∧ H' FA = some (.lst (cellsV ((List.range i).map fun x => cellOf h0 n (offsetBy (laidBy sup c) x))))) ?_ ?_ ?_ ?_⟩
    · exact ⟨v10, v11, v12, v13, v14, v15, kvs, rfl, Only.new (Only.refl _ _) hFA, by rw [upd_ne hFK.symm]; exact hK5, k5, z5, upd_same⟩
    · rintro i σ H' _ ⟨_, _, _, _, _, _, _, _, o6, _⟩
      exact SqL.of (kl o6 hK5 _ _ hS5)
    · rintro i x σ H6 H7 hi ⟨v10, v11, v12, v13, v14, v15, kv6, rfl, o6, hK6, k6, z6, f6⟩ ⟨T0, y, z, rfl, hT0, rfl, e1, e2⟩
      cases e1
      obtain ⟨sp, hsp, rfl⟩ := map_get e2
      have him : i < m := by have := get_lt hsp; omega
      obtain ⟨fi, se, p1, p2, a, b, efi, ese, hp1, hp2, ha, hb, hle, ecv, elow, ecell⟩ := cval_is hri hne hcl i h0 n h1 n1
      have hrow : ((List.range m).map fun x => [V.int (firstI (sup.map (·.1)) x : Int), V.int (secondI (sup.map (·.1)) x : Int)])[i]? = some [V.int (fi : Int), V.int (se : Int)] := by
        rw [List.getElem?_map, List.getElem?_range him, ← efi, ← ese]; rfl
      have hsp6 : H6 sp = some (.tup [V.int (fi : Int), V.int (se : Int)]) := kt o6 hK5 _ _ (kt o5 hK4 _ _ (aS4.2 i sp _ hsp hrow))
      have hct6 : H6 ca = some (.tup (c.map V.int)) := kt o6 hK5 _ _ hct5
      -- the heap with the pair that enumerate hands out
      have n6 : ∀ {p o}, H6 p = some o → p ≠ T0 := fun e => ne_of_none e hT0
      have g7 : ∀ {p o}, H6 p = some o → upd H6 T0 (.tup [.int ((i : Nat) : Int), .ref sp]) p = some o := fun e => by rw [upd_ne (n6 e)]; exact e
      refine r_gtup (SqT.of upd_same) rfl ?_
      walk_at "run"
      refine r_gtup (SqT.of (g7 hsp6)) rfl ?_
      walk_at "run"
      have iva : atI (c.map V.int) (fi : Int) = some (.int a) := atI_nat (get_map ha)
      have ivb : atI (c.map V.int) (se : Int) = some (.int b) := atI_nat (get_map hb)
      refine r_ixt (SqT.of (g7 hct6)) iva ?_
      walk_at "run"
      refine r_ixt (SqT.of (g7 hct6)) ivb ?_
      walk_at "run"
      refine ⟨sl60 (by show 3 ≤ 100000; decide), fun KA hKA => ?_⟩
      walk_at "run"
      have n8 : ∀ {p o}, H6 p = some o → p ≠ KA := fun e => ne_of_none (g7 e) hKA
      have g8 : ∀ {p o}, H6 p = some o → upd (upd H6 T0 (.tup [.int ((i : Nat) : Int), .ref sp])) KA (.tup [.int ((i : Nat) : Int), .int a, .int b]) p = some o := fun e => by rw [upd_ne (n8 e)]; exact g7 e
      have hKA6 : H6 KA = none := Same.free (Same.new hT0) hKA
      have hkey : ([Sum.inl (i : Int), Sum.inl a, Sum.inl b] : List Key).map kV = [V.int ((i : Nat) : Int), V.int a, V.int b] := rfl
      refine ⟨KD, _, rfl, DGet.t (k := [Sum.inl (i : Int), Sum.inl a, Sum.inl b]) (g8 hK6) upd_same, ?_⟩
      walk_at "run"
      -- behind the test: the dict knows the key
      have fin : ∀ (σ2 : L2.St) (H8 : Hp) (kv8 : List (List Key × V)) (v14 v15 : Option V), σ2 = [some (.ref lp), some (.int (m : Int)), some (.int (h0 : Int)), some (.int (n : Int)), some (.ref lr), some (.ref SA), some (.ref KD), some (.ref bA), some (.ref ca), some (.ref FA), some (.int (i : Int)), some (.int (fi : Int)), some (.int (se : Int)), some (.ref KA), v14, v15, v16, v17, v18] →
          Only [KD] H6 H8 → H8 KD = some (.dT kv8) → KnownOk (sup.map (·.1)) h0 n kv8 → kv8.length ≤ 60 * j + (i + 1) → valV kv8 [Sum.inl (i : Int), Sum.inl a, Sum.inl b] = some (.int (cval (sup.map (·.1)) h0 n i a b)) → H8 KA = some (.tup [.int ((i : Nat) : Int), .int a, .int b]) →
          ∀ D' : Ends, (∀ σ' H', (∃ v10 v11 v12 v13 v14 v15 kvs, σ' = [some (.ref lp), some (.int (m : Int)), some (.int (h0 : Int)), some (.int (n : Int)), some (.ref lr), some (.ref SA), some (.ref KD), some (.ref bA), some (.ref ca), some (.ref FA), v10, v11, v12, v13, v14, v15, v16, v17, v18] ∧ Only [KD] H5 H' ∧ H' KD = some (.dT kvs) ∧ KnownOk (sup.map (·.1)) h0 n kvs ∧ kvs.length ≤ 60 * j + (i + 1) ∧ H' FA = some (.lst (cellsV ((List.range (i + 1)).map fun x => cellOf h0 n (offsetBy (laidBy sup c) x))))) → D'.nx σ' H') →
          tDrop (tBM K "list" rAppend (tVar 9) (tCons (tDGet (tVar 6) (tVar 13)) tNil)) D' σ2 H8 := by
        rintro σ2 H8 kv8 v14 v15 rfl o8 hK8 k8 z8 hv8 hKA8 D' hD'
        have f8 : H8 FA = some (.lst (cellsV ((List.range i).map fun x => cellOf h0 n (offsetBy (laidBy sup c) x)))) := o8 _ _ f6 (by intro z; exact hFK (List.mem_singleton.mp z))
        walk_at "run"
        refine ⟨.inl ⟨rfl, _, SqL.of f8⟩, ?_⟩
        walk_at "run"
        refine ⟨KD, _, rfl, (by rw [← hv8]; exact DGet.t (k := [Sum.inl (i : Int), Sum.inl a, Sum.inl b]) hK8 hKA8), ?_⟩
        walk_at "run"
        refine r_append f8 (by unfold cellsV; rw [List.length_map, List.length_map, List.length_range]; omega) ?_
        refine hD' _ _ ⟨_, _, _, _, _, _, kv8, rfl, ?_, ?_, k8, z8, ?_⟩
        · intro p o e hp
          rw [upd_ne (ne_of_none e hFA)]
          exact o8 _ _ (o6 _ _ e hp) hp
        · rw [upd_ne hFK.symm]; exact hK8
        · rw [upd_same, range_map_succ, ecv]
          unfold cellsV
          rw [List.map_append]; rfl
      have tg : ∀ (H8 : Hp), True := fun _ => trivial
      cases ek : valV kv6 [Sum.inl (i : Int), Sum.inl a, Sum.inl b] with
      | some w =>
        have ew : w = .int (cval (sup.map (·.1)) h0 n i a b) := by
          rcases k6 i a b with z | z
          · rw [z] at ek; cases ek
          · rw [z] at ek; exact (Option.some.inj ek).symm
        subst ew
        refine iteF ?_
        refine r_next ?_
        refine fin _ _ kv6 _ _ rfl (Only.new (Only.new (Only.refl _ _) hT0) hKA6) (g8 hK6) k6 (by omega) ek upd_same _ (by exact fun _ _ h => h)
      | none =>
        refine iteT ?_
        walk_at "run"
        have kdn : ∀ b ∈ [KD], H b = none := fun b hb => by rw [List.mem_singleton.mp hb]; exact hKDn
        have s6 : Same H H6 := Only.same ((sH4.then o5).then o6) kdn
        have s8 : Same H (upd (upd H6 T0 (.tup [.int ((i : Nat) : Int), .ref sp])) KA (.tup [.int ((i : Nat) : Int), .int a, .int b])) := Same.mut (Same.mut s6 (s6.free hT0)) (s6.free hKA6)
        refine r_ixl (s8.seq hlp) (natsV_at hp1) ?_
        walk_at "run"
        refine r_ixt (SqT.of (g8 hct6)) iva ?_
        walk_at "run"
        refine ⟨sl60 (by show 2 ≤ 100000; decide), fun O1 hO1 => ?_⟩
        walk_at "run"
        have s9 := Same.mut (o := .tup [V.int (p1 : Int), V.int a]) s8 (s8.free hO1)
        refine r_ixl (s9.seq hlp) (natsV_at hp2) ?_
        walk_at "run"
        refine r_ixt (SqT.of (by rw [upd_ne (ne_of_none (g8 hct6) hO1)]; exact g8 hct6)) ivb ?_
        walk_at "run"
        refine ⟨sl60 (by show 2 ≤ 100000; decide), fun O2 hO2 => ?_⟩
        walk_at "run"
        have hO12 : O1 ≠ O2 := ne_of_none upd_same hO2
        have mem : ∀ {i p : Nat}, (sup.map (·.1))[i]? = some p → p < m := fun e => by
          obtain ⟨y, hy, ey⟩ := List.mem_map.mp (List.mem_of_getElem? e)
          rw [← ey]; exact hlt y hy
        have b1 := hrb a (hcm.2 a (List.mem_of_getElem? ha))
        have b2 := hrb b (hcm.2 b (List.mem_of_getElem? hb))
        have q1 := mem hp1
        have q2 := mem hp2
        refine ⟨O1, O2, p1, a, p2, b, i, rfl, (by rw [upd_ne hO12, upd_same]), upd_same, by omega, by omega, b1.1, b1.2, b2.1, b2.2, fun H9 P9 s9' hP9 hT9 => ?_⟩
        walk_at "run"
        have dn := betwI_den (a := p1) (b := p2) a b i (by omega) (by omega)
        refine ⟨P9, betwI p1 a p2 b i, h0, n, rfl, hT9, dn.1, dn.2, h1, h2, n1, n2, ?_⟩
        walk_at "run"
        have g9 : ∀ {p o}, H6 p = some o → H9 p = some o := fun e => s9' _ _ (by
          rw [upd_ne (ne_of_none (by rw [upd_ne (ne_of_none (g8 e) hO1)]; exact g8 e) hO2), upd_ne (ne_of_none (g8 e) hO1)]; exact g8 e)
        have kA9 : H9 KA = some (.tup [.int ((i : Nat) : Int), .int a, .int b]) := s9' _ _ (by
          have e1 : upd (upd (upd H6 T0 (.tup [.int ((i : Nat) : Int), .ref sp])) KA (.tup [.int ((i : Nat) : Int), .int a, .int b])) O1 (.tup [V.int (p1 : Int), V.int a]) KA = some (.tup [.int ((i : Nat) : Int), .int a, .int b]) := by
            rw [upd_ne (ne_of_none upd_same hO1), upd_same]
          rw [upd_ne (ne_of_none e1 hO2)]; exact e1)
        have hKAK : KA ≠ KD := (n8 hK6).symm
        rw [← ecell]
        refine ⟨KD, _, rfl, DPut.t (k := [Sum.inl (i : Int), Sum.inl a, Sum.inl b]) (g9 hK6) kA9 (by rw [sizeLine_eq]; omega), ?_⟩
        refine fin _ _ (putK kv6 [Sum.inl (i : Int), Sum.inl a, Sum.inl b] (.int (cval (sup.map (·.1)) h0 n i a b))) (some (.ref O1)) (some (.ref O2)) ?e1 ?e2 ?e3 ?e4 ?e5 ?e6 ?e7 _ ?e8
        case e1 => rfl
        case e3 => exact upd_same
        case e4 => exact k6.put _ _ _
        case e8 => exact fun _ _ h => h
        · intro p o e hp
          rw [upd_ne (fun z => hp (List.mem_singleton.mpr z))]
          exact g9 e
        · have := length_putK kv6 [Sum.inl (i : Int), Sum.inl a, Sum.inl b] (.int (cval (sup.map (·.1)) h0 n i a b))
          omega
        · rw [valV_put, if_pos rfl]
        · rw [upd_ne hKAK]; exact kA9
    · rintro σ H6 ⟨v10, v11, v12, v13, v14, v15, kv6, rfl, o6, hK6, k6, z6, f6⟩
      have ecs : (List.range (ts.map V.ref).length).map (fun x => cellOf h0 n (offsetBy (laidBy sup c) x)) = cellsBy (laidBy sup c) m h0 n := by rw [List.length_map, hts]; rfl
      rw [ecs] at f6
      rw [List.length_map, hts] at z6
      have hcsl : (cellsBy (laidBy sup c) m h0 n).length = m := by unfold cellsBy; rw [List.length_map, List.length_range]
      walk_at "run"
      refine ⟨FA, cellsBy (laidBy sup c) m h0 n, n, rfl, SqL.of f6, ?_, n1, n2, by rw [hcsl]; omega, fun H7 P7 C7 s7 hP7 hT7 hC7 hL7 => ?_⟩
      · intro cc hcc
        unfold cellsBy at hcc
        obtain ⟨x, hx, ex⟩ := List.mem_map.mp hcc
        obtain ⟨_, _, _, _, _, _, _, _, _, _, _, _, _, _, elow, _⟩ := cval_is hri hne hcl x h0 n h1 n1
        exact cellOf_lt elow.is h1 n1 ex
      walk_at "run"
      refine r_gtup (SqT.of hT7) rfl ?_
      walk_at "run"
      have hcl7 : (counts (cellsBy (laidBy sup c) m h0 n) n).length = n := counts_length _ _
      refine ⟨C7, (counts (cellsBy (laidBy sup c) m h0 n) n).map (fun (k : Nat) => (k : Int)), rfl, SqL.of (by rw [hL7]; unfold natsV; rw [List.map_map]; rfl), by rw [List.length_map, hcl7]; omega, fun mx hm1 hm2 => ?_⟩
      have emx : mx = ((greatest (counts (cellsBy (laidBy sup c) m h0 n) n) : Nat) : Int) := by
        obtain ⟨g, hg, rfl⟩ := List.mem_map.mp hm1
        have := greatest_is hg fun y hy => by have := hm2 _ (List.mem_map.mpr ⟨y, hy, rfl⟩); omega
        rw [this]
      subst emx
      walk_at "run"
      refine ⟨sl60 (by show 3 ≤ 100000; decide), fun VA hVA => ?_⟩
      walk_at "run"
      have kdn : ∀ b ∈ [KD], H b = none := fun b hb => by rw [List.mem_singleton.mp hb]; exact hKDn
      have s6 : Same H H6 := Only.same ((sH4.then o5).then o6) kdn
      have k7 : ∀ a xs, H5 a = some (.tup xs) → upd H7 VA (.tup [.int (offs (cellsBy (laidBy sup c) m h0 n) : Int), .int ((greatest (counts (cellsBy (laidBy sup c) m h0 n) n) : Nat) : Int), .ref ca]) a = some (.tup xs) := fun a xs e => by
        have e7 := s7 _ _ (kt o6 hK5 _ _ e)
        rw [upd_ne (ne_of_none e7 hVA)]; exact e7
      have hVAH : H VA = none := (s6.trans s7).free hVA
      have hw : (worths sup m h0 n row)[j]? = some (worthOf sup m h0 n c, c) := by unfold worths; exact get_map hc
      have et : (worths sup m h0 n row).take (j + 1) = (worths sup m h0 n row).take j ++ [(worthOf sup m h0 n c, c)] := take_succ_get hw
      have o7 : Only [KD] H4 (upd H7 VA (.tup [.int (offs (cellsBy (laidBy sup c) m h0 n) : Int), .int ((greatest (counts (cellsBy (laidBy sup c) m h0 n) n) : Nat) : Int), .ref ca])) := fun p o e hp => by
        have e7 := s7 _ _ ((o5.then o6) _ _ e hp)
        rw [upd_ne (ne_of_none e7 hVA)]; exact e7
      have hK7 : upd H7 VA (.tup [.int (offs (cellsBy (laidBy sup c) m h0 n) : Int), .int ((greatest (counts (cellsBy (laidBy sup c) m h0 n) n) : Nat) : Int), .ref ca]) KD = some (.dT kv6) := by
        have e7 := s7 _ _ hK6
        rw [upd_ne (ne_of_none e7 hVA)]; exact e7
      have vat : BestAt H (upd H7 VA (.tup [.int (offs (cellsBy (laidBy sup c) m h0 n) : Int), .int ((greatest (counts (cellsBy (laidBy sup c) m h0 n) n) : Nat) : Int), .ref ca])) VA (some (worthOf sup m h0 n c, c)) := ⟨hVAH, ca, upd_same, k7 _ _ hct5⟩
      have b7 := b5.keep k7
      cases eb : ((worths sup m h0 n row).take j).foldl bestStep none with
      | none =>
        rw [eb] at b7
        refine r_lenT (SqT.of b7) ?_
        walk_at "run"
        refine iteT (iteT ?_)
        walk_at "run"
        refine ⟨_, _, _, _, _, _, _, _, _, _, _, _, kv6, rfl, o7, hK7, k6, by omega, ?_⟩
        rw [et, List.foldl_append, eb]
        exact vat
      | some y =>
        rw [eb] at b7
        obtain ⟨hb0, qb, hb1, hb2⟩ := b7
        have hymem : y ∈ (worths sup m h0 n row).take j := by
          rcases fold_mem _ _ _ eb with z | z
          · cases z
          · exact z
        have hlex : lexL y.2 c := by
          obtain ⟨jy, hjy⟩ := List.getElem?_of_mem hymem
          have hjl : jy < j := by have := get_lt hjy; rw [List.length_take] at this; omega
          rw [List.getElem?_take_of_lt hjl] at hjy
          unfold worths at hjy
          obtain ⟨cy, hcy, ey⟩ := map_get hjy
          have pw := List.pairwise_iff_getElem.mp (choices_up hup sup.length) jy j (get_lt hcy) (get_lt hc) hjl
          have e1 := (List.getElem?_eq_some_iff.mp hcy).2
          have e2 := (List.getElem?_eq_some_iff.mp hc).2
          rw [e1, e2] at pw
          rw [ey]; exact pw
        refine r_lenT (SqT.of hb1) ?_
        walk_at "run"
        refine iteF ?_
        walk_at "run"
        have dints : ∀ (cc : List Int), DpAll K (upd H7 VA (.tup [.int (offs (cellsBy (laidBy sup c) m h0 n) : Int), .int ((greatest (counts (cellsBy (laidBy sup c) m h0 n) n) : Nat) : Int), .ref ca])) (cc.map V.int) (cc.map PyData.int) := fun cc => by
          induction cc with
          | nil => exact .nil
          | cons z r ih => exact .cons (.int z) ih
        refine ⟨vd (worthOf sup m h0 n c, c), vd y, ?_, ?_, alike_vd _ _, (by intro z; cases z), depth_vd _, ?_⟩
        · exact .tup (SqT.of upd_same) (.cons (.int _) (.cons (.int _) (.cons (.tup (SqT.of (k7 _ _ hct5)) (dints c)) .nil)))
        · exact .tup (SqT.of hb1) (.cons (.int _) (.cons (.int _) (.cons (.tup (SqT.of hb2) (dints y.2)) .nil)))
        rw [lt_later hlex]
        walk_at "run"
        refine iteD (fun cb => ?_) fun cb => ?_
        · walk_at "run"
          refine ⟨_, _, _, _, _, _, _, _, _, _, _, _, kv6, rfl, o7, hK7, k6, by omega, ?_⟩
          rw [et, List.foldl_append, eb]
          show BestAt H _ VA (if better (worthOf sup m h0 n c, c) y then some (worthOf sup m h0 n c, c) else some y)
          rw [if_pos cb]
          exact vat
        · walk_at "run"
          refine ⟨_, _, _, _, _, _, _, _, _, _, _, _, kv6, rfl, o7, hK7, k6, by omega, ?_⟩
          rw [et, List.foldl_append, eb]
          show BestAt H _ bA (if better (worthOf sup m h0 n c, c) y then some (worthOf sup m h0 n c, c) else some y)
          rw [if_neg cb]
          exact ⟨hb0, qb, hb1, hb2⟩
  · rintro σ H' ⟨bA, v8, v9, v10, v11, v12, v13, v14, v15, v16, v17, v18, kvs, rfl, o5, hK5, k5, z5, b5⟩
    have hwl : (worths sup m h0 n row).length = us.length := by unfold worths; rw [List.length_map, hus]
    rw [List.length_map, ← hwl, List.take_length, best_is] at b5
    have hcne : choices row sup.length ≠ [] := by
      intro z
      have := congrArg List.length z
      rw [choices_length] at this
      have : 0 < row.length ^ sup.length := Nat.pow_pos (List.length_pos_iff.mpr rne)
      simp_all
    obtain ⟨y, hy1, hy2⟩ := bestOf_some (l := worths sup m h0 n row) (by unfold worths; intro z; exact hcne (List.map_eq_nil_iff.mp z))
    rw [hy1] at b5
    obtain ⟨hb0, qb, hb1, hb2⟩ := b5
    have hyl : y.2.length = sup.length := by
      unfold worths at hy2
      obtain ⟨c, hc, ec⟩ := List.mem_map.mp hy2
      rw [← ec]; exact (choices_each hc).1
    have kdn : ∀ b ∈ [KD], H b = none := fun b hb => by rw [List.mem_singleton.mp hb]; exact hKDn
    walk_at "run"
    exact q _ bA qb y hy1 hyl (Only.same (sH4.then o5) kdn) hb0 hb1 hb2
abbrev s_Wire_init : Stmt := inClass (topS 11) 0
abbrev N_Wire_init : List Str := ["self", "many", "left"]
theorem sc_Wire_init : FnScope N_Wire_init ["self", "many", "left"] (defScope s_Wire_init) := ⟨rfl, rfl, rfl, by decide +kernel, rfl, by decide +kernel, by decide +kernel⟩
set_option maxHeartbeats 4000000 in
theorem cal_Wire_init (T : Txt K mg A) (D : DefI K mg A.CW "Wire" "Wire.__init__" s_Wire_init) : Make1 P wd K mg base 1 A.CW "Wire" (spInitW A) := by
  obtain ⟨f, fd, F, hm, hC⟩ := D.ex
  refine ⟨f, fd, ["self", "many", "left"], F.ok (k := 0) sc_Wire_init (fun vs H Q E h => by obtain ⟨_, _, _, _, rfl, _⟩ := h; rfl) (fun cdv AA outer s H vs Q E hr h => ⟨_, (pss_cons (ps_fld (pv 0) (pv 1) rfl)
      (pss_cons (ps_fld (pv 0) (pe_op op_rep (pe_lst (pa_cons (pv 2) pa_nil)) (pv 1)) rfl)
      (pss_cons (ps_fld (pv 0) (pe_op op_rep (pe_lst (pa_cons pe_int pa_nil)) (pv 1)) rfl)
      (pss_cons (ps_fld (pv 0) (pe_op op_rep (pe_lst (pa_cons pe_int pa_nil)) (pv 1)) rfl)
      (pss_cons (ps_fld (pv 0) (pe_lst pa_nil) rfl)
      (pss_cons (ps_fld (pv 0) pe_dnewT rfl)
      (pss_cons (ps_fld (pv 0) pe_dnewK rfl)
      (pss_one (ps_fld (pv 0) pe_int rfl))))))))), ?_⟩), hm, hC, F.binds (ps := ["self", "many", "left"]) fun _ _ _ _ _ _ us hl => match us, hl with | [_, _, _], _ => rfl⟩
  obtain ⟨a, dx, m, d, rfl, m2, m60, hob, q⟩ := h
  walk_at "run"
  refine ⟨a, A.CW, dx, [], rfl, hob, T.clW, T.nW_many, (by show 0 < 1000; decide), ?_⟩
  walk_at "run"
  have f1 : putF "many" (.int (m : Int)) [] = [(("many" : Str), V.int (m : Int))] := rfl
  rw [f1]
  refine ⟨sl60 (by show 1 ≤ 100000; decide), fun p1 hp1 => ?_⟩
  walk_at "run"
  refine ⟨p1, m, [.int (d : Int)], rfl, rfl, upd_same, by omega, by omega, sl60 (by show 1 * (m : Int).toNat ≤ 100000; omega), fun al hal => ?_⟩
  rw [flat_one, Int.toNat_natCast]
  walk_at "run"
  have t0 : ∀ {H1 : Hp} {p : Addr} {o u : HO}, H1 a = some o → H1 p = none → upd H1 p u a = some o := fun e hp => by rw [upd_ne (ne_of_none e hp)]; exact e
  have a1 := t0 (u := .lst (List.replicate m (.int (d : Int)))) (t0 (u := .lst [.int (d : Int)]) (upd_same (H := H) (a := a) (o := .ins A.CW dx [(("many" : Str), V.int (m : Int))])) hp1) hal
  have na : al ≠ a := fun z => by rw [z, t0 (upd_same (H := H) (a := a) (o := .ins A.CW dx [(("many" : Str), V.int (m : Int))])) hp1] at hal; cases hal
  refine ⟨a, A.CW, dx, _, rfl, a1, T.clW, T.nW_left, (by show 1 < 1000; decide), ?_⟩
  have f2 : putF "left" (.ref al) [(("many" : Str), V.int (m : Int))] = [(("many" : Str), V.int (m : Int)), ("left", .ref al)] := (put_past (by decide +kernel)).trans rfl
  rw [f2]
  generalize hH2 : upd (upd (upd (upd H a (.ins A.CW dx [(("many" : Str), V.int (m : Int))])) p1 (.lst [.int (d : Int)])) al (.lst (List.replicate m (.int (d : Int))))) a (.ins A.CW dx [(("many" : Str), V.int (m : Int)), ("left", .ref al)]) = H2
  have b2 : H2 a = some (.ins A.CW dx [(("many" : Str), V.int (m : Int)), ("left", .ref al)]) := by rw [← hH2]; exact upd_same
  have c2 : H2 al = some (.lst (List.replicate m (.int (d : Int)))) := by rw [← hH2, upd_ne na]; exact upd_same
  have fr1 : ∀ {p : Addr}, upd H a (.ins A.CW dx [(("many" : Str), V.int (m : Int))]) p = none → H p = none ∧ p ≠ a := fun {p} e => by
    have hn : p ≠ a := fun z => by rw [z, upd_same] at e; cases e
    rw [upd_ne hn] at e
    exact ⟨e, hn⟩
  have frn : ∀ {H1 : Hp} {p b : Addr} {u : HO}, upd H1 b u p = none → H1 p = none ∧ p ≠ b := fun {H1 p b u} e => by
    have hn : p ≠ b := fun z => by rw [z, upd_same] at e; cases e
    rw [upd_ne hn] at e
    exact ⟨e, hn⟩
  have hp1H := (frn hp1).1
  have halH := (frn (frn hal).1).1
  have o2 : Only [a] H H2 := by
    rw [← hH2]
    exact Only.setp (Only.new (Only.new (Only.setp (Only.refl _ _) (List.mem_singleton.mpr rfl)) hp1H) halH) (List.mem_singleton.mpr rfl)
  have old2 : ∀ {p : Addr}, H2 p = none → H p = none ∧ p ≠ a := fun {p} e => by
    have hn : p ≠ a := fun z => by rw [z, b2] at e; cases e
    refine ⟨?_, hn⟩
    cases e3 : H p with
    | none => rfl
    | some o => rw [o2 _ _ e3 (by simpa using hn)] at e; cases e
  clear hH2 a1
  walk_at "run"
  refine ⟨sl60 (by show 1 ≤ 100000; decide), fun p3 hp3 => ?_⟩
  walk_at "run"
  refine ⟨p3, m, [.int 0], rfl, rfl, upd_same, by omega, by omega, sl60 (by show 1 * (m : Int).toNat ≤ 100000; omega), fun av hav => ?_⟩
  rw [flat_one, Int.toNat_natCast]
  walk_at "run"
  refine ⟨a, A.CW, dx, _, rfl, t0 (t0 b2 hp3) hav, T.clW, T.nW_levels, (by show 2 < 1000; decide), ?_⟩
  have f3 : putF "levels" (.ref av) [(("many" : Str), V.int (m : Int)), ("left", .ref al)] = [(("many" : Str), V.int (m : Int)), ("left", .ref al), ("levels", .ref av)] := (put_past (by decide +kernel)).trans (congrArg _ ((put_past (by decide +kernel)).trans rfl))
  rw [f3]
  generalize hH4 : upd (upd (upd H2 p3 (.lst [.int 0])) av (.lst (List.replicate m (.int 0)))) a (.ins A.CW dx [(("many" : Str), V.int (m : Int)), ("left", .ref al), ("levels", .ref av)]) = H4
  have hav2 := (frn hav).1
  have nav : av ≠ a := (old2 hav2).2
  have nal : al ≠ av := ne_of_none c2 hav2
  have b4 : H4 a = some (.ins A.CW dx [(("many" : Str), V.int (m : Int)), ("left", .ref al), ("levels", .ref av)]) := by rw [← hH4]; exact upd_same
  have c4 : H4 al = some (.lst (List.replicate m (.int (d : Int)))) := by rw [← hH4, upd_ne na, upd_ne nal, upd_ne (ne_of_none c2 hp3)]; exact c2
  have d4 : H4 av = some (.lst (List.replicate m (.int 0))) := by rw [← hH4, upd_ne nav]; exact upd_same
  have o4 : Only [a] H H4 := by
    rw [← hH4]
    exact Only.setp (Only.new (Only.new o2 (old2 hp3).1) (old2 hav2).1) (List.mem_singleton.mpr rfl)
  have old4 : ∀ {p : Addr}, H4 p = none → H p = none ∧ p ≠ a := fun {p} e => by
    have hn : p ≠ a := fun z => by rw [z, b4] at e; cases e
    refine ⟨?_, hn⟩
    cases e3 : H p with
    | none => rfl
    | some o => rw [o4 _ _ e3 (by simpa using hn)] at e; cases e
  clear hH4
  walk_at "run"
  refine ⟨sl60 (by show 1 ≤ 100000; decide), fun p5 hp5 => ?_⟩
  walk_at "run"
  refine ⟨p5, m, [.int 0], rfl, rfl, upd_same, by omega, by omega, sl60 (by show 1 * (m : Int).toNat ≤ 100000; omega), fun ax hax => ?_⟩
  rw [flat_one, Int.toNat_natCast]
  walk_at "run"
  refine ⟨a, A.CW, dx, _, rfl, t0 (t0 b4 hp5) hax, T.clW, T.nW_extras, (by show 3 < 1000; decide), ?_⟩
  have f5 : putF "extras" (.ref ax) [(("many" : Str), V.int (m : Int)), ("left", .ref al), ("levels", .ref av)] = [(("many" : Str), V.int (m : Int)), ("left", .ref al), ("levels", .ref av), ("extras", .ref ax)] := (put_past (by decide +kernel)).trans (congrArg _ ((put_past (by decide +kernel)).trans (congrArg _ ((put_past (by decide +kernel)).trans rfl))))
  rw [f5]
  generalize hH6 : upd (upd (upd H4 p5 (.lst [.int 0])) ax (.lst (List.replicate m (.int 0)))) a (.ins A.CW dx [(("many" : Str), V.int (m : Int)), ("left", .ref al), ("levels", .ref av), ("extras", .ref ax)]) = H6
  have hax4 := (frn hax).1
  have nax : ax ≠ a := (old4 hax4).2
  have nalx : al ≠ ax := ne_of_none c4 hax4
  have navx : av ≠ ax := ne_of_none d4 hax4
  have b6 : H6 a = some (.ins A.CW dx [(("many" : Str), V.int (m : Int)), ("left", .ref al), ("levels", .ref av), ("extras", .ref ax)]) := by rw [← hH6]; exact upd_same
  have c6 : H6 al = some (.lst (List.replicate m (.int (d : Int)))) := by rw [← hH6, upd_ne na, upd_ne nalx, upd_ne (ne_of_none c4 hp5)]; exact c4
  have d6 : H6 av = some (.lst (List.replicate m (.int 0))) := by rw [← hH6, upd_ne nav, upd_ne navx, upd_ne (ne_of_none d4 hp5)]; exact d4
  have e6 : H6 ax = some (.lst (List.replicate m (.int 0))) := by rw [← hH6, upd_ne nax]; exact upd_same
  have o6 : Only [a] H H6 := by
    rw [← hH6]
    exact Only.setp (Only.new (Only.new o4 (old4 hp5).1) (old4 hax4).1) (List.mem_singleton.mpr rfl)
  have old6 : ∀ {H' : Hp} {p : Addr} {o : HO}, Only [a] H H' → H' a = some o → H' p = none → H p = none ∧ p ≠ a := fun {H' p o} oo hb e => by
    have hn : p ≠ a := fun z => by rw [z, hb] at e; cases e
    refine ⟨?_, hn⟩
    cases e3 : H p with
    | none => rfl
    | some o => rw [oo _ _ e3 (by simpa using hn)] at e; cases e
  clear hH6
  walk_at "run"
  refine ⟨sl60 (by show 0 ≤ 100000; decide), fun ak hak => ?_⟩
  walk_at "run"
  refine ⟨a, A.CW, dx, _, rfl, t0 b6 hak, T.clW, T.nW_kinds, (by show 4 < 1000; decide), ?_⟩
  have f7 : putF "kinds" (.ref ak) [(("many" : Str), V.int (m : Int)), ("left", .ref al), ("levels", .ref av), ("extras", .ref ax)] = [(("many" : Str), V.int (m : Int)), ("left", .ref al), ("levels", .ref av), ("extras", .ref ax), ("kinds", .ref ak)] := (put_past (by decide +kernel)).trans (congrArg _ ((put_past (by decide +kernel)).trans (congrArg _ ((put_past (by decide +kernel)).trans (congrArg _ ((put_past (by decide +kernel)).trans rfl))))))
  rw [f7]
  generalize hH7 : upd (upd H6 ak (.lst [])) a (.ins A.CW dx [(("many" : Str), V.int (m : Int)), ("left", .ref al), ("levels", .ref av), ("extras", .ref ax), ("kinds", .ref ak)]) = H7
  have hakH := old6 o6 b6 hak
  have b7 : H7 a = some (.ins A.CW dx [(("many" : Str), V.int (m : Int)), ("left", .ref al), ("levels", .ref av), ("extras", .ref ax), ("kinds", .ref ak)]) := by rw [← hH7]; exact upd_same
  have c7 : H7 al = some (.lst (List.replicate m (.int (d : Int)))) := by rw [← hH7, upd_ne na, upd_ne (ne_of_none c6 hak)]; exact c6
  have d7 : H7 av = some (.lst (List.replicate m (.int 0))) := by rw [← hH7, upd_ne nav, upd_ne (ne_of_none d6 hak)]; exact d6
  have e7 : H7 ax = some (.lst (List.replicate m (.int 0))) := by rw [← hH7, upd_ne nax, upd_ne (ne_of_none e6 hak)]; exact e6
  have k7 : H7 ak = some (.lst []) := by rw [← hH7, upd_ne hakH.2]; exact upd_same
  have o7 : Only [a] H H7 := by
    rw [← hH7]
    exact Only.setp (Only.new o6 hakH.1) (List.mem_singleton.mpr rfl)
  have nalk : al ≠ ak := ne_of_none c6 hak
  have navk : av ≠ ak := ne_of_none d6 hak
  have naxk : ax ≠ ak := ne_of_none e6 hak
  clear hH7
  walk_at "run"
  intro sv hsv
  walk_at "run"
  refine ⟨a, A.CW, dx, _, rfl, t0 b7 hsv, T.clW, T.nW_services, (by show 5 < 1000; decide), ?_⟩
  have f8 : putF "services" (.ref sv) [(("many" : Str), V.int (m : Int)), ("left", .ref al), ("levels", .ref av), ("extras", .ref ax), ("kinds", .ref ak)] = [(("many" : Str), V.int (m : Int)), ("left", .ref al), ("levels", .ref av), ("extras", .ref ax), ("kinds", .ref ak), ("services", .ref sv)] := (put_past (by decide +kernel)).trans (congrArg _ ((put_past (by decide +kernel)).trans (congrArg _ ((put_past (by decide +kernel)).trans (congrArg _ ((put_past (by decide +kernel)).trans (congrArg _ ((put_past (by decide +kernel)).trans rfl))))))))
  rw [f8]
  generalize hH8 : upd (upd H7 sv (.dT [])) a (.ins A.CW dx [(("many" : Str), V.int (m : Int)), ("left", .ref al), ("levels", .ref av), ("extras", .ref ax), ("kinds", .ref ak), ("services", .ref sv)]) = H8
  have hsvH := old6 o7 b7 hsv
  have b8 : H8 a = some (.ins A.CW dx [(("many" : Str), V.int (m : Int)), ("left", .ref al), ("levels", .ref av), ("extras", .ref ax), ("kinds", .ref ak), ("services", .ref sv)]) := by rw [← hH8]; exact upd_same
  have c8 : H8 al = some (.lst (List.replicate m (.int (d : Int)))) := by rw [← hH8, upd_ne na, upd_ne (ne_of_none c7 hsv)]; exact c7
  have d8 : H8 av = some (.lst (List.replicate m (.int 0))) := by rw [← hH8, upd_ne nav, upd_ne (ne_of_none d7 hsv)]; exact d7
  have e8 : H8 ax = some (.lst (List.replicate m (.int 0))) := by rw [← hH8, upd_ne nax, upd_ne (ne_of_none e7 hsv)]; exact e7
  have k8 : H8 ak = some (.lst []) := by rw [← hH8, upd_ne hakH.2, upd_ne (ne_of_none k7 hsv)]; exact k7
  have v8 : H8 sv = some (.dT []) := by rw [← hH8, upd_ne hsvH.2]; exact upd_same
  have o8 : Only [a] H H8 := by
    rw [← hH8]
    exact Only.setp (Only.new o7 hsvH.1) (List.mem_singleton.mpr rfl)
  clear hH8
  walk_at "run"
  intro su hsu
  walk_at "run"
  refine ⟨a, A.CW, dx, _, rfl, t0 b8 hsu, T.clW, T.nW_supports, (by show 6 < 1000; decide), ?_⟩
  have f9 : putF "supports" (.ref su) [(("many" : Str), V.int (m : Int)), ("left", .ref al), ("levels", .ref av), ("extras", .ref ax), ("kinds", .ref ak), ("services", .ref sv)] = [(("many" : Str), V.int (m : Int)), ("left", .ref al), ("levels", .ref av), ("extras", .ref ax), ("kinds", .ref ak), ("services", .ref sv), ("supports", .ref su)] := (put_past (by decide +kernel)).trans (congrArg _ ((put_past (by decide +kernel)).trans (congrArg _ ((put_past (by decide +kernel)).trans (congrArg _ ((put_past (by decide +kernel)).trans (congrArg _ ((put_past (by decide +kernel)).trans (congrArg _ ((put_past (by decide +kernel)).trans rfl))))))))))
  rw [f9]
  have hsuH := old6 o8 b8 hsu
  walk_at "run"
  refine ⟨a, A.CW, dx, _, rfl, upd_same, T.clW, T.nW_day, (by show 7 < 1000; decide), ?_⟩
  have f10 : putF "day" (.int 0) [(("many" : Str), V.int (m : Int)), ("left", .ref al), ("levels", .ref av), ("extras", .ref ax), ("kinds", .ref ak), ("services", .ref sv), ("supports", .ref su)] = wF ⟨a, dx, al, av, ax, ak, sv, su⟩ m 0 := (put_past (by decide +kernel)).trans (congrArg _ ((put_past (by decide +kernel)).trans (congrArg _ ((put_past (by decide +kernel)).trans (congrArg _ ((put_past (by decide +kernel)).trans (congrArg _ ((put_past (by decide +kernel)).trans (congrArg _ ((put_past (by decide +kernel)).trans (congrArg _ ((put_past (by decide +kernel)).trans rfl))))))))))))
  rw [f10]
  have fin : ∀ {p : Addr} {o : HO}, p ≠ a → H8 p = some o → upd (upd (upd H8 su (.dK [])) a (.ins A.CW dx [(("many" : Str), V.int (m : Int)), ("left", .ref al), ("levels", .ref av), ("extras", .ref ax), ("kinds", .ref ak), ("services", .ref sv), ("supports", .ref su)])) a (.ins A.CW dx (wF ⟨a, dx, al, av, ax, ak, sv, su⟩ m 0)) p = some o := fun hn e => by
    rw [upd_ne hn, upd_ne hn, upd_ne (ne_of_none e hsu)]; exact e
  refine q _ ⟨a, dx, al, av, ax, ak, sv, su⟩ rfl ?_ ?_ ?_
  · refine ⟨?_, ?_, ?_, ?_, ⟨[], fin hakH.2 k8, AllT.nil⟩, ⟨[], fin hsvH.2 v8, ?_⟩, ⟨[], ?_, ?_⟩, nal, nalx, nalk, navx, navk, naxk⟩
    · rw [upd_same]
      show _ = some (HO.ins A.CW dx (wF _ (List.replicate m _).length 0))
      rw [List.length_replicate]
    · refine (fin na c8).trans ?_
      show _ = some (HO.lst (leftsV (List.replicate m _)))
      unfold leftsV
      rw [List.map_replicate]
    · refine (fin nav d8).trans ?_
      show _ = some (HO.lst (levelsV (List.replicate m _)))
      unfold levelsV
      rw [List.map_replicate]; rfl
    · refine (fin nax e8).trans ?_
      show _ = some (HO.lst (extrasV (List.replicate m _)))
      unfold extrasV
      rw [List.map_replicate]; rfl
    · refine ⟨fun d k hd => ?_, List.nodup_nil, fun key h => by simp at h⟩
      rw [laid_passes]; rfl
    · rw [upd_ne hsuH.2, upd_ne hsuH.2]; exact upd_same
    · exact ⟨fun x => rfl, List.nodup_nil, fun key h => by simp at h⟩
  · intro b hb hn
    simp only [Lay.own, List.mem_cons, List.not_mem_nil, or_false] at hb
    rcases hb with rfl | rfl | rfl | rfl | rfl | rfl | rfl
    · exact absurd rfl hn
    · exact halH
    · exact (old2 hav2).1
    · exact (old4 hax4).1
    · exact hakH.1
    · exact hsvH.1
    · exact hsuH.1
  · exact Only.setp (Only.setp (Only.new o8 hsuH.1) (List.mem_singleton.mpr rfl)) (List.mem_singleton.mpr rfl)
abbrev s_Wire_due : Stmt := inClass (topS 11) 1
abbrev N_Wire_due : List Str := ["self", "kind", "place", "base", "factor"]
theorem sc_Wire_due : FnScope N_Wire_due ["self", "kind", "place"] (defScope s_Wire_due) := ⟨rfl, rfl, rfl, by decide +kernel, rfl, by decide +kernel, by decide +kernel⟩
set_option maxHeartbeats 4000000 in
theorem cal_Wire_due (T : Txt K mg A) (D : DefM K A.CW "due" "Wire.due" s_Wire_due) : Meth1 P wd K mg base 1 A.CW "due" (spDue A) := by
  obtain ⟨f, fd, F, hm⟩ := D.ex
  refine ⟨f, fd, ["self", "kind", "place"], F.ok (k := 0) sc_Wire_due (fun vs H Q E h => by obtain ⟨_, _, _, _, _, _, rfl, _⟩ := h; rfl) (fun cdv AA outer s H vs Q E hr h => ⟨_, (pss_cons (ps_asg (pe_ix ix_list (pe_fld (pv 0) rfl) (pv 1) (fun _ _ => rfl)) (pg_tup rfl (pgs_cons (pg_name (i := 3) sc_Wire_due.nd rfl (Or.inl rfl)) (pgs_cons (pg_name (i := 4) sc_Wire_due.nd rfl (Or.inl rfl)) pgs_nil))))
      (pss_one (ps_ret (pe_op op_add (pe_op op_add (pv 3) (pe_op op_mul (pv 4) (pe_ix ix_list (pe_fld (pv 0) rfl) (pv 2) (fun _ _ => rfl)))) (pe_ix ix_list (pe_fld (pv 0) rfl) (pv 2) (fun _ _ => rfl)))))), ?_⟩), hm, F.binds (ps := ["self", "kind", "place"]) fun _ _ _ _ _ _ us hl => match us, hl with | [_, _, _], _ => rfl⟩
  obtain ⟨L, w, k, x, kd, p, rfl, W, O, hk, hp, q⟩ := h
  obtain ⟨ts, k1, k2⟩ := W.kin
  obtain ⟨t, ht, hT⟩ := k2.get (get_map (f := fun k : Kd => [V.int (k.base : Int), V.int (k.factor : Int)]) hk)
  walk_at "run"
  refine fl_kinds T W ?_
  walk_at "run"
  refine r_ixl (SqL.of k1) (atI_nat (get_map ht)) ?_
  walk_at "run"
  refine r_gtup (SqT.of hT) rfl ?_
  walk_at "run"
  refine fl_levels T W ?_
  walk_at "run"
  refine r_ixl (SqL.of W.lev) (atI_nat (get_map hp)) ?_
  have b1 := (O.kd kd (List.mem_of_getElem? hk)).2
  refine r_i (Or.inl ⟨by omega, by omega⟩) ?_
  walk_at "run"
  refine fl_extras T W ?_
  walk_at "run"
  refine r_ixl (SqL.of W.ext) (atI_nat (get_map hp)) ?_
  walk_at "run"
  have e : ((kd.takes p : Nat) : Int) = (kd.base : Int) + (kd.factor : Int) * (p.level : Int) + (p.extra : Int) := by
    unfold OwWear.Kind.takes
    rw [Int.natCast_add, Int.natCast_add, Int.natCast_mul]
  rw [e] at q
  exact q
abbrev s_Wire_take : Stmt := inClass (topS 11) 2
abbrev N_Wire_take : List Str := ["self", "place", "much"]
theorem sc_Wire_take : FnScope N_Wire_take ["self", "place", "much"] (defScope s_Wire_take) := ⟨rfl, rfl, rfl, by decide +kernel, rfl, by decide +kernel, by decide +kernel⟩
set_option maxHeartbeats 4000000 in
theorem cal_Wire_take (T : Txt K mg A) (D : DefM K A.CW "take" "Wire.take" s_Wire_take) : Meth1 P wd K mg base 1 A.CW "take" (spTake A) := by
  obtain ⟨f, fd, F, hm⟩ := D.ex
  refine ⟨f, fd, ["self", "place", "much"], F.ok (k := 0) sc_Wire_take (fun vs H Q E h => by obtain ⟨_, _, _, _, _, rfl, _⟩ := h; rfl) (fun cdv AA outer s H vs Q E hr h => ⟨_, (pss_one (ps_asg (pe_callB (call_max2 rfl) rfl T.b_max (by decide +kernel) (pa_cons pe_int (pa_cons (pe_op op_sub (pe_ix ix_list (pe_fld (pv 0) rfl) (pv 1) (fun _ _ => rfl)) (pv 2)) pa_nil))) (pg_sub (pe_fld (pv 0) rfl) (pv 1) set_list))), ?_⟩), hm, F.binds (ps := ["self", "place", "much"]) fun _ _ _ _ _ _ us hl => match us, hl with | [_, _, _], _ => rfl⟩
  obtain ⟨L, w, x, n, p, rfl, W, hp, q⟩ := h
  have hx := get_lt hp
  walk_at "run"
  refine fl_left T W ?_
  walk_at "run"
  refine r_ixl (SqL.of W.left) (atI_nat (get_map hp)) ?_
  walk_at "run"
  refine ⟨_, _, rfl, ?_⟩
  walk_at "run"
  refine fl_left T W ?_
  walk_at "run"
  refine ⟨L.al, leftsV w.places, (x : Int), x, rfl, rfl, W.left, ixN_nat (by unfold leftsV; rw [List.length_map]; exact hx), ?_⟩
  have e : (if (p.left : Int) - (n : Int) > 0 then (p.left : Int) - (n : Int) else 0) = ((p.left - n : Nat) : Int) := by split <;> omega
  rw [e]
  exact q _ (W.setLeft hp) (Only.setp (Only.refl _ _) own_al)
abbrev s_Wire_on_day : Stmt := inClass (topS 11) 3
abbrev N_Wire_on_day : List Str := ["self", "weekday", "place", "found", "kind"]
theorem sc_Wire_on_day : FnScope N_Wire_on_day ["self", "weekday", "place"] (defScope s_Wire_on_day) := ⟨rfl, rfl, rfl, by decide +kernel, rfl, by decide +kernel, by decide +kernel⟩
set_option maxHeartbeats 4000000 in
theorem cal_Wire_on_day (T : Txt K mg A) (D : DefM K A.CW "on_day" "Wire.on_day" s_Wire_on_day) (c_Wire_due : Meth1 P wd K mg base 1 A.CW "due" (spDue A)) : Meth1 P wd K mg base 2 A.CW "on_day" (spOnDay A) := by
  obtain ⟨f, fd, F, hm⟩ := D.ex
  refine ⟨f, fd, ["self", "weekday", "place"], F.ok (k := 1) sc_Wire_on_day (fun vs H Q E h => by obtain ⟨_, _, _, _, _, rfl, _⟩ := h; rfl) (fun cdv AA outer s H vs Q E hr h => ⟨_, (pss_cons (ps_set (i := 3) sc_Wire_on_day.nd rfl (Or.inl rfl) pe_int)
      (pss_cons (ps_for PassesOwn.never rfl (pi_range1 rfl T.b_range (pa_cons (pe_callB call_len rfl T.b_len (by decide +kernel) (pa_cons (pe_fld (pv 0) rfl) pa_nil)) pa_nil)) (pg_name (i := 4) sc_Wire_on_day.nd rfl (Or.inl rfl))
      (pss_one (ps_aug (i := 3) sc_Wire_on_day.nd rfl (Or.inl rfl) (pe_op op_mul (pe_dget2 (hu_of hr) (pe_fld (pv 0) rfl) (pe_tup (pa_cons (pv 1) (pa_cons (pv 4) pa_nil))) pe_int ⟨by rfl, by rfl, by rfl, by rfl⟩) (pe_m1 c_Wire_due T.clW hr (by decide) (pv 0) (pa_cons (pv 4) (pa_cons (pv 2) pa_nil)))) ip_add)))
      (pss_one (ps_ret (pv 3))))), ?_⟩), hm, F.binds (ps := ["self", "weekday", "place"]) fun _ _ _ _ _ _ us hl => match us, hl with | [_, _, _], _ => rfl⟩
  obtain ⟨L, w, d, x, p, rfl, W, O, hd, hp, q⟩ := h
  obtain ⟨ts, k1, k2⟩ := W.kin
  have hkl : ts.length = w.kinds.length := by have := k2.1; unfold kindsV at this; rw [List.length_map] at this; exact this
  walk_at "run"
  refine fl_kinds T W ?_
  walk_at "run"
  refine r_len (SqL.of k1) ?_
  walk_at "run"
  have h4 := O.k4
  rw [List.length_map, hkl]
  refine ⟨(w.kinds.length : Int), rfl, by omega, by omega, for_range (lo := 0) (n := (w.kinds.length : Int).toNat) (fun i σ H' => ∃ v4, σ = [some (.ref L.a), some (.int (d : Int)), some (.int (x : Int)), some (.int (onPart w d p i : Int)), v4] ∧ Same H H') ?_ ?_ ?_⟩
  · exact ⟨none, rfl, Same.refl H⟩
  · rintro i σ H' hi ⟨v4, rfl, s1⟩
    rw [show (0 : Int) + (i : Int) = (i : Int) from Int.zero_add _]
    rw [Int.toNat_natCast] at hi
    have W1 := W.same s1
    obtain ⟨kvs, d1, d2⟩ := W1.ser
    obtain ⟨kd, hk⟩ := get_some hi
    walk_at "run"
    refine fl_services T W1 ?_
    refine ⟨L.sv, rfl, .inr ⟨kvs, .inl d1⟩, ?_⟩
    walk_at "run"
    refine ⟨sl60 (by show 2 ≤ 100000; decide), fun K0 hK0 => ?_⟩
    walk_at "run"
    have s2 := Same.new (o := .tup [.int (d : Int), .int (i : Int)]) hK0
    refine ⟨_, DGet.t (k := [Sum.inl (d : Int), Sum.inl (i : Int)]) (s2 _ _ d1) upd_same, ?_⟩
    rw [d2.val d i hd]
    walk_at "run"
    have W2 := W1.same s2
    refine me_of W2 (by decide +kernel) ?_
    walk_at "run"
    refine ⟨L, w, i, x, kd, p, rfl, W2, O, hk, hp, ?_⟩
    have b1 := O.sv d i
    refine r_i (Or.inl ⟨by omega, by omega⟩) ?_
    walk_at "run"
    refine ⟨some (.int (i : Int)), ?_, s1.trans s2⟩
    rw [onPart_succ w d p hk, Int.natCast_add, Int.natCast_mul]
    rfl
  · rintro σ H' ⟨v4, rfl, s1⟩
    rw [Int.toNat_natCast, onPart_all]
    walk_at "run"
    exact q _ s1
abbrev s_Wire_week : Stmt := inClass (topS 11) 4
abbrev N_Wire_week : List Str := ["self", "place", "weekday"]
theorem sc_Wire_week : FnScope N_Wire_week ["self", "place"] (defScope s_Wire_week) := ⟨rfl, rfl, rfl, by decide +kernel, rfl, by decide +kernel, by decide +kernel⟩
set_option maxHeartbeats 4000000 in
theorem cal_Wire_week (T : Txt K mg A) (D : DefM K A.CW "week" "Wire.week" s_Wire_week) (c_Wire_on_day : Meth1 P wd K mg base 2 A.CW "on_day" (spOnDay A)) : Meth1 P wd K mg base 3 A.CW "week" (spWeek A) := by
  obtain ⟨f, fd, F, hm⟩ := D.ex
  refine ⟨f, fd, ["self", "place"], F.ok (k := 2) sc_Wire_week (fun vs H Q E h => by obtain ⟨_, _, _, _, rfl, _⟩ := h; rfl) (fun cdv AA outer s H vs Q E hr h => ⟨_, (pss_one (ps_ret (pe_callB (cr_sum rfl) rfl T.b_sum (by decide +kernel) (pa_cons (pe_lc (own := [("weekday", 2)]) (g := (gName 2)) rfl sc_Wire_week.nd (pi_range1 rfl T.b_range (pa_cons (pe_gi rfl T.g_WEEK) pa_nil)) (blkOk_by (own := [("weekday", 2)]) (N := N_Wire_week) (sc := defScope s_Wire_week) (by decide +kernel)) (fun _ _ _ _ _ => (pg_name (i := 2) sc_Wire_week.nd rfl (Or.inl rfl))) (fun _ _ _ _ _ => pts_nil) (fun _ _ _ _ _ => (pe_m1 c_Wire_on_day T.clW hr (by decide) (pv 0) (pa_cons (pv 2) (pa_cons (pv 1) pa_nil))))) pa_nil)))), ?_⟩), hm, F.binds (ps := ["self", "place"]) fun _ _ _ _ _ _ us hl => match us, hl with | [_, _], _ => rfl⟩
  obtain ⟨L, w, x, p, rfl, W, O, hp, q⟩ := h
  walk_at "run"
  refine ⟨7, rfl, by decide, by decide, fun D0 hD0 => lc_it (walk_range (lo := 0) (n := (7 : Int).toNat)) (fun i H' => Same H H' ∧ H' D0 = some (.lst (natsV ((List.range i).map fun d => w.takesOn d p)))) ⟨Same.new hD0, upd_same⟩ (fun _ _ _ _ => trivial) ?_ ?_⟩
  · rintro i y H1 H2 hi ⟨s1, hD⟩ ⟨rfl, rfl⟩
    have hi7 : i < 7 := hi
    have ei : (fun (i : Nat) => V.int ((0 : Int) + (i : Int))) i = V.int (i : Int) := congrArg V.int (Int.zero_add _)
    rw [ei]
    have W1 := W.same s1
    walk_at "run"
    refine ⟨rfl, ?_⟩
    walk_at "run"
    refine iteT ?_
    walk_at "run"
    refine me_of W1 (by decide +kernel) ?_
    walk_at "run"
    refine ⟨L, w, i, x, p, rfl, W1, O, by omega, hp, fun H3 s3 => ?_⟩
    refine ⟨_, s3 _ _ hD, by rw [natsV_length, List.length_map, List.length_range]; exact sl60' (by omega), Same.mut (s1.trans s3) hD0, ?_⟩
    rw [upd_same, range_map_succ]
    exact congrArg (fun z => some (HO.lst z)) (natsV_snoc _ _)
  · rintro H1 ⟨s1, hD⟩
    walk_at "run"
    refine ⟨D0, ((List.range 7).map fun d => w.takesOn d p).map (fun (k : Nat) => (k : Int)), rfl, SqL.of (by rw [hD]; unfold natsV; rw [List.map_map]; rfl), ?_⟩
    have e : (((List.range 7).map fun d => w.takesOn d p).map fun (k : Nat) => (k : Int)).sum = (w.takesWeek p : Int) := by
      rw [takesWeek_eq]
      generalize (List.range 7).map (fun d => w.takesOn d p) = l
      induction l with
      | nil => rfl
      | cons a r ih => rw [List.map_cons, List.sum_cons, List.sum_cons, ih, Int.natCast_add]
    rw [e]
    exact q _ s1
abbrev s_Wire_pass_days : Stmt := inClass (topS 11) 5
abbrev N_Wire_pass_days : List Str := ["self", "days", "first", "place", "total", "step"]
theorem sc_Wire_pass_days : FnScope N_Wire_pass_days ["self", "days"] (defScope s_Wire_pass_days) := ⟨rfl, rfl, rfl, by decide +kernel, rfl, by decide +kernel, by decide +kernel⟩
set_option maxHeartbeats 4000000 in
theorem cal_Wire_pass_days (T : Txt K mg A) (D : DefM K A.CW "pass_days" "Wire.pass_days" s_Wire_pass_days) (c_Wire_take : Meth1 P wd K mg base 1 A.CW "take" (spTake A)) (c_Wire_on_day : Meth1 P wd K mg base 2 A.CW "on_day" (spOnDay A)) (c_Wire_week : Meth1 P wd K mg base 3 A.CW "week" (spWeek A)) : Meth1 P wd K mg base 4 A.CW "pass_days" (spPassDays A) := by
  obtain ⟨f, fd, F, hm⟩ := D.ex
  refine ⟨f, fd, ["self", "days"], F.ok (k := 3) sc_Wire_pass_days (fun vs H Q E h => by obtain ⟨_, _, _, rfl, _⟩ := h; rfl) (fun cdv AA outer s H vs Q E hr h => ⟨_, (pss_cons (ps_set (i := 2) sc_Wire_pass_days.nd rfl (Or.inl rfl) (pe_op op_mod (pe_fld (pv 0) rfl) (pe_gi rfl T.g_WEEK)))
      (pss_cons (ps_for PassesOwn.never rfl (pi_range1 rfl T.b_range (pa_cons (pe_fld (pv 0) rfl) pa_nil)) (pg_name (i := 3) sc_Wire_pass_days.nd rfl (Or.inl rfl))
      (pss_cons (ps_set (i := 4) sc_Wire_pass_days.nd rfl (Or.inl rfl) (pe_op op_mul (pe_op op_fdiv (pv 1) (pe_gi rfl T.g_WEEK)) (pe_m1 c_Wire_week T.clW hr (by decide) (pv 0) (pa_cons (pv 3) pa_nil))))
      (pss_cons (ps_for PassesOwn.never rfl (pi_range1 rfl T.b_range (pa_cons (pe_op op_mod (pv 1) (pe_gi rfl T.g_WEEK)) pa_nil)) (pg_name (i := 5) sc_Wire_pass_days.nd rfl (Or.inl rfl))
      (pss_one (ps_aug (i := 4) sc_Wire_pass_days.nd rfl (Or.inl rfl) (pe_m1 c_Wire_on_day T.clW hr (by decide) (pv 0) (pa_cons (pe_op op_mod (pe_op op_add (pv 2) (pv 5)) (pe_gi rfl T.g_WEEK)) (pa_cons (pv 3) pa_nil))) ip_add)))
      (pss_one (ps_expr (pe_m1 c_Wire_take T.clW hr (by decide) (pv 0) (pa_cons (pv 3) (pa_cons (pv 4) pa_nil))))))))
      (pss_one (ps_fldaug (pv 0) (pv 1) in_add)))), ?_⟩), hm, F.binds (ps := ["self", "days"]) fun _ _ _ _ _ _ us hl => match us, hl with | [_, _], _ => rfl⟩
  obtain ⟨L, w, n, rfl, W, O, hn, q⟩ := h
  walk_at "run"
  refine fl_day T W ?_
  walk_at "run"
  refine r_i (show (0 : Int) < 7 by decide) ?_
  walk_at "run"
  refine fl_many T W ?_
  have m60 := O.m60
  have hd7 : (w.day : Int) % 7 = ((w.day % 7 : Nat) : Int) := by omega
  rw [hd7]
  have hlt7 : w.day % 7 < 7 := Nat.mod_lt _ (by decide)
  generalize hf : w.day % 7 = f at hlt7
  refine ⟨(w.places.length : Int), rfl, by omega, by omega, for_range (lo := 0) (n := (w.places.length : Int).toNat) (fun i σ H' => ∃ v3 v4 v5, σ = [some (.ref L.a), some (.int (n : Int)), some (.int (f : Int)), v3, v4, v5] ∧ WireAt A.CW L H' (partPass w (w.takesDays f n) i) ∧ Only L.own H H') ?_ ?_ ?_⟩
  · refine ⟨none, none, none, rfl, ?_, Only.refl _ _⟩
    rw [partPass_zero]
    exact W
  · rintro i σ H' hi ⟨v3, v4, v5, rfl, W1, o1⟩
    rw [Int.toNat_natCast] at hi
    rw [show (0 : Int) + (i : Int) = (i : Int) from Int.zero_add _]
    obtain ⟨p, hp⟩ := get_some hi
    have hpm := List.mem_of_getElem? hp
    have hpi : (partPass w (w.takesDays f n) i).places[i]? = some p := partPass_at hp
    have Oi : WireOk (partPass w (w.takesDays f n) i) := partPass_ok O
    have eW : ∀ r, (partPass w (w.takesDays f n) i).takesWeek r = w.takesWeek r := fun _ => rfl
    have eO : ∀ d r, (partPass w (w.takesDays f n) i).takesOn d r = w.takesOn d r := fun _ _ => rfl
    have bw := takesWeek_le O hpm
    walk_at "run"
    refine r_i ⟨by decide, by decide⟩ ?_
    walk_at "run"
    refine me_of W1 (by decide +kernel) ?_
    walk_at "run"
    refine ⟨L, partPass w (w.takesDays f n) i, i, p, rfl, W1, Oi, hpi, fun H2 s2 => ?_⟩
    rw [eW]
    have hn7 : (n : Int) / 7 = ((n / 7 : Nat) : Int) := by omega
    have hm7 : (n : Int) % 7 = ((n % 7 : Nat) : Int) := by omega
    rw [hn7]
    refine r_i (Or.inl ⟨by omega, by omega⟩) ?_
    walk_at "run"
    refine r_i (show (0 : Int) < 7 by decide) ?_
    rw [hm7]
    have W2 := W1.same s2
    refine ⟨((n % 7 : Nat) : Int), rfl, by omega, by omega, for_range (lo := 0) (n := (((n % 7 : Nat) : Int)).toNat) (fun j σ H3 => ∃ v5, σ = [some (.ref L.a), some (.int (n : Int)), some (.int (f : Int)), some (.int (i : Int)), some (.int ((n / 7 * w.takesWeek p + restOf w f p j : Nat) : Int)), v5] ∧ Same H2 H3) ?_ ?_ ?_⟩
    · refine ⟨v5, ?_, Same.refl H2⟩
      rw [restOf_zero, Nat.add_zero, Int.natCast_mul]; rfl
    · rintro j σ H3 hj ⟨v5, rfl, s3⟩
      rw [show (0 : Int) + (j : Int) = (j : Int) from Int.zero_add _]
      walk_at "run"
      refine me_of (W2.same s3) (by decide +kernel) ?_
      walk_at "run"
      refine r_i (show (0 : Int) < 7 by decide) ?_
      walk_at "run"
      have ej : ((f : Int) + (j : Int)) % 7 = (((f + j) % 7 : Nat) : Int) := by omega
      rw [ej]
      refine ⟨L, partPass w (w.takesDays f n) i, (f + j) % 7, i, p, rfl, W2.same s3, Oi, by omega, hpi, fun H4 s4 => ?_⟩
      walk_at "run"
      refine ⟨some (.int (j : Int)), ?_, s3.trans s4⟩
      rw [restOf_succ, eO, ← Nat.add_assoc, Int.natCast_add (_ + _) (w.takesOn _ p)]
      rfl
    · rintro σ H3 ⟨v5, rfl, s3⟩
      rw [Int.toNat_natCast, ← takesDays_eq]
      walk_at "run"
      refine me_of (W2.same s3) (by decide +kernel) ?_
      walk_at "run"
      refine ⟨L, partPass w (w.takesDays f n) i, i, w.takesDays f n p, p, rfl, W2.same s3, hpi, fun H4 W4 o4 => ?_⟩
      walk_at "run"
      refine ⟨_, _, _, rfl, ?_, fun b o e hb => o4 b o (s3 _ _ (s2 _ _ (o1 b o e hb))) hb⟩
      rw [← partPass_succ hp]
      exact W4
  · rintro σ H' ⟨v3, v4, v5, rfl, W1, o1⟩
    rw [Int.toNat_natCast] at W1
    rw [partPass_all] at W1
    have hob := W1.ob
    walk_at "run"
    refine ⟨L.a, A.CW, L.dx, _, _, rfl, hob, T.clW, T.nW_day, wF_day, ?_⟩
    walk_at "run"
    refine ⟨_, _, rfl, rfl, L.dx, _, hob, by show 8 < 1000; decide, ?_⟩
    have e : ((w.day : Int) + (n : Int)) = ((w.day + n : Nat) : Int) := by omega
    refine q _ ?_ (Only.setp o1 own_a)
    have W5 := W1.setDay (w.day + n)
    have ew : w.days n = { w with places := w.places.map (fun p => { p with left := p.left - w.takesDays f n p }), day := w.day + n } := by
      unfold Wire.days
      rw [hf]
    rw [ew]
    exact W5
abbrev s_Wire_until : Stmt := inClass (topS 11) 6
abbrev N_Wire_until : List Str := ["self", "place", "bound", "wanted", "week", "weeks", "days"]
theorem sc_Wire_until : FnScope N_Wire_until ["self", "place", "bound"] (defScope s_Wire_until) := ⟨rfl, rfl, rfl, by decide +kernel, rfl, by decide +kernel, by decide +kernel⟩
set_option maxHeartbeats 4000000 in
theorem cal_Wire_until (T : Txt K mg A) (D : DefM K A.CW "until" "Wire.until" s_Wire_until) (c_Wire_on_day : Meth1 P wd K mg base 2 A.CW "on_day" (spOnDay A)) (c_Wire_week : Meth1 P wd K mg base 3 A.CW "week" (spWeek A)) : Meth1 P wd K mg base 4 A.CW "until" (spUntil A) := by
  obtain ⟨f, fd, F, hm⟩ := D.ex
  refine ⟨f, fd, ["self", "place", "bound"], F.ok (k := 3) sc_Wire_until (fun vs H Q E h => by obtain ⟨_, _, _, _, _, rfl, _⟩ := h; rfl) (fun cdv AA outer s H vs Q E hr h => ⟨_, (pss_cons (ps_set (i := 3) sc_Wire_until.nd rfl (Or.inl rfl) (pe_op op_sub (pe_ix ix_list (pe_fld (pv 0) rfl) (pv 1) (fun _ _ => rfl)) (pv 2)))
      (pss_cons (ps_if (pt_cmpR op_le (pv 3) pe_int (nomark _)) (pss_one (ps_ret pe_int)) pss_nil)
      (pss_cons (ps_set (i := 4) sc_Wire_until.nd rfl (Or.inl rfl) (pe_m1 c_Wire_week T.clW hr (by decide) (pv 0) (pa_cons (pv 1) pa_nil)))
      (pss_cons (ps_if (pt_cmpR op_eq (pv 4) pe_int (nomark _)) (pss_one (ps_ret (pe_un un_neg pe_int))) pss_nil)
      (pss_cons (ps_set (i := 5) sc_Wire_until.nd rfl (Or.inl rfl) (pe_op op_fdivW (pe_op op_sub (pv 3) pe_int) (pv 4)))
      (pss_cons (ps_aug (i := 3) sc_Wire_until.nd rfl (Or.inl rfl) (pe_op op_mul (pv 5) (pv 4)) ip_sub)
      (pss_cons (ps_set (i := 6) sc_Wire_until.nd rfl (Or.inl rfl) (pe_op op_mul (pe_gi rfl T.g_WEEK) (pv 5)))
      (pss_cons (ps_while PassesOwn.never (pt_cmpR op_gt (pv 3) pe_int (nomark _))
      (pss_cons (ps_aug (i := 3) sc_Wire_until.nd rfl (Or.inl rfl) (pe_m1 c_Wire_on_day T.clW hr (by decide) (pv 0) (pa_cons (pe_op op_mod (pe_op op_add (pe_fld (pv 0) rfl) (pv 6)) (pe_gi rfl T.g_WEEK)) (pa_cons (pv 1) pa_nil))) ip_sub)
      (pss_one (ps_aug (i := 6) sc_Wire_until.nd rfl (Or.inl rfl) pe_int ip_add))))
      (pss_one (ps_ret (pv 6))))))))))), ?_⟩), hm, F.binds (ps := ["self", "place", "bound"]) fun _ _ _ _ _ _ us hl => match us, hl with | [_, _, _], _ => rfl⟩
  obtain ⟨L, w, x, b, p, rfl, W, O, hp, q⟩ := h
  have hpm := List.mem_of_getElem? hp
  have bl := (O.pl p hpm).1
  walk_at "run"
  refine fl_left T W ?_
  walk_at "run"
  refine r_ixl (SqL.of W.left) (atI_nat (get_map hp)) ?_
  walk_at "run"
  refine iteD (fun c => ?_) fun c => ?_
  · walk_at "run"
    have := q H (Same.refl H)
    rw [until_zero w p (by omega)] at this
    exact this
  have hb : b < p.left := by omega
  walk_at "run"
  refine me_of W (by decide +kernel) ?_
  walk_at "run"
  refine ⟨L, w, x, p, rfl, W, O, hp, fun H1 s1 => ?_⟩
  have W1 := W.same s1
  walk_at "run"
  have bw := takesWeek_le O hpm
  refine iteD (fun c2 => ?_) fun c2 => ?_
  · have c2 : ((w.takesWeek p : Nat) : Int) = 0 := V.int.inj c2
    walk_at "run"
    have := q H1 s1
    rw [until_never w p hb (by omega)] at this
    exact this
  have c3 : w.takesWeek p ≠ 0 := fun z => c2 (by rw [z]; rfl)
  walk_at "run"
  refine r_i (wide_div (b := 40) (by omega) (by omega) (by decide) (by decide)) ?_
  obtain ⟨full, hfull⟩ : ∃ full, full = (p.left - b - 1) / w.takesWeek p := ⟨_, rfl⟩
  have hfi : ((p.left : Int) - (b : Int) - 1) / (w.takesWeek p : Int) = (full : Int) := by
    rw [hfull, Int.natCast_ediv]
    congr 1
    omega
  rw [hfi]
  have f1 : full * w.takesWeek p ≤ p.left - b - 1 := by rw [hfull]; exact Nat.div_mul_le_self _ _
  have f2 : p.left - b - 1 < full * w.takesWeek p + w.takesWeek p := by
    have := Nat.lt_mul_div_succ (p.left - b - 1) (show 0 < w.takesWeek p by omega)
    rw [← hfull, Nat.mul_add, Nat.mul_one, Nat.mul_comm] at this
    exact this
  have f3 : full ≤ p.left := by rw [hfull]; exact Nat.le_trans (Nat.div_le_self _ _) (by omega)
  walk_at "run"
  refine r_i (Or.inl ⟨by omega, by omega⟩) ?_
  walk_at "run"
  refine r_i (Or.inl ⟨by decide, by decide⟩) ?_
  walk_at "run"
  have hd7 : w.day % 7 < 7 := Nat.mod_lt _ (by decide)
  have r7 := restOf_seven w hd7 p
  have efm : ((full : Int) * (w.takesWeek p : Int)) = ((full * w.takesWeek p : Nat) : Int) := by rw [Int.natCast_mul]
  generalize hFW : full * w.takesWeek p = FW at f1 f2 efm
  refine ⟨fun m σ H' => ∃ k, m = 7 - k ∧ k ≤ 7 ∧ σ = [some (.ref L.a), some (.int (x : Int)), some (.int (b : Int)), some (.int ((p.left : Int) - (b : Int) - (full : Int) * (w.takesWeek p : Int) - (restOf w (w.day % 7) p k : Int))), some (.int (w.takesWeek p : Int)), some (.int (full : Int)), some (.int (7 * (full : Int) + (k : Int)))] ∧ Same H1 H' ∧ ∀ j, j < k → b + (FW + restOf w (w.day % 7) p j) < p.left, ⟨7, 0, rfl, by decide, ?_, Same.refl H1, fun j hj => absurd hj (Nat.not_lt_zero _)⟩, ?_⟩
  · rw [restOf_zero]
    simp only [Int.natCast_zero, Int.sub_zero, Int.add_zero]
    rfl
  rintro m σ H' ⟨k, rfl, hk7, rfl, s2, hj⟩
  rw [efm]
  walk_at "run"
  have W2 := W1.same s2
  refine iteD (fun cc => ?_) fun cc => ?_
  · have hk : k < 7 := by
      rcases Nat.lt_or_ge k 7 with z | z
      · exact z
      · have : k = 7 := by omega
        subst this
        rw [r7] at cc
        omega
    refine ⟨_, fun _ _ h => h, ?_⟩
    walk_at "run"
    refine me_of W2 (by decide +kernel) ?_
    walk_at "run"
    refine fl_day T W2 ?_
    walk_at "run"
    refine r_i (show (0 : Int) < 7 by decide) ?_
    walk_at "run"
    have ed : ((w.day : Int) + (7 * (full : Int) + (k : Int))) % 7 = (((w.day % 7 + k) % 7 : Nat) : Int) := by omega
    rw [ed]
    refine ⟨L, w, (w.day % 7 + k) % 7, x, p, rfl, W2, O, by omega, hp, fun H3 s3 => ?_⟩
    walk_at "run"
    refine ⟨7 - (k + 1), by omega, k + 1, rfl, by omega, ?_, s2.trans s3, fun j hj' => ?_⟩
    · rw [restOf_succ]
      have e1 : (p.left : Int) - (b : Int) - (FW : Int) - (restOf w (w.day % 7) p k : Int) - (w.takesOn ((w.day % 7 + k) % 7) p : Int) = (p.left : Int) - (b : Int) - (FW : Int) - ((restOf w (w.day % 7) p k + w.takesOn ((w.day % 7 + k) % 7) p : Nat) : Int) := by omega
      have e2 : (7 * (full : Int) + (k : Int)) + 1 = 7 * (full : Int) + ((k + 1 : Nat) : Int) := by omega
      rw [← e1, ← e2]; rfl
    · rcases Nat.lt_or_ge j k with z | z
      · exact hj j z
      · have : j = k := by omega
        subst this
        omega
  · have hk1 : 1 ≤ k := by
      rcases Nat.eq_zero_or_pos k with z | z
      · subst z
        rw [restOf_zero] at cc
        omega
      · exact z
    walk_at "run"
    have := q H' (s1.trans s2)
    rw [until_some w p (k := k) hb c3 hfull hk1 hk7 (by rw [hFW]; omega) (fun j h1 h2 => by rw [hFW]; exact hj j h2)] at this
    have e2 : 7 * (full : Int) + (k : Int) = ((7 * full + k : Nat) : Int) := by omega
    rw [e2]
    exact this
abbrev s_Wire_worn : Stmt := inClass (topS 11) 7
abbrev N_Wire_worn : List Str := ["self", "bound", "place"]
theorem sc_Wire_worn : FnScope N_Wire_worn ["self", "bound"] (defScope s_Wire_worn) := ⟨rfl, rfl, rfl, by decide +kernel, rfl, by decide +kernel, by decide +kernel⟩
set_option maxHeartbeats 4000000 in
theorem cal_Wire_worn (T : Txt K mg A) (D : DefM K A.CW "worn" "Wire.worn" s_Wire_worn) : Meth1 P wd K mg base 1 A.CW "worn" (spWorn A) := by
  obtain ⟨f, fd, F, hm⟩ := D.ex
  refine ⟨f, fd, ["self", "bound"], F.ok (k := 0) sc_Wire_worn (fun vs H Q E h => by obtain ⟨_, _, _, rfl, _⟩ := h; rfl) (fun cdv AA outer s H vs Q E hr h => ⟨_, (pss_one (ps_ret (pe_lc (own := [("place", 2)]) (g := (gName 2)) rfl sc_Wire_worn.nd (pi_range1 rfl T.b_range (pa_cons (pe_fld (pv 0) rfl) pa_nil)) (blkOk_by (own := [("place", 2)]) (N := N_Wire_worn) (sc := defScope s_Wire_worn) (by decide +kernel)) (fun _ _ _ _ _ => (pg_name (i := 2) sc_Wire_worn.nd rfl (Or.inl rfl))) (fun _ _ _ _ _ => (pts_one (pt_cmpR op_le (pe_ixlK (K := K) rfl (pe_fldK (K := K) rfl (pv 0) rfl) (pv 2) (fun _ _ => rfl)) (pv 1) (nomark _)))) (fun _ _ _ _ _ => (pv 2))))), ?_⟩), hm, F.binds (ps := ["self", "bound"]) fun _ _ _ _ _ _ us hl => match us, hl with | [_, _], _ => rfl⟩
  obtain ⟨L, w, b, rfl, W, O, q⟩ := h
  walk_at "run"
  refine fl_many T W ?_
  have m60 := O.m60
  refine ⟨(w.places.length : Int), rfl, by omega, by omega, fun D0 hD0 => lc_it (walk_range (lo := 0) (n := (w.places.length : Int).toNat)) (fun i H' => Same H H' ∧ H' D0 = some (.lst (natsV (idxs i fun x => decide ((w.places.getD x ⟨0, 0, 0⟩).left ≤ b))))) ⟨Same.new hD0, upd_same⟩ (fun _ _ _ _ => trivial) ?_ ?_⟩
  · rintro i y H1 H2 hi ⟨s1, hD⟩ ⟨rfl, rfl⟩
    rw [Int.toNat_natCast] at hi
    have ei : (fun (i : Nat) => V.int ((0 : Int) + (i : Int))) i = V.int (i : Int) := congrArg V.int (Int.zero_add _)
    rw [ei]
    have W1 := W.same s1
    obtain ⟨p, hp⟩ := get_some hi
    have eg : w.places.getD i ⟨0, 0, 0⟩ = p := by rw [List.getD_eq_getElem?_getD, hp]; rfl
    walk_at "run"
    refine ⟨rfl, ?_⟩
    walk_at "run"
    refine fl_left T W1 ?_
    walk_at "run"
    refine r_ixl (SqL.of W1.left) (atI_nat (get_map hp)) ?_
    walk_at "run"
    refine iteD (fun c => ?_) fun c => ?_
    · have c' : decide ((w.places.getD i ⟨0, 0, 0⟩).left ≤ b) = true := decide_eq_true (by rw [eg]; omega)
      walk_at "run"
      refine ⟨_, hD, idxs_short (by omega), Same.mut s1 hD0, ?_⟩
      rw [upd_same, idxs_succ, c', if_pos rfl]; exact congrArg (fun z => some (HO.lst z)) (natsV_snoc _ _)
    · have c' : decide ((w.places.getD i ⟨0, 0, 0⟩).left ≤ b) = false := decide_eq_false (by rw [eg]; omega)
      refine ⟨s1, ?_⟩
      rw [hD, idxs_succ, c', if_neg Bool.false_ne_true, List.append_nil]
  · rintro H1 ⟨s1, hD⟩
    rw [Int.toNat_natCast] at hD
    refine q _ D0 s1 hD0 ?_
    rw [worn_eq]
    exact hD
abbrev s_Wire_pieces : Stmt := inClass (topS 11) 8
abbrev N_Wire_pieces : List Str := ["self", "bound", "found", "place"]
theorem sc_Wire_pieces : FnScope N_Wire_pieces ["self", "bound"] (defScope s_Wire_pieces) := ⟨rfl, rfl, rfl, by decide +kernel, rfl, by decide +kernel, by decide +kernel⟩
set_option maxHeartbeats 4000000 in
theorem cal_Wire_pieces (T : Txt K mg A) (D : DefM K A.CW "pieces" "Wire.pieces" s_Wire_pieces) (c_Wire_worn : Meth1 P wd K mg base 1 A.CW "worn" (spWorn A)) : Meth1 P wd K mg base 2 A.CW "pieces" (spPieces A) := by
  obtain ⟨f, fd, F, hm⟩ := D.ex
  refine ⟨f, fd, ["self", "bound"], F.ok (k := 1) sc_Wire_pieces (fun vs H Q E h => by obtain ⟨_, _, _, rfl, _⟩ := h; rfl) (fun cdv AA outer s H vs Q E hr h => ⟨_, (pss_cons (ps_set (i := 2) sc_Wire_pieces.nd rfl (Or.inl rfl) (pe_lst pa_nil))
      (pss_cons (ps_for PassesOwn.never rfl (pi_list (pe_m1 c_Wire_worn T.clW hr (by decide) (pv 0) (pa_cons (pv 1) pa_nil))) (pg_name (i := 3) sc_Wire_pieces.nd rfl (Or.inl rfl))
      (pss_one (ps_if (PW.pt (pw_and (pt_cmpR op_gt (pe_callB call_len rfl T.b_len (by decide +kernel) (pa_cons (pv 2) pa_nil)) pe_int (nomark _)) (pw_and1 (pt_cmpR op_eq (pe_ix ix_tup (pe_ix ix_list (pv 2) (pe_un un_neg pe_int) (fun _ _ => rfl)) pe_int (fun _ _ => rfl)) (pe_op op_sub (pv 3) pe_int) (nomark _))))) (pss_one (ps_asg (pe_tup (pa_cons (pe_ix ix_tup (pe_ix ix_list (pv 2) (pe_un un_neg pe_int) (fun _ _ => rfl)) pe_int (fun _ _ => rfl)) (pa_cons (pv 3) pa_nil))) (pg_sub (pv 2) (pe_un un_neg pe_int) set_list))) (pss_one (ps_expr (pe_bm PySem.F.plainAttrs_list PySem.F.slot_list_append PySem.F.type_list_append mt_append (pv 2) (pa_cons (pe_tup (pa_cons (pv 3) (pa_cons (pv 3) pa_nil))) pa_nil)))))))
      (pss_one (ps_ret (pv 2))))), ?_⟩), hm, F.binds (ps := ["self", "bound"]) fun _ _ _ _ _ _ us hl => match us, hl with | [_, _], _ => rfl⟩
  obtain ⟨L, w, b, rfl, W, O, q⟩ := h
  have m60 := O.m60
  have wl := worn_le w b
  walk_at "run"
  refine ⟨sl60 (by show 0 ≤ 100000; decide), fun F0 hF => ?_⟩
  walk_at "run"
  have s0 := Same.new (o := .lst []) hF
  refine me_of (W.same s0) (by decide +kernel) ?_
  walk_at "run"
  refine ⟨L, w, b, rfl, W.same s0, O, fun H1 WA s1 hWA hW1 => ?_⟩
  have hF1 : H1 F0 = some (.lst []) := s1 _ _ upd_same
  have hne : WA ≠ F0 := (ne_of_none upd_same hWA).symm
  have hWAH : H WA = none := s0.free hWA
  refine ⟨WA, rfl, ⟨_, SqL.of hW1⟩, for_list (K := K) (a := WA) (xs := natsV (w.worn b)) (fun i σ H' => ∃ v3 ts, σ = [some (.ref L.a), some (.int (b : Int)), some (.ref F0), v3] ∧ Only [F0] H1 H' ∧ H' F0 = some (.lst (ts.map V.ref)) ∧ AllT H' ts ((((w.worn b).take i).foldl pieceStep []).map pairV)) ?_ ?_ ?_ ?_⟩
  · exact ⟨none, [], rfl, Only.refl _ _, hF1, AllT.nil⟩
  · rintro i σ H' _ ⟨_, _, _, o1, _⟩
    exact SqL.of (o1 _ _ hW1 (by simpa using hne))
  · rintro i y σ H' hy ⟨v3, ts, rfl, o1, hT, aT⟩
    obtain ⟨x, hx, rfl⟩ := map_get hy
    have et : (w.worn b).take (i + 1) = (w.worn b).take i ++ [x] := take_succ_get hx
    have hsz : ts.length ≤ 60 := by
      have h1 := aT.1
      rw [List.length_map, pieces_is] at h1
      have h2 := pieces_length ((w.worn b).take i)
      rw [List.length_take] at h2
      omega
    have kp : ∀ {p : Addr} {o : HO} (zs : List V), H' p = none → ∀ b xs, H' b = some (.tup xs) → upd (upd H' p o) F0 (.lst zs) b = some (.tup xs) := fun zs hp b xs e => by
      rw [upd_ne (ne_of e hT (by intro z; cases z)), upd_ne (ne_of_none e hp)]; exact e
    -- one more piece
    have more : ∀ (D' : Ends), pieceStep (((w.worn b).take i).foldl pieceStep []) x = ((w.worn b).take i).foldl pieceStep [] ++ [(x, x)] → (∀ σ' H2, (∃ v3 ts, σ' = [some (.ref L.a), some (.int (b : Int)), some (.ref F0), v3] ∧ Only [F0] H1 H2 ∧ H2 F0 = some (.lst (ts.map V.ref)) ∧ AllT H2 ts ((((w.worn b).take (i + 1)).foldl pieceStep []).map pairV)) → D'.nx σ' H2) →
        tDrop (tBM K "list" rAppend (tVar 2) (tCons (tTup (tCons (tVar 3) (tCons (tVar 3) tNil))) tNil)) D' [some (.ref L.a), some (.int (b : Int)), some (.ref F0), some (.int (x : Int))] H' := by
      intro D' es hD'
      walk_at "run"
      refine ⟨.inl ⟨rfl, _, SqL.of hT⟩, ?_⟩
      walk_at "run"
      refine ⟨sl60 (by show 2 ≤ 100000; decide), fun P0 hP => ?_⟩
      walk_at "run"
      refine r_append (by rw [upd_ne (ne_of_none hT hP)]; exact hT) (by rw [List.length_map]; omega) ?_
      refine hD' _ _ ⟨_, ts ++ [P0], rfl, ?_, ?_, ?_⟩
      · intro p o e hp
        have e1 := o1 _ _ e hp
        rw [upd_ne (by simpa using hp), upd_ne (ne_of_none e1 hP)]; exact e1
      · rw [upd_same, List.map_append]; rfl
      · rw [et, List.foldl_append]
        show AllT _ (ts ++ [P0]) ((pieceStep _ x).map pairV)
        rw [es, List.map_append]
        refine AllT.snoc (aT.keep (kp _ hP)) ?_
        rw [upd_ne (ne_of_none hT hP).symm, upd_same]; rfl
    walk_at "run"
    refine r_len (SqL.of hT) ?_
    walk_at "run"
    generalize hacc : ((w.worn b).take i).foldl pieceStep [] = acc at aT more
    rw [List.length_map]
    cases hl : acc.getLast? with
    | none =>
      have e0 : acc = [] := List.getLast?_eq_none_iff.mp hl
      subst e0
      have ez : ts = [] := by have := aT.1; simpa using this
      subst ez
      refine iteF (iteF ?_)
      exact more _ rfl (by exact fun _ _ h => h)
    | some pq =>
      obtain ⟨c, d⟩ := pq
      have eacc : acc = acc.dropLast ++ [(c, d)] := by
        have hne : acc ≠ [] := fun z => by rw [z] at hl; cases hl
        rw [List.getLast?_eq_some_getLast hne] at hl
        have := List.dropLast_concat_getLast hne
        rw [Option.some.inj hl] at this
        exact this.symm
      have hal : acc.length = acc.dropLast.length + 1 := by
        have := congrArg List.length eacc
        rw [List.length_append] at this
        exact this
      have htl : ts.length = acc.dropLast.length + 1 := by have := aT.1; rw [List.length_map] at this; omega
      obtain ⟨us, t, rfl⟩ : ∃ us t, ts = us ++ [t] := ⟨ts.dropLast, ts.getLast (by intro z; rw [z] at htl; simp at htl), (List.dropLast_concat_getLast _).symm⟩
      have hul : us.length = acc.dropLast.length := by rw [List.length_append] at htl; simpa using htl
      have ht : H' t = some (.tup [.int (c : Int), .int (d : Int)]) := by
        refine aT.2 us.length t _ (by rw [List.getElem?_append_right (Nat.le_refl _)]; simp) ?_
        rw [eacc, List.map_append, List.getElem?_append_right (by rw [List.length_map]; omega), List.length_map]
        rw [hul, Nat.sub_self]; rfl
      have htc : (0 : Int) < ((us ++ [t]).length : Int) := by omega
      rw [decide_eq_true htc]
      refine iteT ?_
      walk_at "run"
      refine r_ixl (SqL.of hT) (by rw [List.map_append]; exact atI_last _ _) ?_
      walk_at "run"
      have ix1 : atI [V.int (c : Int), V.int (d : Int)] 1 = some (.int (d : Int)) := at_of (j := 1) rfl rfl
      have ix0 : atI [V.int (c : Int), V.int (d : Int)] 0 = some (.int (c : Int)) := at_of (j := 0) rfl rfl
      have est : pieceStep acc x = if d + 1 = x then acc.dropLast ++ [(c, x)] else acc ++ [(x, x)] := by unfold pieceStep; rw [hl]
      refine r_ixt (SqT.of ht) ix1 ?_
      walk_at "run"
      refine iteD (fun cc => ?_) fun cc => ?_
      · have cc : (d : Int) = (x : Int) - 1 := V.int.inj cc
        walk_at "run"
        refine r_ixl (SqL.of hT) (by rw [List.map_append]; exact atI_last _ _) ?_
        walk_at "run"
        refine r_ixt (SqT.of ht) ix0 ?_
        walk_at "run"
        refine ⟨sl60 (by show 2 ≤ 100000; decide), fun P0 hP => ?_⟩
        walk_at "run"
        have hT2 : upd H' P0 (.tup [.int (c : Int), .int (x : Int)]) F0 = some (.lst ((us ++ [t]).map V.ref)) := by rw [upd_ne (ne_of_none hT hP)]; exact hT
        refine ⟨F0, _, -1, us.length, rfl, rfl, hT2, ?_, ?_⟩
        · unfold ixN
          rw [List.length_map, List.length_append, if_neg (by decide), if_pos (by simp; omega)]
          simp
          omega
        refine ⟨some (.int (x : Int)), us ++ [P0], rfl, ?_, ?_, ?_⟩
        · intro p o e hp
          have e1 := o1 _ _ e hp
          rw [upd_ne (by simpa using hp), upd_ne (ne_of_none e1 hP)]; exact e1
        · rw [upd_same, List.map_append, List.map_append, List.set_append_right _ _ (by rw [List.length_map]; exact Nat.le_refl _), List.length_map, Nat.sub_self]; rfl
        · rw [et, List.foldl_append]
          show AllT _ _ ((pieceStep (((w.worn b).take i).foldl pieceStep []) x).map pairV)
          have e3 : (acc.dropLast ++ [(c, x)]).map pairV = acc.dropLast.map pairV ++ [pairV (c, x)] := List.map_append ..
          rw [hacc, est, if_pos (by omega), e3]
          rw [eacc, List.map_append] at aT
          refine AllT.snoc ((AllT.init aT).keep (kp _ hP)) ?_
          rw [upd_ne (ne_of_none hT hP).symm, upd_same]; rfl
      · have cc : (d : Int) ≠ (x : Int) - 1 := fun z => cc (by rw [z])
        exact more _ (by rw [est, if_neg (by omega)]) (by exact fun _ _ h => h)
  · rintro σ H' ⟨v3, ts, rfl, o1, hT, aT⟩
    rw [natsV_length, List.take_length, pieces_is] at aT
    walk_at "run"
    refine q _ F0 ts (Only.same (Only.then (Same.only (Same.trans s0 s1)) o1) ?_) hF hT aT
    intro c hc
    rw [List.mem_singleton.mp hc]; exact hF
abbrev s_Wire_splices : Stmt := inClass (topS 11) 9
abbrev N_Wire_splices : List Str := ["self", "bound", "size", "found", "place"]
theorem sc_Wire_splices : FnScope N_Wire_splices ["self", "bound", "size"] (defScope s_Wire_splices) := ⟨rfl, rfl, rfl, by decide +kernel, rfl, by decide +kernel, by decide +kernel⟩
set_option maxHeartbeats 4000000 in
theorem cal_Wire_splices (T : Txt K mg A) (D : DefM K A.CW "splices" "Wire.splices" s_Wire_splices) (c_Wire_worn : Meth1 P wd K mg base 1 A.CW "worn" (spWorn A)) : Meth1 P wd K mg base 2 A.CW "splices" (spSplices A) := by
  obtain ⟨f, fd, F, hm⟩ := D.ex
  refine ⟨f, fd, ["self", "bound", "size"], F.ok (k := 1) sc_Wire_splices (fun vs H Q E h => by obtain ⟨_, _, _, _, rfl, _⟩ := h; rfl) (fun cdv AA outer s H vs Q E hr h => ⟨_, (pss_cons (ps_set (i := 3) sc_Wire_splices.nd rfl (Or.inl rfl) (pe_lst pa_nil))
      (pss_cons (ps_for PassesOwn.never rfl (pi_list (pe_m1 c_Wire_worn T.clW hr (by decide) (pv 0) (pa_cons (pv 1) pa_nil))) (pg_name (i := 4) sc_Wire_splices.nd rfl (Or.inl rfl))
      (pss_one (ps_if (PW.pt (pw_or (pt_cmpR op_eq (pe_callB call_len rfl T.b_len (by decide +kernel) (pa_cons (pv 3) pa_nil)) pe_int (nomark _)) (pw_or1 (pt_cmpR op_ge (pv 4) (pe_op op_add (pe_ix ix_list (pv 3) (pe_un un_neg pe_int) (fun _ _ => rfl)) (pv 2)) (nomark _))))) (pss_one (ps_expr (pe_bm PySem.F.plainAttrs_list PySem.F.slot_list_append PySem.F.type_list_append mt_append (pv 3) (pa_cons (pv 4) pa_nil)))) pss_nil)))
      (pss_one (ps_ret (pv 3))))), ?_⟩), hm, F.binds (ps := ["self", "bound", "size"]) fun _ _ _ _ _ _ us hl => match us, hl with | [_, _, _], _ => rfl⟩
  obtain ⟨L, w, b, n, rfl, W, O, n1, n2, q⟩ := h
  have m60 := O.m60
  have wl := worn_le w b
  walk_at "run"
  refine ⟨sl60 (by show 0 ≤ 100000; decide), fun F0 hF => ?_⟩
  walk_at "run"
  have s0 := Same.new (o := .lst []) hF
  refine me_of (W.same s0) (by decide +kernel) ?_
  walk_at "run"
  refine ⟨L, w, b, rfl, W.same s0, O, fun H1 WA s1 hWA hW1 => ?_⟩
  have hF1 : H1 F0 = some (.lst []) := s1 _ _ upd_same
  have hne : WA ≠ F0 := (ne_of_none upd_same hWA).symm
  have spl : ∀ i, ((w.worn b).take i).foldl (spliceStep n) [] = splices n ((w.worn b).take i).length ((w.worn b).take i) := fun i => splices_is n1 (Nat.le_refl _) (List.Pairwise.sublist (List.take_sublist _ _) (worn_up w b))
  refine ⟨WA, rfl, ⟨_, SqL.of hW1⟩, for_list (K := K) (a := WA) (xs := natsV (w.worn b)) (fun i σ H' => ∃ v4, σ = [some (.ref L.a), some (.int (b : Int)), some (.int (n : Int)), some (.ref F0), v4] ∧ Only [F0] H1 H' ∧ H' F0 = some (.lst (natsV (((w.worn b).take i).foldl (spliceStep n) [])))) ?_ ?_ ?_ ?_⟩
  · exact ⟨none, rfl, Only.refl _ _, hF1⟩
  · rintro i σ H' _ ⟨_, _, o1, _⟩
    exact SqL.of (o1 _ _ hW1 (by simpa using hne))
  · rintro i y σ H' hy ⟨v4, rfl, o1, hT⟩
    obtain ⟨x, hx, rfl⟩ := map_get hy
    have et : (w.worn b).take (i + 1) = (w.worn b).take i ++ [x] := take_succ_get hx
    have hsz : (((w.worn b).take i).foldl (spliceStep n) []).length ≤ 60 := by
      rw [spl]
      have := splices_length n ((w.worn b).take i).length ((w.worn b).take i)
      rw [List.length_take] at this ⊢
      omega
    walk_at "run"
    refine r_len (SqL.of hT) ?_
    walk_at "run"
    rw [natsV_length]
    generalize hacc : ((w.worn b).take i).foldl (spliceStep n) [] = acc at hT hsz
    have step : ((w.worn b).take (i + 1)).foldl (spliceStep n) [] = spliceStep n acc x := by rw [et, List.foldl_append, hacc]; rfl
    rw [step]
    -- one more
    have more : ∀ (D' : Ends), spliceStep n acc x = acc ++ [x] → (∀ σ' H2, (∃ v4, σ' = [some (.ref L.a), some (.int (b : Int)), some (.int (n : Int)), some (.ref F0), v4] ∧ Only [F0] H1 H2 ∧ H2 F0 = some (.lst (natsV (spliceStep n acc x)))) → D'.nx σ' H2) →
        tDrop (tBM K "list" rAppend (tVar 3) (tCons (tVar 4) tNil)) D' [some (.ref L.a), some (.int (b : Int)), some (.int (n : Int)), some (.ref F0), some (.int (x : Int))] H' := by
      intro D' es hD'
      walk_at "run"
      refine ⟨.inl ⟨rfl, _, SqL.of hT⟩, ?_⟩
      walk_at "run"
      refine r_append hT (by rw [natsV_length]; omega) ?_
      refine hD' _ _ ⟨_, rfl, Only.setp o1 (List.mem_singleton.mpr rfl), ?_⟩
      rw [upd_same, es, natsV_snoc]
    cases hl : acc.getLast? with
    | none =>
      have e0 : acc = [] := List.getLast?_eq_none_iff.mp hl
      subst e0
      refine iteT (iteT ?_)
      exact more _ rfl (by exact fun _ _ h => h)
    | some c =>
      have hne : acc ≠ [] := fun z => by rw [z] at hl; cases hl
      have hlen : 0 < acc.length := List.length_pos_iff.mpr hne
      have est : spliceStep n acc x = if c + n ≤ x then acc ++ [x] else acc := by unfold spliceStep; rw [hl]
      rw [decide_eq_false (show ¬ V.int ((acc.length : Nat) : Int) = V.int 0 by intro z; have := V.int.inj z; omega)]
      refine iteF ?_
      walk_at "run"
      refine r_ixl (SqL.of hT) (natsV_last hl) ?_
      walk_at "run"
      refine iteD (fun cc => ?_) fun cc => ?_
      · exact more _ (by rw [est, if_pos (by omega)]) (by exact fun _ _ h => h)
      · walk_at "run"
        refine ⟨some (.int (x : Int)), rfl, o1, ?_⟩
        rw [est, if_neg (by omega)]
        exact hT
  · rintro σ H' ⟨v4, rfl, o1, hT⟩
    rw [natsV_length, List.take_length, splices_is n1 wl (worn_up w b)] at hT
    walk_at "run"
    refine q _ F0 (Only.same (Only.then (Same.only (Same.trans s0 s1)) o1) ?_) hF hT
    intro c hc
    rw [List.mem_singleton.mp hc]; exact hF
abbrev s_Holder_init : Stmt := inClass (topS 22) 0
abbrev N_Holder_init : List Str := ["self"]
theorem sc_Holder_init : FnScope N_Holder_init ["self"] (defScope s_Holder_init) := ⟨rfl, rfl, rfl, by decide +kernel, rfl, by decide +kernel, by decide +kernel⟩
set_option maxHeartbeats 4000000 in
theorem cal_Holder_init (T : Txt K mg A) (D : DefI K mg A.CH "Holder" "Holder.__init__" s_Holder_init) : Make1 P wd K mg base 1 A.CH "Holder" (spInitH A) := by
  obtain ⟨f, fd, F, hm, hC⟩ := D.ex
  refine ⟨f, fd, ["self"], F.ok (k := 0) sc_Holder_init (fun vs H Q E h => by obtain ⟨_, _, rfl, _⟩ := h; rfl) (fun cdv AA outer s H vs Q E hr h => ⟨_, (pss_one (ps_fld (pv 0) pe_non rfl)), ?_⟩), hm, hC, F.binds (ps := ["self"]) fun _ _ _ _ _ _ us hl => match us, hl with | [_], _ => rfl⟩
  obtain ⟨a, dx, rfl, ha, q⟩ := h
  walk_at "run"
  exact ⟨a, A.CH, dx, [], rfl, ha, T.clH, T.nH_wire, (by show 0 < 1000; decide), q⟩
abbrev s_check : Stmt := topS 23
abbrev N_check : List Str := ["is_right", "code"]
theorem sc_check : FnScope N_check ["is_right", "code"] (defScope s_check) := ⟨rfl, rfl, rfl, by decide +kernel, rfl, by decide +kernel, by decide +kernel⟩
set_option maxHeartbeats 4000000 in
theorem cal_check (T : Txt K mg A) (D : Def1 K mg "check" s_check) : Call1 P wd K mg base (L2.CX P wd) 3 "check" (spCheck A) := by
  obtain ⟨f, fd, F, hm⟩ := D.ex
  refine ⟨f, fd, ["is_right", "code"], F.okX (k := 2) sc_check (fun vs H Q E h => by obtain ⟨_, _, rfl, _⟩ := h; rfl) (fun cdv AA outer s H vs Q E hr h => ⟨_, (pss_one (ps_if (pt_not (pt_val (pv 0))) (pss_one (ps_raiseLow rfl T.low hr (takes_of rfl rfl rfl rfl) (pa_cons (pv 1) pa_nil))) pss_nil)), ?_⟩), hm, F.kp, F.binds (ps := ["is_right", "code"]) fun _ _ _ _ _ _ us hl => match us, hl with | [_, _], _ => rfl⟩
  obtain ⟨b, z, rfl, h1, h2⟩ := h
  walk_at "run"
  cases b with
  | true =>
    refine iteF ?_
    walk_at "run"
    exact h1 rfl
  | false =>
    refine iteT ?_
    exact ⟨_, rfl, _, rfl, fun d hd => h2 rfl d hd⟩
abbrev s_check_place : Stmt := topS 24
abbrev N_check_place : List Str := ["wire", "place"]
theorem sc_check_place : FnScope N_check_place ["wire", "place"] (defScope s_check_place) := ⟨rfl, rfl, rfl, by decide +kernel, rfl, by decide +kernel, by decide +kernel⟩
set_option maxHeartbeats 4000000 in
theorem cal_check_place (T : Txt K mg A) (D : Def1 K mg "check_place" s_check_place) (c_check : Call1 P wd K mg base (L2.CX P wd) 3 "check" (spCheck A)) : Call1 P wd K mg base (L2.CX P wd) 4 "check_place" (spCheckPlace A) := by
  obtain ⟨f, fd, F, hm⟩ := D.ex
  refine ⟨f, fd, ["wire", "place"], F.okX (k := 3) sc_check_place (fun vs H Q E h => by obtain ⟨_, _, _, rfl, _⟩ := h; rfl) (fun cdv AA outer s H vs Q E hr h => ⟨_, (pss_one (ps_expr (pe_c1 c_check hr (by decide) (passes_call (takes_of rfl rfl rfl rfl) (fun _ _ _ _ e => e)) rfl (pa_cons (pe_cmpR op_lt (pv 1) (pe_fld (pv 0) rfl) (nomark _)) (pa_cons (pe_gi rfl T.g_NOT_THERE) pa_nil))))), ?_⟩), hm, F.kp, F.binds (ps := ["wire", "place"]) fun _ _ _ _ _ _ us hl => match us, hl with | [_, _], _ => rfl⟩
  obtain ⟨L, w, x, rfl, W, h1, h2⟩ := h
  walk_at "run"
  refine fl_many T W ?_
  walk_at "run"
  refine r_check (fun c => ?_) fun c => h2 (of_decide_eq_false c)
  walk_at "run"
  exact h1 (of_decide_eq_true c)
abbrev s_call_draw : Stmt := topS 25
abbrev N_call_draw : List Str := ["wire", "numbers", "row", "first", "last", "level", "place"]
theorem sc_call_draw : FnScope N_call_draw ["wire", "numbers", "row"] (defScope s_call_draw) := ⟨rfl, rfl, rfl, by decide +kernel, rfl, by decide +kernel, by decide +kernel⟩
set_option maxHeartbeats 4000000 in
theorem cal_call_draw (T : Txt K mg A) (D : Def1 K mg "call_draw" s_call_draw) (c_check : Call1 P wd K mg base (L2.CX P wd) 3 "check" (spCheck A)) (c_check_place : Call1 P wd K mg base (L2.CX P wd) 4 "check_place" (spCheckPlace A)) : Call1 P wd K mg base (L2.CX P wd) 5 "call_draw" (spCall A 1) := by
  obtain ⟨f, fd, F, hm⟩ := D.ex
  refine ⟨f, fd, ["wire", "numbers", "row"], F.okX (k := 4) sc_call_draw (fun vs H Q E h => by obtain ⟨_, _, _, _, _, _, _, rfl, _⟩ := h; rfl) (fun cdv AA outer s H vs Q E hr h => ⟨_, (pss_cons (ps_asg (pv 1) (pg_lst rfl (pgs_cons (pg_name (i := 3) sc_call_draw.nd rfl (Or.inl rfl)) (pgs_cons (pg_name (i := 4) sc_call_draw.nd rfl (Or.inl rfl)) (pgs_cons (pg_name (i := 5) sc_call_draw.nd rfl (Or.inl rfl)) pgs_nil)))))
      (pss_cons (ps_expr (pe_c1 c_check hr (by decide) (passes_call (takes_of rfl rfl rfl rfl) (fun _ _ _ _ e => e)) rfl (pa_cons (pe_and (pe_cmpR op_le (pv 3) (pv 4) (nomark _)) (pe_one (pe_cmpR op_le (pv 5) pe_int (nomark _)))) (pa_cons (pe_gi rfl T.g_NOT_SO) pa_nil))))
      (pss_cons (ps_expr (pe_c1 c_check_place hr (by decide) (passes_call (takes_of rfl rfl rfl rfl) (fun _ _ _ _ e => e)) rfl (pa_cons (pv 0) (pa_cons (pv 4) pa_nil))))
      (PSs.nox (pss_cons (ps_for PassesOwn.never rfl (pi_range2 rfl T.b_range (pa_cons (pv 3) (pa_cons (pe_op op_add (pv 4) pe_int) pa_nil))) (pg_name (i := 6) sc_call_draw.nd rfl (Or.inl rfl))
      (pss_one (ps_asg (pv 5) (pg_sub (pe_fld (pv 0) rfl) (pv 6) set_list))))
      (pss_one (ps_ret (pe_lst (pa_cons pe_int pa_nil))))))))), ?_⟩), hm, F.kp, F.binds (ps := ["wire", "numbers", "row"]) fun _ _ _ _ _ _ us hl => match us, hl with | [_, _, _], _ => rfl⟩
  obtain ⟨L, w, an, ar, nums, row, c, rfl, W, O, hn, hr0, nn, nr, sh, k, e⟩ := h
  cases sh with
  | draw x y a =>
    have m60 := O.m60
    have hn : H an = some (.lst [V.int (x : Int), V.int (y : Int), V.int (a : Int)]) := hn
    walk_at "run"
    refine r_glst (SqL.of hn) rfl ?_
    walk_at "run"
    refine r_andV (a := decide ((x : Int) ≤ (y : Int))) (b := decide ((a : Int) ≤ 100)) (by walk_at "val") (fun _ => by walk_at "val") ?_
    walk_at "run"
    refine r_check (fun c1 => ?_) fun c1 => ?_
    · rw [Bool.and_eq_true] at c1
      have c2 := of_decide_eq_true c1.1
      have c3 := of_decide_eq_true c1.2
      walk_at "run"
      refine r_place W (fun c4 => ?_) fun c4 => ?_
      · have ha : WearSpec.act w (.draw x y a) = (WearSpec.Wire.among w x y fun p => { p with level := a }, WearSpec.says 0) := by
          show (if _ then _ else if _ then _ else _) = _
          rw [if_neg (by omega), if_neg (by omega)]
        walk_at "run"
        refine ⟨x, (y : Int) + 1, rfl, ⟨by omega, by omega, by omega, by omega⟩, for_range (lo := (x : Int)) (n := ((y : Int) + 1 - (x : Int)).toNat) (fun i σ H' => ∃ v6, σ = [some (.ref L.a), some (.ref an), some (.ref ar), some (.int (x : Int)), some (.int (y : Int)), some (.int (a : Int)), v6] ∧ WireAt A.CW L H' { w with places := amongN w.places x (x + i) fun p => { p with level := a } } ∧ Only L.own H H') ?_ ?_ ?_⟩
        · refine ⟨none, rfl, ?_, Only.refl _ _⟩
          rw [amongN_nil _ _ (by omega)]
          exact W
        · rintro i σ H' hi ⟨v6, rfl, W1, o1⟩
          obtain ⟨p, hp⟩ := get_some (show x + i < w.places.length by omega)
          have hpi : ({ w with places := amongN w.places x (x + i) fun p => { p with level := a } } : Wire).places[x + i]? = some p := by
            show (amongN w.places x (x + i) fun p => { p with level := a })[x + i]? = some p
            exact amongN_at _ _ hp
          walk_at "run"
          refine fl_levels T W1 ?_
          walk_at "run"
          refine ⟨L.av, _, _, x + i, rfl, rfl, W1.lev, by rw [show (x : Int) + (i : Int) = ((x + i : Nat) : Int) by omega]; exact ixN_nat (by unfold levelsV; rw [List.length_map, amongN_length]; omega), ?_⟩
          refine ⟨some (.int ((x : Int) + (i : Int))), rfl, ?_, Only.setp o1 own_av⟩
          rw [show x + (i + 1) = (x + i) + 1 by omega, amongN_succ _ _ (by omega) hp]
          exact W1.setLevel hpi
        · rintro σ H' ⟨v6, rfl, W1, o1⟩
          rw [show x + ((y : Int) + 1 - (x : Int)).toNat = y + 1 by omega] at W1
          walk_at "run"
          exact ok_new (xs := [0]) k (by rw [ha, among_eq]; rfl) (by simp) W1 o1 (by show 1 ≤ 100000; decide)
      · exact leaves_of e (Same.refl H) (by
          show (if _ then _ else if _ then _ else _) = _
          rw [if_neg (by omega), if_pos (by omega)])
    · exact leaves_of e (Same.refl H) (by
        show (if _ then _ else if _ then _ else _) = _
        rw [if_pos (by
          rw [Bool.and_eq_false_iff] at c1
          rcases c1 with c1 | c1
          · have := of_decide_eq_false c1; omega
          · have := of_decide_eq_false c1; omega)])
abbrev s_call_gap : Stmt := topS 26
abbrev N_call_gap : List Str := ["wire", "numbers", "row"]
theorem sc_call_gap : FnScope N_call_gap ["wire", "numbers", "row"] (defScope s_call_gap) := ⟨rfl, rfl, rfl, by decide +kernel, rfl, by decide +kernel, by decide +kernel⟩
set_option maxHeartbeats 4000000 in
theorem cal_call_gap (T : Txt K mg A) (D : Def1 K mg "call_gap" s_call_gap) (c_check : Call1 P wd K mg base (L2.CX P wd) 3 "check" (spCheck A)) (c_check_place : Call1 P wd K mg base (L2.CX P wd) 4 "check_place" (spCheckPlace A)) : Call1 P wd K mg base (L2.CX P wd) 5 "call_gap" (spCall A 2) := by
  obtain ⟨f, fd, F, hm⟩ := D.ex
  refine ⟨f, fd, ["wire", "numbers", "row"], F.okX (k := 4) sc_call_gap (fun vs H Q E h => by obtain ⟨_, _, _, _, _, _, _, rfl, _⟩ := h; rfl) (fun cdv AA outer s H vs Q E hr h => ⟨_, (pss_cons (ps_expr (pe_c1 c_check hr (by decide) (passes_call (takes_of rfl rfl rfl rfl) (fun _ _ _ _ e => e)) rfl (pa_cons (pe_cmpR op_le (pe_ix ix_list (pv 1) pe_int (fun _ _ => rfl)) pe_int (nomark _)) (pa_cons (pe_gi rfl T.g_NOT_SO) pa_nil))))
      (pss_cons (ps_expr (pe_c1 c_check_place hr (by decide) (passes_call (takes_of rfl rfl rfl rfl) (fun _ _ _ _ e => e)) rfl (pa_cons (pv 0) (pa_cons (pe_ix ix_list (pv 1) pe_int (fun _ _ => rfl)) pa_nil))))
      (pss_cons (ps_asg (pe_ix ix_list (pv 1) pe_int (fun _ _ => rfl)) (pg_sub (pe_fld (pv 0) rfl) (pe_ix ix_list (pv 1) pe_int (fun _ _ => rfl)) set_list))
      (pss_one (ps_ret (pe_lst (pa_cons pe_int pa_nil))))))), ?_⟩), hm, F.kp, F.binds (ps := ["wire", "numbers", "row"]) fun _ _ _ _ _ _ us hl => match us, hl with | [_, _, _], _ => rfl⟩
  obtain ⟨L, w, an, ar, nums, row, c, rfl, W, O, hn, hr0, nn, nr, sh, k, e⟩ := h
  cases sh with
  | gap x v =>
    have m60 := O.m60
    have hn : H an = some (.lst [V.int (x : Int), V.int (v : Int)]) := hn
    walk_at "run"
    refine r_ixl (SqL.of hn) at1 ?_
    walk_at "run"
    refine r_check (fun c1 => ?_) fun c1 => ?_
    · have c1 := of_decide_eq_true c1
      walk_at "run"
      refine r_ixl (SqL.of hn) at0 ?_
      walk_at "run"
      refine r_place W (fun c4 => ?_) fun c4 => ?_
      · obtain ⟨p, hp⟩ := get_some (show x < w.places.length by omega)
        have ha : WearSpec.act w (.gap x v) = ({ w with places := w.places.set x { p with extra := v } }, WearSpec.says 0) := by
          show (if _ then _ else if _ then _ else (WearSpec.Wire.among w x x _, _)) = _
          rw [if_neg (by omega), if_neg (by omega), among_eq, amongN_succ _ _ (Nat.le_refl _) hp, amongN_nil _ _ (Nat.le_refl _)]
        walk_at "run"
        refine r_ixl (SqL.of hn) at1 ?_
        walk_at "run"
        refine fl_extras T W ?_
        walk_at "run"
        refine r_ixl (SqL.of hn) at0 ?_
        refine ⟨L.ax, _, _, x, rfl, rfl, W.ext, ixN_nat (by unfold extrasV; rw [List.length_map]; omega), ?_⟩
        walk_at "run"
        exact ok_new (xs := [0]) k ha (by simp) (W.setExtra hp) (Only.setp (Only.refl _ _) own_ax) (by show 1 ≤ 100000; decide)
      · exact leaves_of e (Same.refl H) (by
          show (if _ then _ else if _ then _ else _) = _
          rw [if_neg (by omega), if_pos (by omega)])
    · have c1 := of_decide_eq_false c1
      exact leaves_of e (Same.refl H) (by
        show (if _ then _ else if _ then _ else _) = _
        rw [if_pos (by omega)])
abbrev s_call_kind : Stmt := topS 27
abbrev N_call_kind : List Str := ["wire", "numbers", "row"]
theorem sc_call_kind : FnScope N_call_kind ["wire", "numbers", "row"] (defScope s_call_kind) := ⟨rfl, rfl, rfl, by decide +kernel, rfl, by decide +kernel, by decide +kernel⟩
set_option maxHeartbeats 4000000 in
theorem cal_call_kind (T : Txt K mg A) (D : Def1 K mg "call_kind" s_call_kind) (c_check : Call1 P wd K mg base (L2.CX P wd) 3 "check" (spCheck A)) : Call1 P wd K mg base (L2.CX P wd) 4 "call_kind" (spCall A 3) := by
  obtain ⟨f, fd, F, hm⟩ := D.ex
  refine ⟨f, fd, ["wire", "numbers", "row"], F.okX (k := 3) sc_call_kind (fun vs H Q E h => by obtain ⟨_, _, _, _, _, _, _, rfl, _⟩ := h; rfl) (fun cdv AA outer s H vs Q E hr h => ⟨_, (pss_cons (ps_expr (pe_c1 c_check hr (by decide) (passes_call (takes_of rfl rfl rfl rfl) (fun _ _ _ _ e => e)) rfl (pa_cons (pe_and (pe_cmpR op_le (pe_ix ix_list (pv 1) pe_int (fun _ _ => rfl)) pe_int (nomark _)) (pe_one (pe_cmpR op_le (pe_ix ix_list (pv 1) pe_int (fun _ _ => rfl)) pe_int (nomark _)))) (pa_cons (pe_gi rfl T.g_NOT_SO) pa_nil))))
      (pss_cons (ps_expr (pe_c1 c_check hr (by decide) (passes_call (takes_of rfl rfl rfl rfl) (fun _ _ _ _ e => e)) rfl (pa_cons (pe_cmpR op_lt (pe_callB call_len rfl T.b_len (by decide +kernel) (pa_cons (pe_fld (pv 0) rfl) pa_nil)) pe_int (nomark _)) (pa_cons (pe_gi rfl T.g_NO_ROOM) pa_nil))))
      (pss_cons (ps_expr (pe_bm PySem.F.plainAttrs_list PySem.F.slot_list_append PySem.F.type_list_append mt_append (pe_fld (pv 0) rfl) (pa_cons (pe_tup (pa_cons (pe_ix ix_list (pv 1) pe_int (fun _ _ => rfl)) (pa_cons (pe_ix ix_list (pv 1) pe_int (fun _ _ => rfl)) pa_nil))) pa_nil)))
      (pss_one (ps_ret (pe_lst (pa_cons (pe_op op_sub (pe_callB call_len rfl T.b_len (by decide +kernel) (pa_cons (pe_fld (pv 0) rfl) pa_nil)) pe_int) pa_nil))))))), ?_⟩), hm, F.kp, F.binds (ps := ["wire", "numbers", "row"]) fun _ _ _ _ _ _ us hl => match us, hl with | [_, _, _], _ => rfl⟩
  obtain ⟨L, w, an, ar, nums, row, c, rfl, W, O, hn, hr0, nn, nr, sh, k, e⟩ := h
  cases sh with
  | kind b f0 =>
    have k4 := O.k4
    obtain ⟨ts, k1, k2⟩ := W.kin
    have hkl : ts.length = w.kinds.length := by have := k2.1; unfold kindsV at this; rw [List.length_map] at this; exact this
    have hn : H an = some (.lst [V.int (b : Int), V.int (f0 : Int)]) := hn
    walk_at "run"
    refine r_andV (a := decide ((b : Int) ≤ 1000)) (b := decide ((f0 : Int) ≤ 1000)) ?_ ?_ ?_
    · intro Q' q'
      walk_at "run"
      refine r_ixl (SqL.of hn) at0 ?_
      walk_at "run"
      exact q'
    · intro _ Q' q'
      walk_at "run"
      refine r_ixl (SqL.of hn) at1 ?_
      walk_at "run"
      exact q'
    walk_at "run"
    refine r_check (fun c1 => ?_) fun c1 => ?_
    · rw [Bool.and_eq_true] at c1
      have c2 := of_decide_eq_true c1.1
      have c3 := of_decide_eq_true c1.2
      walk_at "run"
      refine fl_kinds T W ?_
      walk_at "run"
      refine r_len (SqL.of k1) ?_
      walk_at "run"
      rw [List.length_map, hkl]
      refine r_check (fun c4 => ?_) fun c4 => ?_
      · have c4 := of_decide_eq_true c4
        have ha : WearSpec.act w (.kind b f0) = ({ w with kinds := w.kinds ++ [⟨b, f0⟩] }, WearSpec.says (w.kinds.length : Int)) := by
          show (if _ then _ else if _ then _ else _) = _
          rw [if_neg (by omega), if_neg (by omega)]
        walk_at "run"
        refine fl_kinds T W ?_
        refine ⟨.inl ⟨rfl, _, SqL.of k1⟩, ?_⟩
        walk_at "run"
        refine r_ixl (SqL.of hn) at0 ?_
        walk_at "run"
        refine r_ixl (SqL.of hn) at1 ?_
        walk_at "run"
        refine ⟨sl60 (by show 2 ≤ 100000; decide), fun t ht => ?_⟩
        walk_at "run"
        have s1 := Same.new (o := .tup [.int (b : Int), .int (f0 : Int)]) ht
        refine r_append (s1 _ _ k1) (by rw [List.length_map, hkl]; omega) ?_
        have W1 := W.same s1
        have W2 := W1.addKind (kd := ⟨b, f0⟩) (s1 _ _ k1) (AllT.same s1 k2) upd_same
        have o2 : Only L.own H (upd (upd H t (.tup [.int (b : Int), .int (f0 : Int)])) L.ak (.lst (ts.map V.ref ++ [V.ref t]))) := Only.setp (Same.only s1) own_ak
        obtain ⟨us, u1, u2⟩ := W2.kin
        have hul : us.length = w.kinds.length + 1 := by have := u2.1; unfold kindsV at this; rw [List.length_map, List.length_append] at this; exact this
        walk_at "run"
        refine fl_kinds T W2 ?_
        walk_at "run"
        refine r_len (SqL.of u1) ?_
        walk_at "run"
        rw [List.length_map, hul]
        have e1 : ((w.kinds.length + 1 : Nat) : Int) - 1 = (w.kinds.length : Int) := by omega
        rw [e1]
        exact ok_new (xs := [(w.kinds.length : Int)]) k ha (by simp) W2 o2 (by show 1 ≤ 100000; decide)
      · have c4 := of_decide_eq_false c4
        exact leaves_of e (Same.refl H) (by
          show (if _ then _ else if _ then _ else _) = _
          rw [if_neg (by omega), if_pos (by omega)])
    · exact leaves_of e (Same.refl H) (by
        show (if _ then _ else if _ then _ else _) = _
        rw [if_pos (by
          rw [Bool.and_eq_false_iff] at c1
          rcases c1 with c1 | c1
          · have := of_decide_eq_false c1; omega
          · have := of_decide_eq_false c1; omega)])
abbrev s_call_service : Stmt := topS 28
abbrev N_call_service : List Str := ["wire", "numbers", "row", "weekday", "kind", "many"]
theorem sc_call_service : FnScope N_call_service ["wire", "numbers", "row"] (defScope s_call_service) := ⟨rfl, rfl, rfl, by decide +kernel, rfl, by decide +kernel, by decide +kernel⟩
set_option maxHeartbeats 4000000 in
theorem cal_call_service (T : Txt K mg A) (D : Def1 K mg "call_service" s_call_service) (c_check : Call1 P wd K mg base (L2.CX P wd) 3 "check" (spCheck A)) : Call1 P wd K mg base (L2.CX P wd) 4 "call_service" (spCall A 4) := by
  obtain ⟨f, fd, F, hm⟩ := D.ex
  refine ⟨f, fd, ["wire", "numbers", "row"], F.okX (k := 3) sc_call_service (fun vs H Q E h => by obtain ⟨_, _, _, _, _, _, _, rfl, _⟩ := h; rfl) (fun cdv AA outer s H vs Q E hr h => ⟨_, (pss_cons (ps_asg (pv 1) (pg_lst rfl (pgs_cons (pg_name (i := 3) sc_call_service.nd rfl (Or.inl rfl)) (pgs_cons (pg_name (i := 4) sc_call_service.nd rfl (Or.inl rfl)) (pgs_cons (pg_name (i := 5) sc_call_service.nd rfl (Or.inl rfl)) pgs_nil)))))
      (pss_cons (ps_expr (pe_c1 c_check hr (by decide) (passes_call (takes_of rfl rfl rfl rfl) (fun _ _ _ _ e => e)) rfl (pa_cons (pe_and (pe_cmpR op_le (pv 3) pe_int (nomark _)) (pe_one (pe_cmpR op_le (pv 5) pe_int (nomark _)))) (pa_cons (pe_gi rfl T.g_NOT_SO) pa_nil))))
      (pss_cons (ps_expr (pe_c1 c_check hr (by decide) (passes_call (takes_of rfl rfl rfl rfl) (fun _ _ _ _ e => e)) rfl (pa_cons (pe_cmpR op_lt (pv 4) (pe_callB call_len rfl T.b_len (by decide +kernel) (pa_cons (pe_fld (pv 0) rfl) pa_nil)) (nomark _)) (pa_cons (pe_gi rfl T.g_NOT_THERE) pa_nil))))
      (pss_cons (ps_dput (hu_of hr) (pe_fld (pv 0) rfl) (pe_tup (pa_cons (pv 3) (pa_cons (pv 4) pa_nil))) (pv 5) rfl)
      (pss_one (ps_ret (pe_lst (pa_cons pe_int pa_nil)))))))), ?_⟩), hm, F.kp, F.binds (ps := ["wire", "numbers", "row"]) fun _ _ _ _ _ _ us hl => match us, hl with | [_, _, _], _ => rfl⟩
  obtain ⟨L, w, an, ar, nums, row, c, rfl, W, O, hn, hr0, nn, nr, sh, k, e⟩ := h
  cases sh with
  | service d kd n =>
    have k4 := O.k4
    obtain ⟨ts, k1, k2⟩ := W.kin
    have hkl : ts.length = w.kinds.length := by have := k2.1; unfold kindsV at this; rw [List.length_map] at this; exact this
    have hn : H an = some (.lst [V.int (d : Int), V.int (kd : Int), V.int (n : Int)]) := hn
    walk_at "run"
    refine r_glst (SqL.of hn) rfl ?_
    walk_at "run"
    refine r_andV (a := decide ((d : Int) ≤ 6)) (b := decide ((n : Int) ≤ 10000)) (by walk_at "val") (fun _ => by walk_at "val") ?_
    walk_at "run"
    refine r_check (fun c1 => ?_) fun c1 => ?_
    · rw [Bool.and_eq_true] at c1
      have c2 := of_decide_eq_true c1.1
      have c3 := of_decide_eq_true c1.2
      walk_at "run"
      refine fl_kinds T W ?_
      walk_at "run"
      refine r_len (SqL.of k1) ?_
      walk_at "run"
      rw [List.length_map, hkl]
      refine r_check (fun c4 => ?_) fun c4 => ?_
      · have c4 := of_decide_eq_true c4
        have ha : WearSpec.act w (.service d kd n) = ({ w with services := w.services.modify d fun (l : List Nat) => WearSpec.setAt l kd n }, WearSpec.says 0) := by
          show (if _ then _ else if _ then _ else _) = _
          rw [if_neg (by omega), if_neg (by omega)]
        walk_at "run"
        refine fl_services T W ?_
        walk_at "run"
        refine ⟨sl60 (by show 2 ≤ 100000; decide), fun t ht => ?_⟩
        have s1 := Same.new (o := .tup [.int (d : Int), .int (kd : Int)]) ht
        have W1 := W.same s1
        obtain ⟨kvs, d1, d2⟩ := W1.ser
        have hlen : kvs.length ≤ 28 := by
          have := nodup_few d2.nd d2.few
          rw [List.length_map] at this
          exact this
        refine ⟨L.sv, _, rfl, DPut.t (k := [Sum.inl (d : Int), Sum.inl (kd : Int)]) d1 upd_same (sl60' (by omega)), ?_⟩
        have sk : SerOk (putK kvs [Sum.inl (d : Int), Sum.inl (kd : Int)] (.int (n : Int))) { w with services := w.services.modify d fun (l : List Nat) => WearSpec.setAt l kd n } := by
          refine ⟨fun d' k' hd' => ?_, ?_, fun key hkey => ?_⟩
          · rw [valV_put, passes_modify w O.s7 (by omega)]
            by_cases ce : [(Sum.inl (d' : Int) : Key), Sum.inl (k' : Int)] = [Sum.inl (d : Int), Sum.inl (kd : Int)]
            · have : d' = d ∧ k' = kd := by
                injection ce with ce1 ce
                injection ce with ce2 _
                injection ce1 with ce1
                injection ce2 with ce2
                omega
              rw [if_pos ce, if_pos this]; rfl
            · have : ¬ (d' = d ∧ k' = kd) := by rintro ⟨rfl, rfl⟩; exact ce rfl
              rw [if_neg ce, if_neg this]
              exact d2.val d' k' hd'
          · exact nodup_put d2.nd
          · rcases mem_put hkey with h | h
            · exact ⟨d, kd, by omega, by omega, h⟩
            · exact d2.few key h
        walk_at "run"
        exact ok_new (xs := [0]) k ha (by simp) (W1.setSer sk) (Only.setp (Same.only s1) own_sv) (by show 1 ≤ 100000; decide)
      · have c4 := of_decide_eq_false c4
        exact leaves_of e (Same.refl H) (by
          show (if _ then _ else if _ then _ else _) = _
          rw [if_neg (by omega), if_pos (by omega)])
    · exact leaves_of e (Same.refl H) (by
        show (if _ then _ else if _ then _ else _) = _
        rw [if_pos (by
          rw [Bool.and_eq_false_iff] at c1
          rcases c1 with c1 | c1
          · have := of_decide_eq_false c1; omega
          · have := of_decide_eq_false c1; omega)])
abbrev s_call_pass : Stmt := topS 29
abbrev N_call_pass : List Str := ["wire", "numbers", "row", "kind", "many", "place"]
theorem sc_call_pass : FnScope N_call_pass ["wire", "numbers", "row"] (defScope s_call_pass) := ⟨rfl, rfl, rfl, by decide +kernel, rfl, by decide +kernel, by decide +kernel⟩
set_option maxHeartbeats 4000000 in
theorem cal_call_pass (T : Txt K mg A) (D : Def1 K mg "call_pass" s_call_pass) (c_Wire_due : Meth1 P wd K mg base 1 A.CW "due" (spDue A)) (c_Wire_take : Meth1 P wd K mg base 1 A.CW "take" (spTake A)) (c_check : Call1 P wd K mg base (L2.CX P wd) 3 "check" (spCheck A)) : Call1 P wd K mg base (L2.CX P wd) 4 "call_pass" (spCall A 5) := by
  obtain ⟨f, fd, F, hm⟩ := D.ex
  refine ⟨f, fd, ["wire", "numbers", "row"], F.okX (k := 3) sc_call_pass (fun vs H Q E h => by obtain ⟨_, _, _, _, _, _, _, rfl, _⟩ := h; rfl) (fun cdv AA outer s H vs Q E hr h => ⟨_, (pss_cons (ps_asg (pv 1) (pg_lst rfl (pgs_cons (pg_name (i := 3) sc_call_pass.nd rfl (Or.inl rfl)) (pgs_cons (pg_name (i := 4) sc_call_pass.nd rfl (Or.inl rfl)) pgs_nil))))
      (pss_cons (ps_expr (pe_c1 c_check hr (by decide) (passes_call (takes_of rfl rfl rfl rfl) (fun _ _ _ _ e => e)) rfl (pa_cons (pe_cmpR op_le (pv 4) (pe_gi rfl T.g_MILLION) (nomark _)) (pa_cons (pe_gi rfl T.g_NOT_SO) pa_nil))))
      (pss_cons (ps_expr (pe_c1 c_check hr (by decide) (passes_call (takes_of rfl rfl rfl rfl) (fun _ _ _ _ e => e)) rfl (pa_cons (pe_cmpR op_lt (pv 3) (pe_callB call_len rfl T.b_len (by decide +kernel) (pa_cons (pe_fld (pv 0) rfl) pa_nil)) (nomark _)) (pa_cons (pe_gi rfl T.g_NOT_THERE) pa_nil))))
      (PSs.nox (pss_cons (ps_for PassesOwn.never rfl (pi_range1 rfl T.b_range (pa_cons (pe_fld (pv 0) rfl) pa_nil)) (pg_name (i := 5) sc_call_pass.nd rfl (Or.inl rfl))
      (pss_one (ps_expr (pe_m1 c_Wire_take T.clW hr (by decide) (pv 0) (pa_cons (pv 5) (pa_cons (pe_op op_mul (pv 4) (pe_m1 c_Wire_due T.clW hr (by decide) (pv 0) (pa_cons (pv 3) (pa_cons (pv 5) pa_nil)))) pa_nil))))))
      (pss_one (ps_ret (pe_lst (pa_cons pe_int pa_nil))))))))), ?_⟩), hm, F.kp, F.binds (ps := ["wire", "numbers", "row"]) fun _ _ _ _ _ _ us hl => match us, hl with | [_, _, _], _ => rfl⟩
  obtain ⟨L, w, an, ar, nums, row, c, rfl, W, O, hn, hr0, nn, nr, sh, k, e⟩ := h
  cases sh with
  | pass kd n =>
    have m60 := O.m60
    obtain ⟨ts, k1, k2⟩ := W.kin
    have hkl : ts.length = w.kinds.length := by have := k2.1; unfold kindsV at this; rw [List.length_map] at this; exact this
    have hn : H an = some (.lst [V.int (kd : Int), V.int (n : Int)]) := hn
    walk_at "run"
    refine r_glst (SqL.of hn) rfl ?_
    walk_at "run"
    refine r_check (fun c1 => ?_) fun c1 => ?_
    · have c1 := of_decide_eq_true c1
      walk_at "run"
      refine fl_kinds T W ?_
      walk_at "run"
      refine r_len (SqL.of k1) ?_
      walk_at "run"
      rw [List.length_map, hkl]
      refine r_check (fun c4 => ?_) fun c4 => ?_
      · have c4 := of_decide_eq_true c4
        obtain ⟨j, hj⟩ := get_some (show kd < w.kinds.length by omega)
        have ha : WearSpec.act w (.pass kd n) = (partPass w (fun p => n * j.takes p) w.places.length, WearSpec.says 0) := by
          rw [partPass_all]
          show (if 1000000 < n then _ else match w.kinds[kd]? with
            | none => _
            | some x => _) = _
          rw [if_neg (by omega), hj]; rfl
        walk_at "run"
        refine fl_many T W ?_
        refine ⟨(w.places.length : Int), rfl, by omega, by omega, for_range (lo := 0) (n := (w.places.length : Int).toNat) (fun i σ H' => ∃ v5, σ = [some (.ref L.a), some (.ref an), some (.ref ar), some (.int (kd : Int)), some (.int (n : Int)), v5] ∧ WireAt A.CW L H' (partPass w (fun p => n * j.takes p) i) ∧ Only L.own H H') ?_ ?_ ?_⟩
        · refine ⟨none, rfl, ?_, Only.refl _ _⟩
          rw [partPass_zero]
          exact W
        · rintro i σ H' hi ⟨v5, rfl, W1, o1⟩
          rw [Int.toNat_natCast] at hi
          rw [show (0 : Int) + (i : Int) = (i : Int) from Int.zero_add _]
          obtain ⟨p, hp⟩ := get_some hi
          have hpi := partPass_at (w := w) (g := fun p => n * j.takes p) hp
          walk_at "run"
          refine me_of W1 (by decide +kernel) ?_
          walk_at "run"
          refine me_of W1 (by decide +kernel) ?_
          walk_at "run"
          refine ⟨L, _, kd, i, j, p, rfl, W1, partPass_ok O, hj, hpi, ?_⟩
          refine r_i (Or.inl ⟨by omega, by omega⟩) ?_
          walk_at "run"
          refine ⟨L, _, i, n * j.takes p, p, by rw [Int.natCast_mul]; rfl, W1, hpi, fun H2 W2 o2 => ?_⟩
          walk_at "run"
          refine ⟨some (.int (i : Int)), rfl, ?_, o1.then o2⟩
          rw [← partPass_succ hp]
          exact W2
        · rintro σ H' ⟨v5, rfl, W1, o1⟩
          rw [Int.toNat_natCast] at W1
          walk_at "run"
          exact ok_new (xs := [0]) k ha (by simp) W1 o1 (by show 1 ≤ 100000; decide)
      · have c4 := of_decide_eq_false c4
        have hj : w.kinds[kd]? = none := List.getElem?_eq_none (by omega)
        exact leaves_of e (Same.refl H) (by
          show (if 1000000 < n then _ else match w.kinds[kd]? with
            | none => _
            | some x => _) = _
          rw [if_neg (by omega), hj])
    · have c1 := of_decide_eq_false c1
      exact leaves_of e (Same.refl H) (by
        show (if 1000000 < n then _ else _) = _
        rw [if_pos (by omega)])
abbrev s_call_days : Stmt := topS 30
abbrev N_call_days : List Str := ["wire", "numbers", "row"]
theorem sc_call_days : FnScope N_call_days ["wire", "numbers", "row"] (defScope s_call_days) := ⟨rfl, rfl, rfl, by decide +kernel, rfl, by decide +kernel, by decide +kernel⟩
set_option maxHeartbeats 4000000 in
theorem cal_call_days (T : Txt K mg A) (D : Def1 K mg "call_days" s_call_days) (c_Wire_pass_days : Meth1 P wd K mg base 4 A.CW "pass_days" (spPassDays A)) (c_check : Call1 P wd K mg base (L2.CX P wd) 3 "check" (spCheck A)) : Call1 P wd K mg base (L2.CX P wd) 5 "call_days" (spCall A 6) := by
  obtain ⟨f, fd, F, hm⟩ := D.ex
  refine ⟨f, fd, ["wire", "numbers", "row"], F.okX (k := 4) sc_call_days (fun vs H Q E h => by obtain ⟨_, _, _, _, _, _, _, rfl, _⟩ := h; rfl) (fun cdv AA outer s H vs Q E hr h => ⟨_, (pss_cons (ps_expr (pe_c1 c_check hr (by decide) (passes_call (takes_of rfl rfl rfl rfl) (fun _ _ _ _ e => e)) rfl (pa_cons (pe_cmpR op_le (pe_ix ix_list (pv 1) pe_int (fun _ _ => rfl)) pe_int (nomark _)) (pa_cons (pe_gi rfl T.g_NOT_SO) pa_nil))))
      (pss_cons (ps_expr (pe_m1 c_Wire_pass_days T.clW hr (by decide) (pv 0) (pa_cons (pe_ix ix_list (pv 1) pe_int (fun _ _ => rfl)) pa_nil)))
      (pss_one (ps_ret (pe_lst (pa_cons pe_int pa_nil)))))), ?_⟩), hm, F.kp, F.binds (ps := ["wire", "numbers", "row"]) fun _ _ _ _ _ _ us hl => match us, hl with | [_, _, _], _ => rfl⟩
  obtain ⟨L, w, an, ar, nums, row, c, rfl, W, O, hn, hr0, nn, nr, sh, k, e⟩ := h
  cases sh with
  | days n =>
    have hn : H an = some (.lst [V.int (n : Int)]) := hn
    walk_at "run"
    refine r_ixl (SqL.of hn) at0 ?_
    walk_at "run"
    refine r_check (fun c1 => ?_) fun c1 => ?_
    · have c1 := of_decide_eq_true c1
      have ha : WearSpec.act w (.days n) = (w.days n, WearSpec.says 0) := by
        show (if 1000000000 < n then _ else _) = _
        rw [if_neg (by omega)]
      walk_at "run"
      refine me_of W (by decide +kernel) ?_
      walk_at "run"
      refine r_ixl (SqL.of hn) at0 ?_
      walk_at "run"
      refine ⟨L, w, n, rfl, W, O, by omega, fun H1 W1 o1 => ?_⟩
      walk_at "run"
      exact ok_new (xs := [0]) k ha (by simp) W1 o1 (by show 1 ≤ 100000; decide)
    · have c1 := of_decide_eq_false c1
      exact leaves_of e (Same.refl H) (by
        show (if 1000000000 < n then _ else _) = _
        rw [if_pos (by omega)])
abbrev s_call_splice : Stmt := topS 31
abbrev N_call_splice : List Str := ["wire", "numbers", "row", "first", "last", "left", "place"]
theorem sc_call_splice : FnScope N_call_splice ["wire", "numbers", "row"] (defScope s_call_splice) := ⟨rfl, rfl, rfl, by decide +kernel, rfl, by decide +kernel, by decide +kernel⟩
set_option maxHeartbeats 4000000 in
theorem cal_call_splice (T : Txt K mg A) (D : Def1 K mg "call_splice" s_call_splice) (c_check : Call1 P wd K mg base (L2.CX P wd) 3 "check" (spCheck A)) (c_check_place : Call1 P wd K mg base (L2.CX P wd) 4 "check_place" (spCheckPlace A)) : Call1 P wd K mg base (L2.CX P wd) 5 "call_splice" (spCall A 7) := by
  obtain ⟨f, fd, F, hm⟩ := D.ex
  refine ⟨f, fd, ["wire", "numbers", "row"], F.okX (k := 4) sc_call_splice (fun vs H Q E h => by obtain ⟨_, _, _, _, _, _, _, rfl, _⟩ := h; rfl) (fun cdv AA outer s H vs Q E hr h => ⟨_, (pss_cons (ps_asg (pv 1) (pg_lst rfl (pgs_cons (pg_name (i := 3) sc_call_splice.nd rfl (Or.inl rfl)) (pgs_cons (pg_name (i := 4) sc_call_splice.nd rfl (Or.inl rfl)) (pgs_cons (pg_name (i := 5) sc_call_splice.nd rfl (Or.inl rfl)) pgs_nil)))))
      (pss_cons (ps_expr (pe_c1 c_check hr (by decide) (passes_call (takes_of rfl rfl rfl rfl) (fun _ _ _ _ e => e)) rfl (pa_cons (pe_and (pe_cmpR op_le (pv 3) (pv 4) (nomark _)) (pe_one (pe_cmpR op_le (pv 5) (pe_gi rfl T.g_MILLION) (nomark _)))) (pa_cons (pe_gi rfl T.g_NOT_SO) pa_nil))))
      (pss_cons (ps_expr (pe_c1 c_check_place hr (by decide) (passes_call (takes_of rfl rfl rfl rfl) (fun _ _ _ _ e => e)) rfl (pa_cons (pv 0) (pa_cons (pv 4) pa_nil))))
      (PSs.nox (pss_cons (ps_for PassesOwn.never rfl (pi_range2 rfl T.b_range (pa_cons (pv 3) (pa_cons (pe_op op_add (pv 4) pe_int) pa_nil))) (pg_name (i := 6) sc_call_splice.nd rfl (Or.inl rfl))
      (pss_one (ps_asg (pv 5) (pg_sub (pe_fld (pv 0) rfl) (pv 6) set_list))))
      (pss_one (ps_ret (pe_lst (pa_cons pe_int pa_nil))))))))), ?_⟩), hm, F.kp, F.binds (ps := ["wire", "numbers", "row"]) fun _ _ _ _ _ _ us hl => match us, hl with | [_, _, _], _ => rfl⟩
  obtain ⟨L, w, an, ar, nums, row, c, rfl, W, O, hn, hr0, nn, nr, sh, k, e⟩ := h
  cases sh with
  | splice x y a =>
    have m60 := O.m60
    have hn : H an = some (.lst [V.int (x : Int), V.int (y : Int), V.int (a : Int)]) := hn
    walk_at "run"
    refine r_glst (SqL.of hn) rfl ?_
    walk_at "run"
    refine r_andV (a := decide ((x : Int) ≤ (y : Int))) (b := decide ((a : Int) ≤ 1000000)) (by walk_at "val") (fun _ => by walk_at "val") ?_
    walk_at "run"
    refine r_check (fun c1 => ?_) fun c1 => ?_
    · rw [Bool.and_eq_true] at c1
      have c2 := of_decide_eq_true c1.1
      have c3 := of_decide_eq_true c1.2
      walk_at "run"
      refine r_place W (fun c4 => ?_) fun c4 => ?_
      · have ha : WearSpec.act w (.splice x y a) = (WearSpec.Wire.among w x y fun p => { p with left := a }, WearSpec.says 0) := by
          show (if WearSpec.DEPTH < a ∨ y < x then _ else if _ then _ else _) = _
          unfold WearSpec.DEPTH
          rw [if_neg (by omega), if_neg (by omega)]
        walk_at "run"
        refine ⟨x, (y : Int) + 1, rfl, ⟨by omega, by omega, by omega, by omega⟩, for_range (lo := (x : Int)) (n := ((y : Int) + 1 - (x : Int)).toNat) (fun i σ H' => ∃ v6, σ = [some (.ref L.a), some (.ref an), some (.ref ar), some (.int (x : Int)), some (.int (y : Int)), some (.int (a : Int)), v6] ∧ WireAt A.CW L H' { w with places := amongN w.places x (x + i) fun p => { p with left := a } } ∧ Only L.own H H') ?_ ?_ ?_⟩
        · refine ⟨none, rfl, ?_, Only.refl _ _⟩
          rw [amongN_nil _ _ (by omega)]
          exact W
        · rintro i σ H' hi ⟨v6, rfl, W1, o1⟩
          obtain ⟨p, hp⟩ := get_some (show x + i < w.places.length by omega)
          have hpi : ({ w with places := amongN w.places x (x + i) fun p => { p with left := a } } : Wire).places[x + i]? = some p := by
            show (amongN w.places x (x + i) fun p => { p with left := a })[x + i]? = some p
            exact amongN_at _ _ hp
          walk_at "run"
          refine fl_left T W1 ?_
          walk_at "run"
          refine ⟨L.al, _, _, x + i, rfl, rfl, W1.left, by rw [show (x : Int) + (i : Int) = ((x + i : Nat) : Int) by omega]; exact ixN_nat (by unfold leftsV; rw [List.length_map, amongN_length]; omega), ?_⟩
          refine ⟨some (.int ((x : Int) + (i : Int))), rfl, ?_, Only.setp o1 own_al⟩
          rw [show x + (i + 1) = (x + i) + 1 by omega, amongN_succ _ _ (by omega) hp]
          exact W1.setLeft hpi
        · rintro σ H' ⟨v6, rfl, W1, o1⟩
          rw [show x + ((y : Int) + 1 - (x : Int)).toNat = y + 1 by omega] at W1
          walk_at "run"
          exact ok_new (xs := [0]) k (by rw [ha, among_eq]; rfl) (by simp) W1 o1 (by show 1 ≤ 100000; decide)
      · exact leaves_of e (Same.refl H) (by
          show (if WearSpec.DEPTH < a ∨ y < x then _ else if _ then _ else _) = _
          unfold WearSpec.DEPTH
          rw [if_neg (by omega), if_pos (by omega)])
    · exact leaves_of e (Same.refl H) (by
        show (if WearSpec.DEPTH < a ∨ y < x then _ else if _ then _ else _) = _
        unfold WearSpec.DEPTH
        rw [if_pos (by
          rw [Bool.and_eq_false_iff] at c1
          rcases c1 with c1 | c1
          · have := of_decide_eq_false c1; omega
          · have := of_decide_eq_false c1; omega)])
abbrev s_call_measured : Stmt := topS 32
abbrev N_call_measured : List Str := ["wire", "numbers", "row", "place", "left", "before"]
theorem sc_call_measured : FnScope N_call_measured ["wire", "numbers", "row"] (defScope s_call_measured) := ⟨rfl, rfl, rfl, by decide +kernel, rfl, by decide +kernel, by decide +kernel⟩
set_option maxHeartbeats 4000000 in
theorem cal_call_measured (T : Txt K mg A) (D : Def1 K mg "call_measured" s_call_measured) (c_check : Call1 P wd K mg base (L2.CX P wd) 3 "check" (spCheck A)) (c_check_place : Call1 P wd K mg base (L2.CX P wd) 4 "check_place" (spCheckPlace A)) : Call1 P wd K mg base (L2.CX P wd) 5 "call_measured" (spCall A 8) := by
  obtain ⟨f, fd, F, hm⟩ := D.ex
  refine ⟨f, fd, ["wire", "numbers", "row"], F.okX (k := 4) sc_call_measured (fun vs H Q E h => by obtain ⟨_, _, _, _, _, _, _, rfl, _⟩ := h; rfl) (fun cdv AA outer s H vs Q E hr h => ⟨_, (pss_cons (ps_asg (pv 1) (pg_lst rfl (pgs_cons (pg_name (i := 3) sc_call_measured.nd rfl (Or.inl rfl)) (pgs_cons (pg_name (i := 4) sc_call_measured.nd rfl (Or.inl rfl)) pgs_nil))))
      (pss_cons (ps_expr (pe_c1 c_check hr (by decide) (passes_call (takes_of rfl rfl rfl rfl) (fun _ _ _ _ e => e)) rfl (pa_cons (pe_cmpR op_le (pv 4) (pe_gi rfl T.g_MILLION) (nomark _)) (pa_cons (pe_gi rfl T.g_NOT_SO) pa_nil))))
      (pss_cons (ps_expr (pe_c1 c_check_place hr (by decide) (passes_call (takes_of rfl rfl rfl rfl) (fun _ _ _ _ e => e)) rfl (pa_cons (pv 0) (pa_cons (pv 3) pa_nil))))
      (pss_cons (ps_set (i := 5) sc_call_measured.nd rfl (Or.inl rfl) (pe_ix ix_list (pe_fld (pv 0) rfl) (pv 3) (fun _ _ => rfl)))
      (pss_cons (ps_asg (pv 4) (pg_sub (pe_fld (pv 0) rfl) (pv 3) set_list))
      (pss_one (ps_ret (pe_lst (pa_cons pe_int (pa_cons (pe_op op_sub (pv 4) (pv 5)) pa_nil)))))))))), ?_⟩), hm, F.kp, F.binds (ps := ["wire", "numbers", "row"]) fun _ _ _ _ _ _ us hl => match us, hl with | [_, _, _], _ => rfl⟩
  obtain ⟨L, w, an, ar, nums, row, c, rfl, W, O, hn, hr0, nn, nr, sh, k, e⟩ := h
  cases sh with
  | measured x d =>
    have hn : H an = some (.lst [V.int (x : Int), V.int (d : Int)]) := hn
    walk_at "run"
    refine r_glst (SqL.of hn) rfl ?_
    walk_at "run"
    refine r_check (fun c1 => ?_) fun c1 => ?_
    · have c1 := of_decide_eq_true c1
      walk_at "run"
      refine r_place W (fun c4 => ?_) fun c4 => ?_
      · obtain ⟨p, hp⟩ := get_some (show x < w.places.length by omega)
        have hla : w.leftAt x = p.left := by unfold Wire.leftAt; rw [hp]; rfl
        have ha : WearSpec.act w (.measured x d) = ({ w with places := w.places.set x { p with left := d } }, ⟨0, [(d : Int) - (p.left : Int)]⟩) := by
          show (if WearSpec.DEPTH < d then _ else if _ then _ else (WearSpec.Wire.among w x x _, WearSpec.tells 0 [(d : Int) - (w.leftAt x : Int)])) = _
          unfold WearSpec.DEPTH
          rw [if_neg (by omega), if_neg (by omega), among_eq, amongN_succ _ _ (Nat.le_refl _) hp, amongN_nil _ _ (Nat.le_refl _), hla]; rfl
        walk_at "run"
        refine fl_left T W ?_
        walk_at "run"
        refine r_ixl (SqL.of W.left) (atI_nat (get_map hp)) ?_
        walk_at "run"
        refine fl_left T W ?_
        walk_at "run"
        refine ⟨L.al, _, _, x, rfl, rfl, W.left, ixN_nat (by unfold leftsV; rw [List.length_map]; omega), ?_⟩
        walk_at "run"
        exact ok_new (xs := [0, (d : Int) - (p.left : Int)]) k ha (by simp) (W.setLeft hp) (Only.setp (Only.refl _ _) own_al) (by show 2 ≤ 100000; decide)
      · exact leaves_of e (Same.refl H) (by
          show (if WearSpec.DEPTH < d then _ else if _ then _ else _) = _
          unfold WearSpec.DEPTH
          rw [if_neg (by omega), if_pos (by omega)])
    · have c1 := of_decide_eq_false c1
      exact leaves_of e (Same.refl H) (by
        show (if WearSpec.DEPTH < d then _ else _) = _
        unfold WearSpec.DEPTH
        rw [if_pos (by omega)])
abbrev s_call_left : Stmt := topS 33
abbrev N_call_left : List Str := ["wire", "numbers", "row"]
theorem sc_call_left : FnScope N_call_left ["wire", "numbers", "row"] (defScope s_call_left) := ⟨rfl, rfl, rfl, by decide +kernel, rfl, by decide +kernel, by decide +kernel⟩
set_option maxHeartbeats 4000000 in
theorem cal_call_left (T : Txt K mg A) (D : Def1 K mg "call_left" s_call_left) (c_check_place : Call1 P wd K mg base (L2.CX P wd) 4 "check_place" (spCheckPlace A)) : Call1 P wd K mg base (L2.CX P wd) 5 "call_left" (spCall A 9) := by
  obtain ⟨f, fd, F, hm⟩ := D.ex
  refine ⟨f, fd, ["wire", "numbers", "row"], F.okX (k := 4) sc_call_left (fun vs H Q E h => by obtain ⟨_, _, _, _, _, _, _, rfl, _⟩ := h; rfl) (fun cdv AA outer s H vs Q E hr h => ⟨_, (pss_cons (ps_expr (pe_c1 c_check_place hr (by decide) (passes_call (takes_of rfl rfl rfl rfl) (fun _ _ _ _ e => e)) rfl (pa_cons (pv 0) (pa_cons (pe_ix ix_list (pv 1) pe_int (fun _ _ => rfl)) pa_nil))))
      (pss_one (ps_ret (pe_lst (pa_cons (pe_ix ix_list (pe_fld (pv 0) rfl) (pe_ix ix_list (pv 1) pe_int (fun _ _ => rfl)) (fun _ _ => rfl)) pa_nil))))), ?_⟩), hm, F.kp, F.binds (ps := ["wire", "numbers", "row"]) fun _ _ _ _ _ _ us hl => match us, hl with | [_, _, _], _ => rfl⟩
  obtain ⟨L, w, an, ar, nums, row, c, rfl, W, O, hn, hr0, nn, nr, sh, k, e⟩ := h
  cases sh with
  | left x =>
    have hn : H an = some (.lst [V.int (x : Int)]) := hn
    walk_at "run"
    refine r_ixl (SqL.of hn) at0 ?_
    walk_at "run"
    refine r_place W (fun c4 => ?_) fun c4 => ?_
    · obtain ⟨p, hp⟩ := get_some (show x < w.places.length by omega)
      have hla : w.leftAt x = p.left := by unfold Wire.leftAt; rw [hp]; rfl
      have ha : WearSpec.act w (.left x) = (w, ⟨(p.left : Int), []⟩) := by
        show (w, if _ then _ else WearSpec.says (w.leftAt x : Int)) = _
        rw [if_neg (by omega), hla]; rfl
      walk_at "run"
      refine fl_left T W ?_
      walk_at "run"
      refine r_ixl (SqL.of hn) at0 ?_
      refine r_ixl (SqL.of W.left) (atI_nat (get_map hp)) ?_
      walk_at "run"
      exact ok_new (xs := [(p.left : Int)]) k ha (by simp) W (Only.refl _ _) (by show 1 ≤ 100000; decide)
    · exact leaves_of e (Same.refl H) (by
        show (w, if _ then _ else _) = _
        rw [if_pos (by omega)])
abbrev s_call_day : Stmt := topS 34
abbrev N_call_day : List Str := ["wire", "numbers", "row"]
theorem sc_call_day : FnScope N_call_day ["wire", "numbers", "row"] (defScope s_call_day) := ⟨rfl, rfl, rfl, by decide +kernel, rfl, by decide +kernel, by decide +kernel⟩
set_option maxHeartbeats 4000000 in
theorem cal_call_day (T : Txt K mg A) (D : Def1 K mg "call_day" s_call_day) : Call1 P wd K mg base (L2.CX P wd) 1 "call_day" (spCall A 10) := by
  obtain ⟨f, fd, F, hm⟩ := D.ex
  refine ⟨f, fd, ["wire", "numbers", "row"], F.okX (k := 0) sc_call_day (fun vs H Q E h => by obtain ⟨_, _, _, _, _, _, _, rfl, _⟩ := h; rfl) (fun cdv AA outer s H vs Q E hr h => ⟨_, (pss_one (ps_ret (pe_lst (pa_cons (pe_fld (pv 0) rfl) pa_nil)))), ?_⟩), hm, F.kp, F.binds (ps := ["wire", "numbers", "row"]) fun _ _ _ _ _ _ us hl => match us, hl with | [_, _, _], _ => rfl⟩
  obtain ⟨L, w, an, ar, nums, row, c, rfl, W, O, hn, hr0, nn, nr, sh, k, e⟩ := h
  cases sh with
  | day =>
    walk_at "run"
    refine fl_day T W ?_
    walk_at "run"
    exact ok_new (xs := [(w.day : Int)]) k rfl (by simp) W (Only.refl _ _) (by show 1 ≤ 100000; decide)
abbrev s_call_due : Stmt := topS 35
abbrev N_call_due : List Str := ["wire", "numbers", "row"]
theorem sc_call_due : FnScope N_call_due ["wire", "numbers", "row"] (defScope s_call_due) := ⟨rfl, rfl, rfl, by decide +kernel, rfl, by decide +kernel, by decide +kernel⟩
set_option maxHeartbeats 4000000 in
theorem cal_call_due (T : Txt K mg A) (D : Def1 K mg "call_due" s_call_due) (c_Wire_due : Meth1 P wd K mg base 1 A.CW "due" (spDue A)) (c_check : Call1 P wd K mg base (L2.CX P wd) 3 "check" (spCheck A)) (c_check_place : Call1 P wd K mg base (L2.CX P wd) 4 "check_place" (spCheckPlace A)) : Call1 P wd K mg base (L2.CX P wd) 5 "call_due" (spCall A 11) := by
  obtain ⟨f, fd, F, hm⟩ := D.ex
  refine ⟨f, fd, ["wire", "numbers", "row"], F.okX (k := 4) sc_call_due (fun vs H Q E h => by obtain ⟨_, _, _, _, _, _, _, rfl, _⟩ := h; rfl) (fun cdv AA outer s H vs Q E hr h => ⟨_, (pss_cons (ps_expr (pe_c1 c_check hr (by decide) (passes_call (takes_of rfl rfl rfl rfl) (fun _ _ _ _ e => e)) rfl (pa_cons (pe_cmpR op_lt (pe_ix ix_list (pv 1) pe_int (fun _ _ => rfl)) (pe_callB call_len rfl T.b_len (by decide +kernel) (pa_cons (pe_fld (pv 0) rfl) pa_nil)) (nomark _)) (pa_cons (pe_gi rfl T.g_NOT_THERE) pa_nil))))
      (pss_cons (ps_expr (pe_c1 c_check_place hr (by decide) (passes_call (takes_of rfl rfl rfl rfl) (fun _ _ _ _ e => e)) rfl (pa_cons (pv 0) (pa_cons (pe_ix ix_list (pv 1) pe_int (fun _ _ => rfl)) pa_nil))))
      (pss_one (ps_ret (pe_lst (pa_cons (pe_m1 c_Wire_due T.clW hr (by decide) (pv 0) (pa_cons (pe_ix ix_list (pv 1) pe_int (fun _ _ => rfl)) (pa_cons (pe_ix ix_list (pv 1) pe_int (fun _ _ => rfl)) pa_nil))) pa_nil)))))), ?_⟩), hm, F.kp, F.binds (ps := ["wire", "numbers", "row"]) fun _ _ _ _ _ _ us hl => match us, hl with | [_, _, _], _ => rfl⟩
  obtain ⟨L, w, an, ar, nums, row, c, rfl, W, O, hn, hr0, nn, nr, sh, k, e⟩ := h
  cases sh with
  | due kd x =>
    obtain ⟨ts, k1, k2⟩ := W.kin
    have hkl : ts.length = w.kinds.length := by have := k2.1; unfold kindsV at this; rw [List.length_map] at this; exact this
    have hn : H an = some (.lst [V.int (kd : Int), V.int (x : Int)]) := hn
    walk_at "run"
    refine r_ixl (SqL.of hn) at0 ?_
    walk_at "run"
    refine fl_kinds T W ?_
    walk_at "run"
    refine r_len (SqL.of k1) ?_
    walk_at "run"
    rw [List.length_map, hkl]
    refine r_check (fun c4 => ?_) fun c4 => ?_
    · have c4 := of_decide_eq_true c4
      obtain ⟨j, hj⟩ := get_some (show kd < w.kinds.length by omega)
      walk_at "run"
      refine r_ixl (SqL.of hn) at1 ?_
      walk_at "run"
      refine r_place W (fun c5 => ?_) fun c5 => ?_
      · obtain ⟨p, hp⟩ := get_some (show x < w.places.length by omega)
        have ha : WearSpec.act w (.due kd x) = (w, ⟨(j.takes p : Int), []⟩) := by
          show (w, match w.kinds[kd]?, w.places[x]? with
            | some j, some p => WearSpec.says (j.takes p : Int)
            | _, _ => WearSpec.says (-4)) = _
          rw [hj, hp]; rfl
        walk_at "run"
        refine me_of W (by decide +kernel) ?_
        walk_at "run"
        refine r_ixl (SqL.of hn) at0 ?_
        walk_at "run"
        refine r_ixl (SqL.of hn) at1 ?_
        walk_at "run"
        refine ⟨L, w, kd, x, j, p, rfl, W, O, hj, hp, ?_⟩
        walk_at "run"
        exact ok_new (xs := [(j.takes p : Int)]) k ha (by simp) W (Only.refl _ _) (by show 1 ≤ 100000; decide)
      · have hp : w.places[x]? = none := List.getElem?_eq_none (by omega)
        exact leaves_of e (Same.refl H) (by
          show (w, match w.kinds[kd]?, w.places[x]? with
            | some j, some p => WearSpec.says (j.takes p : Int)
            | _, _ => WearSpec.says (-4)) = _
          rw [hj, hp])
    · have c4 := of_decide_eq_false c4
      have hj : w.kinds[kd]? = none := List.getElem?_eq_none (by omega)
      exact leaves_of e (Same.refl H) (by
        show (w, match w.kinds[kd]?, w.places[x]? with
          | some j, some p => WearSpec.says (j.takes p : Int)
          | _, _ => WearSpec.says (-4)) = _
        rw [hj])
abbrev s_call_week : Stmt := topS 36
abbrev N_call_week : List Str := ["wire", "numbers", "row"]
theorem sc_call_week : FnScope N_call_week ["wire", "numbers", "row"] (defScope s_call_week) := ⟨rfl, rfl, rfl, by decide +kernel, rfl, by decide +kernel, by decide +kernel⟩
set_option maxHeartbeats 4000000 in
theorem cal_call_week (T : Txt K mg A) (D : Def1 K mg "call_week" s_call_week) (c_Wire_week : Meth1 P wd K mg base 3 A.CW "week" (spWeek A)) (c_check_place : Call1 P wd K mg base (L2.CX P wd) 4 "check_place" (spCheckPlace A)) : Call1 P wd K mg base (L2.CX P wd) 5 "call_week" (spCall A 12) := by
  obtain ⟨f, fd, F, hm⟩ := D.ex
  refine ⟨f, fd, ["wire", "numbers", "row"], F.okX (k := 4) sc_call_week (fun vs H Q E h => by obtain ⟨_, _, _, _, _, _, _, rfl, _⟩ := h; rfl) (fun cdv AA outer s H vs Q E hr h => ⟨_, (pss_cons (ps_expr (pe_c1 c_check_place hr (by decide) (passes_call (takes_of rfl rfl rfl rfl) (fun _ _ _ _ e => e)) rfl (pa_cons (pv 0) (pa_cons (pe_ix ix_list (pv 1) pe_int (fun _ _ => rfl)) pa_nil))))
      (pss_one (ps_ret (pe_lst (pa_cons (pe_m1 c_Wire_week T.clW hr (by decide) (pv 0) (pa_cons (pe_ix ix_list (pv 1) pe_int (fun _ _ => rfl)) pa_nil)) pa_nil))))), ?_⟩), hm, F.kp, F.binds (ps := ["wire", "numbers", "row"]) fun _ _ _ _ _ _ us hl => match us, hl with | [_, _, _], _ => rfl⟩
  obtain ⟨L, w, an, ar, nums, row, c, rfl, W, O, hn, hr0, nn, nr, sh, k, e⟩ := h
  cases sh with
  | week x =>
    have hn : H an = some (.lst [V.int (x : Int)]) := hn
    walk_at "run"
    refine r_ixl (SqL.of hn) at0 ?_
    walk_at "run"
    refine r_place W (fun c5 => ?_) fun c5 => ?_
    · obtain ⟨p, hp⟩ := get_some (show x < w.places.length by omega)
      have ha : WearSpec.act w (.week x) = (w, ⟨(w.takesWeek p : Int), []⟩) := by
        show (w, match w.places[x]? with
          | some p => WearSpec.says (w.takesWeek p : Int)
          | none => WearSpec.says (-4)) = _
        rw [hp]; rfl
      walk_at "run"
      refine me_of W (by decide +kernel) ?_
      walk_at "run"
      refine r_ixl (SqL.of hn) at0 ?_
      walk_at "run"
      refine ⟨L, w, x, p, rfl, W, O, hp, fun H1 s1 => ?_⟩
      walk_at "run"
      exact ok_new (xs := [(w.takesWeek p : Int)]) k ha (by simp) (W.same s1) (Same.only s1) (by show 1 ≤ 100000; decide)
    · have hp : w.places[x]? = none := List.getElem?_eq_none (by omega)
      exact leaves_of e (Same.refl H) (by
        show (w, match w.places[x]? with
          | some p => WearSpec.says (w.takesWeek p : Int)
          | none => WearSpec.says (-4)) = _
        rw [hp])
abbrev s_call_least : Stmt := topS 37
abbrev N_call_least : List Str := ["wire", "numbers", "row", "least"]
theorem sc_call_least : FnScope N_call_least ["wire", "numbers", "row"] (defScope s_call_least) := ⟨rfl, rfl, rfl, by decide +kernel, rfl, by decide +kernel, by decide +kernel⟩
set_option maxHeartbeats 4000000 in
theorem cal_call_least (T : Txt K mg A) (D : Def1 K mg "call_least" s_call_least) : Call1 P wd K mg base (L2.CX P wd) 1 "call_least" (spCall A 13) := by
  obtain ⟨f, fd, F, hm⟩ := D.ex
  refine ⟨f, fd, ["wire", "numbers", "row"], F.okX (k := 0) sc_call_least (fun vs H Q E h => by obtain ⟨_, _, _, _, _, _, _, rfl, _⟩ := h; rfl) (fun cdv AA outer s H vs Q E hr h => ⟨_, (pss_cons (ps_set (i := 3) sc_call_least.nd rfl (Or.inl rfl) (pe_callB (cr_min rfl) rfl T.b_min (by decide +kernel) (pa_cons (pe_fld (pv 0) rfl) pa_nil)))
      (pss_one (ps_ret (pe_lst (pa_cons (pe_bm PySem.F.plainAttrs_list PySem.F.slot_list_index PySem.F.type_list_index mt_index (pe_fld (pv 0) rfl) (pa_cons (pv 3) pa_nil)) (pa_cons (pv 3) pa_nil)))))), ?_⟩), hm, F.kp, F.binds (ps := ["wire", "numbers", "row"]) fun _ _ _ _ _ _ us hl => match us, hl with | [_, _, _], _ => rfl⟩
  obtain ⟨L, w, an, ar, nums, row, c, rfl, W, O, hn, hr0, nn, nr, sh, k, e⟩ := h
  cases sh with
  | least =>
    have m2 := O.m2
    walk_at "run"
    refine fl_left T W ?_
    walk_at "run"
    refine ⟨L.al, w.places.map fun (p : Pl) => (p.left : Int), rfl, SqL.of (by rw [W.left]; unfold leftsV; rw [List.map_map]; rfl), by rw [List.length_map]; omega, fun m hm1 hm2 => ?_⟩
    obtain ⟨pm, hpm, rfl⟩ := List.mem_map.mp hm1
    -- the first place of those with as much
    obtain ⟨i, hi1, hi2⟩ : ∃ (i : Nat), (∃ (p : Pl), w.places[i]? = some p ∧ p.left = pm.left) ∧ ∀ (j : Nat) (p : Pl), j < i → w.places[j]? = some p → p.left ≠ pm.left := by
      obtain ⟨i, hi⟩ := List.getElem?_of_mem hpm
      have key : ∀ (n : Nat), (∃ (p : Pl), w.places[n]? = some p ∧ p.left = pm.left) → ∃ (i : Nat), (∃ (p : Pl), w.places[i]? = some p ∧ p.left = pm.left) ∧ ∀ (j : Nat) (p : Pl), j < i → w.places[j]? = some p → p.left ≠ pm.left := by
        intro n
        induction n using Nat.strongRecOn with
        | ind n ih =>
          intro hn
          by_cases c : ∃ (j : Nat) (p : Pl), j < n ∧ w.places[j]? = some p ∧ p.left = pm.left
          · obtain ⟨j, p, h1, h2, h3⟩ := c
            exact ih j h1 ⟨p, h2, h3⟩
          · exact ⟨n, hn, fun j p h1 h2 h3 => c ⟨j, p, h1, h2, h3⟩⟩
      exact key i ⟨pm, hi, rfl⟩
    obtain ⟨p, hp, epm⟩ := hi1
    have ha : WearSpec.act w .least = (w, ⟨(i : Int), [(pm.left : Int)]⟩) := by
      have hl : w.least = some (i, pm.left) := by
        unfold Wire.least
        refine leastOf_eq (i := i) ?_ ?_ ?_
        · rw [List.getElem?_map, List.getElem?_zipIdx, hp, ← epm]; simp
        · intro z hz
          obtain ⟨⟨q, j⟩, hq, rfl⟩ := List.mem_map.mp hz
          have hqm : q ∈ w.places := (List.mem_zipIdx hq).2.2 ▸ List.getElem_mem _
          have := hm2 _ (List.mem_map.mpr ⟨q, hqm, rfl⟩)
          show pm.left ≤ q.left
          omega
        · intro j z hj hz
          rw [List.getElem?_map, List.getElem?_zipIdx] at hz
          cases eq : w.places[j]? with
          | none => rw [eq] at hz; cases hz
          | some q =>
            rw [eq] at hz
            have hz : (0 + j, q.left) = z := Option.some.inj hz
            rw [← hz]
            have h1 := hm2 _ (List.mem_map.mpr ⟨q, List.mem_of_getElem? eq, rfl⟩)
            have h2 := hi2 j q hj eq
            show pm.left < q.left
            omega
      show (w, match w.least with
        | some y => WearSpec.tells (y.1 : Int) [(y.2 : Int)]
        | none => WearSpec.says (-4)) = _
      rw [hl]; rfl
    walk_at "run"
    refine fl_left T W ?_
    refine ⟨.inl ⟨rfl, _, SqL.of W.left⟩, ?_⟩
    walk_at "run"
    refine ⟨L.al, leftsV w.places, .int (pm.left : Int), i, .int (pm.left : Int), rfl, rfl, SqL.of W.left, rfl, ?_, ?_, ?_, ?_, ?_⟩
    · exact List.all_eq_true.mpr fun v hv => by
        obtain ⟨q, _, rfl⟩ := List.mem_map.mp hv; rfl
    · rw [← epm]; exact get_map hp
    · show ((pm.left : Int) == (pm.left : Int)) = true
      exact beq_self_eq_true _
    · intro m z hm hz
      obtain ⟨q, hq, rfl⟩ := map_get hz
      have := hi2 m q hm hq
      show ((q.left : Int) == (pm.left : Int)) = false
      exact beq_eq_false_iff_ne.mpr (by omega)
    walk_at "run"
    exact ok_new (xs := [(i : Int), (pm.left : Int)]) k ha (by simp) W (Only.refl _ _) (by show 2 ≤ 100000; decide)
abbrev s_call_when : Stmt := topS 38
abbrev N_call_when : List Str := ["wire", "numbers", "row", "found", "place", "days"]
theorem sc_call_when : FnScope N_call_when ["wire", "numbers", "row"] (defScope s_call_when) := ⟨rfl, rfl, rfl, by decide +kernel, rfl, by decide +kernel, by decide +kernel⟩
set_option maxHeartbeats 4000000 in
theorem cal_call_when (T : Txt K mg A) (D : Def1 K mg "call_when" s_call_when) (c_Wire_until : Meth1 P wd K mg base 4 A.CW "until" (spUntil A)) (c_check : Call1 P wd K mg base (L2.CX P wd) 3 "check" (spCheck A)) : Call1 P wd K mg base (L2.CX P wd) 5 "call_when" (spCall A 14) := by
  obtain ⟨f, fd, F, hm⟩ := D.ex
  refine ⟨f, fd, ["wire", "numbers", "row"], F.okX (k := 4) sc_call_when (fun vs H Q E h => by obtain ⟨_, _, _, _, _, _, _, rfl, _⟩ := h; rfl) (fun cdv AA outer s H vs Q E hr h => ⟨_, (pss_cons (ps_expr (pe_c1 c_check hr (by decide) (passes_call (takes_of rfl rfl rfl rfl) (fun _ _ _ _ e => e)) rfl (pa_cons (pe_cmpR op_le (pe_ix ix_list (pv 1) pe_int (fun _ _ => rfl)) (pe_gi rfl T.g_MILLION) (nomark _)) (pa_cons (pe_gi rfl T.g_NOT_SO) pa_nil))))
      (pss_cons (ps_set (i := 3) sc_call_when.nd rfl (Or.inl rfl) (pe_lst pa_nil))
      (pss_cons (PS_nox (ps_for PassesOwn.never rfl (pi_range1 rfl T.b_range (pa_cons (pe_fld (pv 0) rfl) pa_nil)) (pg_name (i := 4) sc_call_when.nd rfl (Or.inl rfl))
      (pss_cons (ps_set (i := 5) sc_call_when.nd rfl (Or.inl rfl) (pe_m1 c_Wire_until T.clW hr (by decide) (pv 0) (pa_cons (pv 4) (pa_cons (pe_ix ix_list (pv 1) pe_int (fun _ _ => rfl)) pa_nil))))
      (pss_one (ps_if (pt_cmpR op_ge (pv 5) pe_int (nomark _)) (pss_one (ps_expr (pe_bm PySem.F.plainAttrs_list PySem.F.slot_list_append PySem.F.type_list_append mt_append (pv 3) (pa_cons (pe_tup (pa_cons (pv 5) (pa_cons (pv 4) pa_nil))) pa_nil)))) pss_nil)))))
      (pss_cons (ps_expr (pe_c1 c_check hr (by decide) (passes_call (takes_of rfl rfl rfl rfl) (fun _ _ _ _ e => e)) rfl (pa_cons (pe_cmpR op_gt (pe_callB call_len rfl T.b_len (by decide +kernel) (pa_cons (pv 3) pa_nil)) pe_int (nomark _)) (pa_cons (pe_gi rfl T.g_AS_TOLD) pa_nil))))
      (pss_cons (ps_asg (pe_callB (cr_minP rfl hr.units) rfl T.b_min (by decide +kernel) (pa_cons (pv 3) pa_nil)) (pg_tup rfl (pgs_cons (pg_name (i := 5) sc_call_when.nd rfl (Or.inl rfl)) (pgs_cons (pg_name (i := 4) sc_call_when.nd rfl (Or.inl rfl)) pgs_nil))))
      (pss_one (ps_ret (pe_lst (pa_cons (pv 5) (pa_cons (pv 4) pa_nil)))))))))), ?_⟩), hm, F.kp, F.binds (ps := ["wire", "numbers", "row"]) fun _ _ _ _ _ _ us hl => match us, hl with | [_, _, _], _ => rfl⟩
  obtain ⟨L, w, an, ar, nums, row, c, rfl, W, O, hn, hr0, nn, nr, sh, k, e⟩ := h
  cases sh with
  | when_ b =>
    have m60 := O.m60
    have hn : H an = some (.lst [V.int (b : Int)]) := hn
    have act0 : WearSpec.act w (.when_ b) = (w, if WearSpec.DEPTH < b then WearSpec.says (-1) else match w.when_ b with
      | some y => WearSpec.tells (y.1 : Int) [(y.2 : Int)]
      | none => WearSpec.says (-7)) := rfl
    unfold WearSpec.DEPTH at act0
    walk_at "run"
    refine r_ixl (SqL.of hn) at0 ?_
    walk_at "run"
    refine r_check (fun c1 => ?_) fun c1 => ?_
    · have c1 := of_decide_eq_true c1
      rw [if_neg (by omega)] at act0
      walk_at "run"
      refine ⟨sl60 (by show 0 ≤ 100000; decide), fun F0 hF => ?_⟩
      walk_at "run"
      have s0 := Same.new (o := .lst []) hF
      have sO : ∀ {H' : Hp}, Only [F0] H H' → Same H H' := fun o b u e => o b u e (by simpa using ne_of_none e hF)
      refine fl_many T (W.same s0) ?_
      have hwhen : w.when_ b = soonest (w.places.zipIdx.map fun (x : Pl × Nat) => (x.2, w.until_ x.1 b)) := rfl
      refine ⟨(w.places.length : Int), rfl, by omega, by omega, for_range (lo := 0) (n := (w.places.length : Int).toNat) (fun i σ H' => ∃ v4 v5 ts, σ = [some (.ref L.a), some (.ref an), some (.ref ar), some (.ref F0), v4, v5] ∧ Only [F0] H H' ∧ H' F0 = some (.lst (ts.map V.ref)) ∧ AllT H' ts ((foundW w b i).map fun (p : Int × Int) => [V.int p.1, V.int p.2])) ?_ ?_ ?_⟩
      · exact ⟨none, none, [], rfl, Only.new (Only.refl _ _) hF, upd_same, AllT.nil⟩
      · rintro i σ H' hi ⟨v4, v5, ts, rfl, o1, hT, aT⟩
        have hi : i < w.places.length := by omega
        obtain ⟨p, hp⟩ := get_some hi
        have s1 := sO o1
        have ei : (0 : Int) + (i : Int) = (i : Int) := Int.zero_add _
        rw [ei]
        walk_at "run"
        refine me_of (W.same s1) (by decide +kernel) ?_
        walk_at "run"
        refine r_ixl (SqL.of (s1 _ _ hn)) at0 ?_
        walk_at "run"
        refine ⟨L, w, i, b, p, rfl, W.same s1, O, hp, fun H2 s2 => ?_⟩
        obtain ⟨z, hz, hc⟩ := days_cases (w.until_ p b)
        rw [hz]
        have s3 := s1.trans s2
        have hT2 := s2 _ _ hT
        walk_at "run"
        refine iteD (fun c2 => ?_) fun c2 => ?_
        · rcases hc with ⟨n, hu, rfl⟩ | ⟨hu, rfl⟩
          · walk_at "run"
            refine ⟨.inl ⟨rfl, _, SqL.of hT2⟩, ?_⟩
            walk_at "run"
            refine ⟨sl60 (by show 2 ≤ 100000; decide), fun T0 hT0 => ?_⟩
            walk_at "run"
            have nT : F0 ≠ T0 := ne_of_none hT2 hT0
            refine r_append (by rw [upd_ne nT]; exact hT2) (by
              have := aT.1
              rw [List.length_map] at this
              have := foundW_le w b i
              rw [List.length_map]; omega) ?_
            refine ⟨_, _, ts ++ [T0], rfl, ?_, ?_, ?_⟩
            · exact Only.setp (Only.new (Only.then o1 (Same.only s2)) (s3.free hT0)) (by simp)
            · rw [upd_same, List.map_append]; rfl
            · rw [foundW_some hp hu, List.map_append]
              refine AllT.snoc (aT.keep fun b xs eb => ?_) ?_
              · rw [upd_ne (ne_of eb hT (by intro z; cases z)), upd_ne (ne_of_none (s2 _ _ eb) hT0)]; exact s2 _ _ eb
              · rw [upd_ne nT.symm, upd_same]
          · exact absurd c2 (by decide)
        · rcases hc with ⟨n, hu, rfl⟩ | ⟨hu, rfl⟩
          · exact absurd (show (n : Int) ≥ 0 by omega) c2
          · refine ⟨_, _, ts, rfl, Only.then o1 (Same.only s2), hT2, ?_⟩
            rw [foundW_none hp hu]
            exact AllT.same s2 aT
      rintro σ H2 ⟨v4, v5, ts, rfl, o1, hT, aT⟩
      rw [Int.toNat_natCast] at aT
      have s1 := sO o1
      have tl := aT.1
      rw [List.length_map] at tl
      walk_at "run"
      refine r_len (SqL.of hT) ?_
      rw [List.length_map, tl]
      walk_at "run"
      refine r_check (fun c2 => ?_) fun c2 => ?_
      · have c2 := of_decide_eq_true c2
        walk_at "run"
        refine ⟨F0, ts, foundW w b w.places.length, rfl, SqL.of hT, aT, by omega, fun t p hp ht hmin => ?_⟩
        refine r_gtup (SqT.of ht) rfl ?_
        walk_at "run"
        obtain ⟨x, n, rfl, hw⟩ := foundW_min hp hmin
        rw [hw] at act0
        exact ok_new (xs := [(n : Int), (x : Int)]) k act0 (by simp) (W.same s1) (Same.only s1) (by show 2 ≤ 100000; decide)
      · have c2 := of_decide_eq_false c2
        rw [foundW_nil (List.length_eq_zero_iff.mp (by omega))] at act0
        exact leaves_of e s1 act0
    · have c1 := of_decide_eq_false c1
      rw [if_pos (by omega)] at act0
      exact leaves_of e (Same.refl H) act0
abbrev s_call_until : Stmt := topS 39
abbrev N_call_until : List Str := ["wire", "numbers", "row", "place", "bound", "days"]
theorem sc_call_until : FnScope N_call_until ["wire", "numbers", "row"] (defScope s_call_until) := ⟨rfl, rfl, rfl, by decide +kernel, rfl, by decide +kernel, by decide +kernel⟩
set_option maxHeartbeats 4000000 in
theorem cal_call_until (T : Txt K mg A) (D : Def1 K mg "call_until" s_call_until) (c_Wire_until : Meth1 P wd K mg base 4 A.CW "until" (spUntil A)) (c_check : Call1 P wd K mg base (L2.CX P wd) 3 "check" (spCheck A)) (c_check_place : Call1 P wd K mg base (L2.CX P wd) 4 "check_place" (spCheckPlace A)) : Call1 P wd K mg base (L2.CX P wd) 5 "call_until" (spCall A 15) := by
  obtain ⟨f, fd, F, hm⟩ := D.ex
  refine ⟨f, fd, ["wire", "numbers", "row"], F.okX (k := 4) sc_call_until (fun vs H Q E h => by obtain ⟨_, _, _, _, _, _, _, rfl, _⟩ := h; rfl) (fun cdv AA outer s H vs Q E hr h => ⟨_, (pss_cons (ps_asg (pv 1) (pg_lst rfl (pgs_cons (pg_name (i := 3) sc_call_until.nd rfl (Or.inl rfl)) (pgs_cons (pg_name (i := 4) sc_call_until.nd rfl (Or.inl rfl)) pgs_nil))))
      (pss_cons (ps_expr (pe_c1 c_check hr (by decide) (passes_call (takes_of rfl rfl rfl rfl) (fun _ _ _ _ e => e)) rfl (pa_cons (pe_cmpR op_le (pv 4) (pe_gi rfl T.g_MILLION) (nomark _)) (pa_cons (pe_gi rfl T.g_NOT_SO) pa_nil))))
      (pss_cons (ps_expr (pe_c1 c_check_place hr (by decide) (passes_call (takes_of rfl rfl rfl rfl) (fun _ _ _ _ e => e)) rfl (pa_cons (pv 0) (pa_cons (pv 3) pa_nil))))
      (pss_cons (ps_set (i := 5) sc_call_until.nd rfl (Or.inl rfl) (pe_m1 c_Wire_until T.clW hr (by decide) (pv 0) (pa_cons (pv 3) (pa_cons (pv 4) pa_nil))))
      (pss_cons (ps_expr (pe_c1 c_check hr (by decide) (passes_call (takes_of rfl rfl rfl rfl) (fun _ _ _ _ e => e)) rfl (pa_cons (pe_cmpR op_ge (pv 5) pe_int (nomark _)) (pa_cons (pe_gi rfl T.g_AS_TOLD) pa_nil))))
      (pss_one (ps_ret (pe_lst (pa_cons (pv 5) pa_nil))))))))), ?_⟩), hm, F.kp, F.binds (ps := ["wire", "numbers", "row"]) fun _ _ _ _ _ _ us hl => match us, hl with | [_, _, _], _ => rfl⟩
  obtain ⟨L, w, an, ar, nums, row, c, rfl, W, O, hn, hr0, nn, nr, sh, k, e⟩ := h
  cases sh with
  | until_ x b =>
    have hn : H an = some (.lst [V.int (x : Int), V.int (b : Int)]) := hn
    have act0 : WearSpec.act w (.until_ x b) = (w, if WearSpec.DEPTH < b then WearSpec.says (-1) else match w.places[x]? with
      | none => WearSpec.says (-4)
      | some p => match w.until_ p b with
        | some n => WearSpec.says (n : Int)
        | none => WearSpec.says (-7)) := rfl
    unfold WearSpec.DEPTH at act0
    walk_at "run"
    refine r_glst (SqL.of hn) rfl ?_
    walk_at "run"
    refine r_check (fun c1 => ?_) fun c1 => ?_
    · have c1 := of_decide_eq_true c1
      rw [if_neg (by omega)] at act0
      walk_at "run"
      refine r_place W (fun c4 => ?_) fun c4 => ?_
      · obtain ⟨p, hp⟩ := get_some (show x < w.places.length by omega)
        rw [hp] at act0
        replace act0 : WearSpec.act w (.until_ x b) = (w, match w.until_ p b with
          | some n => WearSpec.says (n : Int)
          | none => WearSpec.says (-7)) := act0
        walk_at "run"
        refine me_of W (by decide +kernel) ?_
        walk_at "run"
        refine ⟨L, w, x, b, p, rfl, W, O, hp, fun H1 s1 => ?_⟩
        obtain ⟨z, hz, hc⟩ := days_cases (w.until_ p b)
        rw [hz]
        walk_at "run"
        refine r_check (fun c5 => ?_) fun c5 => ?_
        · have c5 := of_decide_eq_true c5
          rcases hc with ⟨n, hu, rfl⟩ | ⟨hu, rfl⟩
          · rw [hu] at act0
            walk_at "run"
            exact ok_new (xs := [(n : Int)]) k act0 (by simp) (W.same s1) (Same.only s1) (by show 1 ≤ 100000; decide)
          · exact absurd c5 (by decide)
        · have c5 := of_decide_eq_false c5
          rcases hc with ⟨n, hu, rfl⟩ | ⟨hu, rfl⟩
          · exact absurd (show (n : Int) ≥ 0 by omega) c5
          · rw [hu] at act0
            exact leaves_of e s1 act0
      · rw [List.getElem?_eq_none (by omega)] at act0
        exact leaves_of e (Same.refl H) act0
    · have c1 := of_decide_eq_false c1
      rw [if_pos (by omega)] at act0
      exact leaves_of e (Same.refl H) act0
abbrev s_call_pieces : Stmt := topS 40
abbrev N_call_pieces : List Str := ["wire", "numbers", "row", "pieces", "found", "first", "last"]
theorem sc_call_pieces : FnScope N_call_pieces ["wire", "numbers", "row"] (defScope s_call_pieces) := ⟨rfl, rfl, rfl, by decide +kernel, rfl, by decide +kernel, by decide +kernel⟩
set_option maxHeartbeats 4000000 in
theorem cal_call_pieces (T : Txt K mg A) (D : Def1 K mg "call_pieces" s_call_pieces) (c_Wire_pieces : Meth1 P wd K mg base 2 A.CW "pieces" (spPieces A)) (c_check : Call1 P wd K mg base (L2.CX P wd) 3 "check" (spCheck A)) : Call1 P wd K mg base (L2.CX P wd) 4 "call_pieces" (spCall A 16) := by
  obtain ⟨f, fd, F, hm⟩ := D.ex
  refine ⟨f, fd, ["wire", "numbers", "row"], F.okX (k := 3) sc_call_pieces (fun vs H Q E h => by obtain ⟨_, _, _, _, _, _, _, rfl, _⟩ := h; rfl) (fun cdv AA outer s H vs Q E hr h => ⟨_, (pss_cons (ps_expr (pe_c1 c_check hr (by decide) (passes_call (takes_of rfl rfl rfl rfl) (fun _ _ _ _ e => e)) rfl (pa_cons (pe_cmpR op_le (pe_ix ix_list (pv 1) pe_int (fun _ _ => rfl)) (pe_gi rfl T.g_MILLION) (nomark _)) (pa_cons (pe_gi rfl T.g_NOT_SO) pa_nil))))
      (PSs.nox (pss_cons (ps_set (i := 3) sc_call_pieces.nd rfl (Or.inl rfl) (pe_m1 c_Wire_pieces T.clW hr (by decide) (pv 0) (pa_cons (pe_ix ix_list (pv 1) pe_int (fun _ _ => rfl)) pa_nil)))
      (pss_cons (ps_set (i := 4) sc_call_pieces.nd rfl (Or.inl rfl) (pe_lst (pa_cons (pe_callB call_len rfl T.b_len (by decide +kernel) (pa_cons (pv 3) pa_nil)) pa_nil)))
      (pss_cons (ps_for PassesOwn.never rfl (pi_list (pv 3)) (pg_tup rfl (pgs_cons (pg_name (i := 5) sc_call_pieces.nd rfl (Or.inl rfl)) (pgs_cons (pg_name (i := 6) sc_call_pieces.nd rfl (Or.inl rfl)) pgs_nil)))
      (pss_one (ps_expr (pe_bm PySem.F.plainAttrs_list PySem.F.slot_list_extend PySem.F.type_list_extend mt_extend (pv 4) (pa_cons (pe_lst (pa_cons (pv 5) (pa_cons (pv 6) pa_nil))) pa_nil)))))
      (pss_one (ps_ret (pv 4)))))))), ?_⟩), hm, F.kp, F.binds (ps := ["wire", "numbers", "row"]) fun _ _ _ _ _ _ us hl => match us, hl with | [_, _, _], _ => rfl⟩
  obtain ⟨L, w, an, ar, nums, row, c, rfl, W, O, hn, hr0, nn, nr, sh, k, e⟩ := h
  cases sh with
  | pieces b =>
    have m60 := O.m60
    have hn : H an = some (.lst [V.int (b : Int)]) := hn
    have act0 : WearSpec.act w (.pieces b) = (w, if WearSpec.DEPTH < b then WearSpec.says (-1) else WearSpec.tells ((pieces (w.worn b)).length : Int) (WearSpec.nats ((pieces (w.worn b)).flatMap fun (y : Nat × Nat) => [y.1, y.2]))) := rfl
    unfold WearSpec.DEPTH at act0
    walk_at "run"
    refine r_ixl (SqL.of hn) at0 ?_
    walk_at "run"
    refine r_check (fun c1 => ?_) fun c1 => ?_
    · have c1 := of_decide_eq_true c1
      rw [if_neg (by omega)] at act0
      have pl := pieces_length (w.worn b)
      have wl := worn_le w b
      walk_at "run"
      refine me_of W (by decide +kernel) ?_
      walk_at "run"
      refine r_ixl (SqL.of hn) at0 ?_
      walk_at "run"
      refine ⟨L, w, b, rfl, W, O, fun H1 PA ts s1 hPA hH1 aT1 => ?_⟩
      generalize hps : pieces (w.worn b) = ps at act0 aT1 pl
      have htl : ts.length = ps.length := by have := aT1.1; rw [List.length_map] at this; exact this
      walk_at "run"
      refine r_len (SqL.of hH1) ?_
      rw [List.length_map, htl]
      walk_at "run"
      refine ⟨sl60 (by show 1 ≤ 100000; decide), fun F0 hF => ?_⟩
      walk_at "run"
      have hne : PA ≠ F0 := ne_of_none hH1 hF
      have hFH : H F0 = none := s1.free hF
      have fl : ∀ l : List (Nat × Nat), (l.flatMap fun (y : Nat × Nat) => [y.1, y.2]).length = 2 * l.length := by
        intro l
        induction l with
        | nil => rfl
        | cons a r ih => rw [List.flatMap_cons, List.length_append, ih, List.length_cons]; show 2 + 2 * r.length = 2 * (r.length + 1); omega
      have sO : ∀ {H' : Hp}, Only [F0] H1 H' → Same H H' := fun o b u e => o b u (s1 _ _ e) (by simpa using ne_of_none e hFH)
      refine ⟨PA, rfl, ⟨_, SqL.of (by rw [upd_ne hne]; exact hH1)⟩, for_list (K := K) (a := PA) (xs := ts.map V.ref) (fun i σ H' => ∃ v5 v6, σ = [some (.ref L.a), some (.ref an), some (.ref ar), some (.ref PA), some (.ref F0), v5, v6] ∧ Only [F0] H1 H' ∧ H' F0 = some (.lst ([V.int (ps.length : Int)] ++ natsV ((ps.take i).flatMap fun (y : Nat × Nat) => [y.1, y.2])))) ?_ ?_ ?_ ?_⟩
      · exact ⟨none, none, rfl, Only.new (Only.refl _ _) hF, by rw [upd_same]; rfl⟩
      · rintro i σ H' _ ⟨_, _, _, o1, _⟩
        exact SqL.of (o1 _ _ hH1 (by simpa using hne))
      · rintro i x σ H2 hx ⟨v5, v6, rfl, o1, hF2⟩
        obtain ⟨t, ht, rfl⟩ := map_get hx
        have hi : i < ps.length := by have := get_lt ht; omega
        obtain ⟨y, hy⟩ := get_some hi
        have ht1 : H1 t = some (.tup [V.int (y.1 : Int), V.int (y.2 : Int)]) := aT1.2 i t _ ht (get_map hy)
        have htF : t ≠ F0 := ne_of_none ht1 hF
        have ht2 := o1 _ _ ht1 (by simpa using htF)
        refine r_gtup (SqT.of ht2) rfl ?_
        walk_at "run"
        refine ⟨.inl ⟨rfl, _, SqL.of hF2⟩, ?_⟩
        walk_at "run"
        refine ⟨sl60 (by show 2 ≤ 100000; decide), fun P0 hP0 => ?_⟩
        walk_at "run"
        have nFP : F0 ≠ P0 := ne_of_none hF2 hP0
        have eL : ((ps.take i).flatMap fun (y : Nat × Nat) => [y.1, y.2]).length = 2 * i := by rw [fl, List.length_take]; omega
        refine ⟨F0, P0, _, [V.int (y.1 : Int), V.int (y.2 : Int)], rfl, rfl, by rw [upd_ne nFP]; exact hF2, upd_same, sl60 (by rw [List.length_append, natsV_length, eL]; show 1 + 2 * i + 2 ≤ _; omega), ?_⟩
        refine ⟨_, _, rfl, Only.setp (Only.then o1 (Only.new (Only.refl _ _) hP0)) (by simp), ?_⟩
        rw [upd_same, take_succ_get hy, List.flatMap_append, List.append_assoc]
        unfold natsV
        rw [List.map_append]; rfl
      rintro σ H2 ⟨v5, v6, rfl, o1, hF2⟩
      rw [List.length_map, htl, List.take_length] at hF2
      walk_at "run"
      rw [← nats_V] at hF2
      exact k H2 F0 (by rw [act0]; exact W.same (sO o1)) (Same.only (sO o1)) hFH (by rw [act0]; exact hF2)
    · have c1 := of_decide_eq_false c1
      rw [if_pos (by omega)] at act0
      exact leaves_of e (Same.refl H) act0
abbrev s_call_splices : Stmt := topS 41
abbrev N_call_splices : List Str := ["wire", "numbers", "row", "bound", "size", "found"]
theorem sc_call_splices : FnScope N_call_splices ["wire", "numbers", "row"] (defScope s_call_splices) := ⟨rfl, rfl, rfl, by decide +kernel, rfl, by decide +kernel, by decide +kernel⟩
set_option maxHeartbeats 4000000 in
theorem cal_call_splices (T : Txt K mg A) (D : Def1 K mg "call_splices" s_call_splices) (c_Wire_splices : Meth1 P wd K mg base 2 A.CW "splices" (spSplices A)) (c_check : Call1 P wd K mg base (L2.CX P wd) 3 "check" (spCheck A)) : Call1 P wd K mg base (L2.CX P wd) 4 "call_splices" (spCall A 17) := by
  obtain ⟨f, fd, F, hm⟩ := D.ex
  refine ⟨f, fd, ["wire", "numbers", "row"], F.okX (k := 3) sc_call_splices (fun vs H Q E h => by obtain ⟨_, _, _, _, _, _, _, rfl, _⟩ := h; rfl) (fun cdv AA outer s H vs Q E hr h => ⟨_, (pss_cons (ps_asg (pv 1) (pg_lst rfl (pgs_cons (pg_name (i := 3) sc_call_splices.nd rfl (Or.inl rfl)) (pgs_cons (pg_name (i := 4) sc_call_splices.nd rfl (Or.inl rfl)) pgs_nil))))
      (pss_cons (ps_expr (pe_c1 c_check hr (by decide) (passes_call (takes_of rfl rfl rfl rfl) (fun _ _ _ _ e => e)) rfl (pa_cons (pe_and (pe_cmpR op_le (pv 3) (pe_gi rfl T.g_MILLION) (nomark _)) (pe_one (pe_chain op_le op_le pe_int (pv 4) pe_int))) (pa_cons (pe_gi rfl T.g_NOT_SO) pa_nil))))
      (pss_cons (ps_set (i := 5) sc_call_splices.nd rfl (Or.inl rfl) (pe_m1 c_Wire_splices T.clW hr (by decide) (pv 0) (pa_cons (pv 3) (pa_cons (pv 4) pa_nil))))
      (pss_one (ps_ret (pe_op op_cat (pe_lst (pa_cons (pe_callB call_len rfl T.b_len (by decide +kernel) (pa_cons (pv 5) pa_nil)) pa_nil)) (pv 5))))))), ?_⟩), hm, F.kp, F.binds (ps := ["wire", "numbers", "row"]) fun _ _ _ _ _ _ us hl => match us, hl with | [_, _, _], _ => rfl⟩
  obtain ⟨L, w, an, ar, nums, row, c, rfl, W, O, hn, hr0, nn, nr, sh, k, e⟩ := h
  cases sh with
  | splices b n =>
    have m60 := O.m60
    have hn : H an = some (.lst [V.int (b : Int), V.int (n : Int)]) := hn
    have act0 : WearSpec.act w (.splices b n) = (w, if WearSpec.DEPTH < b ∨ n = 0 ∨ 60 < n then WearSpec.says (-1) else WearSpec.tells ((splices n w.places.length (w.worn b)).length : Int) (WearSpec.nats (splices n w.places.length (w.worn b)))) := rfl
    unfold WearSpec.DEPTH at act0
    walk_at "run"
    refine r_glst (SqL.of hn) rfl ?_
    walk_at "run"
    refine r_andV (a := decide ((b : Int) ≤ 1000000)) (b := decide ((1 : Int) ≤ (n : Int)) && decide ((n : Int) ≤ 60)) (by walk_at "val") (fun _ => fun Q' q' => r_chain (p := fun i j => decide (i ≤ j)) (q := fun i j => decide (i ≤ j)) (by walk_at "val") (by walk_at "val") (by walk_at "val") q') ?_
    walk_at "run"
    refine r_check (fun c1 => ?_) fun c1 => ?_
    · simp only [Bool.and_eq_true, decide_eq_true_eq] at c1
      rw [if_neg (by omega)] at act0
      walk_at "run"
      refine me_of W (by decide +kernel) ?_
      walk_at "run"
      refine ⟨L, w, b, n, rfl, W, O, by omega, by omega, fun H1 p1 s1 hp1 hH1 => ?_⟩
      have sl := splices_length n w.places.length (w.worn b)
      walk_at "run"
      refine r_len (SqL.of hH1) ?_
      walk_at "run"
      refine ⟨sl60 (by show 1 ≤ 100000; decide), fun p2 hp2 => ?_⟩
      walk_at "run"
      rw [natsV_length]
      refine ⟨p2, p1, [.int _], natsV (splices n w.places.length (w.worn b)), rfl, rfl, upd_same, by rw [upd_ne (ne_of_none hH1 hp2)]; exact hH1, sl_cat (by omega), ?_⟩
      exact ok_cat k act0 (W.same (Same.mut s1 (s1.free hp2))) (Same.only (Same.mut s1 (s1.free hp2))) (by omega)
    · rw [if_pos (by
        simp only [Bool.and_eq_false_iff, decide_eq_false_iff_not] at c1
        omega)] at act0
      exact leaves_of e (Same.refl H) act0
abbrev s_call_against : Stmt := topS 42
abbrev N_call_against : List Str := ["wire", "numbers", "row", "left", "place", "many", "best", "less"]
theorem sc_call_against : FnScope N_call_against ["wire", "numbers", "row"] (defScope s_call_against) := ⟨rfl, rfl, rfl, by decide +kernel, rfl, by decide +kernel, by decide +kernel⟩
set_option maxHeartbeats 4000000 in
theorem cal_call_against (T : Txt K mg A) (D : Def1 K mg "call_against" s_call_against) (c_check : Call1 P wd K mg base (L2.CX P wd) 3 "check" (spCheck A)) : Call1 P wd K mg base (L2.CX P wd) 4 "call_against" (spCall A 18) := by
  obtain ⟨f, fd, F, hm⟩ := D.ex
  refine ⟨f, fd, ["wire", "numbers", "row"], F.okX (k := 3) sc_call_against (fun vs H Q E h => by obtain ⟨_, _, _, _, _, _, _, rfl, _⟩ := h; rfl) (fun cdv AA outer s H vs Q E hr h => ⟨_, (pss_cons (ps_expr (pe_c1 c_check hr (by decide) (passes_call (takes_of rfl rfl rfl rfl) (fun _ _ _ _ e => e)) rfl (pa_cons (pe_and (pe_cmpR op_eq (pe_op op_mod (pe_callB call_len rfl T.b_len (by decide +kernel) (pa_cons (pv 2) pa_nil)) pe_int) pe_int (nomark _)) (pe_one (pe_callB (cr_all rfl) rfl T.b_all (by decide +kernel) (pa_cons (pe_lc (own := [("left", 3)]) (g := (gName 3)) rfl sc_call_against.nd (pi_list (pe_step2 (pv 2) (po_some pe_int))) (blkOk_by (own := [("left", 3)]) (N := N_call_against) (sc := defScope s_call_against) (by decide +kernel)) (fun _ _ _ _ _ => (pg_name (i := 3) sc_call_against.nd rfl (Or.inl rfl))) (fun _ _ _ _ _ => pts_nil) (fun _ _ _ _ _ => (pe_cmpR op_le (pv 3) (pe_gi rfl T.g_MILLION) (nomark _)))) pa_nil)))) (pa_cons (pe_gi rfl T.g_NOT_SO) pa_nil))))
      (pss_cons (ps_expr (pe_c1 c_check hr (by decide) (passes_call (takes_of rfl rfl rfl rfl) (fun _ _ _ _ e => e)) rfl (pa_cons (pe_callB (cr_all rfl) rfl T.b_all (by decide +kernel) (pa_cons (pe_lc (own := [("place", 4)]) (g := (gName 4)) rfl sc_call_against.nd (pi_list (pe_step2 (pv 2) po_none)) (blkOk_by (own := [("place", 4)]) (N := N_call_against) (sc := defScope s_call_against) (by decide +kernel)) (fun _ _ _ _ _ => (pg_name (i := 4) sc_call_against.nd rfl (Or.inl rfl))) (fun _ _ _ _ _ => pts_nil) (fun _ _ _ _ _ => (pe_cmpR op_lt (pv 4) (pe_fldK (K := K) rfl (pv 0) rfl) (nomark _)))) pa_nil)) (pa_cons (pe_gi rfl T.g_NOT_THERE) pa_nil))))
      (PSs.nox (pss_cons (ps_set (i := 5) sc_call_against.nd rfl (Or.inl rfl) pe_int)
      (pss_cons (ps_set (i := 6) sc_call_against.nd rfl (Or.inl rfl) (pe_tup (pa_cons pe_int (pa_cons pe_int pa_nil))))
      (pss_cons (ps_for PassesOwn.never rfl (pi_zip rfl T.b_zip (pa_cons (pe_step2 (pv 2) po_none) (pa_cons (pe_step2 (pv 2) (po_some pe_int)) pa_nil))) (pg_tup rfl (pgs_cons (pg_name (i := 4) sc_call_against.nd rfl (Or.inl rfl)) (pgs_cons (pg_name (i := 3) sc_call_against.nd rfl (Or.inl rfl)) pgs_nil)))
      (pss_cons (ps_set (i := 7) sc_call_against.nd rfl (Or.inl rfl) (pe_op op_sub (pe_ix ix_list (pe_fld (pv 0) rfl) (pv 4) (fun _ _ => rfl)) (pv 3)))
      (pss_one (ps_if (pt_cmpR op_gt (pv 7) pe_int (nomark _)) (pss_cons (ps_aug (i := 5) sc_call_against.nd rfl (Or.inl rfl) pe_int ip_add)
      (pss_one (ps_if (pt_cmpR op_gt (pv 7) (pe_ix ix_tup (pv 6) pe_int (fun _ _ => rfl)) (nomark _)) (pss_one (ps_set (i := 6) sc_call_against.nd rfl (Or.inl rfl) (pe_tup (pa_cons (pv 4) (pa_cons (pv 7) pa_nil))))) pss_nil))) pss_nil))))
      (pss_one (ps_ret (pe_lst (pa_cons (pv 5) (pa_cons (pe_ix ix_tup (pv 6) pe_int (fun _ _ => rfl)) (pa_cons (pe_ix ix_tup (pv 6) pe_int (fun _ _ => rfl)) pa_nil)))))))))))), ?_⟩), hm, F.kp, F.binds (ps := ["wire", "numbers", "row"]) fun _ _ _ _ _ _ us hl => match us, hl with | [_, _, _], _ => rfl⟩
  obtain ⟨L, w, an, ar, nums, row, c, rfl, W, O, hn, hr0, nn, nr, sh, k, e⟩ := h
  cases sh with
  | against l hl =>
    have m60 := O.m60
    have act0 : WearSpec.act w (.against l) = (w, if l.length % 2 = 1 ∨ (pairs l).any (fun (y : Nat × Nat) => decide (WearSpec.DEPTH < y.2)) = true then WearSpec.says (-1) else if (pairs l).any (fun (y : Nat × Nat) => decide (w.places.length ≤ y.1)) = true then WearSpec.says (-4) else
      WearSpec.tells ((w.short (pairs l)).length : Int) [(((mostOf (w.short (pairs l))).getD (0, 0)).1 : Int), (((mostOf (w.short (pairs l))).getD (0, 0)).2 : Int)]) := rfl
    walk_at "run"
    refine r_andH ?_
    walk_at "run"
    refine r_len (SqL.of hr0) ?_
    rw [List.length_map, List.length_map]
    walk_at "run"
    refine r_i (show (0 : Int) < 2 by decide) ?_
    walk_at "run"
    refine iteD (fun c1 => ?_) fun c1 => ?_
    · have c1 : (l.length : Int) % 2 = 0 := V.int.inj c1
      have c1 : l.length % 2 = 0 := by omega
      have pl := pairs_length l
      rw [flat_pairs c1] at hr0
      generalize hps : pairs l = ps at act0 hr0 pl
      walk_at "run"
      refine r_step2 ?_
      walk_at "run"
      refine ⟨ar, flatP ps, rfl, SqL.of ((Same.refl H) _ _ hr0), fun p1 hp1 => ?_⟩
      rw [odds_V]
      have s1 := Same.new (o := .lst (ps.map fun y => V.int (y.2 : Int))) hp1
      refine ⟨p1, rfl, ⟨_, SqL.of upd_same⟩, fun D hD => lc_it (walk_list (K := K) (a := p1) (xs := ps.map fun y => V.int (y.2 : Int))) (fun i H2 => Same (upd H p1 (.lst (ps.map fun y => V.int (y.2 : Int)))) H2 ∧ H2 D = some (.lst (((ps.take i).map fun y => decide ((y.2 : Int) ≤ 1000000)).map V.bl))) ⟨Same.new hD, upd_same⟩ (fun i H2 _ p => SqL.of (p.1 _ _ upd_same)) ?_ ?_⟩
      · rintro i x H2 H3 hi ⟨s2, hL2⟩ ⟨rfl, hx⟩
        obtain ⟨y, hy, rfl⟩ := map_get hx
        walk_at "run"
        refine ⟨rfl, ?_⟩
        walk_at "run"
        refine iteT ?_
        walk_at "run"
        refine ⟨_, hL2, ?_, Same.mut s2 hD, ?_⟩
        · rw [List.length_map, List.length_map, List.length_take]; exact sl60' (by omega)
        · rw [upd_same, take_succ_get hy, List.map_append, List.map_append]; rfl
      rintro H2 ⟨s2', hL2⟩
      have s2 := s1.trans s2'
      rw [List.length_map, List.take_length] at hL2
      walk_at "run"
      refine ⟨D, _, rfl, SqL.of hL2, ?_⟩
      rw [all_id, all_any ps (fun y => decide ((y.2 : Int) ≤ 1000000)) (fun y => decide (WearSpec.DEPTH < y.2)) (fun y => by
        show decide ((y.2 : Int) ≤ 1000000) = !decide (1000000 < y.2)
        rw [← decide_not]
        exact decide_eq_decide.mpr (by omega))]
      walk_at "run"
      refine r_check (fun c2 => ?_) fun c2 => ?_
      · rw [if_neg (by
          rintro (z | z)
          · omega
          · rw [z] at c2; exact absurd c2 (by decide))] at act0
        walk_at "run"
        refine r_step2 ?_
        walk_at "run"
        refine ⟨ar, flatP ps, rfl, SqL.of ((s2) _ _ hr0), fun p2 hp2 => ?_⟩
        rw [evens_V]
        have s3 := Same.mut (o := .lst (ps.map fun y => V.int (y.1 : Int))) s2 (s2.free hp2)
        refine ⟨p2, rfl, ⟨_, SqL.of upd_same⟩, fun D2 hD2 => lc_it (walk_list (K := K) (a := p2) (xs := ps.map fun y => V.int (y.1 : Int))) (fun i H4 => Same (upd H2 p2 (.lst (ps.map fun y => V.int (y.1 : Int)))) H4 ∧ H4 D2 = some (.lst (((ps.take i).map fun y => decide ((y.1 : Int) < (w.places.length : Int))).map V.bl))) ⟨Same.new hD2, upd_same⟩ (fun i H4 _ p => SqL.of (p.1 _ _ upd_same)) ?_ ?_⟩
        · rintro i x H4 H5 hi ⟨s4, hL4⟩ ⟨rfl, hx⟩
          obtain ⟨y, hy, rfl⟩ := map_get hx
          walk_at "run"
          refine ⟨rfl, ?_⟩
          walk_at "run"
          refine iteT ?_
          walk_at "run"
          refine fl_many T (W.same (s3.trans s4)) ?_
          walk_at "run"
          refine ⟨_, hL4, ?_, Same.mut s4 hD2, ?_⟩
          · rw [List.length_map, List.length_map, List.length_take]; exact sl60' (by omega)
          · rw [upd_same, take_succ_get hy, List.map_append, List.map_append]; rfl
        rintro H4 ⟨s4', hL4⟩
        have s4 := s3.trans s4'
        rw [List.length_map, List.take_length] at hL4
        walk_at "run"
        refine ⟨D2, _, rfl, SqL.of hL4, ?_⟩
        rw [all_id, all_any ps (fun y => decide ((y.1 : Int) < (w.places.length : Int))) (fun y => decide (w.places.length ≤ y.1)) (fun y => by
          show decide ((y.1 : Int) < (w.places.length : Int)) = !decide (w.places.length ≤ y.1)
          rw [← decide_not]
          exact decide_eq_decide.mpr (by omega))]
        walk_at "run"
        refine r_check (fun c3 => ?_) fun c3 => ?_
        · have c3' : (ps.any fun y => decide (w.places.length ≤ y.1)) = false := by simpa using c3
          rw [c3', if_neg (by decide)] at act0
          have hin : ∀ y ∈ ps, y.1 < w.places.length := fun y hy => by
            have := List.any_eq_false.mp c3' y hy
            simp only [decide_eq_true_eq] at this
            omega
          walk_at "run"
          refine ⟨sl60 (by show 2 ≤ 100000; decide), fun B0 hB0 => ?_⟩
          walk_at "run"
          have s5 := Same.mut (o := .tup [V.int 0, V.int 0]) s4 (s4.free hB0)
          refine r_step2 ?_
          walk_at "run"
          refine ⟨ar, flatP ps, rfl, SqL.of ((s5) _ _ hr0), fun p3 hp3 => ?_⟩
          rw [evens_V]
          have s6 := Same.mut (o := .lst (ps.map fun y => V.int (y.1 : Int))) s5 (s5.free hp3)
          walk_at "run"
          refine r_step2 ?_
          walk_at "run"
          refine ⟨ar, flatP ps, rfl, SqL.of ((s6) _ _ hr0), fun p4 hp4 => ?_⟩
          rw [odds_V]
          have s7 := Same.mut (o := .lst (ps.map fun y => V.int (y.2 : Int))) s6 (s6.free hp4)
          have n34 : p3 ≠ p4 := ne_of_none upd_same hp4
          have hB7 : ∀ o, upd (upd (upd H4 B0 (.tup [V.int 0, V.int 0])) p3 (.lst (ps.map fun y => V.int (y.1 : Int)))) p4 o B0 = some (.tup [V.int 0, V.int 0]) := fun o => by
            rw [upd_ne (ne_of_none (show upd (upd H4 B0 _) p3 _ B0 = some _ by rw [upd_ne (ne_of_none upd_same hp3)]; exact upd_same) hp4), upd_ne (ne_of_none upd_same hp3)]; exact upd_same
          walk_at "run"
          refine ⟨p3, p4, _, _, rfl, SqL.of (by rw [upd_ne n34]; exact upd_same), SqL.of upd_same, ?_⟩
          refine for_it (walk_zip (K := K) (a := p3) (b := p4) (xs := ps.map fun y => V.int (y.1 : Int)) (ys := ps.map fun y => V.int (y.2 : Int)) (n := ps.length) (by rw [List.length_map, List.length_map]; omega)) (fun i σ H' => ∃ v3 v4 v7 bA, σ = [some (.ref L.a), some (.ref an), some (.ref ar), v3, v4, some (.int ((w.short (ps.take i)).length : Int)), some (.ref bA), v7] ∧ Same (upd (upd (upd H4 B0 (.tup [V.int 0, V.int 0])) p3 (.lst (ps.map fun y => V.int (y.1 : Int)))) p4 (.lst (ps.map fun y => V.int (y.2 : Int)))) H' ∧ H' bA = some (.tup [V.int (((w.short (ps.take i)).foldl mostStep (0, 0)).1 : Int), V.int (((w.short (ps.take i)).foldl mostStep (0, 0)).2 : Int)])) ?_ ?_ ?_ ?_
          · exact ⟨none, none, none, B0, rfl, Same.refl _, hB7 _⟩
          · rintro i σ H' _ ⟨_, _, _, _, _, o1, _⟩
            exact ⟨SqL.of (o1 _ _ (by rw [upd_ne n34]; exact upd_same)), SqL.of (o1 _ _ upd_same)⟩
          · rintro i x σ H6 H7 hi ⟨v3, v4, v7, bA, rfl, o1, hb⟩ ⟨T0, y, z, rfl, hT0, rfl, e1, e2⟩
            obtain ⟨y, hy, rfl⟩ := map_get e1
            obtain ⟨y2, hy2, rfl⟩ := map_get e2
            rw [hy] at hy2
            cases hy2
            have hym := hin y (List.mem_of_getElem? hy)
            obtain ⟨p, hp⟩ := get_some hym
            have hla : w.leftAt y.1 = p.left := by unfold Wire.leftAt; rw [hp]; rfl
            have sT := Same.new (o := .tup [V.int (y.1 : Int), V.int (y.2 : Int)]) hT0
            have s8 := (s7.trans o1).trans sT
            refine r_gtup (SqT.of upd_same) rfl ?_
            walk_at "run"
            refine fl_left T (W.same s8) ?_
            walk_at "run"
            refine r_ixl (SqL.of (W.same s8).left) (atI_nat (get_map hp)) ?_
            walk_at "run"
            rw [take_succ_get hy, short_snoc, hla]
            refine iteD (fun c5 => ?_) fun c5 => ?_
            · have c6 : y.2 < p.left := by omega
              rw [if_pos c6, List.foldl_append]
              walk_at "run"
              refine r_ixt (SqT.of (sT _ _ hb)) at1 ?_
              walk_at "run"
              have el : (p.left : Int) - (y.2 : Int) = ((p.left - y.2 : Nat) : Int) := by omega
              rw [el]
              generalize (w.short (ps.take i)).foldl mostStep (0, 0) = b at hb
              refine iteD (fun c7 => ?_) fun c7 => ?_
              · walk_at "run"
                refine ⟨sl60 (by show 2 ≤ 100000; decide), fun B1 hB1 => ?_⟩
                walk_at "run"
                refine ⟨some (.int (y.2 : Int)), some (.int (y.1 : Int)), some (.int ((p.left - y.2 : Nat) : Int)), B1, ?_, Same.mut (o1.trans sT) ((o1.trans sT).free hB1), ?_⟩
                · rw [List.length_append]; rfl
                · rw [upd_same]
                  show _ = some (HO.tup [V.int ((mostStep b (y.1, p.left - y.2)).1 : Int), V.int ((mostStep b (y.1, p.left - y.2)).2 : Int)])
                  unfold mostStep
                  rw [if_pos (by omega)]
              · refine ⟨some (.int (y.2 : Int)), some (.int (y.1 : Int)), some (.int ((p.left - y.2 : Nat) : Int)), bA, ?_, o1.trans sT, ?_⟩
                · rw [List.length_append]; rfl
                · rw [sT _ _ hb]
                  show _ = some (HO.tup [V.int ((mostStep b (y.1, p.left - y.2)).1 : Int), V.int ((mostStep b (y.1, p.left - y.2)).2 : Int)])
                  unfold mostStep
                  rw [if_neg (by omega)]
            · have c6 : ¬ y.2 < p.left := by omega
              rw [if_neg c6, List.append_nil]
              exact ⟨some (.int (y.2 : Int)), some (.int (y.1 : Int)), some (.int ((p.left : Int) - (y.2 : Int))), bA, rfl, o1.trans sT, sT _ _ hb⟩
          rintro σ H6 ⟨v3, v4, v7, bA, rfl, o1, hb⟩
          rw [List.take_length, most_is (short_pos w ps)] at hb
          rw [List.take_length]
          walk_at "run"
          refine r_ixt (SqT.of hb) at0 ?_
          walk_at "run"
          refine r_ixt (SqT.of hb) at1 ?_
          walk_at "run"
          exact ok_new (xs := [((w.short ps).length : Int), (((mostOf (w.short ps)).getD (0, 0)).1 : Int), (((mostOf (w.short ps)).getD (0, 0)).2 : Int)]) k act0 (by simp) (W.same (s7.trans o1)) (Same.only (s7.trans o1)) (by show 3 ≤ 100000; decide)
        · rw [if_pos (by simpa using c3)] at act0
          exact leaves_of e s4 act0
      · rw [if_pos (Or.inr (by simpa using c2))] at act0
        exact leaves_of e s2 act0
    · walk_at "run"
      refine r_check (fun z => by cases z) fun _ => ?_
      have c1 : ¬ (l.length : Int) % 2 = 0 := fun z => c1 (by rw [z])
      rw [if_pos (Or.inl (by omega))] at act0
      exact leaves_of e (Same.refl H) act0
abbrev s_call_support : Stmt := topS 43
abbrev N_call_support : List Str := ["wire", "numbers", "row", "place", "offset"]
theorem sc_call_support : FnScope N_call_support ["wire", "numbers", "row"] (defScope s_call_support) := ⟨rfl, rfl, rfl, by decide +kernel, rfl, by decide +kernel, by decide +kernel⟩
set_option maxHeartbeats 4000000 in
theorem cal_call_support (T : Txt K mg A) (D : Def1 K mg "call_support" s_call_support) (c_check : Call1 P wd K mg base (L2.CX P wd) 3 "check" (spCheck A)) (c_check_place : Call1 P wd K mg base (L2.CX P wd) 4 "check_place" (spCheckPlace A)) : Call1 P wd K mg base (L2.CX P wd) 5 "call_support" (spCall A 19) := by
  obtain ⟨f, fd, F, hm⟩ := D.ex
  refine ⟨f, fd, ["wire", "numbers", "row"], F.okX (k := 4) sc_call_support (fun vs H Q E h => by obtain ⟨_, _, _, _, _, _, _, rfl, _⟩ := h; rfl) (fun cdv AA outer s H vs Q E hr h => ⟨_, (pss_cons (ps_asg (pv 1) (pg_lst rfl (pgs_cons (pg_name (i := 3) sc_call_support.nd rfl (Or.inl rfl)) (pgs_cons (pg_name (i := 4) sc_call_support.nd rfl (Or.inl rfl)) pgs_nil))))
      (pss_cons (ps_expr (pe_c1 c_check hr (by decide) (passes_call (takes_of rfl rfl rfl rfl) (fun _ _ _ _ e => e)) rfl (pa_cons (pe_chain op_le op_le (pe_un un_neg (pe_gi rfl T.g_MOST_OFFSET)) (pv 4) (pe_gi rfl T.g_MOST_OFFSET)) (pa_cons (pe_gi rfl T.g_NOT_SO) pa_nil))))
      (pss_cons (ps_expr (pe_c1 c_check_place hr (by decide) (passes_call (takes_of rfl rfl rfl rfl) (fun _ _ _ _ e => e)) rfl (pa_cons (pv 0) (pa_cons (pv 3) pa_nil))))
      (pss_cons (ps_expr (pe_c1 c_check hr (by decide) (passes_call (takes_of rfl rfl rfl rfl) (fun _ _ _ _ e => e)) rfl (pa_cons (pe_or (pe_cmp (pc_din (hu_of hr) (pv 3) (pe_fld (pv 0) rfl))) (pe_one (pe_cmpR op_lt (pe_callB call_lenD rfl T.b_len (by decide +kernel) (pa_cons (pe_fld (pv 0) rfl) pa_nil)) (pe_gi rfl T.g_MOST_SUPPORTS) (nomark _)))) (pa_cons (pe_gi rfl T.g_NO_ROOM) pa_nil))))
      (pss_cons (ps_dput (hu_of hr) (pe_fld (pv 0) rfl) (pv 3) (pv 4) rfl)
      (pss_one (ps_ret (pe_lst (pa_cons pe_int pa_nil))))))))), ?_⟩), hm, F.kp, F.binds (ps := ["wire", "numbers", "row"]) fun _ _ _ _ _ _ us hl => match us, hl with | [_, _, _], _ => rfl⟩
  obtain ⟨L, w, an, ar, nums, row, c, rfl, W, O, hn, hr0, nn, nr, sh, k, e⟩ := h
  cases sh with
  | support x o =>
    have hn : H an = some (.lst [V.int (x : Int), V.int o]) := hn
    obtain ⟨kvs, hsu, sok⟩ := W.sup
    have s6 := O.s6
    have sl := sup_len sok O.sr
    have act0 : WearSpec.act w (.support x o) = if WearSpec.far o = true then (w, WearSpec.says (-1)) else if w.places.length ≤ x then (w, WearSpec.says (-4)) else if 6 ≤ w.supports.length ∧ (w.supports.any fun (y : Nat × Int) => y.1 == x) = false then (w, WearSpec.says (-6)) else ({ w with supports := putSupport x o w.supports }, WearSpec.says 0) := rfl
    rw [supAt_any] at act0
    have hv : (valV kvs (Sum.inl (x : Int))).isSome = (supAt w.supports x).isSome := by rw [sok.val]; cases supAt w.supports x <;> rfl
    walk_at "run"
    refine r_glst (SqL.of hn) rfl ?_
    walk_at "run"
    refine r_chain (a := -400) (b := o) (d := 400) (p := fun i j => decide (i ≤ j)) (q := fun i j => decide (i ≤ j)) (by walk_at "val") (by walk_at "val") (by walk_at "val") ?_
    walk_at "run"
    have hf : WearSpec.far o = !(decide ((-400 : Int) ≤ o) && decide (o ≤ 400)) := by
      unfold WearSpec.far
      by_cases c1 : o < -400
      · rw [decide_eq_true c1, decide_eq_false (show ¬ (-400 : Int) ≤ o by omega)]; rfl
      · by_cases c2 : 400 < o
        · rw [decide_eq_true c2, decide_eq_false (show ¬ o ≤ 400 by omega)]; simp
        · rw [decide_eq_false c1, decide_eq_false c2, decide_eq_true (show (-400 : Int) ≤ o by omega), decide_eq_true (show o ≤ 400 by omega)]; rfl
    refine r_check (fun c1 => ?_) fun c1 => ?_
    · have c1 : (decide ((-400 : Int) ≤ o) && decide (o ≤ 400)) = true := c1
      rw [hf, c1, if_neg (by decide)] at act0
      walk_at "run"
      refine r_place W (fun c4 => ?_) fun c4 => ?_
      · rw [if_neg (by omega)] at act0
        walk_at "run"
        refine r_orV (a := (supAt w.supports x).isSome) (b := decide ((w.supports.length : Int) < 6)) ?_ ?_ ?_
        · intro Q' q'
          walk_at "run"
          refine fl_supports T W ?_
          refine ⟨L.su, _, rfl, DGet.k (k := Sum.inl (x : Int)) hsu, ?_⟩
          rw [hv]; exact q'
        · intro _ Q' q'
          walk_at "run"
          refine fl_supports T W ?_
          refine ⟨L.su, kvs, rfl, hsu, ?_⟩
          rw [sl]
          walk_at "run"
          exact q'
        walk_at "run"
        refine r_check (fun c5 => ?_) fun c5 => ?_
        · rw [if_neg (by
            rintro ⟨z1, z2⟩
            rw [z2, decide_eq_false (by omega)] at c5
            cases c5)] at act0
          walk_at "run"
          refine fl_supports T W ?_
          walk_at "run"
          refine ⟨L.su, _, rfl, DPut.k (k := Sum.inl (x : Int)) hsu (sl60' (by omega)), ?_⟩
          walk_at "run"
          exact ok_new (xs := [0]) k act0 (by simp) (W.setSup (sok.put x o)) (Only.setp (Only.refl _ _) own_su) (by show 1 ≤ 100000; decide)
        · rw [Bool.or_eq_false_iff] at c5
          have c6 := of_decide_eq_false c5.2
          rw [if_pos ⟨by omega, c5.1⟩] at act0
          exact leaves_of e (Same.refl H) act0
      · rw [if_pos (by omega)] at act0
        exact leaves_of e (Same.refl H) act0
    · have c1 : (decide ((-400 : Int) ≤ o) && decide (o ≤ 400)) = false := c1
      rw [hf, c1, if_pos (by decide)] at act0
      exact leaves_of e (Same.refl H) act0
abbrev s_call_take : Stmt := topS 44
abbrev N_call_take : List Str := ["wire", "numbers", "row"]
theorem sc_call_take : FnScope N_call_take ["wire", "numbers", "row"] (defScope s_call_take) := ⟨rfl, rfl, rfl, by decide +kernel, rfl, by decide +kernel, by decide +kernel⟩
set_option maxHeartbeats 4000000 in
theorem cal_call_take (T : Txt K mg A) (D : Def1 K mg "call_take" s_call_take) (c_check : Call1 P wd K mg base (L2.CX P wd) 3 "check" (spCheck A)) : Call1 P wd K mg base (L2.CX P wd) 4 "call_take" (spCall A 20) := by
  obtain ⟨f, fd, F, hm⟩ := D.ex
  refine ⟨f, fd, ["wire", "numbers", "row"], F.okX (k := 3) sc_call_take (fun vs H Q E h => by obtain ⟨_, _, _, _, _, _, _, rfl, _⟩ := h; rfl) (fun cdv AA outer s H vs Q E hr h => ⟨_, (pss_cons (ps_expr (pe_c1 c_check hr (by decide) (passes_call (takes_of rfl rfl rfl rfl) (fun _ _ _ _ e => e)) rfl (pa_cons (pe_cmp (pc_din (hu_of hr) (pe_ix ix_list (pv 1) pe_int (fun _ _ => rfl)) (pe_fld (pv 0) rfl))) (pa_cons (pe_gi rfl T.g_NOT_THERE) pa_nil))))
      (pss_cons (ps_expr (pe_dpop1 (pe_fld (pv 0) rfl) (pe_ix ix_list (pv 1) pe_int (fun _ _ => rfl)) ⟨by rfl, by rfl, by rfl, by rfl⟩))
      (pss_one (ps_ret (pe_lst (pa_cons pe_int pa_nil)))))), ?_⟩), hm, F.kp, F.binds (ps := ["wire", "numbers", "row"]) fun _ _ _ _ _ _ us hl => match us, hl with | [_, _, _], _ => rfl⟩
  obtain ⟨L, w, an, ar, nums, row, c, rfl, W, O, hn, hr0, nn, nr, sh, k, e⟩ := h
  cases sh with
  | take x =>
    have hn : H an = some (.lst [V.int (x : Int)]) := hn
    obtain ⟨kvs, hsu, sok⟩ := W.sup
    have act0 : WearSpec.act w (.take x) = if (w.supports.any fun (y : Nat × Int) => y.1 == x) = false then (w, WearSpec.says (-4)) else ({ w with supports := w.supports.filter fun (y : Nat × Int) => y.1 != x }, WearSpec.says 0) := rfl
    rw [supAt_any] at act0
    have hv : (valV kvs (Sum.inl (x : Int))).isSome = (supAt w.supports x).isSome := by rw [sok.val]; cases supAt w.supports x <;> rfl
    walk_at "run"
    refine r_ixl (SqL.of hn) at0 ?_
    walk_at "run"
    refine fl_supports T W ?_
    refine ⟨L.su, _, rfl, DGet.k (k := Sum.inl (x : Int)) hsu, ?_⟩
    rw [hv]
    walk_at "run"
    refine r_check (fun c1 => ?_) fun c1 => ?_
    · rw [c1, if_neg (by decide)] at act0
      rw [c1] at hv
      obtain ⟨v, hv⟩ := Option.isSome_iff_exists.mp hv
      walk_at "run"
      refine fl_supports T W ?_
      refine ⟨L.su, rfl, .inl ⟨kvs, .inl hsu⟩, ?_⟩
      walk_at "run"
      refine r_ixl (SqL.of hn) at0 ?_
      refine ⟨kvs, Sum.inl (x : Int), v, hsu, rfl, hv, ?_⟩
      walk_at "run"
      exact ok_new (xs := [0]) k act0 (by simp) (W.setSup (sok.drop x)) (Only.setp (Only.refl _ _) own_su) (by show 1 ≤ 100000; decide)
    · rw [c1, if_pos rfl] at act0
      exact leaves_of e (Same.refl H) act0
abbrev s_offsets_of : Stmt := topS 45
abbrev N_offsets_of : List Str := ["wire", "places", "found", "place", "first", "second", "one", "other"]
theorem sc_offsets_of : FnScope N_offsets_of ["wire"] (defScope s_offsets_of) := ⟨rfl, rfl, rfl, by decide +kernel, rfl, by decide +kernel, by decide +kernel⟩
set_option maxHeartbeats 4000000 in
theorem cal_offsets_of (T : Txt K mg A) (D : Def1 K mg "offsets_of" s_offsets_of) (c_between : Call1 P wd K mg base CX0 3 "between" spBetween) (c_spans_of : Call1 P wd K mg base CX0 1 "spans_of" (spSpans K)) : Call1 P wd K mg base CX0 4 "offsets_of" (spOffsetsOf A) := by
  obtain ⟨f, fd, F, hm⟩ := D.ex
  refine ⟨f, fd, ["wire"], F.ok (k := 3) sc_offsets_of (fun vs H Q E h => by obtain ⟨_, _, rfl, _⟩ := h; rfl) (fun cdv AA outer s H vs Q E hr h => ⟨_, (pss_cons (ps_set (i := 1) sc_offsets_of.nd rfl (Or.inl rfl) (pe_callB (call_sortedDI rfl) rfl T.b_sorted (by decide +kernel) (pa_cons (pe_fld (pv 0) rfl) pa_nil)))
      (pss_cons (ps_if (pt_cmpR op_eq (pe_callB call_len rfl T.b_len (by decide +kernel) (pa_cons (pv 1) pa_nil)) pe_int (nomark _)) (pss_one (ps_ret (pe_op op_rep (pe_lst (pa_cons (pe_tup (pa_cons pe_int (pa_cons pe_int pa_nil))) pa_nil)) (pe_fld (pv 0) rfl)))) pss_nil)
      (pss_cons (ps_set (i := 2) sc_offsets_of.nd rfl (Or.inl rfl) (pe_lst pa_nil))
      (pss_cons (ps_for PassesOwn.never rfl (pi_enum rfl T.b_enumerate (pa_cons (pe_c1 c_spans_of hr (by decide) pass0 rfl (pa_cons (pv 1) (pa_cons (pe_fld (pv 0) rfl) pa_nil))) pa_nil)) (pg_tup rfl (pgs_cons (pg_name (i := 3) sc_offsets_of.nd rfl (Or.inl rfl)) (pgs_cons (pg_tup rfl (pgs_cons (pg_name (i := 4) sc_offsets_of.nd rfl (Or.inl rfl)) (pgs_cons (pg_name (i := 5) sc_offsets_of.nd rfl (Or.inl rfl)) pgs_nil))) pgs_nil)))
      (pss_cons (ps_set (i := 6) sc_offsets_of.nd rfl (Or.inl rfl) (pe_tup (pa_cons (pe_ix ix_list (pv 1) (pv 4) (fun _ _ => rfl)) (pa_cons (pe_dget (hu_of hr) (pe_fld (pv 0) rfl) (pe_ix ix_list (pv 1) (pv 4) (fun _ _ => rfl)) (fun _ _ => rfl)) pa_nil))))
      (pss_cons (ps_set (i := 7) sc_offsets_of.nd rfl (Or.inl rfl) (pe_tup (pa_cons (pe_ix ix_list (pv 1) (pv 5) (fun _ _ => rfl)) (pa_cons (pe_dget (hu_of hr) (pe_fld (pv 0) rfl) (pe_ix ix_list (pv 1) (pv 5) (fun _ _ => rfl)) (fun _ _ => rfl)) pa_nil))))
      (pss_one (ps_expr (pe_bm PySem.F.plainAttrs_list PySem.F.slot_list_append PySem.F.type_list_append mt_append (pv 2) (pa_cons (pe_c1 c_between hr (by decide) pass0 rfl (pa_cons (pv 6) (pa_cons (pv 7) (pa_cons (pv 3) pa_nil)))) pa_nil)))))))
      (pss_one (ps_ret (pv 2))))))), ?_⟩), hm, F.kp, F.binds (ps := ["wire"]) fun _ _ _ _ _ _ us hl => match us, hl with | [_], _ => rfl⟩
  obtain ⟨L, w, rfl, W, O, q⟩ := h
  obtain ⟨kvs, hsu, sok⟩ := W.sup
  have s6 := O.s6
  have m60 := O.m60
  walk_at "run"
  refine fl_supports T W ?_
  walk_at "run"
  obtain ⟨ks, k1, k2, k3⟩ := sup_sorted sok O.sr s6
  refine ⟨L.su, kvs, ks, rfl, .inl hsu, k1, k2, fun ys p1 e1 e2 hp1 => ?_⟩
  rw [k3 ys e1 e2]
  walk_at "run"
  have hP : ∀ {H2 : Hp}, Same (upd H p1 (.lst (natsV (w.supports.map (·.1))))) H2 → H2 p1 = some (.lst (natsV (w.supports.map (·.1)))) := fun s => s _ _ upd_same
  have s1 : Same H (upd H p1 (.lst (natsV (w.supports.map (·.1))))) := Same.new hp1
  refine r_len (SqL.of upd_same) ?_
  walk_at "run"
  rw [natsV_length, List.length_map]
  refine iteD (fun c => ?_) fun c => ?_
  · have c : ((w.supports.length : Nat) : Int) = 0 := V.int.inj c
    have hnil : w.supports = [] := List.length_eq_zero_iff.mp (by omega)
    walk_at "run"
    refine ⟨sl60 (by show 2 ≤ 100000; decide), fun t0 ht0 => ?_⟩
    walk_at "run"
    refine ⟨sl60 (by show 1 ≤ 100000; decide), fun l0 hl0 => ?_⟩
    walk_at "run"
    have s2 := Same.mut (o := .tup [V.int 0, V.int 1]) s1 (s1.free ht0)
    have s3 := Same.mut (o := .lst [V.ref t0]) s2 (s2.free hl0)
    refine fl_many T (W.same s3) ?_
    refine ⟨l0, (w.places.length : Int), [.ref t0], rfl, rfl, upd_same, by omega, by omega, sl60 (by rw [Int.toNat_natCast]; show 1 * w.places.length ≤ _; omega), fun p hp => ?_⟩
    refine q _ p (List.replicate w.places.length t0) (Same.mut s3 (s3.free hp)) (s3.free hp) ?_ ?_
    · rw [upd_same, flat_one, Int.toNat_natCast, List.map_replicate]
    · refine ⟨by unfold offsetRows; rw [List.length_map, List.length_range, List.length_replicate], fun i t r e1 e2 => ?_⟩
      have hi := get_lt e1
      rw [List.length_replicate] at hi
      have et : t = t0 := by
        rw [List.getElem?_replicate, if_pos hi] at e1
        exact (Option.some.inj e1).symm
      have er : r = [V.int 0, V.int 1] := by
        unfold offsetRows at e2
        rw [List.getElem?_map, List.getElem?_range hi, hnil] at e2
        exact (Option.some.inj e2).symm
      subst et er
      have n1 : l0 ≠ t := (ne_of_none upd_same hl0).symm
      have n2 : t ≠ p := ne_of_none (show upd (upd _ t _) l0 _ t = some _ by rw [upd_ne n1.symm]; exact upd_same) hp
      rw [upd_ne n2, upd_ne n1.symm, upd_same]
  have hne : w.supports ≠ [] := fun z => c (by rw [z]; rfl)
  walk_at "run"
  refine ⟨sl60 (by show 0 ≤ 100000; decide), fun F0 hF => ?_⟩
  have s2 := Same.mut (o := HO.lst []) s1 (s1.free hF)
  walk_at "run"
  refine fl_many T (W.same s2) ?_
  walk_at "run"
  have hpF : p1 ≠ F0 := ne_of_none upd_same hF
  refine ⟨p1, w.supports.map (·.1), w.places.length, rfl, SqL.of (by rw [upd_ne hpF]; exact upd_same), fun z => hne (by simpa using z), by rw [List.length_map]; exact s6, m60, fun H1 SA ts s3 hSA hS1 aS1 => ?_⟩
  walk_at "run"
  have sH1 := s2.trans s3
  have hFH : H F0 = none := s1.free hF
  have hFS : SA ≠ F0 := (ne_of_none upd_same hSA).symm
  have hF1 : H1 F0 = some (.lst []) := s3 _ _ upd_same
  have hP1 : H1 p1 = some (.lst (natsV (w.supports.map (·.1)))) := s3 _ _ (by rw [upd_ne hpF]; exact upd_same)
  have sH : ∀ {H' : Hp}, Only [F0] H1 H' → Same H H' := fun o b u e => o b u (sH1 _ _ e) (by simpa using ne_of_none e hFH)
  have hts : ts.length = w.places.length := by have := aS1.1; rw [List.length_map, List.length_range] at this; exact this
  refine ⟨SA, ts.map V.ref, rfl, SqL.of hS1, for_it (walk_enum (K := K) (a := SA) (xs := ts.map V.ref)) (fun i σ H' => ∃ v3 v4 v5 v6 v7 us, σ = [some (.ref L.a), some (.ref p1), some (.ref F0), v3, v4, v5, v6, v7] ∧ Only [F0] H1 H' ∧ H' F0 = some (.lst (us.map V.ref)) ∧ AllT H' us ((offsetRows w).take i)) ?_ ?_ ?_ ?_⟩
  · exact ⟨none, none, none, none, none, [], rfl, Only.refl _ _, hF1, AllT.nil⟩
  · rintro i σ H' _ ⟨_, _, _, _, _, _, _, o1, _⟩
    exact SqL.of (o1 _ _ hS1 (by simpa using hFS))
  · rintro i x σ H2 H3 hi ⟨v3, v4, v5, v6, v7, us, rfl, o1, hU, aU⟩ ⟨T0, y, z, rfl, hT0, rfl, e1, e2⟩
    cases e1
    obtain ⟨t, ht, rfl⟩ := map_get e2
    have him : i < w.places.length := by have := get_lt ht; omega
    have sW2 : Same H H2 := sH o1
    have hrow : H1 t = some (.tup [V.int (firstI (w.supports.map (·.1)) i : Int), V.int (secondI (w.supports.map (·.1)) i : Int)]) := aS1.2 i t _ ht (by rw [List.getElem?_map, List.getElem?_range him]; rfl)
    have htF : t ≠ F0 := ne_of hrow hF1 (by intro z; cases z)
    have ht2 : H2 t = some (.tup [V.int (firstI (w.supports.map (·.1)) i : Int), V.int (secondI (w.supports.map (·.1)) i : Int)]) := o1 _ _ hrow (by simpa using htF)
    have hP2 : H2 p1 = some (.lst (natsV (w.supports.map (·.1)))) := o1 _ _ hP1 (by simpa using hpF)
    obtain ⟨y, z, y1, z1, yz, z60, fr⟩ := offset_span O.sr hne i (fun y hy => Nat.lt_of_lt_of_le (O.sp y hy).1 m60)
    have by1 := O.sp y (List.mem_of_getElem? y1)
    have bz1 := O.sp z (List.mem_of_getElem? z1)
    have get2 : ∀ {Ha : Hp} {u : Nat × Int}, Same H Ha → u ∈ w.supports → DGet Ha L.su (.int (u.1 : Int)) (some (.int u.2)) := by
      intro Ha u s hu
      have g := DGet.k (k := Sum.inl (u.1 : Int)) (s _ _ hsu)
      rw [sok.val, (supAt_mem O.sr).mp (show (u.1, u.2) ∈ w.supports from hu)] at g
      exact g
    have sT : Same H2 (upd H2 T0 (.tup [V.int (i : Int), V.ref t])) := Same.new hT0
    refine r_gtup (SqT.of upd_same) rfl ?_
    walk_at "run"
    refine r_gtup (SqT.of (sT _ _ ht2)) rfl ?_
    walk_at "run"
    refine r_ixl (SqL.of (sT _ _ hP2)) (natsV_at (get_map y1)) ?_
    walk_at "run"
    refine fl_supports T (W.same (sW2.trans sT)) ?_
    walk_at "run"
    refine r_ixl (SqL.of (sT _ _ hP2)) (natsV_at (get_map y1)) ?_
    refine ⟨L.su, _, rfl, get2 (sW2.trans sT) (List.mem_of_getElem? y1), ?_⟩
    walk_at "run"
    refine ⟨sl60 (by show 2 ≤ 100000; decide), fun O1 hO1 => ?_⟩
    have sO := Same.mut (o := .tup [V.int (y.1 : Int), V.int y.2]) sT (sT.free hO1)
    walk_at "run"
    refine r_ixl (SqL.of (sO _ _ hP2)) (natsV_at (get_map z1)) ?_
    walk_at "run"
    refine fl_supports T (W.same (sW2.trans sO)) ?_
    walk_at "run"
    refine r_ixl (SqL.of (sO _ _ hP2)) (natsV_at (get_map z1)) ?_
    refine ⟨L.su, _, rfl, get2 (sW2.trans sO) (List.mem_of_getElem? z1), ?_⟩
    walk_at "run"
    refine ⟨sl60 (by show 2 ≤ 100000; decide), fun O2 hO2 => ?_⟩
    have sQ := Same.mut (o := .tup [V.int (z.1 : Int), V.int z.2]) sO (sO.free hO2)
    have h12 : O1 ≠ O2 := ne_of_none upd_same hO2
    walk_at "run"
    refine ⟨.inl ⟨rfl, _, SqL.of (sQ _ _ hU)⟩, ?_⟩
    walk_at "run"
    refine ⟨O1, O2, (y.1 : Int), y.2, (z.1 : Int), z.2, (i : Int), rfl, by rw [upd_ne h12]; exact upd_same, upd_same, by omega, by omega, by1.2.1, by1.2.2, bz1.2.1, bz1.2.2, fun H4 R0 s4 hR hR4 => ?_⟩
    have s5 := sQ.trans s4
    have hU4 : H4 F0 = some (.lst (us.map V.ref)) := s5 _ _ hU
    have hRF : R0 ≠ F0 := (ne_of_none (sQ _ _ hU) hR).symm
    walk_at "run"
    have hul : us.length = i := by
      have := aU.1
      unfold offsetRows at this
      rw [List.length_take, List.length_map, List.length_range] at this
      omega
    refine r_append hU4 (by rw [List.length_map]; omega) ?_
    refine ⟨_, _, _, _, _, us ++ [R0], rfl, ?_, ?_, ?_⟩
    · exact Only.setp (Only.then o1 (Same.only s5)) (by simp)
    · rw [upd_same, List.map_append]; rfl
    · have hro : (offsetRows w)[i]? = some [V.int (betwI y.1 y.2 z.1 z.2 i).1, V.int (betwI y.1 y.2 z.1 z.2 i).2] := by
        unfold offsetRows
        rw [List.getElem?_map, List.getElem?_range him, fr.1, fr.2]; rfl
      rw [take_succ_get hro]
      refine AllT.snoc (aU.keep fun b xs eb => ?_) (by rw [upd_ne hRF]; exact hR4)
      rw [upd_ne (ne_of eb hU (by intro z; cases z))]; exact s5 _ _ eb
  rintro σ H2 ⟨v3, v4, v5, v6, v7, us, rfl, o1, hU, aU⟩
  walk_at "run"
  refine q H2 F0 us (sH o1) hFH hU ?_
  have e : (offsetRows w).take (ts.map V.ref).length = offsetRows w := by
    refine List.take_of_length_le ?_
    unfold offsetRows
    rw [List.length_map, List.length_map, List.length_range, hts]
    exact Nat.le_refl _
  rw [e] at aU
  exact aU
abbrev s_call_offset : Stmt := topS 46
abbrev N_call_offset : List Str := ["wire", "numbers", "row"]
theorem sc_call_offset : FnScope N_call_offset ["wire", "numbers", "row"] (defScope s_call_offset) := ⟨rfl, rfl, rfl, by decide +kernel, rfl, by decide +kernel, by decide +kernel⟩
set_option maxHeartbeats 4000000 in
theorem cal_call_offset (T : Txt K mg A) (D : Def1 K mg "call_offset" s_call_offset) (c_check_place : Call1 P wd K mg base (L2.CX P wd) 4 "check_place" (spCheckPlace A)) (c_offsets_of : Call1 P wd K mg base CX0 4 "offsets_of" (spOffsetsOf A)) : Call1 P wd K mg base (L2.CX P wd) 5 "call_offset" (spCall A 21) := by
  obtain ⟨f, fd, F, hm⟩ := D.ex
  refine ⟨f, fd, ["wire", "numbers", "row"], F.okX (k := 4) sc_call_offset (fun vs H Q E h => by obtain ⟨_, _, _, _, _, _, _, rfl, _⟩ := h; rfl) (fun cdv AA outer s H vs Q E hr h => ⟨_, (pss_cons (ps_expr (pe_c1 c_check_place hr (by decide) (passes_call (takes_of rfl rfl rfl rfl) (fun _ _ _ _ e => e)) rfl (pa_cons (pv 0) (pa_cons (pe_ix ix_list (pv 1) pe_int (fun _ _ => rfl)) pa_nil))))
      (pss_one (ps_ret (pe_op op_cat (pe_lst (pa_cons pe_int pa_nil)) (pe_callTy call_list_of rfl T.b_list (by decide +kernel) (pa_cons (pe_ix ix_list (pe_c1 c_offsets_of hr (by decide) pass0 rfl (pa_cons (pv 0) pa_nil)) (pe_ix ix_list (pv 1) pe_int (fun _ _ => rfl)) (fun _ _ => rfl)) pa_nil)))))), ?_⟩), hm, F.kp, F.binds (ps := ["wire", "numbers", "row"]) fun _ _ _ _ _ _ us hl => match us, hl with | [_, _, _], _ => rfl⟩
  obtain ⟨L, w, an, ar, nums, row, c, rfl, W, O, hn, hr0, nn, nr, sh, k, e⟩ := h
  cases sh with
  | offset x =>
    have hn : H an = some (.lst [V.int (x : Int)]) := hn
    have act0 : WearSpec.act w (.offset x) = (w, if w.places.length ≤ x then WearSpec.says (-4) else WearSpec.tells 0 [(offsetBy w.supports x).num, ((offsetBy w.supports x).den : Int)]) := rfl
    walk_at "run"
    refine r_ixl (SqL.of hn) at0 ?_
    walk_at "run"
    refine r_place W (fun c4 => ?_) fun c4 => ?_
    · rw [if_neg (by omega)] at act0
      walk_at "run"
      refine ⟨sl60 (by show 1 ≤ 100000; decide), fun p0 hp0 => ?_⟩
      walk_at "run"
      have s0 := Same.new (o := .lst [V.int 0]) hp0
      refine ⟨L, w, rfl, W.same s0, O, fun H1 p1 ts s1 hp1 hH1 aT1 => ?_⟩
      walk_at "run"
      have s2 := s0.trans s1
      refine r_ixl (SqL.of (s2 _ _ hn)) at0 ?_
      have hrow : (offsetRows w)[x]? = some [V.int (offsetBy w.supports x).num, V.int ((offsetBy w.supports x).den : Int)] := by
        unfold offsetRows
        rw [List.getElem?_map, List.getElem?_range (by omega)]; rfl
      obtain ⟨t, ht, htup⟩ := aT1.get hrow
      refine r_ixl (SqL.of hH1) (atI_nat (get_map (f := V.ref) ht)) ?_
      walk_at "run"
      refine ⟨t, _, rfl, .inr (SqT.of htup), fun l hl => ?_⟩
      have s3 := Same.mut (o := .lst [V.int (offsetBy w.supports x).num, V.int ((offsetBy w.supports x).den : Int)]) s2 (s2.free hl)
      have hp0' : H1 p0 = some (.lst [V.int 0]) := s1 _ _ upd_same
      refine ⟨p0, l, [V.int 0], [V.int (offsetBy w.supports x).num, V.int ((offsetBy w.supports x).den : Int)], rfl, rfl, by rw [upd_ne (ne_of_none hp0' hl)]; exact hp0', upd_same, sl60 (by show 3 ≤ 100000; decide), ?_⟩
      exact (ok_new (xs := [0, (offsetBy w.supports x).num, ((offsetBy w.supports x).den : Int)]) k act0 (by simp) (W.same s3) (Same.only s3) (by show 3 ≤ 100000; decide)).2
    · rw [if_pos (by omega)] at act0
      exact leaves_of e (Same.refl H) act0
abbrev s_check_pan : Stmt := topS 47
abbrev N_check_pan : List Str := ["half", "many"]
theorem sc_check_pan : FnScope N_check_pan ["half", "many"] (defScope s_check_pan) := ⟨rfl, rfl, rfl, by decide +kernel, rfl, by decide +kernel, by decide +kernel⟩
set_option maxHeartbeats 4000000 in
theorem cal_check_pan (T : Txt K mg A) (D : Def1 K mg "check_pan" s_check_pan) (c_check : Call1 P wd K mg base (L2.CX P wd) 3 "check" (spCheck A)) : Call1 P wd K mg base (L2.CX P wd) 4 "check_pan" (spCheckPan A) := by
  obtain ⟨f, fd, F, hm⟩ := D.ex
  refine ⟨f, fd, ["half", "many"], F.okX (k := 3) sc_check_pan (fun vs H Q E h => by obtain ⟨_, _, rfl, _⟩ := h; rfl) (fun cdv AA outer s H vs Q E hr h => ⟨_, (pss_one (ps_expr (pe_c1 c_check hr (by decide) (passes_call (takes_of rfl rfl rfl rfl) (fun _ _ _ _ e => e)) rfl (pa_cons (pe_and (pe_chain op_le op_le pe_int (pv 0) pe_int) (pe_one (pe_chain op_le op_le pe_int (pv 1) pe_int))) (pa_cons (pe_gi rfl T.g_NOT_SO) pa_nil))))), ?_⟩), hm, F.kp, F.binds (ps := ["half", "many"]) fun _ _ _ _ _ _ us hl => match us, hl with | [_, _], _ => rfl⟩
  obtain ⟨hh, n, rfl, h1, h2⟩ := h
  walk_at "run"
  have e : ((decide ((1 : Int) ≤ (hh : Int)) && decide ((hh : Int) ≤ 1000)) && (decide ((1 : Int) ≤ (n : Int)) && decide ((n : Int) ≤ 40))) = WearSpec.pan hh n := by
    have g : ∀ (a b : Nat), decide ((a : Int) ≤ (b : Int)) = decide (a ≤ b) := fun a b => decide_eq_decide.mpr (by omega)
    unfold WearSpec.pan
    rw [← g 1 hh, ← g hh 1000, ← g 1 n, ← g n 40]; rfl
  refine r_andV (a := decide ((1 : Int) ≤ (hh : Int)) && decide ((hh : Int) ≤ 1000)) (b := decide ((1 : Int) ≤ (n : Int)) && decide ((n : Int) ≤ 40)) ?_ ?_ ?_
  · intro Q' q'
    exact r_chain (by walk_at "val") (by walk_at "val") (by walk_at "val") q'
  · intro _ Q' q'
    exact r_chain (by walk_at "val") (by walk_at "val") (by walk_at "val") q'
  walk_at "run"
  rw [e]
  refine r_check (fun c => ?_) fun c => h2 c
  walk_at "run"
  exact h1 c
abbrev s_touches_of : Stmt := topS 48
abbrev N_touches_of : List Str := ["wire", "half", "many", "offset"]
theorem sc_touches_of : FnScope N_touches_of ["wire", "half", "many"] (defScope s_touches_of) := ⟨rfl, rfl, rfl, by decide +kernel, rfl, by decide +kernel, by decide +kernel⟩
set_option maxHeartbeats 4000000 in
theorem cal_touches_of (T : Txt K mg A) (D : Def1 K mg "touches_of" s_touches_of) (c_cell_of : Call1 P wd K mg base CX0 1 "cell_of" spCellOf) (c_touched : Call1 P wd K mg base CX0 1 "touched" (spTouched K)) (c_offsets_of : Call1 P wd K mg base CX0 4 "offsets_of" (spOffsetsOf A)) : Call1 P wd K mg base CX0 5 "touches_of" (spTouchesOf A) := by
  obtain ⟨f, fd, F, hm⟩ := D.ex
  refine ⟨f, fd, ["wire", "half", "many"], F.ok (k := 4) sc_touches_of (fun vs H Q E h => by obtain ⟨_, _, _, _, rfl, _⟩ := h; rfl) (fun cdv AA outer s H vs Q E hr h => ⟨_, (pss_one (ps_ret (pe_c1 c_touched hr (by decide) pass0 rfl (pa_cons (pe_lc (own := [("offset", 3)]) (g := (gName 3)) rfl sc_touches_of.nd (pi_list (pe_c1 c_offsets_of hr (by decide) pass0 rfl (pa_cons (pv 0) pa_nil))) (blkOk_by (own := [("offset", 3)]) (N := N_touches_of) (sc := defScope s_touches_of) (by decide +kernel)) (fun _ _ _ _ _ => (pg_name (i := 3) sc_touches_of.nd rfl (Or.inl rfl))) (fun _ _ _ _ _ => pts_nil) (fun _ _ _ _ _ => (pe_c1 c_cell_of hr (by decide) pass0 rfl (pa_cons (pv 3) (pa_cons (pv 1) (pa_cons (pv 2) pa_nil)))))) (pa_cons (pv 2) pa_nil))))), ?_⟩), hm, F.kp, F.binds (ps := ["wire", "half", "many"]) fun _ _ _ _ _ _ us hl => match us, hl with | [_, _, _], _ => rfl⟩
  obtain ⟨L, w, h0, n, rfl, W, O, h1, h2, n1, n2, q⟩ := h
  have m60 := O.m60
  walk_at "run"
  refine ⟨L, w, rfl, W, O, fun H1 p1 ts s1 hp1 hH1 aT1 => ?_⟩
  have W1 := W.same s1
  refine ⟨p1, rfl, ⟨_, SqL.of hH1⟩, fun D hD => lc_it (walk_list (K := K) (a := p1) (xs := ts.map V.ref)) (fun i H2 => Same H1 H2 ∧ H2 D = some (.lst (cellsV ((List.range i).map fun x => cellOf h0 n (offsetBy w.supports x))))) ⟨Same.new hD, upd_same⟩ (fun i H2 _ p => SqL.of (p.1 _ _ hH1)) ?_ ?_⟩
  · rintro i x H2 H3 hi ⟨s2, hL2⟩ ⟨rfl, hx⟩
    obtain ⟨t, ht, rfl⟩ := map_get hx
    have hts : ts.length = w.places.length := by
      have := aT1.1
      unfold offsetRows at this
      rw [List.length_map, List.length_range] at this; exact this
    have him : i < w.places.length := by have := get_lt ht; omega
    have hrow : (offsetRows w)[i]? = some [V.int (offsetBy w.supports i).num, V.int ((offsetBy w.supports i).den : Int)] := by
      unfold offsetRows
      rw [List.getElem?_map, List.getElem?_range him]; rfl
    have htup : H1 t = some (.tup [V.int (offsetBy w.supports i).num, V.int ((offsetBy w.supports i).den : Int)]) := aT1.2 i t _ ht hrow
    obtain ⟨f1, f2⟩ := offset_frac O.sr i (fun y hy => Nat.lt_of_lt_of_le (O.sp y hy).1 m60)
    walk_at "run"
    refine ⟨rfl, ?_⟩
    walk_at "run"
    refine iteT ?_
    walk_at "run"
    refine ⟨t, ((offsetBy w.supports i).num, ((offsetBy w.supports i).den : Int)), h0, n, rfl, s2 _ _ htup, f1.1, by show ((offsetBy w.supports i).den : Int) < 1000; omega, h1, h2, n1, n2, ?_⟩
    refine ⟨_, hL2, ?_, Same.mut s2 hD, ?_⟩
    · unfold cellsV
      rw [List.length_map, List.length_map, List.length_range]
      exact sl60' (by omega)
    · rw [upd_same, range_map_succ, cell_is f1 h1 n1]
      unfold cellsV
      rw [List.map_append]; rfl
  rintro H2 ⟨s2, hL2⟩
  have hts : (ts.map V.ref).length = w.places.length := by
    have := aT1.1
    unfold offsetRows at this
    rw [List.length_map, List.length_range] at this
    rw [List.length_map]; exact this
  rw [hts] at hL2
  walk_at "run"
  refine ⟨D, cellsBy w.supports w.places.length h0 n, n, rfl, SqL.of hL2, ?_, n1, n2, ?_, fun H' p q' s3 hp hp' hq hq' => ?_⟩
  · intro c hc
    unfold cellsBy at hc
    obtain ⟨x, _, hx⟩ := List.mem_map.mp hc
    exact cellOf_lt (offset_frac O.sr x (fun y hy => Nat.lt_of_lt_of_le (O.sp y hy).1 m60)).1 h1 n1 hx
  · unfold cellsBy
    rw [List.length_map, List.length_range]; omega
  · have s4 : Same H H2 := s1.trans s2
    exact q H' p q' (s4.trans s3) (s4.free hp) hp' (s4.free hq) hq'
abbrev s_call_touches : Stmt := topS 49
abbrev N_call_touches : List Str := ["wire", "numbers", "row", "half", "many", "off", "counts"]
theorem sc_call_touches : FnScope N_call_touches ["wire", "numbers", "row"] (defScope s_call_touches) := ⟨rfl, rfl, rfl, by decide +kernel, rfl, by decide +kernel, by decide +kernel⟩
set_option maxHeartbeats 4000000 in
theorem cal_call_touches (T : Txt K mg A) (D : Def1 K mg "call_touches" s_call_touches) (c_check_pan : Call1 P wd K mg base (L2.CX P wd) 4 "check_pan" (spCheckPan A)) (c_touches_of : Call1 P wd K mg base CX0 5 "touches_of" (spTouchesOf A)) : Call1 P wd K mg base (L2.CX P wd) 6 "call_touches" (spCall A 22) := by
  obtain ⟨f, fd, F, hm⟩ := D.ex
  refine ⟨f, fd, ["wire", "numbers", "row"], F.okX (k := 5) sc_call_touches (fun vs H Q E h => by obtain ⟨_, _, _, _, _, _, _, rfl, _⟩ := h; rfl) (fun cdv AA outer s H vs Q E hr h => ⟨_, (pss_cons (ps_asg (pv 1) (pg_lst rfl (pgs_cons (pg_name (i := 3) sc_call_touches.nd rfl (Or.inl rfl)) (pgs_cons (pg_name (i := 4) sc_call_touches.nd rfl (Or.inl rfl)) pgs_nil))))
      (pss_cons (ps_expr (pe_c1 c_check_pan hr (by decide) (passes_call (takes_of rfl rfl rfl rfl) (fun _ _ _ _ e => e)) rfl (pa_cons (pv 3) (pa_cons (pv 4) pa_nil))))
      (pss_cons (ps_asg (pe_c1 c_touches_of hr (by decide) pass0 rfl (pa_cons (pv 0) (pa_cons (pv 3) (pa_cons (pv 4) pa_nil)))) (pg_tup rfl (pgs_cons (pg_name (i := 5) sc_call_touches.nd rfl (Or.inl rfl)) (pgs_cons (pg_name (i := 6) sc_call_touches.nd rfl (Or.inl rfl)) pgs_nil))))
      (pss_one (ps_ret (pe_op op_cat (pe_lst (pa_cons (pv 5) pa_nil)) (pv 6))))))), ?_⟩), hm, F.kp, F.binds (ps := ["wire", "numbers", "row"]) fun _ _ _ _ _ _ us hl => match us, hl with | [_, _, _], _ => rfl⟩
  obtain ⟨L, w, an, ar, nums, row, c, rfl, W, O, hn, hr0, nn, nr, sh, k, e⟩ := h
  cases sh with
  | touches h n =>
    have m60 := O.m60
    have hn : H an = some (.lst [V.int (h : Int), V.int (n : Int)]) := hn
    have act0 : WearSpec.act w (.touches h n) = (w, if WearSpec.pan h n = false then WearSpec.says (-1) else WearSpec.tells (offs (cellsBy w.supports w.places.length h n) : Int) (WearSpec.nats (counts (cellsBy w.supports w.places.length h n) n))) := rfl
    walk_at "run"
    refine r_glst (SqL.of hn) rfl ?_
    walk_at "run"
    refine ⟨h, n, rfl, fun c1 => ?_, fun c1 => ?_⟩
    · rw [c1, if_neg (by decide)] at act0
      obtain ⟨h1, h2, n1, n2⟩ := pan_iff.mp c1
      walk_at "run"
      refine ⟨L, w, h, n, rfl, W, O, h1, h2, n1, n2, fun H1 p1 q1 s1 hp1 hH1 hq1 hQ1 => ?_⟩
      generalize hcs : cellsBy w.supports w.places.length h n = cs at act0 hH1 hQ1
      have cl := counts_length cs n
      walk_at "run"
      refine r_gtup (SqT.of hH1) rfl ?_
      walk_at "run"
      refine ⟨sl60 (by show 1 ≤ 100000; decide), fun p2 hp2 => ?_⟩
      walk_at "run"
      refine ⟨p2, q1, [.int _], natsV (counts cs n), rfl, rfl, upd_same, by rw [upd_ne (ne_of_none hQ1 hp2)]; exact hQ1, sl_cat (by omega), ?_⟩
      exact ok_cat k act0 (W.same (Same.mut s1 (s1.free hp2))) (Same.only (Same.mut s1 (s1.free hp2))) (by omega)
    · rw [c1, if_pos rfl] at act0
      exact leaves_of e (Same.refl H) act0
abbrev s_call_strip : Stmt := topS 50
abbrev N_call_strip : List Str := ["wire", "numbers", "row", "half", "many", "depth", "counts", "cell", "found", "passes", "count"]
theorem sc_call_strip : FnScope N_call_strip ["wire", "numbers", "row"] (defScope s_call_strip) := ⟨rfl, rfl, rfl, by decide +kernel, rfl, by decide +kernel, by decide +kernel⟩
set_option maxHeartbeats 4000000 in
theorem cal_call_strip (T : Txt K mg A) (D : Def1 K mg "call_strip" s_call_strip) (c_check : Call1 P wd K mg base (L2.CX P wd) 3 "check" (spCheck A)) (c_check_pan : Call1 P wd K mg base (L2.CX P wd) 4 "check_pan" (spCheckPan A)) (c_touches_of : Call1 P wd K mg base CX0 5 "touches_of" (spTouchesOf A)) : Call1 P wd K mg base (L2.CX P wd) 6 "call_strip" (spCall A 23) := by
  obtain ⟨f, fd, F, hm⟩ := D.ex
  refine ⟨f, fd, ["wire", "numbers", "row"], F.okX (k := 5) sc_call_strip (fun vs H Q E h => by obtain ⟨_, _, _, _, _, _, _, rfl, _⟩ := h; rfl) (fun cdv AA outer s H vs Q E hr h => ⟨_, (pss_cons (ps_asg (pv 1) (pg_lst rfl (pgs_cons (pg_name (i := 3) sc_call_strip.nd rfl (Or.inl rfl)) (pgs_cons (pg_name (i := 4) sc_call_strip.nd rfl (Or.inl rfl)) (pgs_cons (pg_name (i := 5) sc_call_strip.nd rfl (Or.inr rfl)) pgs_nil)))))
      (pss_cons (ps_expr (pe_c1 c_check_pan hr (by decide) (passes_call (takes_of rfl rfl rfl rfl) (fun _ _ _ _ e => e)) rfl (pa_cons (pv 3) (pa_cons (pv 4) pa_nil))))
      (pss_cons (ps_expr (pe_c1 c_check hr (by decide) (passes_call (takes_of rfl rfl rfl rfl) (fun _ _ _ _ e => e)) rfl (pa_cons (pe_chain op_le op_le pe_int (pv 5) (pe_gi rfl T.g_MILLION)) (pa_cons (pe_gi rfl T.g_NOT_SO) pa_nil))))
      (pss_cons (ps_set (i := 6) sc_call_strip.nd rfl (Or.inl rfl) (pe_ix ix_tup (pe_c1 c_touches_of hr (by decide) pass0 rfl (pa_cons (pv 0) (pa_cons (pv 3) (pa_cons (pv 4) pa_nil)))) pe_int (fun _ _ => rfl)))
      (pss_cons (ps_setLc (i := 8) (own := [("cell", 7), ("count", 10)]) (g := (gTup K 2 (gCons (gName 7) (gCons (gName 10) gNil)))) rfl sc_call_strip.nd rfl rfl (sw_true rfl rfl rfl (by decide +kernel)) (pi_enum rfl T.b_enumerate (pa_cons (pv 6) pa_nil)) (blkOk_by (own := [("cell", 7), ("count", 10)]) (N := N_call_strip) (sc := defScope s_call_strip) (by decide +kernel)) (fun _ _ _ _ _ => (pg_tup rfl (pgs_cons (pg_name (i := 7) sc_call_strip.nd rfl (Or.inl rfl)) (pgs_cons (pg_name (i := 10) sc_call_strip.nd rfl (Or.inl rfl)) pgs_nil)))) (fun _ _ _ _ _ => (pts_one (pt_cmpR op_gt (pv 10) pe_int (nomark _)))) (fun _ _ _ _ _ => (pe_tup (pa_cons (pe_un un_neg (pe_op op_fdiv (pe_un un_neg (pv 5)) (pv 10))) (pa_cons (pv 7) pa_nil)))))
      (pss_cons (ps_expr (pe_c1 c_check hr (by decide) (passes_call (takes_of rfl rfl rfl rfl) (fun _ _ _ _ e => e)) rfl (pa_cons (pe_cmpR op_gt (pe_callB call_len rfl T.b_len (by decide +kernel) (pa_cons (pv 8) pa_nil)) pe_int (nomark _)) (pa_cons (pe_gi rfl T.g_AS_TOLD) pa_nil))))
      (pss_cons (ps_asg (pe_callB (cr_minP rfl hr.units) rfl T.b_min (by decide +kernel) (pa_cons (pv 8) pa_nil)) (pg_tup rfl (pgs_cons (pg_name (i := 9) sc_call_strip.nd rfl (Or.inl rfl)) (pgs_cons (pg_name (i := 7) sc_call_strip.nd rfl (Or.inl rfl)) pgs_nil))))
      (pss_one (ps_ret (pe_lst (pa_cons (pv 9) (pa_cons (pv 7) pa_nil)))))))))))), ?_⟩), hm, F.kp, F.binds (ps := ["wire", "numbers", "row"]) fun _ _ _ _ _ _ us hl => match us, hl with | [_, _, _], _ => rfl⟩
  obtain ⟨L, w, an, ar, nums, row, c, rfl, W, O, hn, hr0, nn, nr, sh, k, e⟩ := h
  cases sh with
  | strip h n d =>
    have m60 := O.m60
    have hn : H an = some (.lst [V.int (h : Int), V.int (n : Int), V.int (d : Int)]) := hn
    have act0 : WearSpec.act w (.strip h n d) = (w, if WearSpec.pan h n = false ∨ d = 0 ∨ WearSpec.DEPTH < d then WearSpec.says (-1) else match OwWear.strip (counts (cellsBy w.supports w.places.length h n) n) d with
      | some y => WearSpec.tells (y.1 : Int) [(y.2 : Int)]
      | none => WearSpec.says (-7)) := rfl
    unfold WearSpec.DEPTH at act0
    walk_at "run"
    refine r_glst (SqL.of hn) rfl ?_
    walk_at "run"
    refine ⟨h, n, rfl, fun c1 => ?_, fun c1 => ?_⟩
    · obtain ⟨h1, h2, n1, n2⟩ := pan_iff.mp c1
      walk_at "run"
      refine r_chain (a := 1) (b := (d : Int)) (d := 1000000) (p := fun i j => decide (i ≤ j)) (q := fun i j => decide (i ≤ j)) (by walk_at "val") (by walk_at "val") (by walk_at "val") ?_
      walk_at "run"
      refine r_check (fun c2 => ?_) fun c2 => ?_
      · simp only [Bool.and_eq_true, decide_eq_true_eq] at c2
        have d1 : 1 ≤ d := by omega
        rw [if_neg (by rw [c1]; intro z; rcases z with z | z | z; exact absurd z (by decide); omega; omega)] at act0
        walk_at "run"
        refine ⟨L, w, h, n, rfl, W, O, h1, h2, n1, n2, fun H1 p1 q1 s1 hp1 hH1 hq1 hQ1 => ?_⟩
        generalize hcs : counts (cellsBy w.supports w.places.length h n) n = cs at act0 hQ1
        have cl : cs.length = n := by rw [← hcs]; exact counts_length _ n
        have cb : ∀ c ∈ cs, c ≤ 60 := by
          intro c hc
          rw [← hcs] at hc
          have := counts_le _ n c hc
          unfold cellsBy at this
          rw [List.length_map, List.length_range] at this
          omega
        walk_at "run"
        refine r_ixt (SqT.of hH1) at1 ?_
        walk_at "run"
        refine ⟨q1, natsV cs, rfl, SqL.of hQ1, fun D hD => ?_⟩
        have hDH : H D = none := s1.free hD
        have sO : ∀ {H' : Hp}, Only [D] H1 H' → Same H H' := fun o b u eb => o b u (s1 _ _ eb) (by simpa using ne_of_none eb hDH)
        have qD : q1 ≠ D := ne_of_none hQ1 hD
        refine lc_it (walk_enum (K := K) (a := q1) (xs := natsV cs)) (fun i H2 => ∃ ts, Only [D] H1 H2 ∧ H2 D = some (.lst (ts.map V.ref)) ∧ AllT H2 ts ((foundS cs d i).map fun (p : Int × Int) => [V.int p.1, V.int p.2])) ⟨[], Only.new (Only.refl _ _) hD, upd_same, AllT.nil⟩ (fun i H2 _ p => by obtain ⟨_, o1, _⟩ := p; exact SqL.of (o1 _ _ hQ1 (by simpa using qD))) ?_ ?_
        · rintro i x H2 H3 hi ⟨ts, o1, hT, aT⟩ ⟨T0, y, z, rfl, hT0, rfl, e1, e2⟩
          cases e1
          obtain ⟨c, hc, rfl⟩ := map_get e2
          have hc60 := cb c (List.mem_of_getElem? hc)
          refine r_gtup (SqT.of upd_same) rfl ?_
          walk_at "run"
          refine ⟨rfl, ?_⟩
          have nDT : D ≠ T0 := ne_of_none hT hT0
          have tl := aT.1
          rw [List.length_map] at tl
          have fle := foundS_le cs d i
          have hin : i < n := by have := get_lt hc; omega
          walk_at "run"
          refine iteD (fun c3 => ?_) fun c3 => ?_
          · have hc0 : 0 < c := by omega
            walk_at "run"
            refine r_i ⟨by omega, by omega⟩ ?_
            walk_at "run"
            refine ⟨sl60 (by show 2 ≤ 100000; decide), fun T1 hT1 => ?_⟩
            have nDT1 : D ≠ T1 := ne_of_none (show upd H2 T0 _ D = some _ by rw [upd_ne nDT]; exact hT) hT1
            refine ⟨ts.map V.ref, by rw [upd_ne nDT1, upd_ne nDT]; exact hT, by rw [List.length_map]; exact sl60' (by omega), ts ++ [T1], ?_, ?_, ?_⟩
            · exact Only.setp (Only.then o1 (Only.new (Only.new (Only.refl _ _) hT0) (Same.free (Same.new hT0) hT1))) (by simp)
            · rw [upd_same, List.map_append]; rfl
            · rw [foundS_succ hc, if_pos hc0, List.map_append]
              refine AllT.snoc (aT.keep fun b xs eb => ?_) ?_
              · rw [upd_ne (ne_of eb hT (by intro z; cases z)), upd_ne (ne_of_none (Same.new hT0 _ _ eb) hT1), upd_ne (ne_of_none eb hT0)]; exact eb
              · rw [upd_ne nDT1.symm, upd_same]; rfl
          · refine ⟨ts, Only.then o1 (Only.new (Only.refl _ _) hT0), by rw [upd_ne nDT]; exact hT, ?_⟩
            rw [foundS_succ hc, if_neg (by omega), List.append_nil]
            exact AllT.same (Same.new hT0) aT
        rintro H2 ⟨ts, o1, hT, aT⟩
        rw [natsV_length] at aT
        have s2 := sO o1
        have tl := aT.1
        rw [List.length_map] at tl
        walk_at "run"
        refine r_len (SqL.of hT) ?_
        rw [List.length_map, tl]
        walk_at "run"
        refine r_check (fun c3 => ?_) fun c3 => ?_
        · have c3 := of_decide_eq_true c3
          walk_at "run"
          refine ⟨D, ts, foundS cs d cs.length, rfl, SqL.of hT, aT, by omega, fun t p hp ht hmin => ?_⟩
          refine r_gtup (SqT.of ht) rfl ?_
          walk_at "run"
          obtain ⟨x, j, rfl, hw⟩ := foundS_min d1 hp hmin
          rw [hw] at act0
          exact ok_new (xs := [(x : Int), (j : Int)]) k act0 (by simp) (W.same s2) (Same.only s2) (by show 2 ≤ 100000; decide)
        · have c3 := of_decide_eq_false c3
          rw [foundS_nil (List.length_eq_zero_iff.mp (by omega))] at act0
          exact leaves_of e s2 act0
      · rw [if_pos (by
          simp only [Bool.and_eq_false_iff, decide_eq_false_iff_not] at c2
          right; omega)] at act0
        exact leaves_of e (Same.refl H) act0
    · rw [if_pos (Or.inl c1)] at act0
      exact leaves_of e (Same.refl H) act0
abbrev s_call_even : Stmt := topS 51
abbrev N_call_even : List Str := ["wire", "numbers", "row", "half", "many", "off", "most", "choice", "one", "other"]
theorem sc_call_even : FnScope N_call_even ["wire", "numbers", "row"] (defScope s_call_even) := ⟨rfl, rfl, rfl, by decide +kernel, rfl, by decide +kernel, by decide +kernel⟩
set_option maxHeartbeats 4000000 in
theorem cal_call_even (T : Txt K mg A) (D : Def1 K mg "call_even" s_call_even) (c_evenest : Call1 P wd K mg base CX0 4 "evenest" (spEvenest K)) (c_check : Call1 P wd K mg base (L2.CX P wd) 3 "check" (spCheck A)) (c_check_pan : Call1 P wd K mg base (L2.CX P wd) 4 "check_pan" (spCheckPan A)) : Call1 P wd K mg base (L2.CX P wd) 5 "call_even" (spCall A 24) := by
  obtain ⟨f, fd, F, hm⟩ := D.ex
  refine ⟨f, fd, ["wire", "numbers", "row"], F.okX (k := 4) sc_call_even (fun vs H Q E h => by obtain ⟨_, _, _, _, _, _, _, rfl, _⟩ := h; rfl) (fun cdv AA outer s H vs Q E hr h => ⟨_, (pss_cons (ps_asg (pv 1) (pg_lst rfl (pgs_cons (pg_name (i := 3) sc_call_even.nd rfl (Or.inl rfl)) (pgs_cons (pg_name (i := 4) sc_call_even.nd rfl (Or.inl rfl)) pgs_nil))))
      (pss_cons (ps_expr (pe_c1 c_check_pan hr (by decide) (passes_call (takes_of rfl rfl rfl rfl) (fun _ _ _ _ e => e)) rfl (pa_cons (pv 3) (pa_cons (pv 4) pa_nil))))
      (pss_cons (ps_expr (pe_c1 c_check hr (by decide) (passes_call (takes_of rfl rfl rfl rfl) (fun _ _ _ _ e => e)) rfl (pa_cons (pe_and (pe_chain op_le op_le pe_int (pe_callB call_len rfl T.b_len (by decide +kernel) (pa_cons (pv 2) pa_nil)) pe_int) (pe_one (pe_callB (cr_all rfl) rfl T.b_all (by decide +kernel) (pa_cons (pe_lc (own := [("one", 8)]) (g := (gName 8)) rfl sc_call_even.nd (pi_list (pv 2)) (blkOk_by (own := [("one", 8)]) (N := N_call_even) (sc := defScope s_call_even) (by decide +kernel)) (fun _ _ _ _ _ => (pg_name (i := 8) sc_call_even.nd rfl (Or.inl rfl))) (fun _ _ _ _ _ => pts_nil) (fun _ _ _ _ _ => (pe_chain op_le op_le (pe_un un_neg (pe_gi rfl T.g_MOST_OFFSET)) (pv 8) (pe_gi rfl T.g_MOST_OFFSET)))) pa_nil)))) (pa_cons (pe_gi rfl T.g_NOT_SO) pa_nil))))
      (pss_cons (ps_expr (pe_c1 c_check hr (by decide) (passes_call (takes_of rfl rfl rfl rfl) (fun _ _ _ _ e => e)) rfl (pa_cons (pe_callB (cr_all rfl) rfl T.b_all (by decide +kernel) (pa_cons (pe_lc (own := [("one", 8), ("other", 9)]) (g := (gTup K 2 (gCons (gName 8) (gCons (gName 9) gNil)))) rfl sc_call_even.nd (pi_zip rfl T.b_zip (pa_cons (pv 2) (pa_cons (pe_slice sl_list (pv 2) (po_some pe_int) po_none) pa_nil))) (blkOk_by (own := [("one", 8), ("other", 9)]) (N := N_call_even) (sc := defScope s_call_even) (by decide +kernel)) (fun _ _ _ _ _ => (pg_tup rfl (pgs_cons (pg_name (i := 8) sc_call_even.nd rfl (Or.inl rfl)) (pgs_cons (pg_name (i := 9) sc_call_even.nd rfl (Or.inl rfl)) pgs_nil)))) (fun _ _ _ _ _ => pts_nil) (fun _ _ _ _ _ => (pe_cmpR op_lt (pv 8) (pv 9) (nomark _)))) pa_nil)) (pa_cons (pe_gi rfl T.g_NOT_SO) pa_nil))))
      (pss_cons (ps_expr (pe_c1 c_check hr (by decide) (passes_call (takes_of rfl rfl rfl rfl) (fun _ _ _ _ e => e)) rfl (pa_cons (pe_cmpR op_gt (pe_callB call_lenD rfl T.b_len (by decide +kernel) (pa_cons (pe_fld (pv 0) rfl) pa_nil)) pe_int (nomark _)) (pa_cons (pe_gi rfl T.g_AS_TOLD) pa_nil))))
      (pss_cons (ps_asg (pe_c1 c_evenest hr (by decide) pass0 rfl (pa_cons (pe_callB (call_sortedDI rfl) rfl T.b_sorted (by decide +kernel) (pa_cons (pe_fld (pv 0) rfl) pa_nil)) (pa_cons (pe_fld (pv 0) rfl) (pa_cons (pv 3) (pa_cons (pv 4) (pa_cons (pv 2) pa_nil)))))) (pg_tup rfl (pgs_cons (pg_name (i := 5) sc_call_even.nd rfl (Or.inl rfl)) (pgs_cons (pg_name (i := 6) sc_call_even.nd rfl (Or.inl rfl)) (pgs_cons (pg_name (i := 7) sc_call_even.nd rfl (Or.inl rfl)) pgs_nil)))))
      (pss_one (ps_ret (pe_op op_cat (pe_lst (pa_cons (pv 5) (pa_cons (pv 6) pa_nil))) (pe_callTy call_list_of rfl T.b_list (by decide +kernel) (pa_cons (pv 7) pa_nil))))))))))), ?_⟩), hm, F.kp, F.binds (ps := ["wire", "numbers", "row"]) fun _ _ _ _ _ _ us hl => match us, hl with | [_, _, _], _ => rfl⟩
  obtain ⟨L, w, an, ar, nums, row, c, rfl, W, O, hn, hr0, nn, nr, sh, k, e⟩ := h
  cases sh with
  | even h n _ hl8 =>
    have m60 := O.m60
    have s6 := O.s6
    obtain ⟨kvs, hsu, sok⟩ := W.sup
    have sl := sup_len sok O.sr
    have hn : H an = some (.lst [V.int (h : Int), V.int (n : Int)]) := hn
    have act0 : WearSpec.act w (.even h n row) = (w, if WearSpec.pan h n = false ∨ row = [] ∨ 4 < row.length ∨ row.any WearSpec.far = true ∨ WearSpec.rising row = false then WearSpec.says (-1) else match w.even h n row with
      | some y => WearSpec.tells (y.1.1 : Int) ((y.1.2 : Int) :: y.2)
      | none => WearSpec.says (-7)) := rfl
    walk_at "run"
    refine r_glst (SqL.of hn) rfl ?_
    walk_at "run"
    refine ⟨h, n, rfl, fun c1 => ?_, fun c1 => ?_⟩
    · obtain ⟨h1, h2, n1, n2⟩ := pan_iff.mp c1
      walk_at "run"
      refine r_andH ?_
      refine r_chain (a := 1) (b := (row.length : Int)) (d := 4) (p := fun i j => decide (i ≤ j)) (q := fun i j => decide (i ≤ j)) (by walk_at "val") ?_ (by walk_at "val") ?_
      · intro Q' q'
        walk_at "run"
        refine r_len (SqL.of hr0) ?_
        rw [List.length_map]; exact q'
      walk_at "run"
      refine iteB (fun c2 => ?_) fun c2 => ?_
      · simp only [Bool.and_eq_true, decide_eq_true_eq] at c2
        walk_at "run"
        refine ⟨ar, rfl, ⟨_, SqL.of hr0⟩, fun D hD => lc_it (walk_list (K := K) (a := ar) (xs := row.map V.int)) (fun i H2 => Same H H2 ∧ H2 D = some (.lst (((row.take i).map fun o => decide ((-400 : Int) ≤ o) && decide (o ≤ 400)).map V.bl))) ⟨Same.new hD, upd_same⟩ (fun i H2 _ p => SqL.of (p.1 _ _ hr0)) ?_ ?_⟩
        · rintro i x H2 H3 hi ⟨s2, hL2⟩ ⟨rfl, hx⟩
          obtain ⟨o, ho, rfl⟩ := map_get hx
          walk_at "run"
          refine ⟨rfl, ?_⟩
          walk_at "run"
          refine iteT ?_
          refine r_chain (a := -400) (b := o) (d := 400) (p := fun i j => decide (i ≤ j)) (q := fun i j => decide (i ≤ j)) (by walk_at "val") (by walk_at "val") (by walk_at "val") ?_
          refine ⟨_, hL2, ?_, Same.mut s2 hD, ?_⟩
          · rw [List.length_map, List.length_map, List.length_take]; exact sl60' (by omega)
          · rw [upd_same, take_succ_get ho, List.map_append, List.map_append]; rfl
        rintro H2 ⟨s2, hL2⟩
        rw [List.length_map, List.take_length] at hL2
        walk_at "run"
        refine ⟨D, _, rfl, SqL.of hL2, ?_⟩
        rw [all_id, far_all]
        walk_at "run"
        refine r_check (fun c3 => ?_) fun c3 => ?_
        · have c3 : row.any WearSpec.far = false := by simpa using c3
          walk_at "run"
          refine ⟨ar, _, rfl, SqL.of (s2 _ _ hr0), fun p1 hp1 => ?_⟩
          rw [cut_tail]
          have s3 := Same.mut (o := .lst (row.tail.map V.int)) s2 (s2.free hp1)
          have arp : ar ≠ p1 := ne_of_none (s2 _ _ hr0) hp1
          refine ⟨ar, p1, _, _, rfl, SqL.of (s3 _ _ hr0), SqL.of upd_same, fun D2 hD2 => ?_⟩
          have arD : ar ≠ D2 := ne_of_none (s3 _ _ hr0) hD2
          have pD : p1 ≠ D2 := ne_of_none upd_same hD2
          refine lc_it (walk_zip (K := K) (a := ar) (b := p1) (xs := row.map V.int) (ys := row.tail.map V.int) (n := (row.zip row.tail).length) (by rw [List.length_zip, List.length_map, List.length_map])) (fun i H4 => Same (upd H2 p1 (.lst (row.tail.map V.int))) H4 ∧ H4 D2 = some (.lst (((risesB row).take i).map V.bl))) ⟨Same.new hD2, upd_same⟩ (fun i H4 _ p => ⟨SqL.of (p.1 _ _ (s3 _ _ hr0 |> fun z => z)), SqL.of (p.1 _ _ upd_same)⟩) ?_ ?_
          · rintro i x H4 H5 hi ⟨s4, hL4⟩ ⟨T0, y, z, rfl, hT0, rfl, e1, e2⟩
            obtain ⟨a, ha, rfl⟩ := map_get e1
            obtain ⟨b, hb, rfl⟩ := map_get e2
            refine r_gtup (SqT.of upd_same) rfl ?_
            walk_at "run"
            refine ⟨rfl, ?_⟩
            walk_at "run"
            refine iteT ?_
            walk_at "run"
            have nDT : D2 ≠ T0 := ne_of_none hL4 hT0
            refine ⟨_, by rw [upd_ne nDT]; exact hL4, ?_, Same.mut (s4.trans (Same.new hT0)) hD2, ?_⟩
            · rw [List.length_map, List.length_take]; exact sl60' (by unfold risesB; rw [List.length_map, List.length_zip]; omega)
            · have hz : (risesB row)[i]? = some (decide (a < b)) := by
                unfold risesB
                rw [List.getElem?_map, List.getElem?_zip_eq_some.mpr (show row[i]? = some (a, b).1 ∧ row.tail[i]? = some (a, b).2 from ⟨ha, hb⟩)]; rfl
              rw [upd_same, take_succ_get hz, List.map_append]; rfl
          rintro H4 ⟨s4', hL4⟩
          have s4 := s3.trans s4'
          have er : (risesB row).take (row.zip row.tail).length = risesB row := List.take_of_length_le (by unfold risesB; rw [List.length_map]; exact Nat.le_refl _)
          rw [er] at hL4
          walk_at "run"
          refine ⟨D2, _, rfl, SqL.of hL4, ?_⟩
          rw [rises_is]
          walk_at "run"
          refine r_check (fun c4 => ?_) fun c4 => ?_
          · have rne : row ≠ [] := fun z => by
              rw [z] at c2
              have : (1 : Int) ≤ ((([] : List Int).length : Nat) : Int) := c2.1
              simp at this
            rw [if_neg (by
              rintro (z | z | z | z | z)
              · rw [c1] at z; cases z
              · exact rne z
              · omega
              · rw [c3] at z; cases z
              · rw [c4] at z; cases z)] at act0
            walk_at "run"
            refine fl_supports T (W.same s4) ?_
            refine ⟨L.su, kvs, rfl, s4 _ _ hsu, ?_⟩
            rw [sl]
            walk_at "run"
            refine r_check (fun c5 => ?_) fun c5 => ?_
            · have c5 := of_decide_eq_true c5
              have sne : w.supports ≠ [] := fun z => by rw [z] at c5; exact absurd c5 (by decide)
              have hev : w.even h n row = bestOf (worths w.supports w.places.length h n row) := by
                show (if w.supports = [] then none else bestOf _) = _
                rw [if_neg sne]; rfl
              rw [hev] at act0
              walk_at "run"
              refine fl_supports T (W.same s4) ?_
              obtain ⟨ks, k1, k2, k3⟩ := sup_sorted sok O.sr s6
              refine ⟨L.su, kvs, ks, rfl, .inl (s4 _ _ hsu), k1, k2, fun ys p5 e1 e2 hp5 => ?_⟩
              rw [k3 ys e1 e2]
              have s5 := Same.mut (o := .lst (natsV (w.supports.map (·.1)))) s4 (s4.free hp5)
              walk_at "run"
              refine fl_many T (W.same s5) ?_
              walk_at "run"
              refine ⟨p5, ar, w.supports, w.places.length, h, n, row, rfl, SqL.of upd_same, SqL.of (s5 _ _ hr0), O.sr, sne, s6, fun y hy => (O.sp y hy).1, O.m2, m60, h1, h2, n1, n2, rne, by omega, up_of_rising c4, ?_, fun H6 p6 q6 y hy hyl s6' hp6 hH6 hQ6 => ?_⟩
              · intro o ho
                have := List.any_eq_false.mp c3 o ho
                rw [far_is] at this
                simp at this
                omega
              rw [hy] at act0
              have s6 := s5.trans s6'
              refine r_gtup (SqT.of hH6) rfl ?_
              walk_at "run"
              refine ⟨sl60 (by show 2 ≤ 100000; decide), fun p7 hp7 => ?_⟩
              have s7 := Same.mut (o := .lst [V.int (y.1.1 : Int), V.int (y.1.2 : Int)]) s6 (s6.free hp7)
              walk_at "run"
              refine ⟨q6, _, rfl, .inr (SqT.of (by rw [upd_ne (ne_of_none hQ6 hp7)]; exact hQ6)), fun p8 hp8 => ?_⟩
              have s8 := Same.mut (o := .lst (y.2.map V.int)) s7 (s7.free hp8)
              have n78 : p7 ≠ p8 := ne_of_none upd_same hp8
              refine ⟨p7, p8, [V.int (y.1.1 : Int), V.int (y.1.2 : Int)], y.2.map V.int, rfl, rfl, by rw [upd_ne n78]; exact upd_same, upd_same, sl60 (by rw [List.length_map, hyl]; show 2 + _ ≤ _; omega), ?_⟩
              exact (ok_new (xs := (y.1.1 : Int) :: (y.1.2 : Int) :: y.2) k act0 (by simp) (W.same s8) (Same.only s8) (by rw [List.length_map]; show y.2.length + 1 + 1 ≤ _; omega)).2
            · have c5 := of_decide_eq_false c5
              have sn : w.supports = [] := List.length_eq_zero_iff.mp (by omega)
              have hev : w.even h n row = none := by
                show (if w.supports = [] then none else bestOf _) = _
                rw [if_pos sn]
              rw [hev] at act0
              exact leaves_of e s4 act0
          · rw [if_pos (Or.inr (Or.inr (Or.inr (Or.inr c4))))] at act0
            exact leaves_of e s4 act0
        · rw [if_pos (Or.inr (Or.inr (Or.inr (Or.inl (by simpa using c3)))))] at act0
          exact leaves_of e s2 act0
      · walk_at "run"
        refine r_check (fun z => by cases z) fun _ => ?_
        simp only [Bool.and_eq_false_iff, decide_eq_false_iff_not] at c2
        rw [if_pos (by
          rcases c2 with z | z
          · exact Or.inr (Or.inl (List.length_eq_zero_iff.mp (by omega)))
          · exact Or.inr (Or.inr (Or.inl (by omega))))] at act0
        exact leaves_of e (Same.refl H) act0
    · rw [if_pos (Or.inl c1)] at act0
      exact leaves_of e (Same.refl H) act0
abbrev s_call_lay : Stmt := topS 52
abbrev N_call_lay : List Str := ["wire", "numbers", "row", "place", "offset", "one"]
theorem sc_call_lay : FnScope N_call_lay ["wire", "numbers", "row"] (defScope s_call_lay) := ⟨rfl, rfl, rfl, by decide +kernel, rfl, by decide +kernel, by decide +kernel⟩
set_option maxHeartbeats 4000000 in
theorem cal_call_lay (T : Txt K mg A) (D : Def1 K mg "call_lay" s_call_lay) (c_check : Call1 P wd K mg base (L2.CX P wd) 3 "check" (spCheck A)) : Call1 P wd K mg base (L2.CX P wd) 4 "call_lay" (spCall A 25) := by
  obtain ⟨f, fd, F, hm⟩ := D.ex
  refine ⟨f, fd, ["wire", "numbers", "row"], F.okX (k := 3) sc_call_lay (fun vs H Q E h => by obtain ⟨_, _, _, _, _, _, _, rfl, _⟩ := h; rfl) (fun cdv AA outer s H vs Q E hr h => ⟨_, (pss_cons (ps_expr (pe_c1 c_check hr (by decide) (passes_call (takes_of rfl rfl rfl rfl) (fun _ _ _ _ e => e)) rfl (pa_cons (pe_and (pe_cmpR op_eq (pe_callB call_len rfl T.b_len (by decide +kernel) (pa_cons (pv 2) pa_nil)) (pe_callB call_lenD rfl T.b_len (by decide +kernel) (pa_cons (pe_fld (pv 0) rfl) pa_nil)) (nomark _)) (pe_one (pe_callB (cr_all rfl) rfl T.b_all (by decide +kernel) (pa_cons (pe_lc (own := [("one", 5)]) (g := (gName 5)) rfl sc_call_lay.nd (pi_list (pv 2)) (blkOk_by (own := [("one", 5)]) (N := N_call_lay) (sc := defScope s_call_lay) (by decide +kernel)) (fun _ _ _ _ _ => (pg_name (i := 5) sc_call_lay.nd rfl (Or.inl rfl))) (fun _ _ _ _ _ => pts_nil) (fun _ _ _ _ _ => (pe_chain op_le op_le (pe_un un_neg (pe_gi rfl T.g_MOST_OFFSET)) (pv 5) (pe_gi rfl T.g_MOST_OFFSET)))) pa_nil)))) (pa_cons (pe_gi rfl T.g_NOT_SO) pa_nil))))
      (PSs.nox (pss_cons (ps_for PassesOwn.never rfl (pi_zip rfl T.b_zip (pa_cons (pe_callB (call_sortedDI rfl) rfl T.b_sorted (by decide +kernel) (pa_cons (pe_fld (pv 0) rfl) pa_nil)) (pa_cons (pv 2) pa_nil))) (pg_tup rfl (pgs_cons (pg_name (i := 3) sc_call_lay.nd rfl (Or.inl rfl)) (pgs_cons (pg_name (i := 4) sc_call_lay.nd rfl (Or.inl rfl)) pgs_nil)))
      (pss_one (ps_dput (hu_of hr) (pe_fld (pv 0) rfl) (pv 3) (pv 4) rfl)))
      (pss_one (ps_ret (pe_lst (pa_cons pe_int pa_nil))))))), ?_⟩), hm, F.kp, F.binds (ps := ["wire", "numbers", "row"]) fun _ _ _ _ _ _ us hl => match us, hl with | [_, _, _], _ => rfl⟩
  obtain ⟨L, w, an, ar, nums, row, c, rfl, W, O, hn, hr0, nn, nr, sh, k, e⟩ := h
  cases sh with
  | lay _ hl8 =>
    have m60 := O.m60
    have s6 := O.s6
    obtain ⟨kvs, hsu, sok⟩ := W.sup
    have sl := sup_len sok O.sr
    have act0 : WearSpec.act w (.lay row) = if row.length ≠ w.supports.length ∨ row.any WearSpec.far = true then (w, WearSpec.says (-1)) else ({ w with supports := laidBy w.supports row }, WearSpec.says 0) := rfl
    walk_at "run"
    refine r_andH ?_
    walk_at "run"
    refine r_len (SqL.of hr0) ?_
    rw [List.length_map]
    walk_at "run"
    refine fl_supports T W ?_
    refine ⟨L.su, kvs, rfl, hsu, ?_⟩
    rw [sl]
    walk_at "run"
    have ed : (decide (V.int (row.length : Int) = V.int (w.supports.length : Int))) = decide (row.length = w.supports.length) := by
      by_cases q : row.length = w.supports.length
      · rw [decide_eq_true q, q]; exact decide_eq_true rfl
      · rw [decide_eq_false q]; exact decide_eq_false fun z => q (by have := V.int.inj z; omega)
    rw [ed]
    refine iteD (fun c1 => ?_) fun c1 => ?_
    · walk_at "run"
      refine ⟨ar, rfl, ⟨_, SqL.of hr0⟩, fun D hD => lc_it (walk_list (K := K) (a := ar) (xs := row.map V.int)) (fun i H2 => Same H H2 ∧ H2 D = some (.lst (((row.take i).map fun o => decide ((-400 : Int) ≤ o) && decide (o ≤ 400)).map V.bl))) ⟨Same.new hD, upd_same⟩ (fun i H2 _ p => SqL.of (p.1 _ _ hr0)) ?_ ?_⟩
      · rintro i x H2 H3 hi ⟨s2, hL2⟩ ⟨rfl, hx⟩
        obtain ⟨o, ho, rfl⟩ := map_get hx
        walk_at "run"
        refine ⟨rfl, ?_⟩
        walk_at "run"
        refine iteT ?_
        refine r_chain (a := -400) (b := o) (d := 400) (p := fun i j => decide (i ≤ j)) (q := fun i j => decide (i ≤ j)) (by walk_at "val") (by walk_at "val") (by walk_at "val") ?_
        refine ⟨_, hL2, ?_, Same.mut s2 hD, ?_⟩
        · rw [List.length_map, List.length_map, List.length_take]; exact sl60' (by omega)
        · rw [upd_same, take_succ_get ho, List.map_append, List.map_append]; rfl
      rintro H2 ⟨s2, hL2⟩
      rw [List.length_map, List.take_length] at hL2
      walk_at "run"
      refine ⟨D, _, rfl, SqL.of hL2, ?_⟩
      rw [all_id, far_all]
      walk_at "run"
      refine r_check (fun c2 => ?_) fun c2 => ?_
      · rw [if_neg (by
          rintro (z | z)
          · exact z c1
          · rw [z] at c2; exact absurd c2 (by decide))] at act0
        walk_at "run"
        have W2 := W.same s2
        obtain ⟨ks, k1, k2, k3⟩ := sup_sorted sok O.sr s6
        refine fl_supports T W2 ?_
        refine ⟨L.su, kvs, ks, rfl, .inl (s2 _ _ hsu), k1, k2, fun ys p1 e1 e2 hp1 => ?_⟩
        rw [k3 ys e1 e2]
        walk_at "run"
        have s3 := Same.mut (o := .lst (natsV (w.supports.map (·.1)))) s2 (s2.free hp1)
        have s23 : Same H2 (upd H2 p1 (.lst (natsV (w.supports.map (·.1))))) := Same.new hp1
        refine ⟨p1, ar, _, _, rfl, SqL.of upd_same, SqL.of (s3 _ _ hr0), ?_⟩
        have hlz : ((natsV (w.supports.map (·.1))).length) = w.supports.length := by rw [natsV_length, List.length_map]
        have hll := laid_length w.supports row c1
        have arsu : ar ≠ L.su := fun z => nr (by rw [z]; exact own_su)
        refine for_it (walk_zip (K := K) (a := p1) (b := ar) (xs := natsV (w.supports.map (·.1))) (ys := row.map V.int) (n := w.supports.length) (by rw [hlz, List.length_map]; omega)) (fun i σ H' => ∃ v3 v4, σ = [some (.ref L.a), some (.ref an), some (.ref ar), v3, v4, none] ∧ Only [L.su] (upd H2 p1 (.lst (natsV (w.supports.map (·.1))))) H' ∧ ∃ kvs, H' L.su = some (.dK kvs) ∧ kvs.length ≤ 6 + i ∧ SupOk kvs (((laidBy w.supports row).take i).foldl (fun row y => putSupport y.1 y.2 row) w.supports)) ?_ ?_ ?_ ?_
        · exact ⟨none, none, rfl, Only.refl _ _, kvs, s3 _ _ hsu, by omega, sok⟩
        · rintro i σ H' _ ⟨_, _, _, o1, _⟩
          exact ⟨SqL.of (o1 _ _ upd_same (by simpa using (ne_of (s3 _ _ hsu) upd_same (by intro z; cases z)).symm)), SqL.of (o1 _ _ (s3 _ _ hr0) (by simpa using arsu))⟩
        · rintro i x σ H4 H5 hi ⟨v3, v4, rfl, o1, kvs4, hk4, z4, sk4⟩ ⟨T0, y, z, rfl, hT0, rfl, e1, e2⟩
          obtain ⟨a0, ha0, rfl⟩ := map_get e1
          obtain ⟨a, ha, rfl⟩ := map_get ha0
          obtain ⟨o, ho, rfl⟩ := map_get e2
          have W4 : WireAt A.CW L H4 _ := wire_only W s3 o1 hk4 sk4
          refine r_gtup (SqT.of upd_same) rfl ?_
          walk_at "run"
          refine fl_supports T (W4.same (Same.new hT0)) ?_
          walk_at "run"
          have nT : L.su ≠ T0 := ne_of_none hk4 hT0
          refine ⟨L.su, _, rfl, DPut.k (k := Sum.inl (a.1 : Int)) (kvs := kvs4) (by rw [upd_ne nT]; exact hk4) (sl60' (by omega)), ?_⟩
          refine ⟨_, _, rfl, Only.setp (Only.then o1 (Only.new (Only.refl _ _) hT0)) (by simp), _, upd_same, ?_, ?_⟩
          · have := length_putK kvs4 (Sum.inl (a.1 : Int)) (.int o)
            omega
          · rw [take_succ_get (laid_get ha ho), List.foldl_append]
            exact sk4.put a.1 o
        rintro σ H4 ⟨v3, v4, rfl, o1, kvs4, hk4, z4, sk4⟩
        rw [← hll, List.take_length, fold_laid O.sr c1] at sk4
        have W4 : WireAt A.CW L H4 _ := wire_only W s3 o1 hk4 sk4
        walk_at "run"
        exact ok_new (xs := [0]) k act0 (by simp) W4 (Only.then (Same.only s3) (fun b o eb hb => o1 b o eb (by simp only [List.mem_singleton]; intro z; exact hb (by rw [z]; exact own_su)))) (by show 1 ≤ 100000; decide)
      · rw [if_pos (Or.inr (by simpa using c2))] at act0
        exact leaves_of e s2 act0
    · walk_at "run"
      refine r_check (fun z => by cases z) fun _ => ?_
      rw [if_pos (Or.inl c1)] at act0
      exact leaves_of e (Same.refl H) act0
abbrev s_call_begin : Stmt := topS 53
abbrev N_call_begin : List Str := ["wire", "numbers", "row"]
theorem sc_call_begin : FnScope N_call_begin ["wire", "numbers", "row"] (defScope s_call_begin) := ⟨rfl, rfl, rfl, by decide +kernel, rfl, by decide +kernel, by decide +kernel⟩
set_option maxHeartbeats 4000000 in
theorem cal_call_begin (T : Txt K mg A) (D : Def1 K mg "call_begin" s_call_begin) : Call1 P wd K mg base (L2.CX P wd) 1 "call_begin" spBegin := by
  obtain ⟨f, fd, F, hm⟩ := D.ex
  refine ⟨f, fd, ["wire", "numbers", "row"], F.okX (k := 0) sc_call_begin (fun vs H Q E h => by obtain ⟨_, _, _, rfl, _⟩ := h; rfl) (fun cdv AA outer s H vs Q E hr h => ⟨_, (pss_one (ps_ret (pe_lst (pa_cons pe_int pa_nil)))), ?_⟩), hm, F.kp, F.binds (ps := ["wire", "numbers", "row"]) fun _ _ _ _ _ _ us hl => match us, hl with | [_, _, _], _ => rfl⟩
  obtain ⟨x, y, z, rfl, q⟩ := h
  walk_at "run"
  exact ⟨sl60 (by show 1 ≤ 100000; decide), fun p hp => q _ p (Same.new hp) hp upd_same⟩
abbrev s_called : Stmt := topS 57
abbrev N_called : List Str := ["holder", "deed", "numbers", "row", "many", "left", "do_it"]
theorem sc_called : FnScope N_called ["holder", "deed", "numbers", "row"] (defScope s_called) := ⟨rfl, rfl, rfl, by decide +kernel, rfl, by decide +kernel, by decide +kernel⟩
set_option maxHeartbeats 4000000 in
theorem cal_called (T : Txt K mg A) (D : Def1 K mg "called" s_called) (c_Wire_init : Make1 P wd K mg base 1 A.CW "Wire" (spInitW A)) (c_check : Call1 P wd K mg base (L2.CX P wd) 3 "check" (spCheck A)) (A_called : ∀ f sp, DeedAt A mg f sp → HeldX P wd K mg base 6 f sp) : Call1 P wd K mg base (L2.CX P wd) 7 "called" (spCalled A) := by
  obtain ⟨f, fd, F, hm⟩ := D.ex
  refine ⟨f, fd, ["holder", "deed", "numbers", "row"], F.okX (k := 6) sc_called (fun vs H Q E h => by obtain ⟨_, _, _, _, _, _, _, _, _, _, rfl, _⟩ := h; rfl) (fun cdv AA outer s H vs Q E hr h => ⟨_, (pss_cons (ps_if (pt_cmpR op_eq (pv 1) pe_int (nomark _)) (pss_cons (ps_asg (pv 2) (pg_lst rfl (pgs_cons (pg_name (i := 4) sc_called.nd rfl (Or.inl rfl)) (pgs_cons (pg_name (i := 5) sc_called.nd rfl (Or.inl rfl)) pgs_nil))))
      (pss_cons (ps_expr (pe_c1 c_check hr (by decide) (passes_call (takes_of rfl rfl rfl rfl) (fun _ _ _ _ e => e)) rfl (pa_cons (pe_and (pe_chain op_le op_le pe_int (pv 4) pe_int) (pe_one (pe_cmpR op_le (pv 5) (pe_gi rfl T.g_MILLION) (nomark _)))) (pa_cons (pe_gi rfl T.g_NOT_SO) pa_nil))))
      (pss_one (ps_fld (pv 0) (pe_mk1 c_Wire_init hr (by decide) rfl (pa_cons (pv 4) (pa_cons (pv 5) pa_nil))) rfl)))) pss_nil)
      (pss_cons (ps_expr (pe_c1 c_check hr (by decide) (passes_call (takes_of rfl rfl rfl rfl) (fun _ _ _ _ e => e)) rfl (pa_cons (pe_cmpR op_notN (pe_fld (pv 0) rfl) pe_non (nomark _)) (pa_cons (pe_gi rfl T.g_NOT_BEGUN) pa_nil))))
      (pss_cons (ps_set (i := 6) sc_called.nd rfl (Or.inl rfl) (pe_ix ix_tup (pe_glob (v := .ref A.tD) rfl T.g_DEEDS rfl) (pv 1) (fun _ _ => rfl)))
      (pss_one (ps_ret (pe_callAX (i := 6) A_called hr rfl (Or.inl rfl) (passes_call (takes_of rfl rfl rfl rfl) (fun _ _ _ _ e => e)) (pa_cons (pe_fld (pv 0) rfl) (pa_cons (pv 2) (pa_cons (pv 3) pa_nil))))))))), ?_⟩), hm, F.kp, F.binds (ps := ["holder", "deed", "numbers", "row"]) fun _ _ _ _ _ _ us hl => match us, hl with | [_, _, _, _], _ => rfl⟩
  obtain ⟨ho, dx, an, ar, S, s, i, nums, row, c, rfl, hh, hn, hr0, nan, nar, sh, k, e⟩ := h
  have hlt := sh.lt
  obtain ⟨fs, fd0, hfs, hfat, hD⟩ := deed_at T hlt
  obtain ⟨v0, hf0⟩ := hh.field
  cases sh with
  | begin_ m d =>
    have hn : H an = some (.lst [V.int (m : Int), V.int (d : Int)]) := hn
    have st0 : WearSpec.step s (.begin_ m d) = if m < 2 ∨ 60 < m ∨ WearSpec.DEPTH < d then (s, WearSpec.says (-1)) else (some (laid m d), WearSpec.says 0) := rfl
    unfold WearSpec.DEPTH at st0
    walk_at "run"
    refine iteD (fun _ => ?_) fun z => absurd rfl z
    walk_at "run"
    refine r_glst (SqL.of hn) rfl ?_
    walk_at "run"
    refine r_andV (a := decide ((2 : Int) ≤ (m : Int)) && decide ((m : Int) ≤ 60)) (b := decide ((d : Int) ≤ 1000000)) (fun Q' q' => r_chain (p := fun i j => decide (i ≤ j)) (q := fun i j => decide (i ≤ j)) (by walk_at "val") (by walk_at "val") (by walk_at "val") q') (fun _ => by walk_at "val") ?_
    walk_at "run"
    refine r_check (fun c1 => ?_) fun c1 => ?_
    · simp only [Bool.and_eq_true, decide_eq_true_eq] at c1
      rw [if_neg (by omega)] at st0
      walk_at "run"
      refine r_make ?_
      walk_at "run"
      intro x dx2 hx hdx hxd
      have sI : Same H (upd (upd H dx2 (.own x)) x (.ins A.CW dx2 [])) := Same.mut (Same.new hdx) hx
      refine ⟨x, dx2, m, d, rfl, by omega, by omega, upd_same, fun H1 L eL W own o1 => ⟨rfl, ?_⟩⟩
      have hown : ∀ b ∈ L.own, H b = none := fun b hb => by
        by_cases eb : b = x
        · rw [eb]; exact hx
        · exact sI.free (own b hb eb)
      have hoS : ho ∉ L.own := fun z => by have := hown _ z; rw [hf0] at this; cases this
      have hox : ho ≠ x := ne_of_none hf0 hx
      have hf1 : H1 ho = some (.ins A.CH dx [("wire", v0)]) := o1 _ _ (sI _ _ hf0) (by simpa using hox)
      walk_at "run"
      refine ⟨ho, A.CH, dx, _, rfl, hf1, T.clH, T.nH_wire, by show 1 < 1000; decide, ?_⟩
      rw [put_here]
      have W1 : WireAt A.CW L (upd H1 ho (.ins A.CH dx [("wire", .ref x)])) (laid m d) := wire_other W hf1 (by intro _ z; cases z) hoS
      walk_at "run"
      refine ⟨ho, A.CH, dx, _, _, rfl, upd_same, T.clH, T.nH_wire, lk_here, ?_⟩
      walk_at "run"
      refine ⟨rfl, ?_⟩
      walk_at "run"
      refine r_check (fun _ => ?_) fun z => by cases z
      walk_at "run"
      refine r_ixt (hfs _) hfat ?_
      walk_at "run"
      refine r_callAX (f := fd0) (sp := spBegin) (by with_unfolding_all rfl) hD ?_
      walk_at "run"
      refine ⟨ho, A.CH, dx, _, _, rfl, upd_same, T.clH, T.nH_wire, lk_here, ?_⟩
      walk_at "run"
      refine ⟨_, _, _, rfl, fun H2 p s2 hp hp2 => ?_⟩
      have oS : Only S H (upd H1 ho (.ins A.CH dx [("wire", .ref x)])) := fun b u eb hb => by
        rw [upd_ne (fun z => hb (by rw [z]; exact hh.mem))]
        exact o1 _ _ (sI _ _ eb) (by simpa using ne_of_none eb hx)
      refine k H2 (ho :: L.own) p ?_ (Only.then oS (Same.only s2)) ?_ ?_ ?_
      · rw [st0]
        refine HoldAt.same s2 ?_
        exact ⟨L, by rw [upd_same, eL], W1, laid_ok (by omega) (by omega) (by omega), hoS, rfl⟩
      · intro b hb
        rcases List.mem_cons.mp hb with z | z
        · exact Or.inl (by rw [z]; exact hh.mem)
        · exact Or.inr (hown b z)
      · cases eb : H p with
        | none => rfl
        | some u =>
          exfalso
          by_cases hpS : p ∈ S
          · by_cases e1 : p = ho
            · rw [e1, upd_same] at hp; cases hp
            · have := o1 _ _ (sI _ _ eb) (by simpa using ne_of_none eb hx)
              rw [upd_ne e1, this] at hp; cases hp
          · rw [oS _ _ eb hpS] at hp; cases hp
      · rw [st0]; exact hp2
    · rw [if_pos (by
        simp only [Bool.and_eq_false_iff, decide_eq_false_iff_not] at c1
        omega)] at st0
      exact fun d1 hd1 => e _ d1 (-1) st0 (Same.new hd1) hd1 upd_same
  | other shp =>
    have i1 := shp.pos.1
    have hD' : DeedAt A mg fd0 (spCall A i) := by
      have : deedSp A i = spCall A i := if_neg (by omega)
      rw [← this]; exact hD
    walk_at "run"
    refine iteD (fun z => ?_) fun _ => ?_
    · have := V.int.inj z
      omega
    cases s with
    | none =>
      obtain ⟨h1, _⟩ := hh
      walk_at "run"
      refine ⟨ho, A.CH, dx, _, _, rfl, h1, T.clH, T.nH_wire, lk_here, ?_⟩
      walk_at "run"
      refine ⟨rfl, ?_⟩
      walk_at "run"
      refine r_check (fun z => by cases z) fun _ => ?_
      exact fun d1 hd1 => e _ d1 (-2) (step_none shp) (Same.new hd1) hd1 upd_same
    | some w =>
      obtain ⟨L, h1, W, O, hoS, eS⟩ := hh
      have st0 := step_some shp w
      walk_at "run"
      refine ⟨ho, A.CH, dx, _, _, rfl, h1, T.clH, T.nH_wire, lk_here, ?_⟩
      walk_at "run"
      refine ⟨rfl, ?_⟩
      walk_at "run"
      refine r_check (fun _ => ?_) fun z => by cases z
      walk_at "run"
      refine r_ixt (hfs _) hfat ?_
      walk_at "run"
      refine r_callAX (f := fd0) (sp := spCall A i) (by with_unfolding_all rfl) hD' ?_
      walk_at "run"
      refine ⟨ho, A.CH, dx, _, _, rfl, h1, T.clH, T.nH_wire, lk_here, ?_⟩
      walk_at "run"
      refine ⟨L, w, an, ar, nums, row, c, rfl, W, O, hn, hr0, fun z => nan (by rw [eS]; exact List.mem_cons_of_mem _ z), fun z => nar (by rw [eS]; exact List.mem_cons_of_mem _ z), shp, fun H2 p W2 o2 hp hp2 => ?_, fun H2 d z ea s2 hd hd2 => ?_⟩
      · refine k H2 S p ?_ ?_ (Grow.refl S H) hp (by rw [st0]; exact hp2)
        · rw [st0]
          exact ⟨L, o2 _ _ h1 hoS, W2, act_ok O c, hoS, eS⟩
        · exact fun b u eb hb => o2 b u eb fun z => hb (by rw [eS]; exact List.mem_cons_of_mem _ z)
      · exact e H2 d z (by rw [st0, ea]) s2 hd hd2
abbrev s_answered : Stmt := topS 58
abbrev N_answered : List Str := ["holder", "deed", "numbers", "row", "stop"]
theorem sc_answered : FnScope N_answered ["holder", "deed", "numbers", "row"] (defScope s_answered) := ⟨rfl, rfl, rfl, by decide +kernel, rfl, by decide +kernel, by decide +kernel⟩
set_option maxHeartbeats 4000000 in
theorem cal_answered (T : Txt K mg A) (D : Def1 K mg "answered" s_answered) (c_called : Call1 P wd K mg base (L2.CX P wd) 7 "called" (spCalled A)) : Call1 P wd K mg base CX0 8 "answered" (spAnswered A) := by
  obtain ⟨f, fd, F, hm⟩ := D.ex
  refine ⟨f, fd, ["holder", "deed", "numbers", "row"], F.ok (k := 7) sc_answered (fun vs H Q E h => by obtain ⟨_, _, _, _, _, _, _, _, _, _, rfl, _⟩ := h; rfl) (fun cdv AA outer s H vs Q E hr h => ⟨_, (pss_one (ps_try_as (i := 4) (tb := fun W => tRet (tCallS (spCalled A) (WE W) (tCons (tVar 0) (tCons (tVar 1) (tCons (tVar 2) (tCons (tVar 3) tNil)))))) (ts := fun a cls d => tRet (tLst (tCons (tByLow A.CS a cls d (tVar 4)) tNil))) (Wout := fun _ _ _ _ => False) rfl rfl sc_answered.nd rfl rfl ⟨rfl, by decide, Or.inl T.low.gC⟩ takes0
      (fun W pn xe tk _ => pss_one (ps_ret (by exact (pe_c1S c_called hr (by decide) (fun σ => passAt tk σ) rfl (by exact (pa_cons (pv 0) (pa_cons (pv 1) (pa_cons (pv 2) (pa_cons (pv 3) pa_nil)))))))))
      (fun a oe cls d pn hz hf => pss_one (ps_ret (by exact (pe_lst (pa_cons (pe_byLow T.low hz hf (pv 4)) pa_nil))))))), ?_⟩), hm, F.kp, F.binds (ps := ["holder", "deed", "numbers", "row"]) fun _ _ _ _ _ _ us hl => match us, hl with | [_, _, _, _], _ => rfl⟩
  obtain ⟨ho, dx, an, ar, S, s, i, nums, row, c, rfl, hh, hn, hr0, nan, nar, sh, k⟩ := h
  refine r_ret ?_
  refine r_callS ?_
  walk_at "run"
  refine ⟨ho, dx, an, ar, S, s, i, nums, row, c, rfl, hh, hn, hr0, nan, nar, sh, k, fun H1 d z es s1 hd hd1 => ?_⟩
  refine ⟨true, T.low.te, fun _ a0 _ => ?_, fun q => Bool.noConfusion q⟩
  walk_at "run"
  refine ⟨_, rfl, rfl, rfl, d, _, rfl, hd1, ?_⟩
  walk_at "run"
  refine ⟨sl60 (by show 1 ≤ 100000; decide), fun p hp => ?_⟩
  have hp0 := s1.free hp
  refine k _ S p ?_ (Same.only (Same.mut s1 hp0)) (Grow.refl S H) hp0 ?_
  · rw [es]; exact HoldAt.same (Same.mut s1 hp0) hh
  · rw [es]; exact upd_same
abbrev s_answers : Stmt := topS 59
abbrev N_answers : List Str := ["calls", "holder", "found", "at", "deed", "behind", "numbers", "row", "many", "told"]
theorem sc_answers : FnScope N_answers ["calls"] (defScope s_answers) := ⟨rfl, rfl, rfl, by decide +kernel, rfl, by decide +kernel, by decide +kernel⟩
set_option maxHeartbeats 4000000 in
theorem cal_answers (T : Txt K mg A) {f : Addr} {fd : FuncData} (F : Fun K "answers" "answers" s_answers f fd) (c_Holder_init : Make1 P wd K mg base 1 A.CH "Holder" (spInitH A)) (c_answered : Call1 P wd K mg base CX0 8 "answered" (spAnswered A)) : FnOk P wd K mg base CX0 9 f fd ["calls"] (spAns K) := by
  refine F.ok (k := 8) sc_answers (fun vs H Q E h => by obtain ⟨_, _, rfl, _⟩ := h; rfl) (fun cdv AA outer s H vs Q E hr h => ⟨_, (pss_cons (ps_set (i := 1) sc_answers.nd rfl (Or.inl rfl) (pe_mk1n c_Holder_init hr (by decide) rfl))
      (pss_cons (ps_set (i := 2) sc_answers.nd rfl (Or.inl rfl) (pe_lst pa_nil))
      (pss_cons (ps_set (i := 3) sc_answers.nd rfl (Or.inl rfl) pe_int)
      (pss_cons (ps_while PassesOwn.never (pt_cmpR op_lt (pv 3) (pe_callB call_len rfl T.b_len (by decide +kernel) (pa_cons (pv 0) pa_nil)) (nomark _))
      (pss_cons (ps_set (i := 4) sc_answers.nd rfl (Or.inl rfl) (pe_ix ix_list (pv 0) (pv 3) (fun _ _ => rfl)))
      (pss_cons (ps_set (i := 5) sc_answers.nd rfl (Or.inl rfl) (pe_op op_add (pe_op op_add (pv 3) pe_int) (pe_ix ix_tup (pe_glob (v := .ref A.tN) rfl T.g_NUMBERS rfl) (pv 4) (fun _ _ => rfl))))
      (pss_cons (ps_set (i := 6) sc_answers.nd rfl (Or.inl rfl) (pe_slice sl_list (pv 0) (po_some (pe_op op_add (pv 3) pe_int)) (po_some (pv 5))))
      (pss_cons (ps_set (i := 7) sc_answers.nd rfl (Or.inl rfl) (pe_lst pa_nil))
      (pss_cons (ps_if (pt_cmpR op_in_seq (pv 4) (pe_glob (v := .ref A.tW) rfl T.g_WITH_ROW rfl) rfl) (pss_cons (ps_set (i := 8) sc_answers.nd rfl (Or.inl rfl) (pe_ix ix_list (pv 0) (pv 5) (fun _ _ => rfl)))
      (pss_cons (ps_set (i := 7) sc_answers.nd rfl (Or.inl rfl) (pe_slice sl_list (pv 0) (po_some (pe_op op_add (pv 5) pe_int)) (po_some (pe_op op_add (pe_op op_add (pv 5) pe_int) (pv 8)))))
      (pss_one (ps_set (i := 5) sc_answers.nd rfl (Or.inl rfl) (pe_op op_add (pe_op op_add (pv 5) pe_int) (pv 8)))))) pss_nil)
      (pss_cons (ps_set (i := 9) sc_answers.nd rfl (Or.inl rfl) (pe_c1 c_answered hr (by decide) pass0 rfl (pa_cons (pv 1) (pa_cons (pv 4) (pa_cons (pv 6) (pa_cons (pv 7) pa_nil))))))
      (pss_cons (ps_expr (pe_bm PySem.F.plainAttrs_list PySem.F.slot_list_append PySem.F.type_list_append mt_append (pv 2) (pa_cons (pe_callB call_len rfl T.b_len (by decide +kernel) (pa_cons (pv 9) pa_nil)) pa_nil)))
      (pss_cons (ps_expr (pe_bm PySem.F.plainAttrs_list PySem.F.slot_list_extend PySem.F.type_list_extend mt_extend (pv 2) (pa_cons (pv 9) pa_nil)))
      (pss_one (ps_set (i := 3) sc_answers.nd rfl (Or.inl rfl) (pv 5))))))))))))
      (pss_one (ps_ret (pv 2))))))), ?_⟩)
  obtain ⟨a, ns, rfl, hS, hl, hask, k⟩ := h
  obtain ⟨rest0, big⟩ := rest_start hask
  have sz : (10000000 : Nat) ≤ sizeLine := by rw [sizeLine_eq]; decide
  walk_at "run"
  refine r_make ?_
  walk_at "run"
  intro h0 dx hh0 hdx hxd
  have sI : Same H (upd (upd H dx (.own h0)) h0 (.ins A.CH dx [])) := Same.mut (Same.new hdx) hh0
  refine ⟨h0, dx, rfl, upd_same, rfl, ?_⟩
  walk_at "run"
  have sJ : Same H (upd (upd (upd H dx (.own h0)) h0 (.ins A.CH dx [])) h0 (.ins A.CH dx [("wire", .non)])) := Same.mut sI hh0
  refine ⟨sl60 (by show 0 ≤ 100000; decide), fun F0 hF => ?_⟩
  walk_at "run"
  have hFH : H F0 = none := sJ.free hF
  have hF0 : F0 ≠ h0 := (ne_of_none upd_same hF).symm
  have hst : Stands K H [F0, h0] a (ns.map V.int) := by
    rcases stands_of hS with ⟨o, h1, _, h3⟩ | h3
    · refine Or.inl ⟨o, h1, ?_, h3⟩
      intro z
      simp only [List.mem_cons, List.not_mem_nil, or_false] at z
      rcases z with z | z
      · rw [z, hFH] at h1; cases h1
      · rw [z, hh0] at h1; cases h1
    · exact Or.inr h3
  have sK := Same.mut (o := .lst []) sJ hFH
  refine ⟨fun m σ H' => ∃ (at0 : Nat) (S : List Addr) (s : Option Wire) (acc out : List Int) (v4 v5 v6 v7 v8 v9 : Option V), m = ns.length - at0 ∧ at0 ≤ ns.length ∧ σ = [some (.ref a), some (.ref h0), some (.ref F0), some (.int (at0 : Int)), v4, v5, v6, v7, v8, v9] ∧ HoldAt A h0 dx S H' s ∧ F0 ∉ S ∧ H' F0 = some (.lst (acc.map V.int)) ∧ Stands K H' (F0 :: S) a (ns.map V.int) ∧ Rest s (ns.drop at0) out ∧ PyWrowwr.answers ns = acc ++ out,
    ⟨ns.length, 0, [h0], none, [], PyWrowwr.answers ns, none, none, none, none, none, none, rfl, Nat.zero_le _, rfl, ⟨by rw [upd_ne hF0.symm]; exact upd_same, rfl⟩, by simpa using hF0, upd_same, Stands.then hst (Same.only sK) (Grow.refl _ _), rest0, rfl⟩, ?_⟩
  rintro m σ H1 ⟨at0, S, s, acc, out, v4, v5, v6, v7, v8, v9, rfl, hat, rfl, hh, nF, hF1, z1, hrest, hout⟩
  walk_at "run"
  refine r_len z1.seq ?_
  rw [List.length_map]
  walk_at "run"
  refine iteD (fun c1 => ?_) fun c1 => ?_
  · have c1 : at0 < ns.length := by omega
    refine ⟨_, fun _ _ h => h, ?_⟩
    have hd : ns.drop at0 = ns[at0] :: ns.drop (at0 + 1) := List.drop_eq_getElem_cons c1
    have hget : ns[at0]? = some ns[at0] := List.getElem?_eq_getElem c1
    rw [hd] at hrest
    obtain ⟨i, nums, row, call, t, out', ep, sh, hn, enums, hform, hrest', eout⟩ := rest_cons hrest
    have hi := sh.lt
    rw [ep] at hget
    rw [List.length_drop] at hn
    have hlo : at0 + 1 + numsN i ≤ ns.length := by omega
    walk_at "run"
    refine r_ixl z1.seq (nums_at hget) ?_
    walk_at "run"
    refine r_ixt (T.t_NUMBERS _) (nums_at (nums_get i hi)) ?_
    walk_at "run"
    have eb : (at0 : Int) + 1 + (numsN i : Int) = ((at0 + 1 + numsN i : Nat) : Int) := by omega
    have ea : (at0 : Int) + 1 = ((at0 + 1 : Nat) : Int) := by omega
    rw [eb, ea]
    walk_at "run"
    refine ⟨a, _, rfl, z1.seq, fun NA hNA => ?_⟩
    rw [cut_nat ns hlo (by omega), show at0 + 1 + numsN i - (at0 + 1) = numsN i by omega, ← enums]
    walk_at "run"
    refine ⟨sl60 (by show 0 ≤ 100000; decide), fun RA hRA => ?_⟩
    walk_at "run"
    have s2 : Same H1 (upd (upd H1 NA (.lst (nums.map V.int))) RA (.lst [])) := Same.mut (Same.new hNA) (Same.free (Same.new hNA) hRA)
    have nNR : NA ≠ RA := ne_of_none upd_same hRA
    have z2 := Stands.then z1 (Same.only s2) (Grow.refl _ _)
    refine ⟨A.tW, _, rfl, .inr (T.t_WITH_ROW _), rfl, by decide +kernel, ?_⟩
    rw [show (if false = true then !inV (.int (i : Int)) (([18, 24, 25] : List Int).map V.int) else inV (.int (i : Int)) (([18, 24, 25] : List Int).map V.int)) = decide (rowed i) from in_row i hi]
    walk_at "run"
    -- what is left of the turn, once both lists are there
    have fin : ∀ (σ2 : L2.St) (H2 : Hp) (RA2 : Addr) (e2 : Nat) (w8 w9 : Option V), σ2 = [some (.ref a), some (.ref h0), some (.ref F0), some (.int (at0 : Int)), some (.int (i : Int)), some (.int (e2 : Int)), some (.ref NA), some (.ref RA2), w8, w9] → Same H1 H2 → H2 NA = some (.lst (nums.map V.int)) → H2 RA2 = some (.lst (row.map V.int)) → H1 NA = none → H1 RA2 = none → e2 ≤ ns.length → at0 < e2 → t = ns.drop e2 → ∀ D' : Ends,
        (∀ σ' H', (∃ m', m' < ns.length - at0 ∧ ∃ (at0 : Nat) (S : List Addr) (s : Option Wire) (acc out : List Int) (v4 v5 v6 v7 v8 v9 : Option V), m' = ns.length - at0 ∧ at0 ≤ ns.length ∧ σ' = [some (.ref a), some (.ref h0), some (.ref F0), some (.int (at0 : Int)), v4, v5, v6, v7, v8, v9] ∧ HoldAt A h0 dx S H' s ∧ F0 ∉ S ∧ H' F0 = some (.lst (acc.map V.int)) ∧ Stands K H' (F0 :: S) a (ns.map V.int) ∧ Rest s (ns.drop at0) out ∧ PyWrowwr.answers ns = acc ++ out) → D'.nx σ' H') →
        tSeq (tAsg (tCall (spAnswered A) [] E0 (tCons (tVar 1) (tCons (tVar 4) (tCons (tVar 6) (tCons (tVar 7) tNil))))) (gName 9)) (tSeq (tDrop (tBM K "list" rAppend (tVar 2) (tCons (tCB (rLen K) (tCons (tVar 9) tNil)) tNil))) (tSeq (tDrop (tBM K "list" rExtend (tVar 2) (tCons (tVar 9) tNil))) (tAsg (tVar 5) (gName 3)))) D' σ2 H2 := by
      rintro σ2 H2 RA2 e2 w8 w9 rfl s3 hN2 hR2 hN1 hR1 he2 hae et D' hD'
      have hf2 := HoldAt.same s3 hh
      have own_some : ∀ b ∈ S, ∃ o, H1 b = some o := fun b hb => hold_some hh hb
      walk_at "run"
      refine ⟨h0, dx, NA, RA2, S, s, i, nums, row, call, rfl, hf2, hN2, hR2, fun z => ?_, fun z => ?_, sh, fun H3 S' p hh3 o3 g3 hp hp3 => ?_⟩
      · obtain ⟨o, ho⟩ := own_some _ z
        rw [hN1] at ho; cases ho
      · obtain ⟨o, ho⟩ := own_some _ z
        rw [hR1] at ho; cases ho
      have hF2 := s3 _ _ hF1
      have hF3 : H3 F0 = some (.lst (acc.map V.int)) := o3 _ _ hF2 nF
      have nF3 : F0 ∉ S' := fun z => by
        rcases g3 _ z with q | q
        · exact nF q
        · rw [hF2] at q; cases q
      have hpF : p ≠ F0 := (ne_of_none hF2 hp).symm
      generalize htl : WearNeutral.told (WearSpec.step s call).2 = tl at hp3 eout
      have size : acc.length + (1 + (tl.length + out'.length)) ≤ 10000000 := by
        rw [hout, eout, List.length_append, List.length_cons, List.length_append] at big
        omega
      walk_at "run"
      refine ⟨.inl ⟨rfl, _, SqL.of hF3⟩, ?_⟩
      walk_at "run"
      refine r_len (SqL.of hp3) ?_
      rw [List.length_map]
      walk_at "run"
      refine ⟨F0, _, _, rfl, rfl, hF3, by rw [List.length_map]; omega, ?_⟩
      walk_at "run"
      refine ⟨.inl ⟨rfl, _, SqL.of upd_same⟩, ?_⟩
      walk_at "run"
      refine ⟨F0, p, _, _, rfl, rfl, upd_same, by rw [upd_ne hpF]; exact hp3, by rw [List.length_append, List.length_map, List.length_map]; show acc.length + 1 + tl.length ≤ _; omega, ?_⟩
      refine r_asg (r_var (by with_unfolding_all rfl) (r_gname ?_))
      refine hD' _ _ ⟨ns.length - e2, by omega, e2, S', (WearSpec.step s call).1, acc ++ ((tl.length : Int) :: tl), out', _, _, _, _, _, _, rfl, he2, rfl, ?_, nF3, ?_, ?_, ?_, ?_⟩
      · exact HoldAt.other (HoldAt.other hh3 hF3 nF3) upd_same nF3
      · rw [upd_same, List.map_append, List.append_assoc]; rfl
      · have zz := Stands.then z1 (Same.only s3) (Grow.refl _ _)
        refine Stands.then zz ?_ ?_
        · refine Only.setp (Only.setp (fun b o eb hb => o3 b o eb fun z => hb (List.mem_cons_of_mem _ z)) List.mem_cons_self) List.mem_cons_self
        · intro b hb
          rcases List.mem_cons.mp hb with q | q
          · exact Or.inl (by rw [q]; exact List.mem_cons_self)
          · rcases g3 b q with q | q
            · exact Or.inl (List.mem_cons_of_mem _ q)
            · exact Or.inr q
      · rw [← et]; exact hrest'
      · rw [hout, eout, List.append_assoc]; rfl
    rcases hform with ⟨h1, h2, h3⟩ | ⟨h1, m, r', h2, h3, h4, h5⟩
    · refine iteD (fun z => absurd z h1) fun _ => ?_
      refine r_next ?_
      subst h2
      refine fin _ _ RA (at0 + 1 + numsN i) v8 v9 (by rfl) s2 (by rw [upd_ne nNR]; exact upd_same) upd_same hNA (Same.free (Same.new hNA) hRA) hlo (by omega) (by rw [h3, List.drop_drop]) _ (fun _ _ q => q)
    · refine iteD (fun _ => ?_) fun z => absurd h1 z
      rw [List.drop_drop] at h2
      have hb : at0 + 1 + numsN i < ns.length := by
        rcases Nat.lt_or_ge (at0 + 1 + numsN i) ns.length with q | q
        · exact q
        · rw [List.drop_eq_nil_of_le q] at h2; cases h2
      have hg2 : ns[at0 + 1 + numsN i]? = some (m : Int) := by
        rw [← List.head?_drop, h2]; rfl
      have hr' : ns.drop (at0 + 1 + numsN i + 1) = r' := by
        rw [← List.tail_drop, h2]; rfl
      have hrl : r'.length = ns.length - (at0 + 1 + numsN i + 1) := by rw [← hr', List.length_drop]
      walk_at "run"
      refine r_ixl z2.seq (nums_at hg2) ?_
      walk_at "run"
      have e1 : ((at0 + 1 + numsN i : Nat) : Int) + 1 = ((at0 + 1 + numsN i + 1 : Nat) : Int) := by omega
      have e3 : ((at0 + 1 + numsN i : Nat) : Int) + 1 + (m : Int) = ((at0 + 1 + numsN i + 1 + m : Nat) : Int) := by omega
      rw [e3, e1]
      walk_at "run"
      refine ⟨a, _, rfl, z2.seq, fun RB hRB => ?_⟩
      rw [cut_nat ns (by omega) (by omega), hr', show at0 + 1 + numsN i + 1 + m - (at0 + 1 + numsN i + 1) = m by omega, ← h4]
      iterate 10 (walk_at "rd")
      rw [e3]
      have s3 := Same.mut (o := .lst (row.map V.int)) s2 (s2.free hRB)
      have nNB : NA ≠ RB := ne_of_none (show upd (upd H1 NA _) RA _ NA = some _ by rw [upd_ne nNR]; exact upd_same) hRB
      refine fin _ _ RB (at0 + 1 + numsN i + 1 + m) (some (.int (m : Int))) v9 (by rfl) s3 (by rw [upd_ne nNB, upd_ne nNR]; exact upd_same) upd_same hNA (s2.free hRB) (by omega) (by omega) (by rw [h5, ← hr', List.drop_drop]) _ (fun _ _ q => q)
  · have e0 : at0 = ns.length := by omega
    rw [e0, List.drop_length] at hrest
    rw [rest_nil hrest, List.append_nil] at hout
    walk_at "run"
    exact k H1 F0 (by rw [hout]; exact hF1)
end
theorem exm_self {K : PySem.W.Frag} {S : Addr} (h1 : PySem.W.subIn K (.ref S) (.type "BaseException") = some true) (h2 : PySem.W.isClsIn K S = true) (h3 : PySem.W.typeIn K (.ref S) = some (.type "type")) (h4 : PySem.W.subIn K (.ref S) (.ref S) = some true) :
    PySem.W.exmOne K (.ref S) (.ref S) = some true := by
  have e1 : (PySem.W.subIn K (.ref S) (.type "BaseException") == some true) = true := by rw [h1] <;> rfl
  have e2 : ((PySem.W.clsIn K S).isSome && PySem.W.typeIn K (.ref S) == some (.type "type")) = true := by
    have h2' : (PySem.W.clsIn K S).isSome = true := h2
    rw [h2', h3] <;> rfl
  show (if (PySem.W.subIn K (.ref S) (.type "BaseException") == some true) = true then (if ((PySem.W.clsIn K S).isSome && PySem.W.typeIn K (.ref S) == some (.type "type")) = true then PySem.W.subIn K (.ref S) (.ref S) else none) else none) = some true
  rw [if_pos e1, if_pos e2]
  exact h4
end WW
namespace WW
open PySem PySem.Spec PyProof.Rows L2
open PySem.W (Codec)
open WM
open OwWear hiding Place Kind
def isInts : List Int → List Value → Bool
  | [], [] => true
  | i :: l, .int j _ :: us => (i == j) && isInts l us
  | _, _ => false
theorem isInts_vals : ∀ {l : List Int} {us : List Value}, isInts l us = true → Vals (l.map V.int) us
  | [], [], _ => .nil
  | [], _ :: _, h => by cases h
  | i :: l, [], h => by cases h
  | i :: l, u :: us, h => by
    cases u with
    | int j t =>
      have h : ((i == j) && isInts l us) = true := h
      rw [Bool.and_eq_true] at h
      have e := eq_of_beq h.1
      subst e
      exact .cons ⟨t, rfl⟩ (isInts_vals h.2)
    | _ => cases h
theorem refs_vals : ∀ fs : List Addr, Vals (fs.map V.ref) (fs.map Value.ref)
  | [] => .nil
  | f :: fs => .cons rfl (refs_vals fs)
theorem isInts_len {l : List Int} {us : List Value} (h : isInts l us = true) : us.length = l.length := by
  have := (isInts_vals h).length
  rw [List.length_map] at this
  exact this.symm
section
variable {P : Program} {w : World} {K : PySem.W.Frag} {mg : Str → Option Value} {base : Heap} {A : Ad}
theorem held_of {k j : Nat} {x : Str} {sp : Sp} {f : Addr} (c : Call1 P w K mg base (L2.CX P w) j x sp) (hm : mg x = some (.ref f)) (hj : j ≤ k := by decide) : HeldX P w K mg base k f sp := by
  obtain ⟨f', fd, ps, F, hm', kp, b⟩ := c.ex
  have e := hm.symm.trans hm'
  cases e
  exact ⟨fd, ps, j, hj, F, kp, b⟩
theorem held_all (c_call_begin : Call1 P w K mg base (L2.CX P w) 1 "call_begin" spBegin) (c_call_draw : Call1 P w K mg base (L2.CX P w) 5 "call_draw" (spCall A 1)) (c_call_gap : Call1 P w K mg base (L2.CX P w) 5 "call_gap" (spCall A 2)) (c_call_kind : Call1 P w K mg base (L2.CX P w) 4 "call_kind" (spCall A 3)) (c_call_service : Call1 P w K mg base (L2.CX P w) 4 "call_service" (spCall A 4)) (c_call_pass : Call1 P w K mg base (L2.CX P w) 4 "call_pass" (spCall A 5)) (c_call_days : Call1 P w K mg base (L2.CX P w) 5 "call_days" (spCall A 6)) (c_call_splice : Call1 P w K mg base (L2.CX P w) 5 "call_splice" (spCall A 7)) (c_call_measured : Call1 P w K mg base (L2.CX P w) 5 "call_measured" (spCall A 8)) (c_call_left : Call1 P w K mg base (L2.CX P w) 5 "call_left" (spCall A 9)) (c_call_day : Call1 P w K mg base (L2.CX P w) 1 "call_day" (spCall A 10)) (c_call_due : Call1 P w K mg base (L2.CX P w) 5 "call_due" (spCall A 11)) (c_call_week : Call1 P w K mg base (L2.CX P w) 5 "call_week" (spCall A 12)) (c_call_least : Call1 P w K mg base (L2.CX P w) 1 "call_least" (spCall A 13)) (c_call_when : Call1 P w K mg base (L2.CX P w) 5 "call_when" (spCall A 14)) (c_call_until : Call1 P w K mg base (L2.CX P w) 5 "call_until" (spCall A 15)) (c_call_pieces : Call1 P w K mg base (L2.CX P w) 4 "call_pieces" (spCall A 16)) (c_call_splices : Call1 P w K mg base (L2.CX P w) 4 "call_splices" (spCall A 17)) (c_call_against : Call1 P w K mg base (L2.CX P w) 4 "call_against" (spCall A 18)) (c_call_support : Call1 P w K mg base (L2.CX P w) 5 "call_support" (spCall A 19)) (c_call_take : Call1 P w K mg base (L2.CX P w) 4 "call_take" (spCall A 20)) (c_call_offset : Call1 P w K mg base (L2.CX P w) 5 "call_offset" (spCall A 21)) (c_call_touches : Call1 P w K mg base (L2.CX P w) 6 "call_touches" (spCall A 22)) (c_call_strip : Call1 P w K mg base (L2.CX P w) 6 "call_strip" (spCall A 23)) (c_call_even : Call1 P w K mg base (L2.CX P w) 5 "call_even" (spCall A 24)) (c_call_lay : Call1 P w K mg base (L2.CX P w) 4 "call_lay" (spCall A 25)) : ∀ f sp, DeedAt A mg f sp → HeldX P w K mg base 6 f sp := by
  rintro f sp ⟨i, x, hx, hm, rfl⟩
  match i, hx with
  | 0, hx => cases hx; exact held_of c_call_begin hm
  | 1, hx => cases hx; exact held_of c_call_draw hm
  | 2, hx => cases hx; exact held_of c_call_gap hm
  | 3, hx => cases hx; exact held_of c_call_kind hm
  | 4, hx => cases hx; exact held_of c_call_service hm
  | 5, hx => cases hx; exact held_of c_call_pass hm
  | 6, hx => cases hx; exact held_of c_call_days hm
  | 7, hx => cases hx; exact held_of c_call_splice hm
  | 8, hx => cases hx; exact held_of c_call_measured hm
  | 9, hx => cases hx; exact held_of c_call_left hm
  | 10, hx => cases hx; exact held_of c_call_day hm
  | 11, hx => cases hx; exact held_of c_call_due hm
  | 12, hx => cases hx; exact held_of c_call_week hm
  | 13, hx => cases hx; exact held_of c_call_least hm
  | 14, hx => cases hx; exact held_of c_call_when hm
  | 15, hx => cases hx; exact held_of c_call_until hm
  | 16, hx => cases hx; exact held_of c_call_pieces hm
  | 17, hx => cases hx; exact held_of c_call_splices hm
  | 18, hx => cases hx; exact held_of c_call_against hm
  | 19, hx => cases hx; exact held_of c_call_support hm
  | 20, hx => cases hx; exact held_of c_call_take hm
  | 21, hx => cases hx; exact held_of c_call_offset hm
  | 22, hx => cases hx; exact held_of c_call_touches hm
  | 23, hx => cases hx; exact held_of c_call_strip hm
  | 24, hx => cases hx; exact held_of c_call_even hm
  | 25, hx => cases hx; exact held_of c_call_lay hm
  | n + 26, hx => cases hx
end
theorem all_mk {P : Program} {w : World} {K : PySem.W.Frag} {h : Heap} {mg : Str → Option Value} {fa CW CH CS fS tD tN tW f_divisor f_lowest f_between f_cell_of f_touched f_spans_of f_all_choices f_evenest f_Wire_init f_Wire_due f_Wire_take f_Wire_on_day f_Wire_week f_Wire_pass_days f_Wire_until f_Wire_worn f_Wire_pieces f_Wire_splices f_Holder_init f_check f_check_place f_call_draw f_call_gap f_call_kind f_call_service f_call_pass f_call_days f_call_splice f_call_measured f_call_left f_call_day f_call_due f_call_week f_call_least f_call_when f_call_until f_call_pieces f_call_splices f_call_against f_call_support f_call_take f_offsets_of f_call_offset f_check_pan f_touches_of f_call_touches f_call_strip f_call_even f_call_lay f_call_begin f_called f_answered f_answers : Addr} (X : K.In h) (G : h.Ns mainGlobals mg) (hfa : mg "answers" = some (.ref fa))
    {nm qq : Str} {NN : Addr} {bs : List Value} {sn : List Str} {sub : List Value} {ab : Bool} {col : Option Bool} {dd : Option Addr} {m0 m1 m2 m3 m5 : Option Value}
    {od1 an1 : Option Addr} {sl1 : Array (Option Value)} {oc1 dc1 pm1 cd1 ct1 : Value}
    {od_divisor an_divisor : Option Addr} {sl_divisor : Array (Option Value)} {oc_divisor kV_divisor dc_divisor pm_divisor cd_divisor ct_divisor : Value} {od_lowest an_lowest : Option Addr} {sl_lowest : Array (Option Value)} {oc_lowest kV_lowest dc_lowest pm_lowest cd_lowest ct_lowest : Value} {od_between an_between : Option Addr} {sl_between : Array (Option Value)} {oc_between kV_between dc_between pm_between cd_between ct_between : Value} {od_cell_of an_cell_of : Option Addr} {sl_cell_of : Array (Option Value)} {oc_cell_of kV_cell_of dc_cell_of pm_cell_of cd_cell_of ct_cell_of : Value} {od_touched an_touched : Option Addr} {sl_touched : Array (Option Value)} {oc_touched kV_touched dc_touched pm_touched cd_touched ct_touched : Value} {od_spans_of an_spans_of : Option Addr} {sl_spans_of : Array (Option Value)} {oc_spans_of kV_spans_of dc_spans_of pm_spans_of cd_spans_of ct_spans_of : Value} {od_all_choices an_all_choices : Option Addr} {sl_all_choices : Array (Option Value)} {oc_all_choices kV_all_choices dc_all_choices pm_all_choices cd_all_choices ct_all_choices : Value} {od_evenest an_evenest : Option Addr} {sl_evenest : Array (Option Value)} {oc_evenest kV_evenest dc_evenest pm_evenest cd_evenest ct_evenest : Value} {od_Wire_init an_Wire_init : Option Addr} {sl_Wire_init : Array (Option Value)} {oc_Wire_init kV_Wire_init dc_Wire_init pm_Wire_init cd_Wire_init ct_Wire_init : Value} {od_Wire_due an_Wire_due : Option Addr} {sl_Wire_due : Array (Option Value)} {oc_Wire_due kV_Wire_due dc_Wire_due pm_Wire_due cd_Wire_due ct_Wire_due : Value} {od_Wire_take an_Wire_take : Option Addr} {sl_Wire_take : Array (Option Value)} {oc_Wire_take kV_Wire_take dc_Wire_take pm_Wire_take cd_Wire_take ct_Wire_take : Value} {od_Wire_on_day an_Wire_on_day : Option Addr} {sl_Wire_on_day : Array (Option Value)} {oc_Wire_on_day kV_Wire_on_day dc_Wire_on_day pm_Wire_on_day cd_Wire_on_day ct_Wire_on_day : Value} {od_Wire_week an_Wire_week : Option Addr} {sl_Wire_week : Array (Option Value)} {oc_Wire_week kV_Wire_week dc_Wire_week pm_Wire_week cd_Wire_week ct_Wire_week : Value} {od_Wire_pass_days an_Wire_pass_days : Option Addr} {sl_Wire_pass_days : Array (Option Value)} {oc_Wire_pass_days kV_Wire_pass_days dc_Wire_pass_days pm_Wire_pass_days cd_Wire_pass_days ct_Wire_pass_days : Value} {od_Wire_until an_Wire_until : Option Addr} {sl_Wire_until : Array (Option Value)} {oc_Wire_until kV_Wire_until dc_Wire_until pm_Wire_until cd_Wire_until ct_Wire_until : Value} {od_Wire_worn an_Wire_worn : Option Addr} {sl_Wire_worn : Array (Option Value)} {oc_Wire_worn kV_Wire_worn dc_Wire_worn pm_Wire_worn cd_Wire_worn ct_Wire_worn : Value} {od_Wire_pieces an_Wire_pieces : Option Addr} {sl_Wire_pieces : Array (Option Value)} {oc_Wire_pieces kV_Wire_pieces dc_Wire_pieces pm_Wire_pieces cd_Wire_pieces ct_Wire_pieces : Value} {od_Wire_splices an_Wire_splices : Option Addr} {sl_Wire_splices : Array (Option Value)} {oc_Wire_splices kV_Wire_splices dc_Wire_splices pm_Wire_splices cd_Wire_splices ct_Wire_splices : Value} {od_Holder_init an_Holder_init : Option Addr} {sl_Holder_init : Array (Option Value)} {oc_Holder_init kV_Holder_init dc_Holder_init pm_Holder_init cd_Holder_init ct_Holder_init : Value} {od_check an_check : Option Addr} {sl_check : Array (Option Value)} {oc_check kV_check dc_check pm_check cd_check ct_check : Value} {od_check_place an_check_place : Option Addr} {sl_check_place : Array (Option Value)} {oc_check_place kV_check_place dc_check_place pm_check_place cd_check_place ct_check_place : Value} {od_call_draw an_call_draw : Option Addr} {sl_call_draw : Array (Option Value)} {oc_call_draw kV_call_draw dc_call_draw pm_call_draw cd_call_draw ct_call_draw : Value} {od_call_gap an_call_gap : Option Addr} {sl_call_gap : Array (Option Value)} {oc_call_gap kV_call_gap dc_call_gap pm_call_gap cd_call_gap ct_call_gap : Value} {od_call_kind an_call_kind : Option Addr} {sl_call_kind : Array (Option Value)} {oc_call_kind kV_call_kind dc_call_kind pm_call_kind cd_call_kind ct_call_kind : Value} {od_call_service an_call_service : Option Addr} {sl_call_service : Array (Option Value)} {oc_call_service kV_call_service dc_call_service pm_call_service cd_call_service ct_call_service : Value} {od_call_pass an_call_pass : Option Addr} {sl_call_pass : Array (Option Value)} {oc_call_pass kV_call_pass dc_call_pass pm_call_pass cd_call_pass ct_call_pass : Value} {od_call_days an_call_days : Option Addr} {sl_call_days : Array (Option Value)} {oc_call_days kV_call_days dc_call_days pm_call_days cd_call_days ct_call_days : Value} {od_call_splice an_call_splice : Option Addr} {sl_call_splice : Array (Option Value)} {oc_call_splice kV_call_splice dc_call_splice pm_call_splice cd_call_splice ct_call_splice : Value} {od_call_measured an_call_measured : Option Addr} {sl_call_measured : Array (Option Value)} {oc_call_measured kV_call_measured dc_call_measured pm_call_measured cd_call_measured ct_call_measured : Value} {od_call_left an_call_left : Option Addr} {sl_call_left : Array (Option Value)} {oc_call_left kV_call_left dc_call_left pm_call_left cd_call_left ct_call_left : Value} {od_call_day an_call_day : Option Addr} {sl_call_day : Array (Option Value)} {oc_call_day kV_call_day dc_call_day pm_call_day cd_call_day ct_call_day : Value} {od_call_due an_call_due : Option Addr} {sl_call_due : Array (Option Value)} {oc_call_due kV_call_due dc_call_due pm_call_due cd_call_due ct_call_due : Value} {od_call_week an_call_week : Option Addr} {sl_call_week : Array (Option Value)} {oc_call_week kV_call_week dc_call_week pm_call_week cd_call_week ct_call_week : Value} {od_call_least an_call_least : Option Addr} {sl_call_least : Array (Option Value)} {oc_call_least kV_call_least dc_call_least pm_call_least cd_call_least ct_call_least : Value} {od_call_when an_call_when : Option Addr} {sl_call_when : Array (Option Value)} {oc_call_when kV_call_when dc_call_when pm_call_when cd_call_when ct_call_when : Value} {od_call_until an_call_until : Option Addr} {sl_call_until : Array (Option Value)} {oc_call_until kV_call_until dc_call_until pm_call_until cd_call_until ct_call_until : Value} {od_call_pieces an_call_pieces : Option Addr} {sl_call_pieces : Array (Option Value)} {oc_call_pieces kV_call_pieces dc_call_pieces pm_call_pieces cd_call_pieces ct_call_pieces : Value} {od_call_splices an_call_splices : Option Addr} {sl_call_splices : Array (Option Value)} {oc_call_splices kV_call_splices dc_call_splices pm_call_splices cd_call_splices ct_call_splices : Value} {od_call_against an_call_against : Option Addr} {sl_call_against : Array (Option Value)} {oc_call_against kV_call_against dc_call_against pm_call_against cd_call_against ct_call_against : Value} {od_call_support an_call_support : Option Addr} {sl_call_support : Array (Option Value)} {oc_call_support kV_call_support dc_call_support pm_call_support cd_call_support ct_call_support : Value} {od_call_take an_call_take : Option Addr} {sl_call_take : Array (Option Value)} {oc_call_take kV_call_take dc_call_take pm_call_take cd_call_take ct_call_take : Value} {od_offsets_of an_offsets_of : Option Addr} {sl_offsets_of : Array (Option Value)} {oc_offsets_of kV_offsets_of dc_offsets_of pm_offsets_of cd_offsets_of ct_offsets_of : Value} {od_call_offset an_call_offset : Option Addr} {sl_call_offset : Array (Option Value)} {oc_call_offset kV_call_offset dc_call_offset pm_call_offset cd_call_offset ct_call_offset : Value} {od_check_pan an_check_pan : Option Addr} {sl_check_pan : Array (Option Value)} {oc_check_pan kV_check_pan dc_check_pan pm_check_pan cd_check_pan ct_check_pan : Value} {od_touches_of an_touches_of : Option Addr} {sl_touches_of : Array (Option Value)} {oc_touches_of kV_touches_of dc_touches_of pm_touches_of cd_touches_of ct_touches_of : Value} {od_call_touches an_call_touches : Option Addr} {sl_call_touches : Array (Option Value)} {oc_call_touches kV_call_touches dc_call_touches pm_call_touches cd_call_touches ct_call_touches : Value} {od_call_strip an_call_strip : Option Addr} {sl_call_strip : Array (Option Value)} {oc_call_strip kV_call_strip dc_call_strip pm_call_strip cd_call_strip ct_call_strip : Value} {od_call_even an_call_even : Option Addr} {sl_call_even : Array (Option Value)} {oc_call_even kV_call_even dc_call_even pm_call_even cd_call_even ct_call_even : Value} {od_call_lay an_call_lay : Option Addr} {sl_call_lay : Array (Option Value)} {oc_call_lay kV_call_lay dc_call_lay pm_call_lay cd_call_lay ct_call_lay : Value} {od_call_begin an_call_begin : Option Addr} {sl_call_begin : Array (Option Value)} {oc_call_begin kV_call_begin dc_call_begin pm_call_begin cd_call_begin ct_call_begin : Value} {od_called an_called : Option Addr} {sl_called : Array (Option Value)} {oc_called kV_called dc_called pm_called cd_called ct_called : Value} {od_answered an_answered : Option Addr} {sl_answered : Array (Option Value)} {oc_answered kV_answered dc_answered pm_answered cd_answered ct_answered : Value} {od_answers an_answers : Option Addr} {sl_answers : Array (Option Value)} {oc_answers kV_answers dc_answers pm_answers cd_answers ct_answers : Value}
    {z_WEEK z_NOT_SO z_NOT_BEGUN z_NOT_THERE z_NO_ROOM z_AS_TOLD z_MILLION z_MOST_OFFSET z_MOST_SUPPORTS : Nat}
    {e_DEEDS : Option Addr} {v_DEEDS : Array Value} {n_DEEDS : Nat} {y_DEEDS : Array (Option Value)} {e_NUMBERS : Option Addr} {v_NUMBERS : Array Value} {n_NUMBERS : Nat} {y_NUMBERS : Array (Option Value)} {e_WITH_ROW : Option Addr} {v_WITH_ROW : Array Value} {n_WITH_ROW : Nat} {y_WITH_ROW : Array (Option Value)}
    (aCW : PySem.W.nsIn K mainGlobals "Wire" = some (some (.ref CW)))
    (aCH : PySem.W.nsIn K mainGlobals "Holder" = some (some (.ref CH)))
    (aCS : PySem.W.nsIn K mainGlobals "Stop" = some (some (.ref CS)))
    (a_divisor : PySem.W.nsIn K mainGlobals "divisor" = some (some (.ref f_divisor)))
    (l_divisor : K.lookup f_divisor = some ⟨oc_divisor, od_divisor, .func (PySem.W.fnOf "divisor" "divisor" (defArgs s_divisor) (defBody s_divisor) (defScope s_divisor) .none kV_divisor dc_divisor pm_divisor an_divisor cd_divisor ct_divisor), sl_divisor⟩)
    (c_divisor : PySem.W.codeIn K cd_divisor "divisor" = true)
    (k_divisor : PySem.W.keepIn K (.ref f_divisor) = true)
    (a_lowest : PySem.W.nsIn K mainGlobals "lowest" = some (some (.ref f_lowest)))
    (l_lowest : K.lookup f_lowest = some ⟨oc_lowest, od_lowest, .func (PySem.W.fnOf "lowest" "lowest" (defArgs s_lowest) (defBody s_lowest) (defScope s_lowest) .none kV_lowest dc_lowest pm_lowest an_lowest cd_lowest ct_lowest), sl_lowest⟩)
    (c_lowest : PySem.W.codeIn K cd_lowest "lowest" = true)
    (k_lowest : PySem.W.keepIn K (.ref f_lowest) = true)
    (a_between : PySem.W.nsIn K mainGlobals "between" = some (some (.ref f_between)))
    (l_between : K.lookup f_between = some ⟨oc_between, od_between, .func (PySem.W.fnOf "between" "between" (defArgs s_between) (defBody s_between) (defScope s_between) .none kV_between dc_between pm_between an_between cd_between ct_between), sl_between⟩)
    (c_between : PySem.W.codeIn K cd_between "between" = true)
    (k_between : PySem.W.keepIn K (.ref f_between) = true)
    (a_cell_of : PySem.W.nsIn K mainGlobals "cell_of" = some (some (.ref f_cell_of)))
    (l_cell_of : K.lookup f_cell_of = some ⟨oc_cell_of, od_cell_of, .func (PySem.W.fnOf "cell_of" "cell_of" (defArgs s_cell_of) (defBody s_cell_of) (defScope s_cell_of) .none kV_cell_of dc_cell_of pm_cell_of an_cell_of cd_cell_of ct_cell_of), sl_cell_of⟩)
    (c_cell_of : PySem.W.codeIn K cd_cell_of "cell_of" = true)
    (k_cell_of : PySem.W.keepIn K (.ref f_cell_of) = true)
    (a_touched : PySem.W.nsIn K mainGlobals "touched" = some (some (.ref f_touched)))
    (l_touched : K.lookup f_touched = some ⟨oc_touched, od_touched, .func (PySem.W.fnOf "touched" "touched" (defArgs s_touched) (defBody s_touched) (defScope s_touched) .none kV_touched dc_touched pm_touched an_touched cd_touched ct_touched), sl_touched⟩)
    (c_touched : PySem.W.codeIn K cd_touched "touched" = true)
    (k_touched : PySem.W.keepIn K (.ref f_touched) = true)
    (a_spans_of : PySem.W.nsIn K mainGlobals "spans_of" = some (some (.ref f_spans_of)))
    (l_spans_of : K.lookup f_spans_of = some ⟨oc_spans_of, od_spans_of, .func (PySem.W.fnOf "spans_of" "spans_of" (defArgs s_spans_of) (defBody s_spans_of) (defScope s_spans_of) .none kV_spans_of dc_spans_of pm_spans_of an_spans_of cd_spans_of ct_spans_of), sl_spans_of⟩)
    (c_spans_of : PySem.W.codeIn K cd_spans_of "spans_of" = true)
    (k_spans_of : PySem.W.keepIn K (.ref f_spans_of) = true)
    (a_all_choices : PySem.W.nsIn K mainGlobals "all_choices" = some (some (.ref f_all_choices)))
    (l_all_choices : K.lookup f_all_choices = some ⟨oc_all_choices, od_all_choices, .func (PySem.W.fnOf "all_choices" "all_choices" (defArgs s_all_choices) (defBody s_all_choices) (defScope s_all_choices) .none kV_all_choices dc_all_choices pm_all_choices an_all_choices cd_all_choices ct_all_choices), sl_all_choices⟩)
    (c_all_choices : PySem.W.codeIn K cd_all_choices "all_choices" = true)
    (k_all_choices : PySem.W.keepIn K (.ref f_all_choices) = true)
    (a_evenest : PySem.W.nsIn K mainGlobals "evenest" = some (some (.ref f_evenest)))
    (l_evenest : K.lookup f_evenest = some ⟨oc_evenest, od_evenest, .func (PySem.W.fnOf "evenest" "evenest" (defArgs s_evenest) (defBody s_evenest) (defScope s_evenest) .none kV_evenest dc_evenest pm_evenest an_evenest cd_evenest ct_evenest), sl_evenest⟩)
    (c_evenest : PySem.W.codeIn K cd_evenest "evenest" = true)
    (k_evenest : PySem.W.keepIn K (.ref f_evenest) = true)
    (a_Wire_init : PySem.W.findIn K (.ref CW) "__init__" = some (some (.ref f_Wire_init)))
    (i_Wire_init : PySem.W.isFn K (.ref f_Wire_init) = true)
    (l_Wire_init : K.lookup f_Wire_init = some ⟨oc_Wire_init, od_Wire_init, .func (PySem.W.fnOf "__init__" "Wire.__init__" (defArgs s_Wire_init) (defBody s_Wire_init) (defScope s_Wire_init) .none kV_Wire_init dc_Wire_init pm_Wire_init an_Wire_init cd_Wire_init ct_Wire_init), sl_Wire_init⟩)
    (c_Wire_init : PySem.W.codeIn K cd_Wire_init "Wire.__init__" = true)
    (k_Wire_init : PySem.W.keepIn K (.ref f_Wire_init) = true)
    (a_Wire_due : PySem.W.findIn K (.ref CW) "due" = some (some (.ref f_Wire_due)))
    (i_Wire_due : PySem.W.isFn K (.ref f_Wire_due) = true)
    (l_Wire_due : K.lookup f_Wire_due = some ⟨oc_Wire_due, od_Wire_due, .func (PySem.W.fnOf "due" "Wire.due" (defArgs s_Wire_due) (defBody s_Wire_due) (defScope s_Wire_due) .none kV_Wire_due dc_Wire_due pm_Wire_due an_Wire_due cd_Wire_due ct_Wire_due), sl_Wire_due⟩)
    (c_Wire_due : PySem.W.codeIn K cd_Wire_due "Wire.due" = true)
    (k_Wire_due : PySem.W.keepIn K (.ref f_Wire_due) = true)
    (a_Wire_take : PySem.W.findIn K (.ref CW) "take" = some (some (.ref f_Wire_take)))
    (i_Wire_take : PySem.W.isFn K (.ref f_Wire_take) = true)
    (l_Wire_take : K.lookup f_Wire_take = some ⟨oc_Wire_take, od_Wire_take, .func (PySem.W.fnOf "take" "Wire.take" (defArgs s_Wire_take) (defBody s_Wire_take) (defScope s_Wire_take) .none kV_Wire_take dc_Wire_take pm_Wire_take an_Wire_take cd_Wire_take ct_Wire_take), sl_Wire_take⟩)
    (c_Wire_take : PySem.W.codeIn K cd_Wire_take "Wire.take" = true)
    (k_Wire_take : PySem.W.keepIn K (.ref f_Wire_take) = true)
    (a_Wire_on_day : PySem.W.findIn K (.ref CW) "on_day" = some (some (.ref f_Wire_on_day)))
    (i_Wire_on_day : PySem.W.isFn K (.ref f_Wire_on_day) = true)
    (l_Wire_on_day : K.lookup f_Wire_on_day = some ⟨oc_Wire_on_day, od_Wire_on_day, .func (PySem.W.fnOf "on_day" "Wire.on_day" (defArgs s_Wire_on_day) (defBody s_Wire_on_day) (defScope s_Wire_on_day) .none kV_Wire_on_day dc_Wire_on_day pm_Wire_on_day an_Wire_on_day cd_Wire_on_day ct_Wire_on_day), sl_Wire_on_day⟩)
    (c_Wire_on_day : PySem.W.codeIn K cd_Wire_on_day "Wire.on_day" = true)
    (k_Wire_on_day : PySem.W.keepIn K (.ref f_Wire_on_day) = true)
    (a_Wire_week : PySem.W.findIn K (.ref CW) "week" = some (some (.ref f_Wire_week)))
    (i_Wire_week : PySem.W.isFn K (.ref f_Wire_week) = true)
    (l_Wire_week : K.lookup f_Wire_week = some ⟨oc_Wire_week, od_Wire_week, .func (PySem.W.fnOf "week" "Wire.week" (defArgs s_Wire_week) (defBody s_Wire_week) (defScope s_Wire_week) .none kV_Wire_week dc_Wire_week pm_Wire_week an_Wire_week cd_Wire_week ct_Wire_week), sl_Wire_week⟩)
    (c_Wire_week : PySem.W.codeIn K cd_Wire_week "Wire.week" = true)
    (k_Wire_week : PySem.W.keepIn K (.ref f_Wire_week) = true)
    (a_Wire_pass_days : PySem.W.findIn K (.ref CW) "pass_days" = some (some (.ref f_Wire_pass_days)))
    (i_Wire_pass_days : PySem.W.isFn K (.ref f_Wire_pass_days) = true)
    (l_Wire_pass_days : K.lookup f_Wire_pass_days = some ⟨oc_Wire_pass_days, od_Wire_pass_days, .func (PySem.W.fnOf "pass_days" "Wire.pass_days" (defArgs s_Wire_pass_days) (defBody s_Wire_pass_days) (defScope s_Wire_pass_days) .none kV_Wire_pass_days dc_Wire_pass_days pm_Wire_pass_days an_Wire_pass_days cd_Wire_pass_days ct_Wire_pass_days), sl_Wire_pass_days⟩)
    (c_Wire_pass_days : PySem.W.codeIn K cd_Wire_pass_days "Wire.pass_days" = true)
    (k_Wire_pass_days : PySem.W.keepIn K (.ref f_Wire_pass_days) = true)
    (a_Wire_until : PySem.W.findIn K (.ref CW) "until" = some (some (.ref f_Wire_until)))
    (i_Wire_until : PySem.W.isFn K (.ref f_Wire_until) = true)
    (l_Wire_until : K.lookup f_Wire_until = some ⟨oc_Wire_until, od_Wire_until, .func (PySem.W.fnOf "until" "Wire.until" (defArgs s_Wire_until) (defBody s_Wire_until) (defScope s_Wire_until) .none kV_Wire_until dc_Wire_until pm_Wire_until an_Wire_until cd_Wire_until ct_Wire_until), sl_Wire_until⟩)
    (c_Wire_until : PySem.W.codeIn K cd_Wire_until "Wire.until" = true)
    (k_Wire_until : PySem.W.keepIn K (.ref f_Wire_until) = true)
    (a_Wire_worn : PySem.W.findIn K (.ref CW) "worn" = some (some (.ref f_Wire_worn)))
    (i_Wire_worn : PySem.W.isFn K (.ref f_Wire_worn) = true)
    (l_Wire_worn : K.lookup f_Wire_worn = some ⟨oc_Wire_worn, od_Wire_worn, .func (PySem.W.fnOf "worn" "Wire.worn" (defArgs s_Wire_worn) (defBody s_Wire_worn) (defScope s_Wire_worn) .none kV_Wire_worn dc_Wire_worn pm_Wire_worn an_Wire_worn cd_Wire_worn ct_Wire_worn), sl_Wire_worn⟩)
    (c_Wire_worn : PySem.W.codeIn K cd_Wire_worn "Wire.worn" = true)
    (k_Wire_worn : PySem.W.keepIn K (.ref f_Wire_worn) = true)
    (a_Wire_pieces : PySem.W.findIn K (.ref CW) "pieces" = some (some (.ref f_Wire_pieces)))
    (i_Wire_pieces : PySem.W.isFn K (.ref f_Wire_pieces) = true)
    (l_Wire_pieces : K.lookup f_Wire_pieces = some ⟨oc_Wire_pieces, od_Wire_pieces, .func (PySem.W.fnOf "pieces" "Wire.pieces" (defArgs s_Wire_pieces) (defBody s_Wire_pieces) (defScope s_Wire_pieces) .none kV_Wire_pieces dc_Wire_pieces pm_Wire_pieces an_Wire_pieces cd_Wire_pieces ct_Wire_pieces), sl_Wire_pieces⟩)
    (c_Wire_pieces : PySem.W.codeIn K cd_Wire_pieces "Wire.pieces" = true)
    (k_Wire_pieces : PySem.W.keepIn K (.ref f_Wire_pieces) = true)
    (a_Wire_splices : PySem.W.findIn K (.ref CW) "splices" = some (some (.ref f_Wire_splices)))
    (i_Wire_splices : PySem.W.isFn K (.ref f_Wire_splices) = true)
    (l_Wire_splices : K.lookup f_Wire_splices = some ⟨oc_Wire_splices, od_Wire_splices, .func (PySem.W.fnOf "splices" "Wire.splices" (defArgs s_Wire_splices) (defBody s_Wire_splices) (defScope s_Wire_splices) .none kV_Wire_splices dc_Wire_splices pm_Wire_splices an_Wire_splices cd_Wire_splices ct_Wire_splices), sl_Wire_splices⟩)
    (c_Wire_splices : PySem.W.codeIn K cd_Wire_splices "Wire.splices" = true)
    (k_Wire_splices : PySem.W.keepIn K (.ref f_Wire_splices) = true)
    (a_Holder_init : PySem.W.findIn K (.ref CH) "__init__" = some (some (.ref f_Holder_init)))
    (i_Holder_init : PySem.W.isFn K (.ref f_Holder_init) = true)
    (l_Holder_init : K.lookup f_Holder_init = some ⟨oc_Holder_init, od_Holder_init, .func (PySem.W.fnOf "__init__" "Holder.__init__" (defArgs s_Holder_init) (defBody s_Holder_init) (defScope s_Holder_init) .none kV_Holder_init dc_Holder_init pm_Holder_init an_Holder_init cd_Holder_init ct_Holder_init), sl_Holder_init⟩)
    (c_Holder_init : PySem.W.codeIn K cd_Holder_init "Holder.__init__" = true)
    (k_Holder_init : PySem.W.keepIn K (.ref f_Holder_init) = true)
    (a_check : PySem.W.nsIn K mainGlobals "check" = some (some (.ref f_check)))
    (l_check : K.lookup f_check = some ⟨oc_check, od_check, .func (PySem.W.fnOf "check" "check" (defArgs s_check) (defBody s_check) (defScope s_check) .none kV_check dc_check pm_check an_check cd_check ct_check), sl_check⟩)
    (c_check : PySem.W.codeIn K cd_check "check" = true)
    (k_check : PySem.W.keepIn K (.ref f_check) = true)
    (a_check_place : PySem.W.nsIn K mainGlobals "check_place" = some (some (.ref f_check_place)))
    (l_check_place : K.lookup f_check_place = some ⟨oc_check_place, od_check_place, .func (PySem.W.fnOf "check_place" "check_place" (defArgs s_check_place) (defBody s_check_place) (defScope s_check_place) .none kV_check_place dc_check_place pm_check_place an_check_place cd_check_place ct_check_place), sl_check_place⟩)
    (c_check_place : PySem.W.codeIn K cd_check_place "check_place" = true)
    (k_check_place : PySem.W.keepIn K (.ref f_check_place) = true)
    (a_call_draw : PySem.W.nsIn K mainGlobals "call_draw" = some (some (.ref f_call_draw)))
    (l_call_draw : K.lookup f_call_draw = some ⟨oc_call_draw, od_call_draw, .func (PySem.W.fnOf "call_draw" "call_draw" (defArgs s_call_draw) (defBody s_call_draw) (defScope s_call_draw) .none kV_call_draw dc_call_draw pm_call_draw an_call_draw cd_call_draw ct_call_draw), sl_call_draw⟩)
    (c_call_draw : PySem.W.codeIn K cd_call_draw "call_draw" = true)
    (k_call_draw : PySem.W.keepIn K (.ref f_call_draw) = true)
    (a_call_gap : PySem.W.nsIn K mainGlobals "call_gap" = some (some (.ref f_call_gap)))
    (l_call_gap : K.lookup f_call_gap = some ⟨oc_call_gap, od_call_gap, .func (PySem.W.fnOf "call_gap" "call_gap" (defArgs s_call_gap) (defBody s_call_gap) (defScope s_call_gap) .none kV_call_gap dc_call_gap pm_call_gap an_call_gap cd_call_gap ct_call_gap), sl_call_gap⟩)
    (c_call_gap : PySem.W.codeIn K cd_call_gap "call_gap" = true)
    (k_call_gap : PySem.W.keepIn K (.ref f_call_gap) = true)
    (a_call_kind : PySem.W.nsIn K mainGlobals "call_kind" = some (some (.ref f_call_kind)))
    (l_call_kind : K.lookup f_call_kind = some ⟨oc_call_kind, od_call_kind, .func (PySem.W.fnOf "call_kind" "call_kind" (defArgs s_call_kind) (defBody s_call_kind) (defScope s_call_kind) .none kV_call_kind dc_call_kind pm_call_kind an_call_kind cd_call_kind ct_call_kind), sl_call_kind⟩)
    (c_call_kind : PySem.W.codeIn K cd_call_kind "call_kind" = true)
    (k_call_kind : PySem.W.keepIn K (.ref f_call_kind) = true)
    (a_call_service : PySem.W.nsIn K mainGlobals "call_service" = some (some (.ref f_call_service)))
    (l_call_service : K.lookup f_call_service = some ⟨oc_call_service, od_call_service, .func (PySem.W.fnOf "call_service" "call_service" (defArgs s_call_service) (defBody s_call_service) (defScope s_call_service) .none kV_call_service dc_call_service pm_call_service an_call_service cd_call_service ct_call_service), sl_call_service⟩)
    (c_call_service : PySem.W.codeIn K cd_call_service "call_service" = true)
    (k_call_service : PySem.W.keepIn K (.ref f_call_service) = true)
    (a_call_pass : PySem.W.nsIn K mainGlobals "call_pass" = some (some (.ref f_call_pass)))
    (l_call_pass : K.lookup f_call_pass = some ⟨oc_call_pass, od_call_pass, .func (PySem.W.fnOf "call_pass" "call_pass" (defArgs s_call_pass) (defBody s_call_pass) (defScope s_call_pass) .none kV_call_pass dc_call_pass pm_call_pass an_call_pass cd_call_pass ct_call_pass), sl_call_pass⟩)
    (c_call_pass : PySem.W.codeIn K cd_call_pass "call_pass" = true)
    (k_call_pass : PySem.W.keepIn K (.ref f_call_pass) = true)
    (a_call_days : PySem.W.nsIn K mainGlobals "call_days" = some (some (.ref f_call_days)))
    (l_call_days : K.lookup f_call_days = some ⟨oc_call_days, od_call_days, .func (PySem.W.fnOf "call_days" "call_days" (defArgs s_call_days) (defBody s_call_days) (defScope s_call_days) .none kV_call_days dc_call_days pm_call_days an_call_days cd_call_days ct_call_days), sl_call_days⟩)
    (c_call_days : PySem.W.codeIn K cd_call_days "call_days" = true)
    (k_call_days : PySem.W.keepIn K (.ref f_call_days) = true)
    (a_call_splice : PySem.W.nsIn K mainGlobals "call_splice" = some (some (.ref f_call_splice)))
    (l_call_splice : K.lookup f_call_splice = some ⟨oc_call_splice, od_call_splice, .func (PySem.W.fnOf "call_splice" "call_splice" (defArgs s_call_splice) (defBody s_call_splice) (defScope s_call_splice) .none kV_call_splice dc_call_splice pm_call_splice an_call_splice cd_call_splice ct_call_splice), sl_call_splice⟩)
    (c_call_splice : PySem.W.codeIn K cd_call_splice "call_splice" = true)
    (k_call_splice : PySem.W.keepIn K (.ref f_call_splice) = true)
    (a_call_measured : PySem.W.nsIn K mainGlobals "call_measured" = some (some (.ref f_call_measured)))
    (l_call_measured : K.lookup f_call_measured = some ⟨oc_call_measured, od_call_measured, .func (PySem.W.fnOf "call_measured" "call_measured" (defArgs s_call_measured) (defBody s_call_measured) (defScope s_call_measured) .none kV_call_measured dc_call_measured pm_call_measured an_call_measured cd_call_measured ct_call_measured), sl_call_measured⟩)
    (c_call_measured : PySem.W.codeIn K cd_call_measured "call_measured" = true)
    (k_call_measured : PySem.W.keepIn K (.ref f_call_measured) = true)
    (a_call_left : PySem.W.nsIn K mainGlobals "call_left" = some (some (.ref f_call_left)))
    (l_call_left : K.lookup f_call_left = some ⟨oc_call_left, od_call_left, .func (PySem.W.fnOf "call_left" "call_left" (defArgs s_call_left) (defBody s_call_left) (defScope s_call_left) .none kV_call_left dc_call_left pm_call_left an_call_left cd_call_left ct_call_left), sl_call_left⟩)
    (c_call_left : PySem.W.codeIn K cd_call_left "call_left" = true)
    (k_call_left : PySem.W.keepIn K (.ref f_call_left) = true)
    (a_call_day : PySem.W.nsIn K mainGlobals "call_day" = some (some (.ref f_call_day)))
    (l_call_day : K.lookup f_call_day = some ⟨oc_call_day, od_call_day, .func (PySem.W.fnOf "call_day" "call_day" (defArgs s_call_day) (defBody s_call_day) (defScope s_call_day) .none kV_call_day dc_call_day pm_call_day an_call_day cd_call_day ct_call_day), sl_call_day⟩)
    (c_call_day : PySem.W.codeIn K cd_call_day "call_day" = true)
    (k_call_day : PySem.W.keepIn K (.ref f_call_day) = true)
    (a_call_due : PySem.W.nsIn K mainGlobals "call_due" = some (some (.ref f_call_due)))
    (l_call_due : K.lookup f_call_due = some ⟨oc_call_due, od_call_due, .func (PySem.W.fnOf "call_due" "call_due" (defArgs s_call_due) (defBody s_call_due) (defScope s_call_due) .none kV_call_due dc_call_due pm_call_due an_call_due cd_call_due ct_call_due), sl_call_due⟩)
    (c_call_due : PySem.W.codeIn K cd_call_due "call_due" = true)
    (k_call_due : PySem.W.keepIn K (.ref f_call_due) = true)
    (a_call_week : PySem.W.nsIn K mainGlobals "call_week" = some (some (.ref f_call_week)))
    (l_call_week : K.lookup f_call_week = some ⟨oc_call_week, od_call_week, .func (PySem.W.fnOf "call_week" "call_week" (defArgs s_call_week) (defBody s_call_week) (defScope s_call_week) .none kV_call_week dc_call_week pm_call_week an_call_week cd_call_week ct_call_week), sl_call_week⟩)
    (c_call_week : PySem.W.codeIn K cd_call_week "call_week" = true)
    (k_call_week : PySem.W.keepIn K (.ref f_call_week) = true)
    (a_call_least : PySem.W.nsIn K mainGlobals "call_least" = some (some (.ref f_call_least)))
    (l_call_least : K.lookup f_call_least = some ⟨oc_call_least, od_call_least, .func (PySem.W.fnOf "call_least" "call_least" (defArgs s_call_least) (defBody s_call_least) (defScope s_call_least) .none kV_call_least dc_call_least pm_call_least an_call_least cd_call_least ct_call_least), sl_call_least⟩)
    (c_call_least : PySem.W.codeIn K cd_call_least "call_least" = true)
    (k_call_least : PySem.W.keepIn K (.ref f_call_least) = true)
    (a_call_when : PySem.W.nsIn K mainGlobals "call_when" = some (some (.ref f_call_when)))
    (l_call_when : K.lookup f_call_when = some ⟨oc_call_when, od_call_when, .func (PySem.W.fnOf "call_when" "call_when" (defArgs s_call_when) (defBody s_call_when) (defScope s_call_when) .none kV_call_when dc_call_when pm_call_when an_call_when cd_call_when ct_call_when), sl_call_when⟩)
    (c_call_when : PySem.W.codeIn K cd_call_when "call_when" = true)
    (k_call_when : PySem.W.keepIn K (.ref f_call_when) = true)
    (a_call_until : PySem.W.nsIn K mainGlobals "call_until" = some (some (.ref f_call_until)))
    (l_call_until : K.lookup f_call_until = some ⟨oc_call_until, od_call_until, .func (PySem.W.fnOf "call_until" "call_until" (defArgs s_call_until) (defBody s_call_until) (defScope s_call_until) .none kV_call_until dc_call_until pm_call_until an_call_until cd_call_until ct_call_until), sl_call_until⟩)
    (c_call_until : PySem.W.codeIn K cd_call_until "call_until" = true)
    (k_call_until : PySem.W.keepIn K (.ref f_call_until) = true)
    (a_call_pieces : PySem.W.nsIn K mainGlobals "call_pieces" = some (some (.ref f_call_pieces)))
    (l_call_pieces : K.lookup f_call_pieces = some ⟨oc_call_pieces, od_call_pieces, .func (PySem.W.fnOf "call_pieces" "call_pieces" (defArgs s_call_pieces) (defBody s_call_pieces) (defScope s_call_pieces) .none kV_call_pieces dc_call_pieces pm_call_pieces an_call_pieces cd_call_pieces ct_call_pieces), sl_call_pieces⟩)
    (c_call_pieces : PySem.W.codeIn K cd_call_pieces "call_pieces" = true)
    (k_call_pieces : PySem.W.keepIn K (.ref f_call_pieces) = true)
    (a_call_splices : PySem.W.nsIn K mainGlobals "call_splices" = some (some (.ref f_call_splices)))
    (l_call_splices : K.lookup f_call_splices = some ⟨oc_call_splices, od_call_splices, .func (PySem.W.fnOf "call_splices" "call_splices" (defArgs s_call_splices) (defBody s_call_splices) (defScope s_call_splices) .none kV_call_splices dc_call_splices pm_call_splices an_call_splices cd_call_splices ct_call_splices), sl_call_splices⟩)
    (c_call_splices : PySem.W.codeIn K cd_call_splices "call_splices" = true)
    (k_call_splices : PySem.W.keepIn K (.ref f_call_splices) = true)
    (a_call_against : PySem.W.nsIn K mainGlobals "call_against" = some (some (.ref f_call_against)))
    (l_call_against : K.lookup f_call_against = some ⟨oc_call_against, od_call_against, .func (PySem.W.fnOf "call_against" "call_against" (defArgs s_call_against) (defBody s_call_against) (defScope s_call_against) .none kV_call_against dc_call_against pm_call_against an_call_against cd_call_against ct_call_against), sl_call_against⟩)
    (c_call_against : PySem.W.codeIn K cd_call_against "call_against" = true)
    (k_call_against : PySem.W.keepIn K (.ref f_call_against) = true)
    (a_call_support : PySem.W.nsIn K mainGlobals "call_support" = some (some (.ref f_call_support)))
    (l_call_support : K.lookup f_call_support = some ⟨oc_call_support, od_call_support, .func (PySem.W.fnOf "call_support" "call_support" (defArgs s_call_support) (defBody s_call_support) (defScope s_call_support) .none kV_call_support dc_call_support pm_call_support an_call_support cd_call_support ct_call_support), sl_call_support⟩)
    (c_call_support : PySem.W.codeIn K cd_call_support "call_support" = true)
    (k_call_support : PySem.W.keepIn K (.ref f_call_support) = true)
    (a_call_take : PySem.W.nsIn K mainGlobals "call_take" = some (some (.ref f_call_take)))
    (l_call_take : K.lookup f_call_take = some ⟨oc_call_take, od_call_take, .func (PySem.W.fnOf "call_take" "call_take" (defArgs s_call_take) (defBody s_call_take) (defScope s_call_take) .none kV_call_take dc_call_take pm_call_take an_call_take cd_call_take ct_call_take), sl_call_take⟩)
    (c_call_take : PySem.W.codeIn K cd_call_take "call_take" = true)
    (k_call_take : PySem.W.keepIn K (.ref f_call_take) = true)
    (a_offsets_of : PySem.W.nsIn K mainGlobals "offsets_of" = some (some (.ref f_offsets_of)))
    (l_offsets_of : K.lookup f_offsets_of = some ⟨oc_offsets_of, od_offsets_of, .func (PySem.W.fnOf "offsets_of" "offsets_of" (defArgs s_offsets_of) (defBody s_offsets_of) (defScope s_offsets_of) .none kV_offsets_of dc_offsets_of pm_offsets_of an_offsets_of cd_offsets_of ct_offsets_of), sl_offsets_of⟩)
    (c_offsets_of : PySem.W.codeIn K cd_offsets_of "offsets_of" = true)
    (k_offsets_of : PySem.W.keepIn K (.ref f_offsets_of) = true)
    (a_call_offset : PySem.W.nsIn K mainGlobals "call_offset" = some (some (.ref f_call_offset)))
    (l_call_offset : K.lookup f_call_offset = some ⟨oc_call_offset, od_call_offset, .func (PySem.W.fnOf "call_offset" "call_offset" (defArgs s_call_offset) (defBody s_call_offset) (defScope s_call_offset) .none kV_call_offset dc_call_offset pm_call_offset an_call_offset cd_call_offset ct_call_offset), sl_call_offset⟩)
    (c_call_offset : PySem.W.codeIn K cd_call_offset "call_offset" = true)
    (k_call_offset : PySem.W.keepIn K (.ref f_call_offset) = true)
    (a_check_pan : PySem.W.nsIn K mainGlobals "check_pan" = some (some (.ref f_check_pan)))
    (l_check_pan : K.lookup f_check_pan = some ⟨oc_check_pan, od_check_pan, .func (PySem.W.fnOf "check_pan" "check_pan" (defArgs s_check_pan) (defBody s_check_pan) (defScope s_check_pan) .none kV_check_pan dc_check_pan pm_check_pan an_check_pan cd_check_pan ct_check_pan), sl_check_pan⟩)
    (c_check_pan : PySem.W.codeIn K cd_check_pan "check_pan" = true)
    (k_check_pan : PySem.W.keepIn K (.ref f_check_pan) = true)
    (a_touches_of : PySem.W.nsIn K mainGlobals "touches_of" = some (some (.ref f_touches_of)))
    (l_touches_of : K.lookup f_touches_of = some ⟨oc_touches_of, od_touches_of, .func (PySem.W.fnOf "touches_of" "touches_of" (defArgs s_touches_of) (defBody s_touches_of) (defScope s_touches_of) .none kV_touches_of dc_touches_of pm_touches_of an_touches_of cd_touches_of ct_touches_of), sl_touches_of⟩)
    (c_touches_of : PySem.W.codeIn K cd_touches_of "touches_of" = true)
    (k_touches_of : PySem.W.keepIn K (.ref f_touches_of) = true)
    (a_call_touches : PySem.W.nsIn K mainGlobals "call_touches" = some (some (.ref f_call_touches)))
    (l_call_touches : K.lookup f_call_touches = some ⟨oc_call_touches, od_call_touches, .func (PySem.W.fnOf "call_touches" "call_touches" (defArgs s_call_touches) (defBody s_call_touches) (defScope s_call_touches) .none kV_call_touches dc_call_touches pm_call_touches an_call_touches cd_call_touches ct_call_touches), sl_call_touches⟩)
    (c_call_touches : PySem.W.codeIn K cd_call_touches "call_touches" = true)
    (k_call_touches : PySem.W.keepIn K (.ref f_call_touches) = true)
    (a_call_strip : PySem.W.nsIn K mainGlobals "call_strip" = some (some (.ref f_call_strip)))
    (l_call_strip : K.lookup f_call_strip = some ⟨oc_call_strip, od_call_strip, .func (PySem.W.fnOf "call_strip" "call_strip" (defArgs s_call_strip) (defBody s_call_strip) (defScope s_call_strip) .none kV_call_strip dc_call_strip pm_call_strip an_call_strip cd_call_strip ct_call_strip), sl_call_strip⟩)
    (c_call_strip : PySem.W.codeIn K cd_call_strip "call_strip" = true)
    (k_call_strip : PySem.W.keepIn K (.ref f_call_strip) = true)
    (a_call_even : PySem.W.nsIn K mainGlobals "call_even" = some (some (.ref f_call_even)))
    (l_call_even : K.lookup f_call_even = some ⟨oc_call_even, od_call_even, .func (PySem.W.fnOf "call_even" "call_even" (defArgs s_call_even) (defBody s_call_even) (defScope s_call_even) .none kV_call_even dc_call_even pm_call_even an_call_even cd_call_even ct_call_even), sl_call_even⟩)
    (c_call_even : PySem.W.codeIn K cd_call_even "call_even" = true)
    (k_call_even : PySem.W.keepIn K (.ref f_call_even) = true)
    (a_call_lay : PySem.W.nsIn K mainGlobals "call_lay" = some (some (.ref f_call_lay)))
    (l_call_lay : K.lookup f_call_lay = some ⟨oc_call_lay, od_call_lay, .func (PySem.W.fnOf "call_lay" "call_lay" (defArgs s_call_lay) (defBody s_call_lay) (defScope s_call_lay) .none kV_call_lay dc_call_lay pm_call_lay an_call_lay cd_call_lay ct_call_lay), sl_call_lay⟩)
    (c_call_lay : PySem.W.codeIn K cd_call_lay "call_lay" = true)
    (k_call_lay : PySem.W.keepIn K (.ref f_call_lay) = true)
    (a_call_begin : PySem.W.nsIn K mainGlobals "call_begin" = some (some (.ref f_call_begin)))
    (l_call_begin : K.lookup f_call_begin = some ⟨oc_call_begin, od_call_begin, .func (PySem.W.fnOf "call_begin" "call_begin" (defArgs s_call_begin) (defBody s_call_begin) (defScope s_call_begin) .none kV_call_begin dc_call_begin pm_call_begin an_call_begin cd_call_begin ct_call_begin), sl_call_begin⟩)
    (c_call_begin : PySem.W.codeIn K cd_call_begin "call_begin" = true)
    (k_call_begin : PySem.W.keepIn K (.ref f_call_begin) = true)
    (a_called : PySem.W.nsIn K mainGlobals "called" = some (some (.ref f_called)))
    (l_called : K.lookup f_called = some ⟨oc_called, od_called, .func (PySem.W.fnOf "called" "called" (defArgs s_called) (defBody s_called) (defScope s_called) .none kV_called dc_called pm_called an_called cd_called ct_called), sl_called⟩)
    (c_called : PySem.W.codeIn K cd_called "called" = true)
    (k_called : PySem.W.keepIn K (.ref f_called) = true)
    (a_answered : PySem.W.nsIn K mainGlobals "answered" = some (some (.ref f_answered)))
    (l_answered : K.lookup f_answered = some ⟨oc_answered, od_answered, .func (PySem.W.fnOf "answered" "answered" (defArgs s_answered) (defBody s_answered) (defScope s_answered) .none kV_answered dc_answered pm_answered an_answered cd_answered ct_answered), sl_answered⟩)
    (c_answered : PySem.W.codeIn K cd_answered "answered" = true)
    (k_answered : PySem.W.keepIn K (.ref f_answered) = true)
    (a_answers : PySem.W.nsIn K mainGlobals "answers" = some (some (.ref f_answers)))
    (l_answers : K.lookup f_answers = some ⟨oc_answers, od_answers, .func (PySem.W.fnOf "answers" "answers" (defArgs s_answers) (defBody s_answers) (defScope s_answers) .none kV_answers dc_answers pm_answers an_answers cd_answers ct_answers), sl_answers⟩)
    (c_answers : PySem.W.codeIn K cd_answers "answers" = true)
    (k_answers : PySem.W.keepIn K (.ref f_answers) = true)
    (pgCW : PySem.W.plainGet K CW Str.empty = true)
    (hdCW : PySem.W.hasDictIn K CW = true)
    (poCW : PySem.W.plainOver K CW = true)
    (saCW : PySem.W.findIn K (.ref CW) "__setattr__" = some (some (.builtin "object.__setattr__")))
    (mkCW : PySem.W.makesIn K CW = true)
    (kcCW : PySem.W.keepIn K (.ref CW) = true)
    (nCW_many : PySem.W.findIn K (.ref CW) "many" = some none)
    (nCW_left : PySem.W.findIn K (.ref CW) "left" = some none)
    (nCW_levels : PySem.W.findIn K (.ref CW) "levels" = some none)
    (nCW_extras : PySem.W.findIn K (.ref CW) "extras" = some none)
    (nCW_kinds : PySem.W.findIn K (.ref CW) "kinds" = some none)
    (nCW_services : PySem.W.findIn K (.ref CW) "services" = some none)
    (nCW_supports : PySem.W.findIn K (.ref CW) "supports" = some none)
    (nCW_day : PySem.W.findIn K (.ref CW) "day" = some none)
    (pgCH : PySem.W.plainGet K CH Str.empty = true)
    (hdCH : PySem.W.hasDictIn K CH = true)
    (poCH : PySem.W.plainOver K CH = true)
    (saCH : PySem.W.findIn K (.ref CH) "__setattr__" = some (some (.builtin "object.__setattr__")))
    (mkCH : PySem.W.makesIn K CH = true)
    (kcCH : PySem.W.keepIn K (.ref CH) = true)
    (nCH_wire : PySem.W.findIn K (.ref CH) "wire" = some none)
    (xL : K.lookup CS = some (excClassObj nm qq CS NN bs [.type "ValueError", .type "Exception", .type "BaseException", .type "object"] true sn sub ab col dd m0 m1 m2 m3 m5 "ValueError.__new__"))
    (sa : PySem.W.findIn K (.ref CS) "__setattr__" = some (some (.builtin "object.__setattr__")))
    (ga : PySem.W.findIn K (.ref CS) "__getattribute__" = some (some (.builtin "BaseException.__getattribute__")))
    (gg : PySem.W.findIn K (.ref CS) "__getattr__" = some none)
    (nb : PySem.W.findIn K (.ref CS) "code" = some none)
    (b1 : PySem.W.findIn K (.ref CS) "__init__" = some (some (.ref fS)))
    (t1 : PySem.W.typeIn K (.ref fS) = some (.type "function"))
    (l1 : K.lookup fS = some ⟨oc1, od1, .func (PySem.W.fnOf "__init__" "Stop.__init__" (PySem.LowX.iA ⟨147, 17, 147, 21⟩ ⟨147, 23, 147, 27⟩) (PySem.LowX.iB ⟨148, 8, 148, 12⟩ ⟨148, 8, 148, 17⟩ ⟨148, 20, 148, 24⟩ ⟨148, 8, 148, 24⟩) PySem.LowX.iS .none .none dc1 pm1 an1 cd1 ct1), sl1⟩)
    (c1 : PySem.W.codeIn K cd1 "Stop.__init__" = true)
    (kC : PySem.W.keepIn K (.ref CS) = true)
    (eC : PySem.W.subIn K (.ref CS) (.type "BaseException") = some true)
    (tC : PySem.W.typeIn K (.ref CS) = some (.type "type"))
    (hC : PySem.W.hasDictIn K CS = true)
    (iC : PySem.W.isClsIn K CS = true)
    (sC : PySem.W.subIn K (.ref CS) (.ref CS) = some true)
    (g_WEEK : PySem.W.nsIn K mainGlobals "WEEK" = some (some (.int 7 z_WEEK)))
    (g_NOT_SO : PySem.W.nsIn K mainGlobals "NOT_SO" = some (some (.int (-1) z_NOT_SO)))
    (g_NOT_BEGUN : PySem.W.nsIn K mainGlobals "NOT_BEGUN" = some (some (.int (-2) z_NOT_BEGUN)))
    (g_NOT_THERE : PySem.W.nsIn K mainGlobals "NOT_THERE" = some (some (.int (-4) z_NOT_THERE)))
    (g_NO_ROOM : PySem.W.nsIn K mainGlobals "NO_ROOM" = some (some (.int (-6) z_NO_ROOM)))
    (g_AS_TOLD : PySem.W.nsIn K mainGlobals "AS_TOLD" = some (some (.int (-7) z_AS_TOLD)))
    (g_MILLION : PySem.W.nsIn K mainGlobals "MILLION" = some (some (.int 1000000 z_MILLION)))
    (g_MOST_OFFSET : PySem.W.nsIn K mainGlobals "MOST_OFFSET" = some (some (.int 400 z_MOST_OFFSET)))
    (g_MOST_SUPPORTS : PySem.W.nsIn K mainGlobals "MOST_SUPPORTS" = some (some (.int 6 z_MOST_SUPPORTS)))
    (g_DEEDS : PySem.W.nsIn K mainGlobals "DEEDS" = some (some (.ref tD)))
    (q_DEEDS : K.lookup tD = some ⟨.type "tuple", e_DEEDS, .seq v_DEEDS n_DEEDS, y_DEEDS⟩)
    (g_NUMBERS : PySem.W.nsIn K mainGlobals "NUMBERS" = some (some (.ref tN)))
    (q_NUMBERS : K.lookup tN = some ⟨.type "tuple", e_NUMBERS, .seq v_NUMBERS n_NUMBERS, y_NUMBERS⟩)
    (g_WITH_ROW : PySem.W.nsIn K mainGlobals "WITH_ROW" = some (some (.ref tW)))
    (q_WITH_ROW : K.lookup tW = some ⟨.type "tuple", e_WITH_ROW, .seq v_WITH_ROW n_WITH_ROW, y_WITH_ROW⟩)
    (w_DEEDS : v_DEEDS = #[.ref f_call_begin, .ref f_call_draw, .ref f_call_gap, .ref f_call_kind, .ref f_call_service, .ref f_call_pass, .ref f_call_days, .ref f_call_splice, .ref f_call_measured, .ref f_call_left, .ref f_call_day, .ref f_call_due, .ref f_call_week, .ref f_call_least, .ref f_call_when, .ref f_call_until, .ref f_call_pieces, .ref f_call_splices, .ref f_call_against, .ref f_call_support, .ref f_call_take, .ref f_call_offset, .ref f_call_touches, .ref f_call_strip, .ref f_call_even, .ref f_call_lay])
    (w_NUMBERS : isInts numbersI v_NUMBERS.toList = true)
    (w_WITH_ROW : isInts [18, 24, 25] v_WITH_ROW.toList = true)
    (b_abs : PySem.W.nsIn K mainGlobals "abs" = some none)
    (b_len : PySem.W.nsIn K mainGlobals "len" = some none)
    (b_min : PySem.W.nsIn K mainGlobals "min" = some none)
    (b_max : PySem.W.nsIn K mainGlobals "max" = some none)
    (b_sum : PySem.W.nsIn K mainGlobals "sum" = some none)
    (b_sorted : PySem.W.nsIn K mainGlobals "sorted" = some none)
    (b_all : PySem.W.nsIn K mainGlobals "all" = some none)
    (b_list : PySem.W.nsIn K mainGlobals "list" = some none)
    (b_range : PySem.W.nsIn K mainGlobals "range" = some none)
    (b_enumerate : PySem.W.nsIn K mainGlobals "enumerate" = some none)
    (b_zip : PySem.W.nsIn K mainGlobals "zip" = some none)
    : ∃ fd : FuncData, (∀ (s : Shared) (us : List Value), us.length = (["calls"] : List Str).length → BindsTo s fd ⟨us, []⟩ ((["calls"] : List Str).zip us)) ∧ ∀ base : Heap, K.In base → base.Ns mainGlobals mg → FnOk P w K mg base CX0 9 fa fd ["calls"] (spAns K) := by
  have e := hfa.symm.trans (PySem.W.mg_of X G a_answers)
  cases e
  have low : PySem.LowX.LowTxt K mg CS fS :=
    { gC := PySem.W.mg_of X G aCS, cls := ⟨nm, qq, NN, bs, _, sn, sub, ab, col, dd, m0, m1, m2, m3, m5, xL, by decide +kernel⟩, sa := sa, ga := ga, gg := gg, noN := nb, iC := b1, tC := t1, kC := kC, exC := eC, tyC := tC, hdC := hC, te := exm_self eC iC tC sC,
      fn := ⟨_, _, _, _, _, _, _, _, _, _, _, _, _, _, l1, c1⟩ }
  have none_of : ∀ {n : Str}, PySem.W.nsIn K mainGlobals n = some none → mg n = none := fun e => PySem.W.mg_none_of X G e
  have T : Txt K mg ⟨CW, CH, CS, fS, tD, tN, tW⟩ :=
    { clW := ⟨pgCW, hdCW, poCW, saCW⟩,
      nW_many := nCW_many,
      nW_left := nCW_left,
      nW_levels := nCW_levels,
      nW_extras := nCW_extras,
      nW_kinds := nCW_kinds,
      nW_services := nCW_services,
      nW_supports := nCW_supports,
      nW_day := nCW_day,
      clH := ⟨pgCH, hdCH, poCH, saCH⟩,
      nH_wire := nCH_wire,
      low := low,
      g_WEEK := ⟨_, PySem.W.mg_of X G g_WEEK⟩,
      g_NOT_SO := ⟨_, PySem.W.mg_of X G g_NOT_SO⟩,
      g_NOT_BEGUN := ⟨_, PySem.W.mg_of X G g_NOT_BEGUN⟩,
      g_NOT_THERE := ⟨_, PySem.W.mg_of X G g_NOT_THERE⟩,
      g_NO_ROOM := ⟨_, PySem.W.mg_of X G g_NO_ROOM⟩,
      g_AS_TOLD := ⟨_, PySem.W.mg_of X G g_AS_TOLD⟩,
      g_MILLION := ⟨_, PySem.W.mg_of X G g_MILLION⟩,
      g_MOST_OFFSET := ⟨_, PySem.W.mg_of X G g_MOST_OFFSET⟩,
      g_MOST_SUPPORTS := ⟨_, PySem.W.mg_of X G g_MOST_SUPPORTS⟩,
      g_DEEDS := PySem.W.mg_of X G g_DEEDS,
      g_NUMBERS := PySem.W.mg_of X G g_NUMBERS,
      g_WITH_ROW := PySem.W.mg_of X G g_WITH_ROW,
      t_DEEDS := ⟨[f_call_begin, f_call_draw, f_call_gap, f_call_kind, f_call_service, f_call_pass, f_call_days, f_call_splice, f_call_measured, f_call_left, f_call_day, f_call_due, f_call_week, f_call_least, f_call_when, f_call_until, f_call_pieces, f_call_splices, f_call_against, f_call_support, f_call_take, f_call_offset, f_call_touches, f_call_strip, f_call_even, f_call_lay], fun H => .inr ⟨_, _, _, q_DEEDS, rfl, rfl, by rw [w_DEEDS]; show 26 ≤ sizeLine; decide, by rw [w_DEEDS]; exact refs_vals [f_call_begin, f_call_draw, f_call_gap, f_call_kind, f_call_service, f_call_pass, f_call_days, f_call_splice, f_call_measured, f_call_left, f_call_day, f_call_due, f_call_week, f_call_least, f_call_when, f_call_until, f_call_pieces, f_call_splices, f_call_against, f_call_support, f_call_take, f_call_offset, f_call_touches, f_call_strip, f_call_even, f_call_lay]⟩, by
        show _ = [mg "call_begin", mg "call_draw", mg "call_gap", mg "call_kind", mg "call_service", mg "call_pass", mg "call_days", mg "call_splice", mg "call_measured", mg "call_left", mg "call_day", mg "call_due", mg "call_week", mg "call_least", mg "call_when", mg "call_until", mg "call_pieces", mg "call_splices", mg "call_against", mg "call_support", mg "call_take", mg "call_offset", mg "call_touches", mg "call_strip", mg "call_even", mg "call_lay"]
        rw [PySem.W.mg_of X G a_call_begin, PySem.W.mg_of X G a_call_draw, PySem.W.mg_of X G a_call_gap, PySem.W.mg_of X G a_call_kind, PySem.W.mg_of X G a_call_service, PySem.W.mg_of X G a_call_pass, PySem.W.mg_of X G a_call_days, PySem.W.mg_of X G a_call_splice, PySem.W.mg_of X G a_call_measured, PySem.W.mg_of X G a_call_left, PySem.W.mg_of X G a_call_day, PySem.W.mg_of X G a_call_due, PySem.W.mg_of X G a_call_week, PySem.W.mg_of X G a_call_least, PySem.W.mg_of X G a_call_when, PySem.W.mg_of X G a_call_until, PySem.W.mg_of X G a_call_pieces, PySem.W.mg_of X G a_call_splices, PySem.W.mg_of X G a_call_against, PySem.W.mg_of X G a_call_support, PySem.W.mg_of X G a_call_take, PySem.W.mg_of X G a_call_offset, PySem.W.mg_of X G a_call_touches, PySem.W.mg_of X G a_call_strip, PySem.W.mg_of X G a_call_even, PySem.W.mg_of X G a_call_lay]; rfl⟩,
      t_NUMBERS := fun H => .inr ⟨_, _, _, q_NUMBERS, rfl, rfl, by have := isInts_len w_NUMBERS; rw [Array.length_toList] at this; rw [this]; decide, isInts_vals w_NUMBERS⟩,
      t_WITH_ROW := fun H => .inr ⟨_, _, _, q_WITH_ROW, rfl, rfl, by have := isInts_len w_WITH_ROW; rw [Array.length_toList] at this; rw [this]; decide, isInts_vals w_WITH_ROW⟩,
      b_abs := none_of b_abs,
      b_len := none_of b_len,
      b_min := none_of b_min,
      b_max := none_of b_max,
      b_sum := none_of b_sum,
      b_sorted := none_of b_sorted,
      b_all := none_of b_all,
      b_list := none_of b_list,
      b_range := none_of b_range,
      b_enumerate := none_of b_enumerate,
      b_zip := none_of b_zip }
  have F_divisor := fun_mk (st := s_divisor) l_divisor c_divisor k_divisor
  have F_lowest := fun_mk (st := s_lowest) l_lowest c_lowest k_lowest
  have F_between := fun_mk (st := s_between) l_between c_between k_between
  have F_cell_of := fun_mk (st := s_cell_of) l_cell_of c_cell_of k_cell_of
  have F_touched := fun_mk (st := s_touched) l_touched c_touched k_touched
  have F_spans_of := fun_mk (st := s_spans_of) l_spans_of c_spans_of k_spans_of
  have F_all_choices := fun_mk (st := s_all_choices) l_all_choices c_all_choices k_all_choices
  have F_evenest := fun_mk (st := s_evenest) l_evenest c_evenest k_evenest
  have F_Wire_init := fun_mk (st := s_Wire_init) l_Wire_init c_Wire_init k_Wire_init
  have F_Wire_due := fun_mk (st := s_Wire_due) l_Wire_due c_Wire_due k_Wire_due
  have F_Wire_take := fun_mk (st := s_Wire_take) l_Wire_take c_Wire_take k_Wire_take
  have F_Wire_on_day := fun_mk (st := s_Wire_on_day) l_Wire_on_day c_Wire_on_day k_Wire_on_day
  have F_Wire_week := fun_mk (st := s_Wire_week) l_Wire_week c_Wire_week k_Wire_week
  have F_Wire_pass_days := fun_mk (st := s_Wire_pass_days) l_Wire_pass_days c_Wire_pass_days k_Wire_pass_days
  have F_Wire_until := fun_mk (st := s_Wire_until) l_Wire_until c_Wire_until k_Wire_until
  have F_Wire_worn := fun_mk (st := s_Wire_worn) l_Wire_worn c_Wire_worn k_Wire_worn
  have F_Wire_pieces := fun_mk (st := s_Wire_pieces) l_Wire_pieces c_Wire_pieces k_Wire_pieces
  have F_Wire_splices := fun_mk (st := s_Wire_splices) l_Wire_splices c_Wire_splices k_Wire_splices
  have F_Holder_init := fun_mk (st := s_Holder_init) l_Holder_init c_Holder_init k_Holder_init
  have F_check := fun_mk (st := s_check) l_check c_check k_check
  have F_check_place := fun_mk (st := s_check_place) l_check_place c_check_place k_check_place
  have F_call_draw := fun_mk (st := s_call_draw) l_call_draw c_call_draw k_call_draw
  have F_call_gap := fun_mk (st := s_call_gap) l_call_gap c_call_gap k_call_gap
  have F_call_kind := fun_mk (st := s_call_kind) l_call_kind c_call_kind k_call_kind
  have F_call_service := fun_mk (st := s_call_service) l_call_service c_call_service k_call_service
  have F_call_pass := fun_mk (st := s_call_pass) l_call_pass c_call_pass k_call_pass
  have F_call_days := fun_mk (st := s_call_days) l_call_days c_call_days k_call_days
  have F_call_splice := fun_mk (st := s_call_splice) l_call_splice c_call_splice k_call_splice
  have F_call_measured := fun_mk (st := s_call_measured) l_call_measured c_call_measured k_call_measured
  have F_call_left := fun_mk (st := s_call_left) l_call_left c_call_left k_call_left
  have F_call_day := fun_mk (st := s_call_day) l_call_day c_call_day k_call_day
  have F_call_due := fun_mk (st := s_call_due) l_call_due c_call_due k_call_due
  have F_call_week := fun_mk (st := s_call_week) l_call_week c_call_week k_call_week
  have F_call_least := fun_mk (st := s_call_least) l_call_least c_call_least k_call_least
  have F_call_when := fun_mk (st := s_call_when) l_call_when c_call_when k_call_when
  have F_call_until := fun_mk (st := s_call_until) l_call_until c_call_until k_call_until
  have F_call_pieces := fun_mk (st := s_call_pieces) l_call_pieces c_call_pieces k_call_pieces
  have F_call_splices := fun_mk (st := s_call_splices) l_call_splices c_call_splices k_call_splices
  have F_call_against := fun_mk (st := s_call_against) l_call_against c_call_against k_call_against
  have F_call_support := fun_mk (st := s_call_support) l_call_support c_call_support k_call_support
  have F_call_take := fun_mk (st := s_call_take) l_call_take c_call_take k_call_take
  have F_offsets_of := fun_mk (st := s_offsets_of) l_offsets_of c_offsets_of k_offsets_of
  have F_call_offset := fun_mk (st := s_call_offset) l_call_offset c_call_offset k_call_offset
  have F_check_pan := fun_mk (st := s_check_pan) l_check_pan c_check_pan k_check_pan
  have F_touches_of := fun_mk (st := s_touches_of) l_touches_of c_touches_of k_touches_of
  have F_call_touches := fun_mk (st := s_call_touches) l_call_touches c_call_touches k_call_touches
  have F_call_strip := fun_mk (st := s_call_strip) l_call_strip c_call_strip k_call_strip
  have F_call_even := fun_mk (st := s_call_even) l_call_even c_call_even k_call_even
  have F_call_lay := fun_mk (st := s_call_lay) l_call_lay c_call_lay k_call_lay
  have F_call_begin := fun_mk (st := s_call_begin) l_call_begin c_call_begin k_call_begin
  have F_called := fun_mk (st := s_called) l_called c_called k_called
  have F_answered := fun_mk (st := s_answered) l_answered c_answered k_answered
  have F_answers := fun_mk (st := s_answers) l_answers c_answers k_answers
  refine ⟨PySem.W.fnOf "answers" "answers" (defArgs s_answers) (defBody s_answers) (defScope s_answers) .none kV_answers dc_answers pm_answers an_answers cd_answers ct_answers, fun s us hu => match us, hu with | [_], _ => .of_eq rfl, fun base _ _ => ?_⟩
  have C_Holder_init := cal_Holder_init (P := P) (wd := w) (base := base) T ⟨_, _, F_Holder_init, ⟨mkCH, a_Holder_init, i_Holder_init, kcCH⟩, PySem.W.mg_of X G aCH⟩ 
  have C_Wire_init := cal_Wire_init (P := P) (wd := w) (base := base) T ⟨_, _, F_Wire_init, ⟨mkCW, a_Wire_init, i_Wire_init, kcCW⟩, PySem.W.mg_of X G aCW⟩ 
  have C_check := cal_check (P := P) (wd := w) (base := base) T ⟨_, _, F_check, PySem.W.mg_of X G a_check⟩ 
  have C_call_begin := cal_call_begin (P := P) (wd := w) (base := base) T ⟨_, _, F_call_begin, PySem.W.mg_of X G a_call_begin⟩ 
  have C_check_place := cal_check_place (P := P) (wd := w) (base := base) T ⟨_, _, F_check_place, PySem.W.mg_of X G a_check_place⟩ C_check
  have C_call_draw := cal_call_draw (P := P) (wd := w) (base := base) T ⟨_, _, F_call_draw, PySem.W.mg_of X G a_call_draw⟩ C_check C_check_place
  have C_call_gap := cal_call_gap (P := P) (wd := w) (base := base) T ⟨_, _, F_call_gap, PySem.W.mg_of X G a_call_gap⟩ C_check C_check_place
  have C_call_kind := cal_call_kind (P := P) (wd := w) (base := base) T ⟨_, _, F_call_kind, PySem.W.mg_of X G a_call_kind⟩ C_check
  have C_call_service := cal_call_service (P := P) (wd := w) (base := base) T ⟨_, _, F_call_service, PySem.W.mg_of X G a_call_service⟩ C_check
  have C_Wire_due := cal_Wire_due (P := P) (wd := w) (base := base) T ⟨_, _, F_Wire_due, ⟨a_Wire_due, i_Wire_due, k_Wire_due⟩⟩ 
  have C_Wire_take := cal_Wire_take (P := P) (wd := w) (base := base) T ⟨_, _, F_Wire_take, ⟨a_Wire_take, i_Wire_take, k_Wire_take⟩⟩ 
  have C_call_pass := cal_call_pass (P := P) (wd := w) (base := base) T ⟨_, _, F_call_pass, PySem.W.mg_of X G a_call_pass⟩ C_Wire_due C_Wire_take C_check
  have C_Wire_on_day := cal_Wire_on_day (P := P) (wd := w) (base := base) T ⟨_, _, F_Wire_on_day, ⟨a_Wire_on_day, i_Wire_on_day, k_Wire_on_day⟩⟩ C_Wire_due
  have C_Wire_week := cal_Wire_week (P := P) (wd := w) (base := base) T ⟨_, _, F_Wire_week, ⟨a_Wire_week, i_Wire_week, k_Wire_week⟩⟩ C_Wire_on_day
  have C_Wire_pass_days := cal_Wire_pass_days (P := P) (wd := w) (base := base) T ⟨_, _, F_Wire_pass_days, ⟨a_Wire_pass_days, i_Wire_pass_days, k_Wire_pass_days⟩⟩ C_Wire_take C_Wire_on_day C_Wire_week
  have C_call_days := cal_call_days (P := P) (wd := w) (base := base) T ⟨_, _, F_call_days, PySem.W.mg_of X G a_call_days⟩ C_Wire_pass_days C_check
  have C_call_splice := cal_call_splice (P := P) (wd := w) (base := base) T ⟨_, _, F_call_splice, PySem.W.mg_of X G a_call_splice⟩ C_check C_check_place
  have C_call_measured := cal_call_measured (P := P) (wd := w) (base := base) T ⟨_, _, F_call_measured, PySem.W.mg_of X G a_call_measured⟩ C_check C_check_place
  have C_call_left := cal_call_left (P := P) (wd := w) (base := base) T ⟨_, _, F_call_left, PySem.W.mg_of X G a_call_left⟩ C_check_place
  have C_call_day := cal_call_day (P := P) (wd := w) (base := base) T ⟨_, _, F_call_day, PySem.W.mg_of X G a_call_day⟩ 
  have C_call_due := cal_call_due (P := P) (wd := w) (base := base) T ⟨_, _, F_call_due, PySem.W.mg_of X G a_call_due⟩ C_Wire_due C_check C_check_place
  have C_call_week := cal_call_week (P := P) (wd := w) (base := base) T ⟨_, _, F_call_week, PySem.W.mg_of X G a_call_week⟩ C_Wire_week C_check_place
  have C_call_least := cal_call_least (P := P) (wd := w) (base := base) T ⟨_, _, F_call_least, PySem.W.mg_of X G a_call_least⟩ 
  have C_Wire_until := cal_Wire_until (P := P) (wd := w) (base := base) T ⟨_, _, F_Wire_until, ⟨a_Wire_until, i_Wire_until, k_Wire_until⟩⟩ C_Wire_on_day C_Wire_week
  have C_call_when := cal_call_when (P := P) (wd := w) (base := base) T ⟨_, _, F_call_when, PySem.W.mg_of X G a_call_when⟩ C_Wire_until C_check
  have C_call_until := cal_call_until (P := P) (wd := w) (base := base) T ⟨_, _, F_call_until, PySem.W.mg_of X G a_call_until⟩ C_Wire_until C_check C_check_place
  have C_Wire_worn := cal_Wire_worn (P := P) (wd := w) (base := base) T ⟨_, _, F_Wire_worn, ⟨a_Wire_worn, i_Wire_worn, k_Wire_worn⟩⟩ 
  have C_Wire_pieces := cal_Wire_pieces (P := P) (wd := w) (base := base) T ⟨_, _, F_Wire_pieces, ⟨a_Wire_pieces, i_Wire_pieces, k_Wire_pieces⟩⟩ C_Wire_worn
  have C_call_pieces := cal_call_pieces (P := P) (wd := w) (base := base) T ⟨_, _, F_call_pieces, PySem.W.mg_of X G a_call_pieces⟩ C_Wire_pieces C_check
  have C_Wire_splices := cal_Wire_splices (P := P) (wd := w) (base := base) T ⟨_, _, F_Wire_splices, ⟨a_Wire_splices, i_Wire_splices, k_Wire_splices⟩⟩ C_Wire_worn
  have C_call_splices := cal_call_splices (P := P) (wd := w) (base := base) T ⟨_, _, F_call_splices, PySem.W.mg_of X G a_call_splices⟩ C_Wire_splices C_check
  have C_call_against := cal_call_against (P := P) (wd := w) (base := base) T ⟨_, _, F_call_against, PySem.W.mg_of X G a_call_against⟩ C_check
  have C_call_support := cal_call_support (P := P) (wd := w) (base := base) T ⟨_, _, F_call_support, PySem.W.mg_of X G a_call_support⟩ C_check C_check_place
  have C_call_take := cal_call_take (P := P) (wd := w) (base := base) T ⟨_, _, F_call_take, PySem.W.mg_of X G a_call_take⟩ C_check
  have C_divisor := cal_divisor (P := P) (wd := w) (base := base) T ⟨_, _, F_divisor, PySem.W.mg_of X G a_divisor⟩ 
  have C_lowest := cal_lowest (P := P) (wd := w) (base := base) T ⟨_, _, F_lowest, PySem.W.mg_of X G a_lowest⟩ C_divisor
  have C_between := cal_between (P := P) (wd := w) (base := base) T ⟨_, _, F_between, PySem.W.mg_of X G a_between⟩ C_lowest
  have C_spans_of := cal_spans_of (P := P) (wd := w) (base := base) T ⟨_, _, F_spans_of, PySem.W.mg_of X G a_spans_of⟩ 
  have C_offsets_of := cal_offsets_of (P := P) (wd := w) (base := base) T ⟨_, _, F_offsets_of, PySem.W.mg_of X G a_offsets_of⟩ C_between C_spans_of
  have C_call_offset := cal_call_offset (P := P) (wd := w) (base := base) T ⟨_, _, F_call_offset, PySem.W.mg_of X G a_call_offset⟩ C_check_place C_offsets_of
  have C_check_pan := cal_check_pan (P := P) (wd := w) (base := base) T ⟨_, _, F_check_pan, PySem.W.mg_of X G a_check_pan⟩ C_check
  have C_cell_of := cal_cell_of (P := P) (wd := w) (base := base) T ⟨_, _, F_cell_of, PySem.W.mg_of X G a_cell_of⟩ 
  have C_touched := cal_touched (P := P) (wd := w) (base := base) T ⟨_, _, F_touched, PySem.W.mg_of X G a_touched⟩ 
  have C_touches_of := cal_touches_of (P := P) (wd := w) (base := base) T ⟨_, _, F_touches_of, PySem.W.mg_of X G a_touches_of⟩ C_cell_of C_touched C_offsets_of
  have C_call_touches := cal_call_touches (P := P) (wd := w) (base := base) T ⟨_, _, F_call_touches, PySem.W.mg_of X G a_call_touches⟩ C_check_pan C_touches_of
  have C_call_strip := cal_call_strip (P := P) (wd := w) (base := base) T ⟨_, _, F_call_strip, PySem.W.mg_of X G a_call_strip⟩ C_check C_check_pan C_touches_of
  have C_all_choices := cal_all_choices (P := P) (wd := w) (base := base) T ⟨_, _, F_all_choices, PySem.W.mg_of X G a_all_choices⟩ 
  have C_evenest := cal_evenest (P := P) (wd := w) (base := base) T ⟨_, _, F_evenest, PySem.W.mg_of X G a_evenest⟩ C_between C_cell_of C_touched C_spans_of C_all_choices
  have C_call_even := cal_call_even (P := P) (wd := w) (base := base) T ⟨_, _, F_call_even, PySem.W.mg_of X G a_call_even⟩ C_evenest C_check C_check_pan
  have C_call_lay := cal_call_lay (P := P) (wd := w) (base := base) T ⟨_, _, F_call_lay, PySem.W.mg_of X G a_call_lay⟩ C_check
  have C_called := cal_called (P := P) (wd := w) (base := base) T ⟨_, _, F_called, PySem.W.mg_of X G a_called⟩ C_Wire_init C_check (held_all C_call_begin C_call_draw C_call_gap C_call_kind C_call_service C_call_pass C_call_days C_call_splice C_call_measured C_call_left C_call_day C_call_due C_call_week C_call_least C_call_when C_call_until C_call_pieces C_call_splices C_call_against C_call_support C_call_take C_call_offset C_call_touches C_call_strip C_call_even C_call_lay)
  have C_answered := cal_answered (P := P) (wd := w) (base := base) T ⟨_, _, F_answered, PySem.W.mg_of X G a_answered⟩ C_called
  exact cal_answers (P := P) (wd := w) (base := base) T F_answers C_Holder_init C_answered
end WW
open PySem PySem.W PyProof.Rows
set_option maxRecDepth 100000 in
set_option maxHeartbeats 8000000 in
theorem PySem.Challenge.cw_wirewear_s01_answers_holds : PySem.Challenge.rw_wirewear_s01_answers.Holds := by
  w_on; k_headS; (case hw => exact ⟨[.list [.int 10]], by decide +kernel, by decide +kernel⟩)
  k_fillS
  refine L2.walk_specK (r := PySem.Challenge.rw_wirewear_s01_answers) (k := 9) (CX := L2.CX0) (ps := ["calls"]) (sp := WW.spAns) (by decide +kernel) rfl rfl ⟨rfl, by decide, by decide⟩ (fun w h Y => PySem.W.kIn_of Y) ?F ?S (fun _ _ _ _ z => z)
  case F =>
    intro w mg fa h Y KX G hmg
    refine' WW.all_mk KX G hmg ?aCW ?aCH ?aCS ?a_divisor ?l_divisor ?c_divisor ?k_divisor ?a_lowest ?l_lowest ?c_lowest ?k_lowest ?a_between ?l_between ?c_between ?k_between ?a_cell_of ?l_cell_of ?c_cell_of ?k_cell_of ?a_touched ?l_touched ?c_touched ?k_touched ?a_spans_of ?l_spans_of ?c_spans_of ?k_spans_of ?a_all_choices ?l_all_choices ?c_all_choices ?k_all_choices ?a_evenest ?l_evenest ?c_evenest ?k_evenest ?a_Wire_init ?i_Wire_init ?l_Wire_init ?c_Wire_init ?k_Wire_init ?a_Wire_due ?i_Wire_due ?l_Wire_due ?c_Wire_due ?k_Wire_due ?a_Wire_take ?i_Wire_take ?l_Wire_take ?c_Wire_take ?k_Wire_take ?a_Wire_on_day ?i_Wire_on_day ?l_Wire_on_day ?c_Wire_on_day ?k_Wire_on_day ?a_Wire_week ?i_Wire_week ?l_Wire_week ?c_Wire_week ?k_Wire_week ?a_Wire_pass_days ?i_Wire_pass_days ?l_Wire_pass_days ?c_Wire_pass_days ?k_Wire_pass_days ?a_Wire_until ?i_Wire_until ?l_Wire_until ?c_Wire_until ?k_Wire_until ?a_Wire_worn ?i_Wire_worn ?l_Wire_worn ?c_Wire_worn ?k_Wire_worn ?a_Wire_pieces ?i_Wire_pieces ?l_Wire_pieces ?c_Wire_pieces ?k_Wire_pieces ?a_Wire_splices ?i_Wire_splices ?l_Wire_splices ?c_Wire_splices ?k_Wire_splices ?a_Holder_init ?i_Holder_init ?l_Holder_init ?c_Holder_init ?k_Holder_init ?a_check ?l_check ?c_check ?k_check ?a_check_place ?l_check_place ?c_check_place ?k_check_place ?a_call_draw ?l_call_draw ?c_call_draw ?k_call_draw ?a_call_gap ?l_call_gap ?c_call_gap ?k_call_gap ?a_call_kind ?l_call_kind ?c_call_kind ?k_call_kind ?a_call_service ?l_call_service ?c_call_service ?k_call_service ?a_call_pass ?l_call_pass ?c_call_pass ?k_call_pass ?a_call_days ?l_call_days ?c_call_days ?k_call_days ?a_call_splice ?l_call_splice ?c_call_splice ?k_call_splice ?a_call_measured ?l_call_measured ?c_call_measured ?k_call_measured ?a_call_left ?l_call_left ?c_call_left ?k_call_left ?a_call_day ?l_call_day ?c_call_day ?k_call_day ?a_call_due ?l_call_due ?c_call_due ?k_call_due ?a_call_week ?l_call_week ?c_call_week ?k_call_week ?a_call_least ?l_call_least ?c_call_least ?k_call_least ?a_call_when ?l_call_when ?c_call_when ?k_call_when ?a_call_until ?l_call_until ?c_call_until ?k_call_until ?a_call_pieces ?l_call_pieces ?c_call_pieces ?k_call_pieces ?a_call_splices ?l_call_splices ?c_call_splices ?k_call_splices ?a_call_against ?l_call_against ?c_call_against ?k_call_against ?a_call_support ?l_call_support ?c_call_support ?k_call_support ?a_call_take ?l_call_take ?c_call_take ?k_call_take ?a_offsets_of ?l_offsets_of ?c_offsets_of ?k_offsets_of ?a_call_offset ?l_call_offset ?c_call_offset ?k_call_offset ?a_check_pan ?l_check_pan ?c_check_pan ?k_check_pan ?a_touches_of ?l_touches_of ?c_touches_of ?k_touches_of ?a_call_touches ?l_call_touches ?c_call_touches ?k_call_touches ?a_call_strip ?l_call_strip ?c_call_strip ?k_call_strip ?a_call_even ?l_call_even ?c_call_even ?k_call_even ?a_call_lay ?l_call_lay ?c_call_lay ?k_call_lay ?a_call_begin ?l_call_begin ?c_call_begin ?k_call_begin ?a_called ?l_called ?c_called ?k_called ?a_answered ?l_answered ?c_answered ?k_answered ?a_answers ?l_answers ?c_answers ?k_answers ?pgCW ?hdCW ?poCW ?saCW ?mkCW ?kcCW ?nCW_many ?nCW_left ?nCW_levels ?nCW_extras ?nCW_kinds ?nCW_services ?nCW_supports ?nCW_day ?pgCH ?hdCH ?poCH ?saCH ?mkCH ?kcCH ?nCH_wire ?xL ?sa ?ga ?gg ?nb ?b1 ?t1 ?l1 ?c1 ?kC ?eC ?tC ?hC ?iC ?sC ?g_WEEK ?g_NOT_SO ?g_NOT_BEGUN ?g_NOT_THERE ?g_NO_ROOM ?g_AS_TOLD ?g_MILLION ?g_MOST_OFFSET ?g_MOST_SUPPORTS ?g_DEEDS ?q_DEEDS ?g_NUMBERS ?q_NUMBERS ?g_WITH_ROW ?q_WITH_ROW ?w_DEEDS ?w_NUMBERS ?w_WITH_ROW ?b_abs ?b_len ?b_min ?b_max ?b_sum ?b_sorted ?b_all ?b_list ?b_range ?b_enumerate ?b_zip
    (case aCW => k_is)
    (case aCH => k_is)
    (case aCS => k_is)
    (case a_divisor => k_is)
    (case l_divisor => k_is)
    (case c_divisor => k_is)
    (case k_divisor => k_is)
    (case a_lowest => k_is)
    (case l_lowest => k_is)
    (case c_lowest => k_is)
    (case k_lowest => k_is)
    (case a_between => k_is)
    (case l_between => k_is)
    (case c_between => k_is)
    (case k_between => k_is)
    (case a_cell_of => k_is)
    (case l_cell_of => k_is)
    (case c_cell_of => k_is)
    (case k_cell_of => k_is)
    (case a_touched => k_is)
    (case l_touched => k_is)
    (case c_touched => k_is)
    (case k_touched => k_is)
    (case a_spans_of => k_is)
    (case l_spans_of => k_is)
    (case c_spans_of => k_is)
    (case k_spans_of => k_is)
    (case a_all_choices => k_is)
    (case l_all_choices => k_is)
    (case c_all_choices => k_is)
    (case k_all_choices => k_is)
    (case a_evenest => k_is)
    (case l_evenest => k_is)
    (case c_evenest => k_is)
    (case k_evenest => k_is)
    (case a_Wire_init => k_is)
    (case i_Wire_init => k_is)
    (case l_Wire_init => k_is)
    (case c_Wire_init => k_is)
    (case k_Wire_init => k_is)
    (case a_Wire_due => k_is)
    (case i_Wire_due => k_is)
    (case l_Wire_due => k_is)
    (case c_Wire_due => k_is)
    (case k_Wire_due => k_is)
    (case a_Wire_take => k_is)
    (case i_Wire_take => k_is)
    (case l_Wire_take => k_is)
    (case c_Wire_take => k_is)
    (case k_Wire_take => k_is)
    (case a_Wire_on_day => k_is)
    (case i_Wire_on_day => k_is)
    (case l_Wire_on_day => k_is)
    (case c_Wire_on_day => k_is)
    (case k_Wire_on_day => k_is)
    (case a_Wire_week => k_is)
    (case i_Wire_week => k_is)
    (case l_Wire_week => k_is)
    (case c_Wire_week => k_is)
    (case k_Wire_week => k_is)
    (case a_Wire_pass_days => k_is)
    (case i_Wire_pass_days => k_is)
    (case l_Wire_pass_days => k_is)
    (case c_Wire_pass_days => k_is)
    (case k_Wire_pass_days => k_is)
    (case a_Wire_until => k_is)
    (case i_Wire_until => k_is)
    (case l_Wire_until => k_is)
    (case c_Wire_until => k_is)
    (case k_Wire_until => k_is)
    (case a_Wire_worn => k_is)
    (case i_Wire_worn => k_is)
    (case l_Wire_worn => k_is)
    (case c_Wire_worn => k_is)
    (case k_Wire_worn => k_is)
    (case a_Wire_pieces => k_is)
    (case i_Wire_pieces => k_is)
    (case l_Wire_pieces => k_is)
    (case c_Wire_pieces => k_is)
    (case k_Wire_pieces => k_is)
    (case a_Wire_splices => k_is)
    (case i_Wire_splices => k_is)
    (case l_Wire_splices => k_is)
    (case c_Wire_splices => k_is)
    (case k_Wire_splices => k_is)
    (case a_Holder_init => k_is)
    (case i_Holder_init => k_is)
    (case l_Holder_init => k_is)
    (case c_Holder_init => k_is)
    (case k_Holder_init => k_is)
    (case a_check => k_is)
    (case l_check => k_is)
    (case c_check => k_is)
    (case k_check => k_is)
    (case a_check_place => k_is)
    (case l_check_place => k_is)
    (case c_check_place => k_is)
    (case k_check_place => k_is)
    (case a_call_draw => k_is)
    (case l_call_draw => k_is)
    (case c_call_draw => k_is)
    (case k_call_draw => k_is)
    (case a_call_gap => k_is)
    (case l_call_gap => k_is)
    (case c_call_gap => k_is)
    (case k_call_gap => k_is)
    (case a_call_kind => k_is)
    (case l_call_kind => k_is)
    (case c_call_kind => k_is)
    (case k_call_kind => k_is)
    (case a_call_service => k_is)
    (case l_call_service => k_is)
    (case c_call_service => k_is)
    (case k_call_service => k_is)
    (case a_call_pass => k_is)
    (case l_call_pass => k_is)
    (case c_call_pass => k_is)
    (case k_call_pass => k_is)
    (case a_call_days => k_is)
    (case l_call_days => k_is)
    (case c_call_days => k_is)
    (case k_call_days => k_is)
    (case a_call_splice => k_is)
    (case l_call_splice => k_is)
    (case c_call_splice => k_is)
    (case k_call_splice => k_is)
    (case a_call_measured => k_is)
    (case l_call_measured => k_is)
    (case c_call_measured => k_is)
    (case k_call_measured => k_is)
    (case a_call_left => k_is)
    (case l_call_left => k_is)
    (case c_call_left => k_is)
    (case k_call_left => k_is)
    (case a_call_day => k_is)
    (case l_call_day => k_is)
    (case c_call_day => k_is)
    (case k_call_day => k_is)
    (case a_call_due => k_is)
    (case l_call_due => k_is)
    (case c_call_due => k_is)
    (case k_call_due => k_is)
    (case a_call_week => k_is)
    (case l_call_week => k_is)
    (case c_call_week => k_is)
    (case k_call_week => k_is)
    (case a_call_least => k_is)
    (case l_call_least => k_is)
    (case c_call_least => k_is)
    (case k_call_least => k_is)
    (case a_call_when => k_is)
    (case l_call_when => k_is)
    (case c_call_when => k_is)
    (case k_call_when => k_is)
    (case a_call_until => k_is)
    (case l_call_until => k_is)
    (case c_call_until => k_is)
    (case k_call_until => k_is)
    (case a_call_pieces => k_is)
    (case l_call_pieces => k_is)
    (case c_call_pieces => k_is)
    (case k_call_pieces => k_is)
    (case a_call_splices => k_is)
    (case l_call_splices => k_is)
    (case c_call_splices => k_is)
    (case k_call_splices => k_is)
    (case a_call_against => k_is)
    (case l_call_against => k_is)
    (case c_call_against => k_is)
    (case k_call_against => k_is)
    (case a_call_support => k_is)
    (case l_call_support => k_is)
    (case c_call_support => k_is)
    (case k_call_support => k_is)
    (case a_call_take => k_is)
    (case l_call_take => k_is)
    (case c_call_take => k_is)
    (case k_call_take => k_is)
    (case a_offsets_of => k_is)
    (case l_offsets_of => k_is)
    (case c_offsets_of => k_is)
    (case k_offsets_of => k_is)
    (case a_call_offset => k_is)
    (case l_call_offset => k_is)
    (case c_call_offset => k_is)
    (case k_call_offset => k_is)
    (case a_check_pan => k_is)
    (case l_check_pan => k_is)
    (case c_check_pan => k_is)
    (case k_check_pan => k_is)
    (case a_touches_of => k_is)
    (case l_touches_of => k_is)
    (case c_touches_of => k_is)
    (case k_touches_of => k_is)
    (case a_call_touches => k_is)
    (case l_call_touches => k_is)
    (case c_call_touches => k_is)
    (case k_call_touches => k_is)
    (case a_call_strip => k_is)
    (case l_call_strip => k_is)
    (case c_call_strip => k_is)
    (case k_call_strip => k_is)
    (case a_call_even => k_is)
    (case l_call_even => k_is)
    (case c_call_even => k_is)
    (case k_call_even => k_is)
    (case a_call_lay => k_is)
    (case l_call_lay => k_is)
    (case c_call_lay => k_is)
    (case k_call_lay => k_is)
    (case a_call_begin => k_is)
    (case l_call_begin => k_is)
    (case c_call_begin => k_is)
    (case k_call_begin => k_is)
    (case a_called => k_is)
    (case l_called => k_is)
    (case c_called => k_is)
    (case k_called => k_is)
    (case a_answered => k_is)
    (case l_answered => k_is)
    (case c_answered => k_is)
    (case k_answered => k_is)
    (case a_answers => k_is)
    (case l_answers => k_is)
    (case c_answers => k_is)
    (case k_answers => k_is)
    (case pgCW => k_is)
    (case hdCW => k_is)
    (case poCW => k_is)
    (case saCW => k_is)
    (case mkCW => k_is)
    (case kcCW => k_is)
    (case nCW_many => k_is)
    (case nCW_left => k_is)
    (case nCW_levels => k_is)
    (case nCW_extras => k_is)
    (case nCW_kinds => k_is)
    (case nCW_services => k_is)
    (case nCW_supports => k_is)
    (case nCW_day => k_is)
    (case pgCH => k_is)
    (case hdCH => k_is)
    (case poCH => k_is)
    (case saCH => k_is)
    (case mkCH => k_is)
    (case kcCH => k_is)
    (case nCH_wire => k_is)
    (case xL => k_is)
    (case sa => k_is)
    (case ga => k_is)
    (case gg => k_is)
    (case nb => k_is)
    (case b1 => k_is)
    (case t1 => k_is)
    (case l1 => k_is)
    (case c1 => k_is)
    (case kC => k_is)
    (case eC => k_is)
    (case tC => k_is)
    (case hC => k_is)
    (case iC => k_is)
    (case sC => first | rfl | k_is)
    (case g_WEEK => k_is)
    (case g_NOT_SO => k_is)
    (case g_NOT_BEGUN => k_is)
    (case g_NOT_THERE => k_is)
    (case g_NO_ROOM => k_is)
    (case g_AS_TOLD => k_is)
    (case g_MILLION => k_is)
    (case g_MOST_OFFSET => k_is)
    (case g_MOST_SUPPORTS => k_is)
    (case g_DEEDS => k_is)
    (case q_DEEDS => k_is)
    (case g_NUMBERS => k_is)
    (case q_NUMBERS => k_is)
    (case g_WITH_ROW => k_is)
    (case q_WITH_ROW => k_is)
    (case w_DEEDS => rfl)
    (case w_NUMBERS => rfl)
    (case w_WITH_ROW => rfl)
    (case b_abs => k_is)
    (case b_len => k_is)
    (case b_min => k_is)
    (case b_max => k_is)
    (case b_sum => k_is)
    (case b_sorted => k_is)
    (case b_all => k_is)
    (case b_list => k_is)
    (case b_range => k_is)
    (case b_enumerate => k_is)
    (case b_zip => k_is)
  case S =>
    intro K H xs a hO hwi hask hx
    cases hx with
    | cons h1 h2 =>
      cases h2
      cases h1 with
      | lst hs ha =>
        have e := L2.ints_dw a.1 _ ha
        subst e
        have q : ((Codec.inLen 0 31700 a.1 && a.1.all (Codec.inInt (-4294967295) 4294967295)) && true) = true := hwi
        rw [Bool.and_eq_true, Bool.and_eq_true] at q
        exact ⟨_, a.1, rfl, hs, (Codec.inNat_iff.mp q.1.1).2, hask, fun H' p hp => .lst (L2.SqL.of hp) (L2.dw_ints _)⟩
