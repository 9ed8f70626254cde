import PyProof.Rows.All
import Wide.All
import OpenK.AllK
import Wide.FinOn
import PyProof.EqAt
import PyProof.EqKinds
import PyProof.TupleCall
import Open.SpecLaws
import KE.OsGo
import HandS.ForSpec
import HandS.TryMany
import HandS.ExcCtx
import HandS.Hot
import HandS.HotCalls
import HandS.SuiteRaise
import HandS.RaiseFrom
import HandS.ExcField
import HandS.ExcInit
import HandS.ExcSuper
import HandS.ExcInitHot
import KE.KAsSuite
import HandS.Wide
import HandS.WideBits
import HandS.Comp
import HandS.Iter
import HandS.Zip
import HandS.Walk
import HandS.Conv
import HandS.Codes
import PySem.Challenge.RW_outward_s05_shown
set_option Elab.async false
set_option linter.all false
set_option maxRecDepth 100000
set_option maxHeartbeats 4000000
namespace Ow
open EbNum
/-! numbers: what number_of makes -/
def nof (t b : Int) : Rat := mkRat t b.toNat
theorem toNat_cast {b : Int} (h : 0 ≤ b) : ((b.toNat : Nat) : Int) = b := Int.toNat_of_nonneg h
theorem nof_num {t b : Int} (hb : 0 < b) : (nof t b).num = t.fdiv ((Int.gcd t b : Nat) : Int) := by
  have h1 : b.toNat ≠ 0 := by omega
  unfold nof
  rw [Rat.num_mkRat, if_neg h1, Int.fdiv_eq_ediv_of_nonneg _ (Int.natCast_nonneg _)]
  have e : Int.gcd t b = b.toNat.gcd t.natAbs := by
    rw [Int.gcd, Nat.gcd_comm]
    congr 1
    omega
  rw [e]
theorem nof_den {t b : Int} (hb : 0 < b) : (((nof t b).den : Nat) : Int) = b.fdiv ((Int.gcd t b : Nat) : Int) := by
  have h1 : b.toNat ≠ 0 := by omega
  unfold nof
  rw [Rat.den_mkRat, if_neg h1, Int.fdiv_eq_ediv_of_nonneg _ (Int.natCast_nonneg _)]
  have e : Int.gcd t b = b.toNat.gcd t.natAbs := by
    rw [Int.gcd, Nat.gcd_comm]
    congr 1
    omega
  rw [e, Int.natCast_ediv, toNat_cast (by omega)]
theorem nof_num_div {t b : Int} (hb : 0 < b) : (nof t b).num = t / ((Int.gcd t b : Nat) : Int) := by
  rw [nof_num hb, Int.fdiv_eq_ediv_of_nonneg _ (Int.natCast_nonneg _)]
theorem nof_den_div {t b : Int} (hb : 0 < b) : (((nof t b).den : Nat) : Int) = b / ((Int.gcd t b : Nat) : Int) := by
  rw [nof_den hb, Int.fdiv_eq_ediv_of_nonneg _ (Int.natCast_nonneg _)]
theorem den_pos (q : Rat) : (0 : Int) < ((q.den : Nat) : Int) := by have := q.den_pos; omega
theorem nof_eq_div {t b : Int} (hb : 0 < b) : nof t b = (t : Rat) / (b : Rat) := by
  unfold nof
  rw [Rat.mkRat_eq_div]
  have : ((b.toNat : Nat) : Rat) = ((b : Int) : Rat) := by
    rw [← Rat.intCast_natCast, toNat_cast (by omega)]
  rw [this]
theorem nof_add (p q : Rat) : nof (p.num * q.den + q.num * p.den) (p.den * q.den) = p + q := by
  unfold nof
  rw [Rat.add_def']
  congr 1
theorem nof_mul (p q : Rat) : nof (p.num * q.num) (p.den * q.den) = p * q := by
  unfold nof
  rw [Rat.mul_def']
  congr 1
theorem neg_num' (p : Rat) : 0 - p.num = (-p).num := by rw [Rat.neg_num]; omega
theorem intCast_ne_zero {b : Int} (h : b ≠ 0) : (b : Rat) ≠ 0 := fun e => h (Rat.intCast_eq_zero_iff.mp e)
theorem num_eq (p : Rat) : (p.num : Rat) = p * ((p.den : Int) : Rat) := by
  have h : ((p.den : Int) : Rat) ≠ 0 := intCast_ne_zero (by have := p.den_pos; omega)
  have e : (p.num : Rat) / ((p.den : Int) : Rat) = p := by
    rw [← Rat.divInt_eq_div, Rat.num_divInt_den]
  have z : (p.num : Rat) / ((p.den : Int) : Rat) * ((p.den : Int) : Rat) = (p.num : Rat) := Rat.div_mul_cancel h
  rw [e] at z
  exact z.symm
theorem div_eq_of {a b c : Rat} (hb : b ≠ 0) (h : a = c * b) : a / b = c := by
  rw [h, Rat.mul_div_cancel hb]
theorem nof_div {p q : Rat} (hq : 0 < q.num) : nof (p.num * q.den) (p.den * q.num) = p / q := by
  have hp := den_pos p
  have hd := den_pos q
  have hpos : 0 < (p.den : Int) * q.num := Int.mul_pos hp hq
  have hq0 : q ≠ 0 := fun e => by rw [e] at hq; exact absurd hq (by decide)
  rw [nof_eq_div hpos]
  refine div_eq_of (intCast_ne_zero (by omega)) ?_
  rw [Rat.intCast_mul, Rat.intCast_mul, num_eq p, num_eq q]
  have e : p / q * q = p := Rat.div_mul_cancel hq0
  generalize ((p.den : Int) : Rat) = x at *
  generalize ((q.den : Int) : Rat) = y at *
  generalize p / q = z at *
  rw [← e]
  grind
theorem neg_div' (p q : Rat) : -(p / -q) = p / q := by
  by_cases h : q = 0
  · subst h
    rw [Rat.neg_zero, Rat.div_def, Rat.inv_zero, Rat.mul_zero, Rat.neg_zero]
  · refine (div_eq_of h ?_).symm
    have h' : -q ≠ 0 := fun e => h (by have := congrArg (fun x => -x) e; simpa [Rat.neg_neg] using this)
    have e : p / -q * -q = p := Rat.div_mul_cancel h'
    rw [Rat.mul_neg] at e
    rw [Rat.neg_mul, e]
/-! comparing -/
def cmp (p q : Rat) : Int := if p < q then 0 else if p = q then 1 else 2
theorem cmp_is (p q : Rat) : 1 + (if q.num * p.den < p.num * q.den then 1 else 0) - (if p.num * q.den < q.num * p.den then 1 else 0) = cmp p q := by
  unfold cmp
  by_cases h : p < q
  · have h1 := (Rat.lt_iff p q).mp h
    rw [if_pos h, if_neg (by omega), if_pos h1]; rfl
  · have h1 : ¬ p.num * q.den < q.num * p.den := fun x => h ((Rat.lt_iff p q).mpr x)
    rw [if_neg h, if_neg h1]
    by_cases h2 : p = q
    · have h3 := Rat.eq_iff_mul_eq_mul.mp h2
      rw [if_pos h2, if_neg (by omega)]; rfl
    · have h3 : ¬ p.num * q.den = q.num * p.den := fun x => h2 (Rat.eq_iff_mul_eq_mul.mpr x)
      rw [if_neg h2, if_pos (by omega)]; rfl
/-! fitting -/
theorem fits_iff (q : Rat) : fits q = true ↔ q.num.natAbs < 2 ^ 4096 ∧ q.den < 2 ^ 4096 := by
  unfold fits
  rw [Bool.and_eq_true, decide_eq_true_iff, decide_eq_true_iff]
/-! units -/
def tenN (d : Int) : Int := ((10 ^ d.toNat : Nat) : Int)
theorem tenN_pos (d : Int) : 0 < tenN d := by
  unfold tenN
  have : 0 < 10 ^ d.toNat := Nat.pow_pos (by decide)
  omega
theorem ten_nonneg {d : Int} (h : 0 ≤ d) : ten d = (tenN d : Rat) := by
  unfold ten tenN
  rw [if_pos h, Rat.intCast_natCast]
theorem ten_neg {d : Int} (h : ¬ 0 ≤ d) : ten d = 1 / (tenN (0 - d) : Rat) := by
  unfold ten tenN
  rw [if_neg h, Rat.intCast_natCast]
  have : 0 - d = -d := by omega
  rw [this]
theorem tenN_ne (d : Int) : (tenN d : Rat) ≠ 0 := intCast_ne_zero (by have := tenN_pos d; omega)
theorem ten_pos (d : Int) : 0 < ten d := by
  by_cases h : 0 ≤ d
  · rw [ten_nonneg h]; exact Rat.intCast_pos.mpr (tenN_pos d)
  · rw [ten_neg h, Rat.div_def, Rat.one_mul]; exact Rat.inv_pos.mpr (Rat.intCast_pos.mpr (tenN_pos _))
theorem ten_ne (d : Int) : ten d ≠ 0 := Rat.ne_of_gt (ten_pos d)
theorem inUnits_up {d : Int} (h : 0 ≤ d) (p : Rat) : nof (p.num * tenN d) p.den = p * ten d := by
  rw [ten_nonneg h, nof_eq_div (den_pos p)]
  refine div_eq_of (intCast_ne_zero (by have := den_pos p; omega)) ?_
  rw [Rat.intCast_mul, num_eq p]
  generalize ((p.den : Int) : Rat) = x at *
  generalize (tenN d : Rat) = y at *
  grind
theorem inUnits_down {d : Int} (h : ¬ 0 ≤ d) (p : Rat) : nof p.num (p.den * tenN (0 - d)) = p * ten d := by
  have hp := den_pos p
  have ht := tenN_pos (0 - d)
  have hpos : 0 < (p.den : Int) * tenN (0 - d) := Int.mul_pos hp ht
  rw [ten_neg h, nof_eq_div hpos]
  refine div_eq_of (intCast_ne_zero (by omega)) ?_
  have e : (1 : Rat) / (tenN (0 - d) : Rat) * (tenN (0 - d) : Rat) = 1 := Rat.div_mul_cancel (tenN_ne _)
  rw [Rat.intCast_mul, num_eq p]
  generalize (1 : Rat) / (tenN (0 - d) : Rat) = z at *
  generalize ((p.den : Int) : Rat) = x at *
  generalize (tenN (0 - d) : Rat) = y at *
  grind
theorem ofUnits_up {d : Int} (h : 0 ≤ d) (n : Int) : nof n (tenN d) = worth d n := by
  unfold worth
  rw [ten_nonneg h, nof_eq_div (tenN_pos d)]
theorem ofUnits_down {d : Int} (h : ¬ 0 ≤ d) (n : Int) : ((n * tenN (0 - d) : Int) : Rat) = worth d n := by
  unfold worth
  rw [ten_neg h]
  refine (div_eq_of (by rw [← ten_neg h]; exact ten_ne d) ?_).symm
  have e : (1 : Rat) / (tenN (0 - d) : Rat) * (tenN (0 - d) : Rat) = 1 := Rat.div_mul_cancel (tenN_ne _)
  rw [Rat.intCast_mul]
  generalize (1 : Rat) / (tenN (0 - d) : Rat) = z at *
  generalize (tenN (0 - d) : Rat) = y at *
  grind
theorem ofUnits_down_num {d : Int} (h : ¬ 0 ≤ d) (n : Int) : (worth d n).num = n * tenN (0 - d) := by
  rw [← ofUnits_down h]; rfl
theorem ofUnits_down_den {d : Int} (h : ¬ 0 ≤ d) (n : Int) : (worth d n).den = 1 := by
  rw [← ofUnits_down h]; rfl
end Ow
namespace Ow
open EbNum
/-! rounding -/
def b2 (b : Bool) : Int := if b then 1 else 0
def nearestI (below rest bottom : Int) : Int := if 2 * rest = bottom then below + below.fmod 2 else below + b2 (decide (bottom < 2 * rest))
def rnd (t b : Int) (way : Int) : Int :=
  let below := t.fdiv b
  let rest := t - below * b
  if rest = 0 ∨ way = 2 then below
  else if way = 0 then nearestI below rest b
  else if way = 1 then below + 1
  else if way = 3 then below + b2 (decide (0 < t))
  else below + b2 (decide (t < 0))
theorem floor_is (q : Rat) : q.floor = q.num.fdiv q.den := by
  rw [Rat.floor_def, Int.fdiv_eq_ediv_of_nonneg _ (Int.natCast_nonneg _)]
theorem rest_nonneg (q : Rat) : 0 ≤ q.num - q.floor * q.den := by
  rw [Rat.floor_def]
  have h := den_pos q
  have := Int.emod_nonneg q.num (show (q.den : Int) ≠ 0 by omega)
  have e := Int.mul_ediv_add_emod q.num q.den
  rw [Int.mul_comm] at e
  omega
theorem rest_lt (q : Rat) : q.num - q.floor * q.den < q.den := by
  rw [Rat.floor_def]
  have h := den_pos q
  have := Int.emod_lt_of_pos q.num h
  have e := Int.mul_ediv_add_emod q.num q.den
  rw [Int.mul_comm] at e
  omega
theorem up_is (q : Rat) : up q = if q.num - q.floor * q.den = 0 then q.floor else q.floor + 1 := by
  unfold up
  have h := den_pos q
  have h1 := rest_nonneg q
  have h2 := rest_lt q
  have e : (-q).floor = (-q.num) / (q.den : Int) := by rw [Rat.floor_def, Rat.neg_num, Rat.neg_den]
  rw [e]
  generalize q.floor = n at *
  generalize q.num = t at *
  generalize (q.den : Int) = b at *
  split
  · rename_i h3
    have : -t = (-n) * b := by rw [Int.neg_mul]; omega
    rw [this, Int.mul_ediv_cancel _ (by omega)]
    omega
  · rename_i h3
    have : (-t) / b = -n - 1 := by
      have e2 : -t = (b - (t - n * b)) + (-n - 1) * b := by
        rw [Int.sub_mul, Int.neg_mul]; omega
      rw [e2, Int.add_mul_ediv_right _ _ (by omega), Int.ediv_eq_zero_of_lt (by omega) (by omega)]
      omega
    rw [this]
    omega
theorem frac_mul (q : Rat) : (q - (q.floor : Rat)) * ((q.den : Int) : Rat) = ((q.num - q.floor * q.den : Int) : Rat) := by
  rw [Rat.intCast_sub, Rat.intCast_mul, num_eq q]
  generalize ((q.den : Int) : Rat) = x
  grind
theorem frac_lt (q : Rat) : q - (q.floor : Rat) < 1 / 2 ↔ 2 * (q.num - q.floor * q.den) < q.den := by
  have h : (0 : Rat) < ((q.den : Int) : Rat) := Rat.intCast_pos.mpr (den_pos q)
  have e := frac_mul q
  have k : 2 * (q.num - q.floor * q.den) < q.den ↔ ((2 * (q.num - q.floor * q.den) : Int) : Rat) < ((q.den : Int) : Rat) := Rat.intCast_lt_intCast.symm
  rw [k, Rat.intCast_mul, ← e, ← Rat.mul_lt_mul_right h (a := q - (q.floor : Rat))]
  generalize (q - (q.floor : Rat)) * ((q.den : Int) : Rat) = z
  generalize ((q.den : Int) : Rat) = x at *
  have h2 : (((2 : Int)) : Rat) = 2 := rfl
  rw [h2]
  constructor <;> intro y <;> grind
theorem lt_frac (q : Rat) : 1 / 2 < q - (q.floor : Rat) ↔ q.den < 2 * (q.num - q.floor * q.den) := by
  have h : (0 : Rat) < ((q.den : Int) : Rat) := Rat.intCast_pos.mpr (den_pos q)
  have e := frac_mul q
  have k : q.den < 2 * (q.num - q.floor * q.den) ↔ ((q.den : Int) : Rat) < ((2 * (q.num - q.floor * q.den) : Int) : Rat) := Rat.intCast_lt_intCast.symm
  rw [k, Rat.intCast_mul, ← e, ← Rat.mul_lt_mul_right h (b := q - (q.floor : Rat))]
  generalize (q - (q.floor : Rat)) * ((q.den : Int) : Rat) = z
  generalize ((q.den : Int) : Rat) = x at *
  have h2 : (((2 : Int)) : Rat) = 2 := rfl
  rw [h2]
  constructor <;> intro y <;> grind
theorem zero_le_num (q : Rat) : (0 ≤ q) ↔ 0 ≤ q.num := Rat.num_nonneg.symm
theorem rnd_is (q : Rat) (way : Nat) (hw : way ≤ 4) : rnd q.num q.den way = whole way q := by
  unfold rnd whole
  simp only []
  rw [← floor_is, up_is]
  have h1 := rest_nonneg q
  have h2 := rest_lt q
  have hd := den_pos q
  have f1 := frac_lt q
  have f2 := lt_frac q
  have z := zero_le_num q
  by_cases c1 : way = 1
  · subst c1
    rw [if_pos rfl]
    by_cases r0 : q.num - q.floor * q.den = 0
    · rw [if_pos (Or.inl r0), if_pos r0]
    · rw [if_neg (by intro y; rcases y with y | y; exact r0 y; exact absurd y (by decide)), if_neg (by decide), if_pos (by decide), if_neg r0]
  rw [if_neg c1]
  by_cases c2 : way = 2
  · subst c2
    rw [if_pos rfl, if_pos (Or.inr (by decide))]
  rw [if_neg c2]
  have c2' : ¬ ((way : Int) = 2) := by omega
  by_cases r0 : q.num - q.floor * q.den = 0
  · rw [if_pos (Or.inl r0)]
    rw [r0] at f1 f2
    by_cases c3 : way = 3
    · rw [if_pos c3, if_pos r0]; split <;> rfl
    rw [if_neg c3]
    by_cases c4 : way = 4
    · rw [if_pos c4, if_pos r0]; split <;> rfl
    rw [if_neg c4, if_pos (f1.mpr (by omega))]
  · rw [if_neg (by intro y; rcases y with y | y; exact r0 y; exact c2' y)]
    have hn : 0 ≤ q.num ↔ 0 ≤ q.floor := by
      constructor
      · intro y
        rw [Rat.floor_def]
        exact Int.ediv_nonneg y (by omega)
      · intro y
        have : 0 ≤ q.floor * q.den := Int.mul_nonneg y (by omega)
        omega
    by_cases c3 : way = 3
    · subst c3
      rw [if_pos rfl, if_neg (by decide), if_neg (by decide), if_pos (by decide), if_neg r0]
      by_cases s : 0 ≤ q
      · rw [if_pos s]
        have s' := z.mp s
        have : 0 < q.num := by
          rcases Int.lt_or_eq_of_le s' with y | y
          · exact y
          · exfalso
            have : q.floor = 0 := by rw [Rat.floor_def, ← y]; exact Int.zero_ediv _
            rw [this, ← y] at r0
            exact r0 (by omega)
        rw [decide_eq_true this]; rfl
      · rw [if_neg s]
        have s' : ¬ 0 ≤ q.num := fun y => s (z.mpr y)
        rw [decide_eq_false (by omega)]
        exact Int.add_zero _
    rw [if_neg c3]
    by_cases c4 : way = 4
    · subst c4
      rw [if_pos rfl, if_neg (by decide), if_neg (by decide), if_neg (by decide), if_neg r0]
      by_cases s : 0 ≤ q
      · rw [if_pos s]
        have s' := z.mp s
        rw [decide_eq_false (by omega)]
        exact Int.add_zero _
      · rw [if_neg s]
        have s' : ¬ 0 ≤ q.num := fun y => s (z.mpr y)
        rw [decide_eq_true (by omega)]; rfl
    rw [if_neg c4]
    have c0 : way = 0 := by omega
    subst c0
    rw [if_pos (by decide)]
    unfold nearestI
    by_cases e : 2 * (q.num - q.floor * q.den) = q.den
    · rw [if_pos e, if_neg (fun y => by have := f1.mp y; omega), if_neg (fun y => by have := f2.mp y; omega)]
      rw [Int.fmod_eq_emod_of_nonneg _ (by decide)]
      split <;> omega
    · rw [if_neg e]
      by_cases l : 2 * (q.num - q.floor * q.den) < q.den
      · rw [if_pos (f1.mpr l), decide_eq_false (by omega)]
        exact Int.add_zero _
      · rw [if_neg (fun y => l (f1.mp y)), if_pos (f2.mpr (by omega)), decide_eq_true (by omega)]
        rfl
/-! roots -/
/-- r is the root of n from below -/
def IsRoot (n r : Nat) : Prop := r * r ≤ n ∧ n < (r + 1) * (r + 1)
theorem IsRoot.unique {n a b : Nat} (ha : IsRoot n a) (hb : IsRoot n b) : a = b := by
  have h : ∀ {a b : Nat}, IsRoot n a → IsRoot n b → a ≤ b := by
    intro a b ha hb
    by_cases c : a ≤ b
    · exact c
    · exfalso
      have h1 : b + 1 ≤ a := by omega
      have := Nat.mul_le_mul h1 h1
      have := ha.1
      have := hb.2
      omega
  exact Nat.le_antisymm (h ha hb) (h hb ha)
theorem rootNat_is (v : Nat) : ∀ (k r : Nat), r * r ≤ v → v < (r + 2 ^ k) * (r + 2 ^ k) → IsRoot v (rootNat v k r)
  | 0, r, h1, h2 => ⟨h1, h2⟩
  | k + 1, r, h1, h2 => by
    unfold rootNat
    split
    · rename_i h3
      refine rootNat_is v k _ h3 ?_
      have e : r + 2 ^ k + 2 ^ k = r + 2 ^ (k + 1) := by rw [Nat.pow_succ]; omega
      rw [e]
      exact h2
    · rename_i h3
      exact rootNat_is v k r h1 (by omega)
theorem rootDown_is (q : Rat) : IsRoot q.floor.toNat (rootDown q) := by
  unfold rootDown
  refine rootNat_is _ _ 0 (Nat.zero_le _) ?_
  rw [Nat.zero_add]
  have h : q.floor.toNat < 2 ^ (Nat.log2 q.floor.toNat + 1) := Nat.lt_log2_self
  refine Nat.lt_of_lt_of_le h ?_
  rw [← Nat.pow_add]
  exact Nat.pow_le_pow_right (by decide) (by omega)
/-- one turn of Newton's -/
def newton (n f : Nat) : Nat := (f + n / f) / 2
theorem newton_above {n f s : Nat} (hf : 0 < f) (hs : s * s ≤ n) : s ≤ newton n f := by
  unfold newton
  have h : 2 * s ≤ f + n / f := by
    by_cases c : 2 * s ≤ f + n / f
    · exact c
    · exfalso
      have h1 : n / f + 1 ≤ 2 * s - f := by omega
      have h2 : n < (n / f + 1) * f := by
        have := Nat.div_add_mod n f
        have := Nat.mod_lt n hf
        rw [Nat.add_mul, Nat.one_mul, Nat.mul_comm (n / f) f]
        omega
      have h3 : (n / f + 1) * f ≤ (2 * s - f) * f := Nat.mul_le_mul_right f h1
      have h4 : (2 * s - f) * f ≤ s * s := by
        by_cases d : f ≤ s
        · obtain ⟨k, rfl⟩ := Nat.exists_eq_add_of_le d
          have e : 2 * (f + k) - f = f + 2 * k := by omega
          rw [e, Nat.add_mul, Nat.mul_add, Nat.add_mul, Nat.add_mul]
          have : k * f = f * k := Nat.mul_comm _ _
          have : 2 * k * f = 2 * (f * k) := by rw [Nat.mul_assoc, this]
          omega
        · obtain ⟨k, rfl⟩ := Nat.exists_eq_add_of_le (show s ≤ f by omega)
          by_cases kk : k ≤ s
          · obtain ⟨j, rfl⟩ := Nat.exists_eq_add_of_le kk
            have e : 2 * (k + j) - (k + j + k) = j := by omega
            rw [e]
            have : k * j = j * k := Nat.mul_comm _ _
            simp only [Nat.mul_add, Nat.add_mul]
            omega
          · have e : 2 * s - (s + k) = 0 := by omega
            rw [e]
            omega
      omega
  omega
theorem newton_stop {n f : Nat} (hf : 0 < f) (h : f ≤ newton n f) : f * f ≤ n := by
  unfold newton at h
  have h1 : f ≤ n / f := by omega
  have := Nat.mul_le_mul_left f h1
  exact Nat.le_trans this (Nat.mul_div_le n f)
theorem newton_pos {n f : Nat} (hn : 0 < n) (hf : 0 < f) : 0 < newton n f := newton_above (s := 1) hf (by omega)
/-- behind the last turn -/
theorem newton_root {n f r : Nat} (hf : 0 < f) (hr : IsRoot n r) (above : r ≤ f) (h : f ≤ newton n f) : f = r := by
  refine IsRoot.unique (n := n) ⟨newton_stop hf h, ?_⟩ hr
  have h1 : r + 1 ≤ f + 1 := by omega
  exact Nat.lt_of_lt_of_le hr.2 (Nat.mul_le_mul h1 h1)
theorem first_above {n j r : Nat} (hr : IsRoot n r) (h : n < 2 ^ (2 * j)) : r ≤ 2 ^ j := by
  by_cases c : r ≤ 2 ^ j
  · exact c
  · exfalso
    have h1 : 2 ^ j ≤ r := by omega
    have h2 := Nat.mul_le_mul h1 h1
    have e : 2 ^ (2 * j) = 2 ^ j * 2 ^ j := by rw [← Nat.pow_add]; congr 1; omega
    have := hr.1
    omega
/-- from above: one more where the root is not whole -/
theorem rootUp_is {q : Rat} (hq : 0 ≤ q) : rootUp q = if cmp (((rootDown q : Nat) : Int) * ((rootDown q : Nat) : Int) : Int) q = 0 then rootDown q + 1 else rootDown q := by
  unfold rootUp
  have hr := rootDown_is q
  have e : ((rootDown q * rootDown q : Nat) : Rat) = ((((rootDown q : Nat) : Int) * ((rootDown q : Nat) : Int) : Int) : Rat) := by
    rw [← Rat.intCast_natCast, Int.natCast_mul]
  rw [e]
  have hf : 0 ≤ q.floor := Rat.le_floor_iff.mpr (by simpa using hq)
  have hle : ((((rootDown q : Nat) : Int) * ((rootDown q : Nat) : Int) : Int) : Rat) ≤ q := by
    refine Rat.le_floor_iff.mp ?_
    have := hr.1
    have h2 : ((rootDown q * rootDown q : Nat) : Int) ≤ ((q.floor.toNat : Nat) : Int) := Int.ofNat_le.mpr this
    rw [Int.natCast_mul, Int.toNat_of_nonneg hf] at h2
    exact h2
  generalize ((((rootDown q : Nat) : Int) * ((rootDown q : Nat) : Int) : Int) : Rat) = z at *
  unfold cmp
  by_cases c : z = q
  · subst c
    rw [if_pos rfl, if_neg Rat.lt_irrefl, if_pos rfl, if_neg (by decide)]
  · rw [if_neg c, if_pos (Rat.lt_of_le_of_ne hle c), if_pos rfl]
theorem size_is (q : Rat) : size q = if q.num < 0 then -q else q := by
  unfold size
  have z := zero_le_num q
  by_cases c : q < 0
  · rw [if_pos c, if_pos (by
      have h1 : ¬ 0 ≤ q := fun y => absurd c (Rat.not_lt.mpr y)
      have h2 : ¬ 0 ≤ q.num := fun y => h1 (z.mpr y)
      omega)]
  · rw [if_neg c, if_neg (by
      have := z.mp (Rat.not_lt.mp c)
      omega)]
theorem lt_zero_num (q : Rat) : q < 0 ↔ q.num < 0 := by
  have z := zero_le_num q
  constructor
  · intro c
    have h1 : ¬ 0 ≤ q := fun y => absurd c (Rat.not_lt.mpr y)
    have h2 : ¬ 0 ≤ q.num := fun y => h1 (z.mpr y)
    omega
  · intro c
    refine Rat.not_le.mp fun y => ?_
    have := z.mp y
    omega
end Ow
namespace Ow
open EbNum
/-! texts: bytes as whole numbers -/
def B (b : Bytes) : List Int := b.map fun c => (c.toNat : Int)
theorem B_append (a b : Bytes) : B (a ++ b) = B a ++ B b := List.map_append
theorem B_length (a : Bytes) : (B a).length = a.length := List.length_map ..
theorem B_cons (c : UInt8) (a : Bytes) : B (c :: a) = (c.toNat : Int) :: B a := rfl
def dg : Nat → Bytes := decimal
theorem digitsIn_enough : ∀ (k n : Nat), n < 2 ^ k → ∀ j, k ≤ j → digitsIn j n = digitsIn k n ∨ n = 0 := by
  intro k
  induction k with
  | zero => intro n h j _; right; simpa using h
  | succ k ih =>
    intro n h j hj
    left
    obtain ⟨j, rfl⟩ := Nat.exists_eq_add_of_le hj
    have e : k + 1 + j = (k + j) + 1 := by omega
    rw [e]
    unfold digitsIn
    by_cases c : n < 10
    · rw [if_pos c, if_pos c]
    · rw [if_neg c, if_neg c]
      have h2 : n / 10 < 2 ^ k := by
        rw [Nat.pow_succ] at h
        omega
      rcases ih (n / 10) h2 (k + j) (by omega) with z | z
      · rw [z]
      · omega
theorem dg_rec (n : Nat) : dg n = (if n < 10 then [] else dg (n / 10)) ++ [UInt8.ofNat (48 + n % 10)] := by
  unfold dg decimal
  conv => lhs; unfold digitsIn
  by_cases c : n < 10
  · rw [if_pos c, if_pos c]
  · rw [if_neg c, if_neg c]
    congr 1
    have h : n / 10 < 2 ^ (Nat.log2 (n / 10) + 1) := Nat.lt_log2_self
    have hle : Nat.log2 (n / 10) + 1 ≤ Nat.log2 n := by
      have h0 : n / 10 ≠ 0 := by omega
      have h1 : 2 ^ Nat.log2 (n / 10) ≤ n / 10 := Nat.log2_self_le h0
      have h2 : 2 ^ (Nat.log2 (n / 10) + 1) ≤ n := by rw [Nat.pow_succ]; omega
      exact (Nat.le_log2 (by omega)).mpr h2
    rcases digitsIn_enough _ _ h (Nat.log2 n) hle with z | z
    · exact z
    · omega
theorem dg_small {n : Nat} (h : n < 10) : dg n = [UInt8.ofNat (48 + n)] := by
  rw [dg_rec, if_pos h, Nat.mod_eq_of_lt h]; rfl
theorem dg_big {n : Nat} (h : ¬ n < 10) : dg n = dg (n / 10) ++ [UInt8.ofNat (48 + n % 10)] := by
  rw [dg_rec, if_neg h]
theorem digitByte {d : Nat} (h : d < 10) : (UInt8.ofNat (48 + d)).toNat = 48 + d := by
  rw [UInt8.toNat_ofNat']
  exact Nat.mod_eq_of_lt (by omega)
theorem digitChar_nat {d : Nat} (h : d < 10) : (Nat.digitChar d).toNat = 48 + d := by
  have : d = 0 ∨ d = 1 ∨ d = 2 ∨ d = 3 ∨ d = 4 ∨ d = 5 ∨ d = 6 ∨ d = 7 ∨ d = 8 ∨ d = 9 := by omega
  rcases this with h | h | h | h | h | h | h | h | h | h <;> subst h <;> rfl
theorem dg_chars (n : Nat) : (Nat.toDigits 10 n).map (fun c => ((c.toNat : Nat) : Int)) = B (dg n) := by
  induction n using Nat.strongRecOn with
  | _ n ih =>
    rw [Nat.toDigits_eq_if (by decide)]
    by_cases c : n < 10
    · rw [if_pos c, dg_small c]
      show [((Nat.digitChar n).toNat : Int)] = [((UInt8.ofNat (48 + n)).toNat : Int)]
      rw [digitChar_nat c, digitByte c]
    · rw [if_neg c, dg_big c, List.map_append, ih (n / 10) (by omega), B_append]
      show B (dg (n / 10)) ++ [((Nat.digitChar (n % 10)).toNat : Int)] = B (dg (n / 10)) ++ [((UInt8.ofNat (48 + n % 10)).toNat : Int)]
      rw [digitChar_nat (Nat.mod_lt _ (by decide)), digitByte (Nat.mod_lt _ (by decide))]
theorem dg_len_pos (n : Nat) : 1 ≤ (dg n).length := by
  rw [dg_rec, List.length_append]
  exact Nat.le_add_left ..
theorem dg_len_le : ∀ (k n : Nat), n < 10 ^ k → (dg n).length ≤ k + 1
  | 0, n, h => by
    have : n = 0 := by simpa using h
    subst this
    rw [dg_small (by decide)]; exact Nat.le_refl _
  | k + 1, n, h => by
    by_cases c : n < 10
    · rw [dg_small c]; exact Nat.le_add_left ..
    · rw [dg_big c, List.length_append]
      have h2 : n / 10 < 10 ^ k := by rw [Nat.pow_succ] at h; omega
      have := dg_len_le k (n / 10) h2
      show (dg (n / 10)).length + 1 ≤ k + 1 + 1
      omega
/-- noughts behind -/
theorem dg_noughts : ∀ (k m : Nat), m ≠ 0 → dg (m * 10 ^ k) = dg m ++ List.replicate k 48
  | 0, m, _ => by simp
  | k + 1, m, h => by
    have e : m * 10 ^ (k + 1) = (m * 10 ^ k) * 10 := by rw [Nat.pow_succ, Nat.mul_assoc]
    have hp : 0 < 10 ^ k := Nat.pow_pos (by decide)
    have h1 : 0 < m * 10 ^ k := Nat.mul_pos (by omega) hp
    rw [e, dg_big (by omega), Nat.mul_div_cancel _ (by decide), Nat.mul_mod_left, dg_noughts k m h, List.append_assoc, List.replicate_succ']
    rfl
theorem dg_zero : dg 0 = [48] := by rw [dg_small (by decide)]; rfl
theorem padded_len : ∀ (k n : Nat), (padded k n).length = k
  | 0, _ => rfl
  | k + 1, n => by unfold padded; rw [List.length_append, padded_len k]; rfl
/-- noughts in front, then cut -/
theorem dg_cut : ∀ (d m : Nat), List.replicate (d + 1 - (dg m).length) 48 ++ dg m = dg (m / 10 ^ d) ++ padded d (m % 10 ^ d)
  | 0, m => by
    have := dg_len_pos m
    have e : 0 + 1 - (dg m).length = 0 := by omega
    rw [e]
    simp [padded]
  | d + 1, m => by
    by_cases c : m < 10
    · have ih := dg_cut d 0
      have z : 0 / 10 ^ d = 0 := Nat.zero_div _
      rw [z, Nat.zero_mod, dg_zero] at ih
      have hlt : m < 10 ^ (d + 1) := by
        have : 0 < 10 ^ d := Nat.pow_pos (by decide)
        rw [Nat.pow_succ]; omega
      rw [Nat.div_eq_of_lt hlt, Nat.mod_eq_of_lt hlt, dg_zero, dg_small c]
      unfold padded
      have z2 : m / 10 = 0 := by omega
      rw [z2, Nat.mod_eq_of_lt c, ← List.append_assoc, ← ih]
      have e : d + 1 + 1 - [UInt8.ofNat (48 + m)].length = d + 1 := rfl
      have e2 : d + 1 - [(48 : UInt8)].length = d := rfl
      rw [e, e2, List.replicate_succ']
    · have ih := dg_cut d (m / 10)
      rw [dg_big c, List.length_append]
      have e : d + 1 + 1 - ((dg (m / 10)).length + [UInt8.ofNat (48 + m % 10)].length) = d + 1 - (dg (m / 10)).length := by
        show d + 1 + 1 - ((dg (m / 10)).length + 1) = _
        omega
      rw [e, ← List.append_assoc, ih]
      have e1 : m / 10 / 10 ^ d = m / 10 ^ (d + 1) := by rw [Nat.div_div_eq_div_mul, Nat.pow_succ, Nat.mul_comm]
      have e2 : m / 10 % 10 ^ d = m % 10 ^ (d + 1) / 10 := by
        rw [Nat.pow_succ, Nat.mul_comm, Nat.mod_mul_right_div_self]
      have e3 : m % 10 = m % 10 ^ (d + 1) % 10 := by
        rw [Nat.pow_succ, Nat.mul_comm, Nat.mod_mul_right_mod]
      conv => rhs; rw [padded]
      rw [e1, e2, ← e3, List.append_assoc]
/-! what the program writes -/
def signedI (n : Int) (t : List Int) : List Int := if n < 0 then 45 :: t else t
def exactI (q : Rat) : List Int := signedI q.num (if q.den ≠ 1 then B (dg q.num.natAbs) ++ [47] ++ B (dg q.den) else B (dg q.num.natAbs))
theorem ascii_minus : ascii "-" = [45] := by decide
theorem ascii_slash : ascii "/" = [47] := by decide
theorem ascii_point : ascii "." = [46] := by decide
theorem PM_is : PM = [32, 43, 45, 32] := by decide
theorem signedI_is (n : Int) (t : Bytes) : signedI n (B t) = B ((if n < 0 then [45] else []) ++ t) := by
  unfold signedI
  split
  · rfl
  · rfl
theorem exactI_is (q : Rat) : exactI q = B (exactText q) := by
  unfold exactI exactText
  rw [ascii_minus, ascii_slash]
  have z := lt_zero_num q
  have e : (if q.den ≠ 1 then B (dg q.num.natAbs) ++ [47] ++ B (dg q.den) else B (dg q.num.natAbs)) = B (decimal q.num.natAbs ++ if q.den = 1 then [] else [47] ++ decimal q.den) := by
    by_cases c : q.den = 1
    · rw [if_neg (fun h => h c), if_pos c, List.append_nil]; rfl
    · rw [if_pos c, if_neg c, B_append, B_append, List.append_assoc]; rfl
  rw [e, signedI_is]
  congr 2
  by_cases s : q < 0
  · rw [if_pos s, if_pos (z.mp s)]
  · rw [if_neg s, if_neg (fun h => s (z.mpr h))]
/-- the text of so many units, as the program makes it -/
def unitsI (n : Int) (d : Int) : List Int :=
  let t := B (dg n.natAbs)
  if d ≤ 0 then signedI n (if n ≠ 0 then t ++ List.replicate (0 - d).toNat 48 else t)
  else
    let u := List.replicate (d + 1 - t.length).toNat 48 ++ t
    signedI n (u.take (u.length - d).toNat ++ [46] ++ u.drop (u.length - d).toNat)
theorem B_replicate (k : Nat) : B (List.replicate k 48) = List.replicate k 48 := by
  unfold B; rw [List.map_replicate]; rfl
theorem unitsI_is (n : Int) (d : Int) : unitsI n d = B (unitsText d n) := by
  unfold unitsI unitsText
  rw [ascii_minus, ascii_point]
  simp only []
  by_cases c : d ≤ 0
  · rw [if_pos c, if_pos c, ← signedI_is]
    congr 1
    have e : (0 - d).toNat = (-d).toNat := by congr 1; omega
    rw [e]
    by_cases z : n = 0
    · subst z
      rw [if_neg (fun h => h rfl)]
      show B (dg 0) = B (dg ((0 : Int).natAbs * 10 ^ (-d).toNat))
      congr 2
      simp
    · rw [if_pos z, ← B_replicate, ← B_append]
      congr 1
      exact (dg_noughts (-d).toNat n.natAbs (by omega)).symm
  · rw [if_neg c, if_neg c, ← signedI_is]
    congr 1
    have hd : d = (d.toNat : Int) := by omega
    generalize d.toNat = k at hd
    subst hd
    have e : ((k : Int) + 1 - ((B (dg n.natAbs)).length : Int)).toNat = k + 1 - (dg n.natAbs).length := by rw [B_length]; omega
    rw [e, ← B_replicate, ← B_append, dg_cut, B_append]
    have l : ((B (dg (n.natAbs / 10 ^ k)) ++ B (padded k (n.natAbs % 10 ^ k))).length - (k : Int)).toNat = (B (dg (n.natAbs / 10 ^ k))).length := by
      rw [List.length_append, B_length, B_length, padded_len]; omega
    rw [l, List.take_left, List.drop_left, B_append, B_append, ← List.append_assoc]
    rfl
end Ow
namespace Ow
open EbNum
/-! reading: what the program does with a text s, by places -/
/-- the digits that stand from a place on -/
def runAt (s : Bytes) (p : Nat) : Bytes := (s.drop p).takeWhile isDigit
/-- the place behind the digits; or the place of a fault -/
def endOf (s : Bytes) (p : Nat) : Except Nat Nat :=
  if runAt s p = [] then .error p else if 1300 < (runAt s p).length then .error (p + 1300) else .ok (p + (runAt s p).length)
def slice (s : Bytes) (a b : Nat) : Bytes := (s.drop a).take (b - a)
def sgn (m : Bool) : Int := if m then -1 else 1
def numM (s : Bytes) (p : Nat) (sg : Bool) : Except Nat (Rat × Nat) :=
  let m : Bool := sg && decide (s[p]? = some 45)
  let a := if m then p + 1 else p
  match endOf s a with
  | .error k => .error k
  | .ok e =>
    let top : Int := (number (slice s a e) : Nat)
    if s[e]? = some 46 then
      match endOf s (e + 1) with
      | .error k => .error k
      | .ok e2 => .ok (nof (sgn m * (top * ((10 ^ (e2 - (e + 1)) : Nat) : Int) + ((number (slice s (e + 1) e2) : Nat) : Int))) ((10 ^ (e2 - (e + 1)) : Nat) : Int), e2)
    else if s[e]? = some 47 then
      match endOf s (e + 1) with
      | .error k => .error k
      | .ok e2 => if number (slice s (e + 1) e2) = 0 then .error (e + 1) else .ok (nof (sgn m * top) ((number (slice s (e + 1) e2) : Nat) : Int), e2)
    else .ok (nof (sgn m * top) 1, e)
theorem takeWhile_prefix : ∀ (l : Bytes), l.take (l.takeWhile isDigit).length = l.takeWhile isDigit
  | [] => rfl
  | x :: l => by
    rw [List.takeWhile_cons]
    split
    · show x :: l.take (l.takeWhile isDigit).length = _
      rw [takeWhile_prefix l]
    · rfl
theorem runAt_le (s : Bytes) (p : Nat) : (runAt s p).length ≤ s.length - p := by
  unfold runAt
  rw [← takeWhile_prefix, List.length_take, List.length_drop]
  exact Nat.min_le_right ..
theorem slice_run (s : Bytes) (p : Nat) : slice s p (p + (runAt s p).length) = runAt s p := by
  unfold slice runAt
  rw [Nat.add_sub_cancel_left, takeWhile_prefix]
theorem endOf_ok {s : Bytes} {p e : Nat} (h : endOf s p = .ok e) : e = p + (runAt s p).length ∧ runAt s p ≠ [] ∧ (runAt s p).length ≤ 1300 := by
  unfold endOf at h
  split at h
  · cases h
  · split at h
    · cases h
    · cases h
      exact ⟨rfl, by assumption, by omega⟩
theorem endOf_le {s : Bytes} {p e : Nat} (hp : p ≤ s.length) (h : endOf s p = .ok e) : e ≤ s.length ∧ p < e := by
  obtain ⟨h1, h2, h3⟩ := endOf_ok h
  have := runAt_le s p
  have : 0 < (runAt s p).length := List.length_pos_iff.mpr h2
  omega
theorem number_append (a b : Bytes) (h : ∀ c ∈ b, isDigit c = true) : number (a ++ b) = number a * 10 ^ b.length + number b := by
  have key : ∀ (b : Bytes) (n : Nat), b.foldl (fun (n : Nat) (c : UInt8) => 10 * n + (c.toNat - 48)) n = n * 10 ^ b.length + b.foldl (fun (n : Nat) (c : UInt8) => 10 * n + (c.toNat - 48)) 0 := by
    intro b
    induction b with
    | nil => intro n; simp
    | cons x b ih =>
      intro n
      rw [List.foldl_cons, List.foldl_cons, ih (10 * n + (x.toNat - 48)), ih (10 * 0 + (x.toNat - 48)), List.length_cons, Nat.pow_succ, Nat.add_mul]
      have e : 10 * n * 10 ^ b.length = n * (10 ^ b.length * 10) := by
        rw [Nat.mul_comm 10 n, Nat.mul_assoc, Nat.mul_comm 10 (10 ^ b.length)]
      rw [e]
      simp only [Nat.mul_zero, Nat.zero_add]
      omega
  unfold number
  rw [List.foldl_append]
  exact key b _
theorem runAt_digits (s : Bytes) (p : Nat) : ∀ c ∈ runAt s p, isDigit c = true := fun c hc => by
  unfold runAt at hc
  generalize s.drop p = l at hc
  induction l with
  | nil => cases hc
  | cons x l ih =>
    rw [List.takeWhile_cons] at hc
    split at hc
    · rcases List.mem_cons.mp hc with rfl | hc
      · assumption
      · exact ih hc
    · cases hc
theorem sgn_mul_nof (m : Bool) (t b : Int) : nof (sgn m * t) b = if m then -(nof t b) else nof t b := by
  cases m
  · show nof (1 * t) b = nof t b
    rw [Int.one_mul]
  · show nof (-1 * t) b = -(nof t b)
    unfold nof
    rw [Rat.neg_mkRat]
    congr 1
    omega
theorem nof_nat (t b : Nat) (hb : b ≠ 0) : nof (t : Int) (b : Int) = (t : Rat) / (b : Rat) := by
  rw [nof_eq_div (by omega)]
  rfl
theorem nof_one (t : Nat) : nof (t : Int) 1 = (t : Rat) := by
  have h := nof_nat t 1 (by decide)
  have e : ((1 : Nat) : Rat) = 1 := rfl
  rw [e, Rat.div_def] at h
  have i : (1 : Rat)⁻¹ = 1 := Rat.inv_eq_of_mul_eq_one (Rat.mul_one 1)
  rw [i, Rat.mul_one] at h
  exact h
theorem drop_run (s : Bytes) (p : Nat) : (s.drop p).drop (runAt s p).length = s.drop (p + (runAt s p).length) := List.drop_drop
theorem head_drop (s : Bytes) (p : Nat) : s[p]? = (s.drop p).head? := by rw [List.head?_drop]
theorem drop_len {s : Bytes} {p : Nat} (h : p ≤ s.length) : s.length - (s.drop p).length = p := by rw [List.length_drop]; omega
def tailAt (p : Nat) (a : Bytes) (r : Bytes) : Except Nat (Rat × Bytes) := match r with
    | 46 :: t =>
      let b := t.takeWhile isDigit
      if b = [] then .error (p + a.length + 1)
      else if DIGITS < b.length then .error (p + a.length + 1 + DIGITS)
      else .ok (((number (a ++ b) : Nat) : Rat) / ((10 ^ b.length : Nat) : Rat), t.drop b.length)
    | 47 :: t =>
      let b := t.takeWhile isDigit
      if b = [] then .error (p + a.length + 1)
      else if DIGITS < b.length then .error (p + a.length + 1 + DIGITS)
      else if number b = 0 then .error (p + a.length + 1)
      else .ok (((number a : Nat) : Rat) / ((number b : Nat) : Rat), t.drop b.length)
    | _ => .ok (((number a : Nat) : Rat), r)
theorem partAt_tail (p : Nat) (s : Bytes) : partAt p s = if s.takeWhile isDigit = [] then Except.error p else if DIGITS < (s.takeWhile isDigit).length then Except.error (p + DIGITS) else tailAt p (s.takeWhile isDigit) (s.drop (s.takeWhile isDigit).length) := rfl
theorem tailAt_46 (p : Nat) (a t : Bytes) : tailAt p a (46 :: t) = if t.takeWhile isDigit = [] then Except.error (p + a.length + 1) else if DIGITS < (t.takeWhile isDigit).length then Except.error (p + a.length + 1 + DIGITS)
    else Except.ok (((number (a ++ t.takeWhile isDigit) : Nat) : Rat) / ((10 ^ (t.takeWhile isDigit).length : Nat) : Rat), t.drop (t.takeWhile isDigit).length) := rfl
theorem tailAt_47 (p : Nat) (a t : Bytes) : tailAt p a (47 :: t) = if t.takeWhile isDigit = [] then Except.error (p + a.length + 1) else if DIGITS < (t.takeWhile isDigit).length then Except.error (p + a.length + 1 + DIGITS)
    else if number (t.takeWhile isDigit) = 0 then Except.error (p + a.length + 1) else Except.ok (((number a : Nat) : Rat) / ((number (t.takeWhile isDigit) : Nat) : Rat), t.drop (t.takeWhile isDigit).length) := rfl
theorem tailAt_nil (p : Nat) (a : Bytes) : tailAt p a [] = Except.ok (((number a : Nat) : Rat), []) := rfl
theorem tailAt_other (p : Nat) (a t : Bytes) (x : UInt8) (h1 : ¬ x = 46) (h2 : ¬ x = 47) : tailAt p a (x :: t) = Except.ok (((number a : Nat) : Rat), x :: t) := by
  unfold tailAt
  split
  · rename_i z; exact absurd (List.cons.inj z).1 h1
  · rename_i z; exact absurd (List.cons.inj z).1 h2
  · rfl
/-- partAt, by places -/
theorem partAt_is (s : Bytes) (p : Nat) (hp : p ≤ s.length) : numM s p false = (partAt p (s.drop p)).map fun x => (x.1, s.length - x.2.length) := by
  have hm : (false && decide (s[p]? = some 45)) = false := rfl
  rw [partAt_tail]
  unfold numM
  simp only [hm, Bool.false_eq_true, if_false]
  have r1 : (s.drop p).takeWhile isDigit = runAt s p := rfl
  rw [r1]
  unfold endOf DIGITS
  by_cases c1 : runAt s p = []
  · rw [if_pos c1, if_pos c1]; rfl
  rw [if_neg c1, if_neg c1]
  by_cases c2 : 1300 < (runAt s p).length
  · rw [if_pos c2, if_pos c2]; rfl
  rw [if_neg c2, if_neg c2]
  have hr := runAt_le s p
  dsimp only
  rw [drop_run, slice_run]
  generalize he : p + (runAt s p).length = e
  have hel : e ≤ s.length := by omega
  rw [head_drop]
  have dl : (s.drop e).length = s.length - e := List.length_drop ..
  have hd1 : s.drop (e + 1) = (s.drop e).tail := by rw [List.tail_drop]
  have r2 : runAt s (e + 1) = ((s.drop e).tail).takeWhile isDigit := by unfold runAt; rw [hd1]
  cases hs : s.drop e with
  | nil =>
    rw [hs] at dl
    rw [tailAt_nil]
    simp only [List.head?_nil, reduceCtorEq, if_false]
    have hs1 : sgn false * ((number (runAt s p) : Nat) : Int) = ((number (runAt s p) : Nat) : Int) := Int.one_mul _
    rw [hs1, nof_one]
    show Except.ok _ = Except.ok _
    simp only [List.length_nil] at dl ⊢
    congr 2
    omega
  | cons x t =>
    rw [hs] at dl hd1 r2
    simp only [List.tail_cons] at hd1 r2
    rw [List.length_cons] at dl
    simp only [List.head?_cons, Option.some.injEq]
    have hs1 : sgn false * ((number (runAt s p) : Nat) : Int) = ((number (runAt s p) : Nat) : Int) := Int.one_mul _
    by_cases x46 : x = 46
    · subst x46
      rw [if_pos rfl, tailAt_46, ← r2]
      unfold DIGITS
      by_cases d1 : runAt s (e + 1) = []
      · rw [if_pos d1, if_pos d1]
        show Except.error _ = Except.error _
        congr 1; omega
      rw [if_neg d1, if_neg d1]
      by_cases d2 : 1300 < (runAt s (e + 1)).length
      · rw [if_pos d2, if_pos d2]
        show Except.error _ = Except.error _
        congr 1; omega
      rw [if_neg d2, if_neg d2]
      dsimp only
      have hr2 := runAt_le s (e + 1)
      have e1 : e + 1 + (runAt s (e + 1)).length - (e + 1) = (runAt s (e + 1)).length := Nat.add_sub_cancel_left ..
      rw [e1, slice_run]
      show Except.ok _ = Except.ok _
      have e2 : sgn false * (((number (runAt s p) : Nat) : Int) * ((10 ^ (runAt s (e + 1)).length : Nat) : Int) + ((number (runAt s (e + 1)) : Nat) : Int)) = ((number (runAt s p ++ runAt s (e + 1)) : Nat) : Int) := by
        rw [number_append _ _ (runAt_digits s (e + 1))]
        show 1 * _ = _
        rw [Int.one_mul, Int.natCast_add, Int.natCast_mul]
      rw [e2, nof_nat _ _ (Nat.ne_of_gt (Nat.pow_pos (by decide)))]
      congr 2
      rw [List.length_drop]
      omega
    by_cases x47 : x = 47
    · subst x47
      rw [if_neg (by decide), if_pos rfl, tailAt_47, ← r2]
      unfold DIGITS
      by_cases d1 : runAt s (e + 1) = []
      · rw [if_pos d1, if_pos d1]
        show Except.error _ = Except.error _
        congr 1; omega
      rw [if_neg d1, if_neg d1]
      by_cases d2 : 1300 < (runAt s (e + 1)).length
      · rw [if_pos d2, if_pos d2]
        show Except.error _ = Except.error _
        congr 1; omega
      rw [if_neg d2, if_neg d2]
      dsimp only
      have hr2 := runAt_le s (e + 1)
      rw [slice_run]
      by_cases d3 : number (runAt s (e + 1)) = 0
      · rw [if_pos d3, if_pos d3]
        show Except.error _ = Except.error _
        congr 1; omega
      rw [if_neg d3, if_neg d3, hs1, nof_nat _ _ d3]
      show Except.ok _ = Except.ok _
      congr 2
      rw [List.length_drop]
      omega
    rw [if_neg x46, if_neg x47, tailAt_other _ _ _ _ x46 x47, hs1, nof_one]
    show Except.ok _ = Except.ok _
    congr 2
    rw [List.length_cons]
    omega
theorem numM_neg (s : Bytes) (p : Nat) (h : s[p]? = some 45) : numM s p true = (numM s (p + 1) false).map fun x => (-x.1, x.2) := by
  have hm : (true && decide (s[p]? = some 45)) = true := by rw [h]; rfl
  have hm2 : (false && decide (s[p + 1]? = some 45)) = false := rfl
  unfold numM
  simp only [hm, hm2, Bool.false_eq_true, if_false, if_true]
  cases endOf s (p + 1) with
  | error k => rfl
  | ok e =>
    dsimp only
    have key : ∀ t b, nof (sgn true * t) b = -(nof (sgn false * t) b) := fun t b => by rw [sgn_mul_nof, sgn_mul_nof]; rfl
    by_cases c1 : s[e]? = some 46
    · rw [if_pos c1, if_pos c1]
      cases endOf s (e + 1) with
      | error k => rfl
      | ok e2 =>
        dsimp only
        rw [key]; rfl
    · rw [if_neg c1, if_neg c1]
      by_cases c2 : s[e]? = some 47
      · rw [if_pos c2, if_pos c2]
        cases endOf s (e + 1) with
        | error k => rfl
        | ok e2 =>
          dsimp only
          split
          · rfl
          · rw [key]; rfl
      · rw [if_neg c2, if_neg c2, key]; rfl
theorem numM_pos (s : Bytes) (p : Nat) (h : ¬ s[p]? = some 45) : numM s p true = numM s p false := by
  have hm : (true && decide (s[p]? = some 45)) = false := by rw [decide_eq_false h]; rfl
  have hm2 : (false && decide (s[p]? = some 45)) = false := rfl
  unfold numM
  rw [hm, hm2]
theorem signedAt_is (s : Bytes) (p : Nat) (hp : p ≤ s.length) : numM s p true = (signedAt p (s.drop p)).map fun x => (x.1, s.length - x.2.length) := by
  unfold signedAt
  by_cases c : s[p]? = some 45
  · rw [numM_neg s p c]
    have hlt : p < s.length := by
      rcases Nat.lt_or_ge p s.length with h | h
      · exact h
      · rw [List.getElem?_eq_none_iff.mpr h] at c; cases c
    rw [partAt_is s (p + 1) (by omega)]
    rw [head_drop] at c
    have hd1 : s.drop (p + 1) = (s.drop p).tail := by rw [List.tail_drop]
    cases hs : s.drop p with
    | nil => rw [hs] at c; cases c
    | cons x t =>
      rw [hs] at c hd1
      have x45 : x = 45 := by simpa using c
      subst x45
      rw [hd1]
      show (Except.map _ (Except.map _ (partAt (p + 1) t))) = Except.map _ (Except.map _ (partAt (p + 1) t))
      cases partAt (p + 1) t with
      | error k => rfl
      | ok x => rfl
  · rw [numM_pos s p c, partAt_is s p hp]
    split
    · rename_i t z
      rw [head_drop, z] at c
      exact absurd rfl c
    · rfl
/-- whole_number -/
def wholeM (s : Bytes) : Except Nat Rat := match numM s 0 true with
  | .error k => .error k
  | .ok x => if x.2 < s.length then .error x.2 else .ok x.1
/-- what is left stands at the end -/
theorem suffix_partAt {s : Bytes} {p : Nat} (hp : p ≤ s.length) {x : Rat × Bytes} (h : partAt p (s.drop p) = .ok x) : x.2 = s.drop (s.length - x.2.length) ∧ x.2.length ≤ s.length := by
  unfold partAt at h
  have r1 : (s.drop p).takeWhile isDigit = runAt s p := rfl
  rw [r1] at h
  have hr := runAt_le s p
  dsimp only at h
  rw [drop_run] at h
  split at h
  · cases h
  split at h
  · cases h
  have hd : ∀ k, k ≤ s.length → s.drop k = s.drop (s.length - (s.drop k).length) := fun k hk => by rw [drop_len hk]
  have hl : ∀ k, (s.drop k).length ≤ s.length := fun k => by rw [List.length_drop]; omega
  split at h
  · rename_i t z
    have ht : t = s.drop (p + (runAt s p).length + 1) := by rw [← List.tail_drop, z]; rfl
    have hz := congrArg List.length z
    rw [List.length_drop, List.length_cons] at hz
    have r2 : t.takeWhile isDigit = runAt s (p + (runAt s p).length + 1) := by rw [ht]; rfl
    rw [r2] at h
    split at h
    · cases h
    split at h
    · cases h
    cases h
    dsimp only
    rw [ht, drop_run]
    have := runAt_le s (p + (runAt s p).length + 1)
    exact ⟨hd _ (by omega), hl _⟩
  · rename_i t z
    have ht : t = s.drop (p + (runAt s p).length + 1) := by rw [← List.tail_drop, z]; rfl
    have hz := congrArg List.length z
    rw [List.length_drop, List.length_cons] at hz
    have r2 : t.takeWhile isDigit = runAt s (p + (runAt s p).length + 1) := by rw [ht]; rfl
    rw [r2] at h
    split at h
    · cases h
    split at h
    · cases h
    split at h
    · cases h
    cases h
    dsimp only
    rw [ht, drop_run]
    have := runAt_le s (p + (runAt s p).length + 1)
    exact ⟨hd _ (by omega), hl _⟩
  · cases h
    dsimp only
    exact ⟨hd _ (by omega), hl _⟩
theorem suffix_signedAt {s : Bytes} {p : Nat} (hp : p ≤ s.length) {x : Rat × Bytes} (h : signedAt p (s.drop p) = .ok x) : x.2 = s.drop (s.length - x.2.length) ∧ x.2.length ≤ s.length := by
  unfold signedAt at h
  split at h
  · rename_i t z
    have ht : t = s.drop (p + 1) := by rw [← List.tail_drop, z]; rfl
    have hz := congrArg List.length z
    rw [List.length_drop, List.length_cons] at hz
    rw [ht] at h
    cases hq : partAt (p + 1) (s.drop (p + 1)) with
    | error k => rw [hq] at h; cases h
    | ok y =>
      rw [hq] at h
      have := suffix_partAt (p := p + 1) (by omega) hq
      cases h
      exact this
  · exact suffix_partAt hp h
theorem wholeM_is (s : Bytes) : wholeM s = readNum s := by
  unfold wholeM readNum
  rw [signedAt_is s 0 (Nat.zero_le _)]
  have h0 : s.drop 0 = s := rfl
  rw [h0]
  cases hq : signedAt 0 s with
  | error k => rfl
  | ok x =>
    have hs := suffix_signedAt (s := s) (p := 0) (Nat.zero_le _) hq
    show (if s.length - x.2.length < s.length then Except.error (s.length - x.2.length) else Except.ok x.1) = if x.2 = [] then Except.ok x.1 else Except.error (s.length - x.2.length)
    by_cases c : x.2 = []
    · rw [if_pos c, if_neg (by rw [c]; simp)]
    · have : 0 < x.2.length := List.length_pos_iff.mpr c
      rw [if_neg c, if_pos (by omega)]
/-- behind_between -/
def wantM (s : Bytes) : Nat → List UInt8 → Except Nat Nat
  | p, [] => .ok p
  | p, c :: r => if s[p]? = some c then wantM s (p + 1) r else .error p
theorem wantM_is (s : Bytes) : ∀ (r : Bytes) (p : Nat), p ≤ s.length → wantM s p r = (wantAt p r (s.drop p)).map fun t => s.length - t.length
  | [], p, hp => by
    unfold wantM wantAt
    show Except.ok p = Except.ok (s.length - (s.drop p).length)
    rw [drop_len hp]
  | c :: r, p, hp => by
    unfold wantM
    rw [head_drop]
    cases hs : s.drop p with
    | nil => rfl
    | cons x t =>
      have ht : t = s.drop (p + 1) := by rw [← List.tail_drop, hs]; rfl
      have hz := congrArg List.length hs
      rw [List.length_drop, List.length_cons] at hz
      unfold wantAt
      simp only [List.head?_cons, Option.some.injEq]
      by_cases c1 : x = c
      · rw [if_pos c1, if_pos c1.symm, ht]
        exact wantM_is s r (p + 1) (by omega)
      · rw [if_neg c1, if_neg (fun h => c1 h.symm)]
        rfl
theorem suffix_wantAt {s : Bytes} : ∀ (r : Bytes) (p : Nat) {t : Bytes}, p ≤ s.length → wantAt p r (s.drop p) = .ok t → t = s.drop (s.length - t.length) ∧ t.length ≤ s.length
  | [], p, t, hp, h => by
    unfold wantAt at h
    cases h
    rw [drop_len hp]
    exact ⟨rfl, by rw [List.length_drop]; omega⟩
  | c :: r, p, t, hp, h => by
    cases hs : s.drop p with
    | nil => rw [hs] at h; cases h
    | cons x u =>
      have ht : u = s.drop (p + 1) := by rw [← List.tail_drop, hs]; rfl
      have hz := congrArg List.length hs
      rw [List.length_drop, List.length_cons] at hz
      rw [hs] at h
      unfold wantAt at h
      split at h
      · rw [ht] at h
        exact suffix_wantAt r (p + 1) (by omega) h
      · cases h
/-- whole_pair -/
def pairM (s : Bytes) : Except Nat (Rat × Rat) := match numM s 0 true with
  | .error k => .error k
  | .ok x => match wantM s x.2 [32, 43, 45, 32] with
    | .error k => .error k
    | .ok p => match numM s p false with
      | .error k => .error k
      | .ok y => if y.2 < s.length then .error y.2 else .ok (x.1, y.1)
theorem pairM_is (s : Bytes) : pairM s = readShown s := by
  unfold pairM readShown
  rw [signedAt_is s 0 (Nat.zero_le _), PM_is]
  have h0 : s.drop 0 = s := rfl
  rw [h0]
  cases hq : signedAt 0 s with
  | error k => rfl
  | ok x =>
    obtain ⟨hs, hl⟩ := suffix_signedAt (s := s) (p := 0) (Nat.zero_le _) hq
    show (match wantM s (s.length - x.2.length) [32, 43, 45, 32] with
      | .error k => Except.error k
      | .ok p => match numM s p false with
        | .error k => Except.error k
        | .ok y => if y.2 < s.length then Except.error y.2 else Except.ok (x.1, y.1)) = _
    rw [wantM_is s _ _ (by omega), ← hs]
    dsimp only
    cases hw : wantAt (s.length - x.2.length) [32, 43, 45, 32] x.2 with
    | error k => rfl
    | ok t =>
      rw [hs] at hw
      have hle : s.length - x.2.length ≤ s.length := by omega
      have e1 : (s.drop (s.length - x.2.length)).length = x.2.length := by rw [← hs]
      rw [e1] at hw
      obtain ⟨ts, tl⟩ := suffix_wantAt _ _ hle hw
      show (match numM s (s.length - t.length) false with
        | .error k => Except.error k
        | .ok y => if y.2 < s.length then Except.error y.2 else Except.ok (x.1, y.1)) = _
      rw [partAt_is s _ (by omega), ← ts]
      dsimp only
      cases hp : partAt (s.length - t.length) t with
      | error k => rfl
      | ok y =>
        have hp2 : partAt (s.length - t.length) (s.drop (s.length - t.length)) = .ok y := by rw [← ts]; exact hp
        obtain ⟨ys, yl⟩ := suffix_partAt (by omega) hp2
        show (if s.length - y.2.length < s.length then Except.error (s.length - y.2.length) else Except.ok (x.1, y.1)) = if y.2 = [] then Except.ok (x.1, y.1) else Except.error (s.length - y.2.length)
        by_cases c : y.2 = []
        · rw [if_pos c, if_neg (by rw [c]; simp)]
        · have : 0 < y.2.length := List.length_pos_iff.mpr c
          rw [if_neg c, if_pos (by omega)]
end Ow
namespace Ow
open EbNum
/-! what each call answers, by the parts above -/
def txt (t : List Int) : Bytes := EvenANeutral.text t
theorem txt_back (t : List Int) (h : ∀ x ∈ t, 0 ≤ x ∧ x ≤ 255) : B (txt t) = t := by
  unfold txt EvenANeutral.text EvenANeutral.nats B
  rw [List.map_map, List.map_map]
  conv => rhs; rw [← List.map_id t]
  refine List.map_congr_left fun x hx => ?_
  obtain ⟨h1, h2⟩ := h x hx
  show (((UInt8.ofNat x.toNat).toNat : Nat) : Int) = x
  rw [UInt8.toNat_ofNat', Nat.mod_eq_of_lt (by omega)]
  omega
def toldI (l : List Int) : List Int := (l.length : Int) :: l
def readM (which : Nat) (s : Bytes) : Except (List Int) Rat :=
  if 4096 < s.length then .error [-1] else match wholeM s with
  | .error k => .error [-3, (which : Int), (k : Int)]
  | .ok q => if fits q = true then .ok q else .error [-6]
def readPairM (which : Nat) (s : Bytes) : Except (List Int) (Rat × Rat) :=
  if 4096 < s.length then .error [-1] else match pairM s with
  | .error k => .error [-3, (which : Int), (k : Int)]
  | .ok q => .ok q
def ans (r : Except (List Int) (List Int)) : List Int := match r with
  | .error l => l
  | .ok l => l
theorem shown_says (z : Int) : EvenANeutral.shown (EvenA.says z) = [z] := rfl
theorem shown_wrong (w k : Nat) : EvenANeutral.shown (EvenA.wrong w k) = [-3, (w : Int), (k : Int)] := rfl
theorem shown_whole (b : Bytes) : EvenANeutral.shown (EvenA.wholeB b) = toldI (B b) := by
  show (b.length : Int) :: ([] ++ B b) = ((B b).length : Int) :: B b
  rw [B_length]; rfl
theorem numOf_is (w : Nat) (s : Bytes) : (∃ e, EvenA.numOf w s = .error e ∧ readM w s = .error (EvenANeutral.shown e)) ∨ (∃ q, EvenA.numOf w s = .ok q ∧ readM w s = .ok q ∧ fits q = true) := by
  unfold EvenA.numOf readM EvenA.LONG
  rw [wholeM_is]
  by_cases c : 4096 < s.length
  · rw [if_pos c, if_pos c]; exact .inl ⟨_, rfl, rfl⟩
  · rw [if_neg c, if_neg c]
    cases readNum s with
    | error k => exact .inl ⟨_, rfl, rfl⟩
    | ok q =>
      dsimp only
      by_cases f : fits q = true
      · rw [if_pos f, if_pos f]; exact .inr ⟨_, rfl, rfl, f⟩
      · rw [if_neg f, if_neg f]; exact .inl ⟨_, rfl, rfl⟩
theorem shownOf_is (s : Bytes) : (∃ e, EvenA.shownOf s = .error e ∧ readPairM 0 s = .error (EvenANeutral.shown e)) ∨ (∃ q, EvenA.shownOf s = .ok q ∧ readPairM 0 s = .ok q) := by
  unfold EvenA.shownOf readPairM EvenA.LONG
  rw [pairM_is]
  by_cases c : 4096 < s.length
  · rw [if_pos c, if_pos c]; exact .inl ⟨_, rfl, rfl⟩
  · rw [if_neg c, if_neg c]
    cases readShown s with
    | error k => exact .inl ⟨_, rfl, rfl⟩
    | ok q => exact .inr ⟨_, rfl, rfl⟩
def exactM (s : Bytes) : Except (List Int) (List Int) := match readM 0 s with
  | .error l => .error l
  | .ok q => .ok (toldI (exactI q))
theorem exact_due (t : List Int) : PyWqbbbi.exact t = ans (exactM (txt t)) := by
  show EvenANeutral.shown (EvenA.answer (.exact (txt t))) = _
  unfold exactM
  rcases numOf_is 0 (txt t) with ⟨e, h1, h2⟩ | ⟨q, h1, h2, h3⟩
  · rw [h2]
    unfold EvenA.answer
    dsimp only
    rw [h1]; rfl
  · rw [h2]
    unfold EvenA.answer
    dsimp only
    rw [h1]
    dsimp only
    unfold EvenA.exactGiven
    rw [if_pos h3, shown_whole, ← exactI_is]; rfl
def atM (d way : Int) (s : Bytes) : Except (List Int) (List Int) :=
  if ¬ (-60 ≤ d ∧ d ≤ 60) ∨ 4 < way then .error [-1] else match readM 0 s with
  | .error l => .error l
  | .ok q => .ok (toldI (unitsI (rnd (q * ten d).num (q * ten d).den way) d))
theorem place_iff (d : Int) : isPlace d = false ↔ ¬ (-60 ≤ d ∧ d ≤ 60) := by
  unfold isPlace LOW HIGH
  rw [Bool.and_eq_false_iff, decide_eq_false_iff_not, decide_eq_false_iff_not]
  omega
theorem at_due (d way : Int) (t : List Int) (hw : 0 ≤ way) : PyWqbbbi.at_ d way t = ans (atM d way (txt t)) := by
  show EvenANeutral.shown (EvenA.answer (.at_ (txt t) d way.toNat)) = _
  unfold atM EvenA.answer WAYS
  have c : (isPlace d = false ∨ 5 ≤ way.toNat) ↔ (¬ (-60 ≤ d ∧ d ≤ 60) ∨ 4 < way) := by
    rw [place_iff]; omega
  by_cases h : ¬ (-60 ≤ d ∧ d ≤ 60) ∨ 4 < way
  · rw [if_pos h]
    dsimp only
    rw [if_pos (c.mpr h)]; rfl
  · rw [if_neg h]
    dsimp only
    rw [if_neg (fun x => h (c.mp x))]
    rcases numOf_is 0 (txt t) with ⟨e, h1, h2⟩ | ⟨q, h1, h2, _⟩
    · rw [h2, h1]; rfl
    · rw [h2, h1]
      dsimp only
      rw [shown_whole, ← unitsI_is]
      have hw2 : way = (way.toNat : Int) := by omega
      unfold unitsAt
      rw [← rnd_is _ _ (by omega), ← hw2]
      rfl
def opM (op : Int) (p q : Rat) : Rat := if op = 0 then p + q else if op = 1 then p - q else if op = 2 then p * q else p / q
def twoM (op : Int) (a b : Bytes) : Except (List Int) (List Int) :=
  if 3 < op then .error [-1] else match readM 0 a with
  | .error l => .error l
  | .ok p => match readM 1 b with
    | .error l => .error l
    | .ok q => if op = 3 ∧ q = 0 then .error [-5] else if fits (opM op p q) = true then .ok (toldI (exactI (opM op p q))) else .error [-6]
theorem two_due (op : Int) (a b : List Int) (ho : 0 ≤ op) : PyWqbbbi.two op a b = ans (twoM op (txt a) (txt b)) := by
  show EvenANeutral.shown (EvenA.answer (.two op.toNat (txt a) (txt b))) = _
  unfold twoM EvenA.answer
  dsimp only
  by_cases h : 3 < op
  · rw [if_pos h, if_pos (show 3 < op.toNat by omega)]; rfl
  · rw [if_neg h, if_neg (show ¬ 3 < op.toNat by omega)]
    rcases numOf_is 0 (txt a) with ⟨e, h1, h2⟩ | ⟨p, h1, h2, _⟩
    · rw [h2, h1]; rfl
    rw [h2, h1]
    rcases numOf_is 1 (txt b) with ⟨e, h3, h4⟩ | ⟨q, h3, h4, _⟩
    · rw [h4, h3]; rfl
    rw [h4, h3]
    dsimp only
    have eo : EvenA.opOf op.toNat p q = opM op p q := by
      unfold EvenA.opOf opM
      by_cases c0 : op = 0
      · rw [if_pos c0, if_pos (by omega)]
      rw [if_neg c0, if_neg (by omega)]
      by_cases c1 : op = 1
      · rw [if_pos c1, if_pos (by omega)]
      rw [if_neg c1, if_neg (by omega)]
      by_cases c2 : op = 2
      · rw [if_pos c2, if_pos (by omega)]
      rw [if_neg c2, if_neg (by omega)]
    rw [eo]
    by_cases z : op = 3 ∧ q = 0
    · rw [if_pos z, if_pos ⟨by omega, z.2⟩]; rfl
    · rw [if_neg z, if_neg (fun y => z ⟨by omega, y.2⟩)]
      unfold EvenA.exactGiven
      by_cases f : fits (opM op p q) = true
      · rw [if_pos f, if_pos f, shown_whole, ← exactI_is]; rfl
      · rw [if_neg f, if_neg f]; rfl
def orderM (a b : Bytes) : Except (List Int) (List Int) := match readM 0 a with
  | .error l => .error l
  | .ok p => match readM 1 b with
    | .error l => .error l
    | .ok q => .ok [cmp p q]
theorem order_due (a b : List Int) : PyWqbbbi.order a b = ans (orderM (txt a) (txt b)) := by
  show EvenANeutral.shown (EvenA.answer (.order (txt a) (txt b))) = _
  unfold orderM EvenA.answer
  dsimp only
  rcases numOf_is 0 (txt a) with ⟨e, h1, h2⟩ | ⟨p, h1, h2, _⟩
  · rw [h2, h1]; rfl
  rw [h2, h1]
  rcases numOf_is 1 (txt b) with ⟨e, h3, h4⟩ | ⟨q, h3, h4, _⟩
  · rw [h4, h3]; rfl
  rw [h4, h3]; rfl
/-! the place that is told -/
def places : List Int := (List.range 121).map fun (k : Nat) => -60 + (k : Int)
theorem places_back : ((List.range 121).map fun (k : Nat) => HIGH - (k : Int)) = places.reverse := by decide
def noneLost (v b : Rat) : List Int := places.filter fun d => decide (boundAt d v b = 0)
def few (v b : Rat) : List Int := places.filter fun d => decide (boundAt d v b ≤ 99)
def placeM (v b : Rat) : Option Int := match noneLost v b with
  | d :: _ => some (if 0 < d then d else 0)
  | [] => (few v b).getLast?
theorem placeM_is (v b : Rat) : place v b = placeM v b := by
  unfold place placeM
  have e1 : exactPlace v b = (noneLost v b).head? := by
    unfold exactPlace noneLost
    rw [List.head?_filter]
    show List.find? _ places = _
    congr 1
  have e2 : figurePlace v b = (few v b).getLast? := by
    unfold figurePlace few
    rw [places_back, List.getLast?_eq_head?_reverse, ← List.filter_reverse, List.head?_filter]
    rfl
  rw [e1, e2]
  cases noneLost v b with
  | nil => rfl
  | cons d r =>
    show some (if d < 0 then 0 else d) = some (if 0 < d then d else 0)
    congr 1
    split <;> split <;> omega
def shownM (a b : Bytes) : Except (List Int) (List Int) := match readM 0 a with
  | .error l => .error l
  | .ok p => match readM 1 b with
    | .error l => .error l
    | .ok q => if q.num < 0 then .error [-2] else match placeM p q with
      | none => .error [-5]
      | some d => if (fits (worth d (valueAt d p)) && fits (worth d (boundAt d p q))) = true then .ok (toldI (unitsI (valueAt d p) d ++ ([32, 43, 45, 32] ++ unitsI (boundAt d p q) d))) else .error [-6]
theorem shown_due (a b : List Int) : PyWqbbbi.shown a b = ans (shownM (txt a) (txt b)) := by
  show EvenANeutral.shown (EvenA.answer (.shown (txt a) (txt b))) = _
  unfold shownM EvenA.answer
  dsimp only
  rcases numOf_is 0 (txt a) with ⟨e, h1, h2⟩ | ⟨p, h1, h2, _⟩
  · rw [h2, h1]; rfl
  rw [h2, h1]
  rcases numOf_is 1 (txt b) with ⟨e, h3, h4⟩ | ⟨q, h3, h4, _⟩
  · rw [h4, h3]; rfl
  rw [h4, h3]
  dsimp only
  have z := lt_zero_num q
  by_cases c : q < 0
  · rw [if_pos c, if_pos (z.mp c)]; rfl
  rw [if_neg c, if_neg (fun y => c (z.mpr y)), placeM_is]
  cases placeM p q with
  | none => rfl
  | some d =>
    dsimp only
    by_cases f : (fits (worth d (valueAt d p)) && fits (worth d (boundAt d p q))) = true
    · rw [if_pos f, if_pos f, shown_whole]
      unfold shownText
      rw [B_append, B_append, PM_is, ← unitsI_is, ← unitsI_is]
      rfl
    · rw [if_neg f, if_neg f]; rfl
def splitM (s : Bytes) : Except (List Int) (List Int) := match readPairM 0 s with
  | .error l => .error l
  | .ok x => if (fits x.1 && fits x.2) = true then .ok (toldI (exactI x.1 ++ (32 :: exactI x.2))) else .error [-6]
theorem split_due (t : List Int) : PyWqbbbi.split t = ans (splitM (txt t)) := by
  show EvenANeutral.shown (EvenA.answer (.split (txt t))) = _
  unfold splitM EvenA.answer
  dsimp only
  rcases shownOf_is (txt t) with ⟨e, h1, h2⟩ | ⟨q, h1, h2⟩
  · rw [h2, h1]; rfl
  rw [h2, h1]
  dsimp only
  by_cases f : (fits q.1 && fits q.2) = true
  · rw [if_pos f, if_pos f, shown_whole, B_append, B_cons, ← exactI_is, ← exactI_is]; rfl
  · rw [if_neg f, if_neg f]; rfl
def rootM (d above : Int) (s : Bytes) : Except (List Int) (List Int) :=
  if ¬ (-60 ≤ d ∧ d ≤ 60) ∨ 1 < above then .error [-1] else match readM 0 s with
  | .error l => .error l
  | .ok q => if q.num < 0 then .error [-2] else .ok (toldI (unitsI ((rootAt (decide (above = 1)) d q : Nat) : Int) d))
theorem root_due (d above : Int) (t : List Int) (hw : 0 ≤ above) : PyWqbbbi.root d above t = ans (rootM d above (txt t)) := by
  show EvenANeutral.shown (EvenA.answer (.root (txt t) d above.toNat)) = _
  unfold rootM EvenA.answer
  dsimp only
  have c : (isPlace d = false ∨ 1 < above.toNat) ↔ (¬ (-60 ≤ d ∧ d ≤ 60) ∨ 1 < above) := by
    rw [place_iff]; omega
  by_cases h : ¬ (-60 ≤ d ∧ d ≤ 60) ∨ 1 < above
  · rw [if_pos h, if_pos (c.mpr h)]; rfl
  · rw [if_neg h, if_neg (fun x => h (c.mp x))]
    rcases numOf_is 0 (txt t) with ⟨e, h1, h2⟩ | ⟨q, h1, h2, _⟩
    · rw [h2, h1]; rfl
    · rw [h2, h1]
      dsimp only
      have z := lt_zero_num q
      by_cases c : q < 0
      · rw [if_pos c, if_pos (z.mp c)]; rfl
      rw [if_neg c, if_neg (fun y => c (z.mpr y)), shown_whole, ← unitsI_is]
      have e : (above.toNat == 1) = decide (above = 1) := by
        by_cases k : above = 1
        · subst k; rfl
        · rw [decide_eq_false k]
          exact beq_false_of_ne (by omega)
      rw [e]; rfl
def holdsM (t v b : Bytes) : Except (List Int) (List Int) := match readPairM 0 t with
  | .error l => .error l
  | .ok x => match readM 1 v with
    | .error l => .error l
    | .ok p => match readM 2 b with
      | .error l => .error l
      | .ok q => if q.num < 0 then .error [-2] else .ok [if cmp (p - q) (x.1 - x.2) = 0 then 0 else if cmp (p + q) (x.1 + x.2) < 2 then 1 else 0]
theorem cmp_lt_iff (p q : Rat) : cmp p q = 0 ↔ ¬ q ≤ p := by
  unfold cmp
  constructor
  · intro h
    split at h
    · rename_i h1; exact Rat.not_le.mpr h1
    · split at h <;> exact absurd h (by decide)
  · intro h
    rw [if_pos (Rat.not_le.mp h)]
theorem cmp_le_iff (p q : Rat) : cmp p q < 2 ↔ p ≤ q := by
  unfold cmp
  constructor
  · intro h
    split at h
    · rename_i h1; exact Rat.le_of_lt h1
    · split at h
      · rename_i h2; rw [h2]; exact Rat.le_refl
      · exact absurd h (by decide)
  · intro h
    rcases Rat.le_iff_lt_or_eq.mp h with h | h
    · rw [if_pos h]; decide
    · rw [if_neg (by rw [h]; exact Rat.lt_irrefl), if_pos h]; decide
theorem holds_due (t v b : List Int) : PyWqbbbi.holds t v b = ans (holdsM (txt t) (txt v) (txt b)) := by
  show EvenANeutral.shown (EvenA.answer (.holds (txt t) (txt v) (txt b))) = _
  unfold holdsM EvenA.answer
  dsimp only
  rcases shownOf_is (txt t) with ⟨e, h1, h2⟩ | ⟨x, h1, h2⟩
  · rw [h2, h1]; rfl
  rw [h2, h1]
  rcases numOf_is 1 (txt v) with ⟨e, h3, h4⟩ | ⟨p, h3, h4, _⟩
  · rw [h4, h3]; rfl
  rw [h4, h3]
  rcases numOf_is 2 (txt b) with ⟨e, h5, h6⟩ | ⟨q, h5, h6, _⟩
  · rw [h6, h5]; rfl
  rw [h6, h5]
  dsimp only
  have z := lt_zero_num q
  by_cases c : q < 0
  · rw [if_pos c, if_pos (z.mp c)]; rfl
  rw [if_neg c, if_neg (fun y => c (z.mpr y))]
  have key : (if x.1 - x.2 ≤ p - q ∧ p + q ≤ x.1 + x.2 then (1 : Int) else 0) = (if cmp (p - q) (x.1 - x.2) = 0 then 0 else if cmp (p + q) (x.1 + x.2) < 2 then 1 else 0) := by
    by_cases c1 : x.1 - x.2 ≤ p - q
    · rw [if_neg (fun h => (cmp_lt_iff _ _).mp h c1)]
      by_cases c2 : p + q ≤ x.1 + x.2
      · rw [if_pos ⟨c1, c2⟩, if_pos ((cmp_le_iff _ _).mpr c2)]
      · rw [if_neg (fun h => c2 h.2), if_neg (fun h => c2 ((cmp_le_iff _ _).mp h))]
    · rw [if_neg (fun h => c1 h.1), if_pos ((cmp_lt_iff _ _).mpr c1)]
  rw [shown_says, key]
  rfl
end Ow
namespace Ow
open EbNum
/-! the digits that stand from a place on, one by one -/
def isD (s : Bytes) (p : Nat) : Bool := match s[p]? with
  | some c => isDigit c
  | none => false
theorem take_run (l : Bytes) : ∀ i, i ≤ (l.takeWhile isDigit).length → (match l[i]? with
    | some c => isDigit c
    | none => false) = decide (i < (l.takeWhile isDigit).length) := by
  induction l with
  | nil => intro i _; simp
  | cons x l ih =>
    intro i hi
    rw [List.takeWhile_cons] at hi ⊢
    by_cases c : isDigit x = true
    · rw [if_pos c] at hi ⊢
      cases i with
      | zero => simp [c]
      | succ i =>
        rw [List.length_cons] at hi
        rw [List.getElem?_cons_succ, ih i (by omega), List.length_cons]
        by_cases d : i < (l.takeWhile isDigit).length
        · rw [decide_eq_true d, decide_eq_true (by omega)]
        · rw [decide_eq_false d, decide_eq_false (by omega)]
    · rw [if_neg c] at hi ⊢
      have : i = 0 := by simpa using hi
      subst this
      simpa using c
theorem isD_run (s : Bytes) (p i : Nat) (hi : i ≤ (runAt s p).length) : isD s (p + i) = decide (i < (runAt s p).length) := by
  unfold isD
  rw [← List.getElem?_drop]
  exact take_run (s.drop p) i hi
theorem isD_nil (s : Bytes) (p : Nat) : isD s p = false ↔ runAt s p = [] := by
  have h := isD_run s p 0 (Nat.zero_le _)
  rw [Nat.add_zero] at h
  rw [h, decide_eq_false_iff_not]
  constructor
  · intro z
    exact List.eq_nil_of_length_eq_zero (by omega)
  · intro z
    rw [z]
    decide
theorem number_take (b : Bytes) (i : Nat) (c : UInt8) (h : b[i]? = some c) : number (b.take (i + 1)) = 10 * number (b.take i) + (c.toNat - 48) := by
  unfold number
  rw [List.take_succ, h]
  show (b.take i ++ [c]).foldl _ 0 = _
  rw [List.foldl_append]
  rfl
theorem digit_ge {c : UInt8} (h : isDigit c = true) : 48 ≤ c.toNat := by
  unfold isDigit at h
  exact of_decide_eq_true (Bool.and_eq_true_iff.mp h).1
theorem number_lt (b : Bytes) (h : ∀ c ∈ b, isDigit c = true) : number b < 10 ^ b.length := by
  have key : ∀ (b : Bytes) (n k : Nat), (∀ c ∈ b, isDigit c = true) → n < 10 ^ k → b.foldl (fun (n : Nat) (c : UInt8) => 10 * n + (c.toNat - 48)) n < 10 ^ (k + b.length) := by
    intro b
    induction b with
    | nil => intro n k _ h; exact h
    | cons x b ih =>
      intro n k hd hn
      rw [List.foldl_cons, List.length_cons]
      have hx : x.toNat - 48 ≤ 9 := by
        have h1 := hd x List.mem_cons_self
        unfold isDigit at h1
        have h2 : x.toNat ≤ 57 := of_decide_eq_true (Bool.and_eq_true_iff.mp h1).2
        omega
      have e : k + (b.length + 1) = (k + 1) + b.length := by omega
      rw [e]
      refine ih _ (k + 1) (fun c hc => hd c (List.mem_cons_of_mem _ hc)) ?_
      rw [Nat.pow_succ]
      omega
  have := key b 0 0 h (by decide)
  rw [Nat.zero_add] at this
  exact this
/-! sizes of what is read -/
theorem pow10_lt (n : Nat) : 10 ^ n < 2 ^ (4 * n + 1) := by
  have h : 10 ^ n ≤ 16 ^ n := Nat.pow_le_pow_left (by decide) n
  have e : (16 : Nat) ^ n = 2 ^ (4 * n) := by rw [Nat.pow_mul]
  have h2 : 2 ^ (4 * n) < 2 ^ (4 * n + 1) := Nat.pow_lt_pow_right (by decide) (by omega)
  omega
theorem run_num (s : Bytes) (p : Nat) (h : (runAt s p).length ≤ 1300) : number (runAt s p) < 10 ^ 1300 :=
  Nat.lt_of_lt_of_le (number_lt _ (runAt_digits s p)) (Nat.pow_le_pow_right (by decide) h)
theorem nof_fit {t b : Int} {k n : Nat} (hb : 0 < b) (ht : t.natAbs < 2 ^ k) (hn : b.natAbs < 2 ^ n) : (nof t b).num.natAbs < 2 ^ k ∧ (nof t b).den < 2 ^ n := by
  have g0 : 0 < Int.gcd t b := Nat.pos_of_ne_zero fun z => by
    have := (Int.gcd_eq_zero_iff.mp z).2
    omega
  constructor
  · rw [nof_num_div hb]
    refine Nat.lt_of_le_of_lt ?_ ht
    rw [Int.natAbs_ediv_of_dvd (Int.gcd_dvd_left ..)]
    exact Nat.div_le_self ..
  · have h := nof_den_div (t := t) hb
    have h2 : ((nof t b).den : Int) ≤ b := by
      rw [h]
      exact Int.ediv_le_self _ (Int.le_of_lt hb)
    omega
end Ow
/-! ## The rules that this program wants besides the library's: own errors over Exception, made by an __init__ of their own -/
namespace Ox
open PySem PySem.Spec PyProof.Rows L2
/-- the number of digits of an int's text: no limit is booked -/
theorem noDigits {K : PySem.W.Frag} {h : Heap} (X : K.In h) (L : h.NoLimit) (e : PySem.W.nsIn K cStatics "sys.int_max_str_digits" = some none) : h.NoDigits := by
  obtain ⟨mc, hn, _⟩ := L
  refine ⟨mc, hn, ?_⟩
  obtain ⟨o, es, ep, ho, hd, _, hf⟩ := hn
  unfold PySem.W.nsIn at e
  split at e
  · rename_i c d es' n' sl q
    have := X _ _ q
    rw [ho] at this
    cases this
    cases hd
    split at e
    · cases e
    · rename_i he
      rw [← hf]
      unfold nsFind findBy
      rw [← Array.find?_toList, he]
      rfl
  · cases e
/-- an own class over Exception -/
structure Cls (K : PySem.W.Frag) (C : Addr) : Prop where
  cls : ∃ nm q N bs sn sub ab col dd k0 k1 k2 k3 k5, K.lookup C = some (excClassObj nm q C N bs ESX.exTail true sn sub ab col dd k0 k1 k2 k3 k5 "Exception.__new__")
  sa : PySem.W.findIn K (.ref C) "__setattr__" = some (some (.builtin "object.__setattr__"))
  exC : PySem.W.subIn K (.ref C) (.type "BaseException") = some true
  tyC : PySem.W.typeIn K (.ref C) = some (.type "type")
  kC : PySem.W.keepIn K (.ref C) = true
section
variable {X : Cx} {pins : List (Addr × Obj)} {σ : L2.St} {H : Hp} {s : Shared} {a C dx : Addr} {f : Str} {y : V} {u : Value} {fs : List (Str × V)} {Q : Unit → Shared → Prop} {E : Value → Shared → Prop} {A : Around}
/-- the first field of an error that is being made: its dict is laid -/
theorem put_first (T : Cls X.K C) (I : Inv X pins σ H s) (e : H a = some (exo a C none)) (hno : PySem.W.findIn X.K (.ref C) f = some none) (ry : RelV y u)
    (h : ∀ dx s', H dx = none → dx ≠ a → Inv X pins σ (upd (upd H dx (exd dx [(f, y)])) a (exo a C (some dx))) s' → Q () s') : wpAny (model X.prog X.w) A (setAttr (.ref a) f u) Q E s := by
  obtain ⟨nm, q, N, bs, sn, sub, ab, col, dd, k0, k1, k2, k3, k5, hC⟩ := T.cls
  have hcl : PySem.W.clsIn X.K C = some { name := nm, bases := bs, mro := .ref C :: ESX.exTail, ns := N, qualname := q, hasDict := true, slotNames := sn, subclasses := sub, abstract := ab, collection := col, hasDel := false } := by
    unfold PySem.W.clsIn
    rw [hC] <;> rfl
  obtain ⟨t1, ho⟩ := exo_at I.hok e
  obtain ⟨hp, g, d, t, os⟩ := s
  refine PySem.W.set_plain I.kIn (ox := { cls := .ref C, dict := none, data := .fields #[.ref t1, .none, .none, .none, .bool false, .none] }) (od := none) ⟨ho, rfl, rfl, trivial⟩ T.sa ?_
  refine ESX.osa_new I.kIn ho hcl rfl rfl hno (fun h' tk' dx k dn dne hx hn => ?_)
  have hnd : H dx = none := I.hok.fresh dn
  have nd : ∀ {b : Addr} {o : Obj}, hp.get? b = some o → b ≠ dx := fun {b o} q => Nat.ne_of_lt (Nat.lt_of_lt_of_le (Heap.lt_size q) dn)
  have na : ∀ {b : Addr}, H b = none → b ≠ a := fun {b} n z => by
    rw [z, e] at n
    cases n
  refine h dx _ hnd dne (I.un (t' := tk') (H' := upd (upd H dx (exd dx [(f, y)])) a (exo a C (some dx))) ⟨fun b o q n _ _ => k b o (na n) q, fun b o q n _ _ => ⟨o.slots, k b o (na n) q⟩, fun b o q n _ => ?_, fun b o q _ => ?_, fun b xs q => ?_, fun b o v q => ?_, fun b ps q => ?_⟩ fun b o q => ?_)
  · rw [upd_ne (na n), upd_ne (nd q)]
    exact n
  · by_cases hb : b = a
    · exact ⟨_, by rw [hb]; exact hx⟩
    · exact ⟨o, k b o hb q⟩
  · rw [upd_ne (at_ne e q exo_tup), upd_ne (ne_of_none q hnd)]
    exact q
  · rw [upd_ne (at_ne e q exo_frz), upd_ne (ne_of_none q hnd)]
    exact q
  · exact ⟨#[], by rw [upd_ne (at_ne e q exo_tbl), upd_ne (ne_of_none q hnd), q]; simp⟩
  · by_cases hb : b = a
    · subst hb
      rw [upd_same] at q
      cases q
      exact exo_ok hx
    · rw [upd_ne hb] at q
      by_cases hd : b = dx
      · subst hd
        rw [upd_same] at q
        cases q
        exact exd_ok hn (relO_put (fs := []) ry fun g => True.intro)
      · rw [upd_ne hd] at q
        refine (I.hok b o q).stay (fun c v hc z => k c v ?_ z) (fun c hc => ?_) fun c xs hc => ?_
        · rcases hc with hc | hc
          · rw [hc]
            exact hb
          · exact at_ne e hc exo_own
        · rw [upd_ne (at_ne e hc exo_own), upd_ne (ne_of_none hc hnd)]
          exact hc
        · rw [upd_ne (at_ne e hc exo_tup), upd_ne (ne_of_none hc hnd)]
          exact hc
/-- a further field -/
theorem put_next (T : Cls X.K C) (I : Inv X pins σ H s) (e : H a = some (exo a C (some dx))) (ed : H dx = some (exd dx fs)) (hl : fs.length ≤ 900) (hno : PySem.W.findIn X.K (.ref C) f = some none) (ry : RelV y u)
    (h : ∀ s', Inv X pins σ (upd H dx (exd dx ((f, y) :: fs))) s' → Q () s') : wpAny (model X.prog X.w) A (setAttr (.ref a) f u) Q E s := by
  obtain ⟨nm, q, N, bs, sn, sub, ab, col, dd, k0, k1, k2, k3, k5, hC⟩ := T.cls
  have hcl : PySem.W.clsIn X.K C = some { name := nm, bases := bs, mro := .ref C :: ESX.exTail, ns := N, qualname := q, hasDict := true, slotNames := sn, subclasses := sub, abstract := ab, collection := col, hasDel := false } := by
    unfold PySem.W.clsIn
    rw [hC] <;> rfl
  obtain ⟨t1, ho⟩ := exo_at I.hok e
  obtain ⟨mA, hns, rel⟩ := exd_at I.hok ed
  have hw := within_of rel
  obtain ⟨hp, g, d, t, os⟩ := s
  obtain ⟨oD, _, _, hoD, _, _⟩ := hns.count hw
  refine PySem.W.set_plain I.kIn (ox := { cls := .ref C, dict := some dx, data := .fields #[.ref t1, .none, .none, .none, .bool false, .none] }) (od := some oD) ⟨ho, rfl, rfl, hoD⟩ T.sa ?_
  refine ESX.osa_old I.kIn ho hns hw (by rw [List.length_map]; omega) hcl rfl rfl hno (fun h' tk' k hn => ?_)
  have hd : ∃ o, h'.get? dx = some o := by
    obtain ⟨o, _, _, e', _⟩ := hn
    exact ⟨o, e'⟩
  exact h _ (I.write (t' := tk') (x := dx) (e := dx) (o := exd dx ((f, y) :: fs)) (by rw [ed]; exact True.intro) (.inl rfl) k hd (exd_ok hn (relO_put ry rel)))
/-- Exception.__init__(self, ..) -/
theorem init_ok {us : List Value} {Q : Value → Shared → Prop} (T : Cls X.K C) (I : Inv X pins σ H s) (e : H a = some (exo a C none)) (hl : us.length ≤ sizeLine) (h : ∀ s', Inv X pins σ H s' → Q .none s') :
    wpAny (model X.prog X.w) A (call (.builtin "Exception.__init__") (.ref a :: us)) Q E s := by
  obtain ⟨nm, q, N, bs, sn, sub, ab, col, dd, k0, k1, k2, k3, k5, hC⟩ := T.cls
  obtain ⟨t1, ho⟩ := exo_at I.hok e
  obtain ⟨hp, g, d, t, os⟩ := s
  refine wpAny_call (HandSPX.init_base F.excBase_Exception (fun _ => rfl) (I.kIn _ _ hC) ho hl fun h' t2 k hx => ?_)
  have J := I.write (t' := t) (x := a) (e := a) (o := exo a C none) (by rw [e]; exact True.intro) (.inl rfl) k ⟨_, hx⟩ (exo_ok hx)
  have eu : upd H a (exo a C none) = H := by
    funext b
    by_cases hb : b = a
    · rw [hb, upd_same, e]
    · rw [upd_ne hb]
  rw [eu] at J
  exact h _ J
end
theorem typ_E : typeOf (.type "Exception") = pure (.type "type") := by kernel_rfl
theorem find_init (K : PySem.W.Frag) : PySem.W.findCls K (.type "Exception") (.type "type") "__init__" = some (.val (.builtin "Exception.__init__")) := by kernel_rfl
/-! ### readings and rules -/
def tInit (K : PySem.W.Frag) (ta : TA) : TE := fun σ H Q => ta σ H fun vs H1 => ∃ (a C : Addr) (ws : List V), vs = .ref a :: ws ∧ ws.length ≤ 1000 ∧ Cls K C ∧ H1 a = some (exo a C none) ∧ Q .non H1
def tPut (K : PySem.W.Frag) (f : Str) (to te : TE) : TS := fun D σ H => te σ H fun y H1 => to σ H1 fun x H2 => ∃ a C : Addr, x = .ref a ∧ Cls K C ∧ PySem.W.findIn K (.ref C) f = some none ∧
  ((H2 a = some (exo a C none) ∧ ∀ dx, H2 dx = none → dx ≠ a → D.nx σ (upd (upd H2 dx (exd dx [(f, y)])) a (exo a C (some dx)))) ∨
    ∃ (dx : Addr) (fs : List (Str × V)), H2 a = some (exo a C (some dx)) ∧ H2 dx = some (exd dx fs) ∧ fs.length ≤ 900 ∧ D.nx σ (upd H2 dx (exd dx ((f, y) :: fs))))
section
variable {X : Cx} {o e : Expr} {es : List Expr} {to te : TE} {ta : TA} {f : Str} {p p' p1 p2 pos : Pos}
theorem pe_init {pl : Sem Bool} (hg : Gl X "Exception") (hm : X.mg "Exception" = none) (ha : PA X (e :: es) ta)
    (hc : eval (.Call (.Attribute (.Name "Exception" p1) "__init__" p2) (e :: es) [] pos) X.env = (do
      let ov ← eval (.Name "Exception" p1) X.env
      standAt p2.atName
      let (f, first) ← holding [ov] (getMethod ov "__init__" pl)
      callWith pos f first (backTo pos (starEach (e :: es) X.env)) (backToKw pos (keywordEach [] X.env))) := by rfl)
    (he : starEach (e :: es) X.env = (false, eval e X.env) :: starEach es X.env := by rfl) (hpl : (backTo pos (starEach es X.env)).any (·.1) = false := by rfl) :
    PE X (.Call (.Attribute (.Name "Exception" p1) "__init__" p2) (e :: es) [] pos) (tInit X.K ta) := by
  refine ⟨fun pins s σ H Q I h => ?_⟩
  refine PySem.W.methodCall_KW (ld_blt I hg hm PyProof.Rows.Boot.«Exception» ?_ (by decide) (by decide)) hc
  obtain ⟨m, fr⟩ := I.fr
  refine PySem.W.method_type fr I.ok.mod.kin typ_E (by decide +kernel) (find_init X.K) (by decide +kernel) ?_
  show wpAny _ _ (callWith pos (Value.builtin "Exception.__init__") [] (backTo pos (starEach (e :: es) X.env)) []) _ _ _
  refine PyProof.Rows.callWith_method1 (thn (ha.run pos pins _ σ H _ (I.tok _) h) fun us s1 ⟨vs, H1, I1, r1, a, C, ws, ev, hl, T, ea, q⟩ => ?_) he hpl
  subst ev
  cases r1 with
  | @cons _ u0 _ ur ra rw' =>
    obtain rfl : u0 = Value.ref a := ra
    have hlen : ur.length ≤ sizeLine := by
      rw [← Paired.length rw', sizeLine_eq]
      omega
    exact init_ok T I1 ea hlen fun s' J => ⟨.non, H1, J, rfl, q⟩
theorem ps_put (ho : PE X o to) (he : PE X e te) (hs : swapsWith e (some (.Attribute o f p')) pos.line X.env = pure false := by rfl) : PS X (.Assign [.Attribute o f p'] e pos) (tPut X.K f to te) := by
  refine ⟨fun pins s σ H D I h => ?_⟩
  refine plainObj_wpAny_Assign_Attribute (thn (he.run pins s σ H _ I h) fun v s1 ⟨y, H1, I1, r1, q1⟩ => thn (ho.run pins s1 σ H1 _ I1 q1) fun u s2 ⟨x, H2, I2, r2, a, C, ex, T, hno, q⟩ => ?_) hs
  subst ex
  obtain rfl : u = Value.ref a := r2
  rcases q with ⟨ea, q⟩ | ⟨dx, fs, ea, ed, hl, q⟩
  · exact put_first T I2 ea hno r1 fun dx s' n ne J => ⟨σ, _, J, q dx n ne⟩
  · exact put_next T I2 ea ed hl hno r1 fun s' J => ⟨σ, _, J, q⟩
end
end Ox
namespace Ox
open PySem PySem.Spec PyProof.Rows L2
/-! ### C(e, ..), C's own __init__ keeping sp: where nothing is handled, and in an except suite -/
section
variable {X : Cx} {x : Str} {e : Expr} {es : List Expr} {ta : TA} {p pos : Pos} {C fI : Addr} {k : Nat} {fd : FuncData} {ps : List Str} {sp : Sp}
theorem made {pins : List (Addr × Obj)} {σ : L2.St} {H1 : Hp} {Q : XK} {hp : Heap} {g : Array GenState} {dr : Drawn} {tk : Nat} {os : OsState} {us : List Value} {u : Value} {s' : Shared} (T : Cls X.K C) (I1 : Inv X pins σ H1 ⟨hp, g, dr, tk, os⟩)
    (h : CE X.stack X.prog X.w (upd H1 (hp.objs.size + 1) (exo (hp.objs.size + 1) C none)) ⟨(hp.push (PySem.W.kdv_tup us)).push (HandSPX.excO C hp.objs.size), g, dr, tk, os⟩
      (fun v H2 => v = .non ∧ ∃ (d : Addr) (fs : List (Str × V)), H2 (hp.objs.size + 1) = some (exo (hp.objs.size + 1) C (some d)) ∧ H2 d = some (exd d fs) ∧ H1 d = none ∧ Q (.ref C) (some d) (upd (del H2 (hp.objs.size + 1)) d (.xd fs))) u s') :
    u = .none ∧ L2N.MkP X pins σ Q (.ref (hp.objs.size + 1)) s' ∧ L2H.Six (.ref (hp.objs.size + 1)) s' := by
  have kk : ∀ b o, hp.get? b = some o → ((hp.push (PySem.W.kdv_tup us)).push (HandSPX.excO C hp.objs.size)).get? b = some o := fun b o e => Heap.get?_push_of_some _ (Heap.get?_push_of_some _ e)
  obtain ⟨v, H2, os2, bare2, un2, hok2, rv, ev, d, fs, ea, ed, hd1, q2⟩ := h
  subst ev
  obtain ⟨h2, g2, d2, t2, os'⟩ := s'
  obtain ⟨t0, G, J, kG, ge, hoe, na⟩ := mk_end0 (d2 := d2) (t2 := t2) I1 (Nat.le_succ _) kk un2 hok2 os2 bare2 ea ed hd1
  refine ⟨rv, ⟨hp.objs.size + 1, _, _, ⟨G, g2, d2, t2, os'⟩, _, .ref C, some d, rfl, J, kG, ge, hoe, ⟨rfl, rfl, fun vs hv => ?_⟩, rfl, rfl, na, rfl, bare2, raises_own T.exC T.tyC, q2⟩, fun a oe vs ea2 hg2 hd2 => ?_⟩
  · cases hv
    rfl
  · cases ea2
    have hg3 : h2.get? (hp.objs.size + 1) = some oe := hg2
    rw [hoe] at hg3
    cases hg3
    cases hd2
    show (4 : Nat) < 6
    decide
theorem laid {pins : List (Addr × Obj)} {σ : L2.St} {H1 : Hp} {hp : Heap} {g : Array GenState} {dr : Drawn} {tk : Nat} {os : OsState} {us : List Value} (I1 : Inv X pins σ H1 ⟨hp, g, dr, tk, os⟩) :
    Inv X pins σ (upd H1 (hp.objs.size + 1) (exo (hp.objs.size + 1) C none)) ⟨(hp.push (PySem.W.kdv_tup us)).push (HandSPX.excO C hp.objs.size), g, dr, tk, os⟩ :=
  I1.laid (t' := tk) (a := hp.objs.size + 1) (o := exo (hp.objs.size + 1) C none) (h' := (hp.push (PySem.W.kdv_tup us)).push (HandSPX.excO C hp.objs.size))
    (fun b o e => Heap.get?_push_of_some _ (Heap.get?_push_of_some _ e)) (Nat.le_succ _) (exo_ok (by heap_get))
theorem mk_cold (T : Cls X.K C) (iC : PySem.W.findIn X.K (.ref C) "__init__" = some (some (.ref fI))) (tI : PySem.W.typeIn X.K (.ref fI) = some (.type "function"))
    (F1 : FnOk X.prog X.w X.K X.mg X.base CX0 k fI fd ps sp) (hr : Room (k + 1) X.A) (hb : Binds X.K fd ps []) (hg : Gl X x) (hm : X.mg x = some (.ref C)) (ha : PA X (e :: es) ta)
    (hdb : (x == ("__debug__" : Str)) = false := by decide) (he : starEach (e :: es) X.env = (false, eval e X.env) :: starEach es X.env := by rfl) (hpl : (backTo pos (starEach es X.env)).any (·.1) = false := by rfl) :
    L2H.PMk5 X (.Call (.Name x p) (e :: es) [] pos) (tMkO C sp [] ta) := by
  intro pins s σ H Q I h
  obtain ⟨nm, q, N, bs, sn, sub, ab, col, dd, k0, k1, k2, k3, k5, hC⟩ := T.cls
  refine wpAny_Call_Name_kw (ld_glob I hg hm ?_ hdb)
  refine PySem.W.callWith_K (h₀ := X.base) I.ok.mod.kin T.kC (thn (ha.run pos pins s σ H _ I h) fun us s1 ⟨vs, H1, I1, r1, hz, q1⟩ => ⟨I1.kIn, ?_⟩) he hpl
  show wpAny _ _ (call (.ref C) us) _ _ _
  obtain ⟨hp, g, dr, tk, os⟩ := s1
  have hn : H1 (hp.objs.size + 1) = none := I1.hok.fresh (Nat.le_succ _)
  have hq := q1 (hp.objs.size + 1) hn
  rw [List.append_nil] at hq
  have I2 := laid (C := C) (us := us) I1
  have r2 : Vals (V.ref (hp.objs.size + 1) :: vs) (Value.ref (hp.objs.size + 1) :: us) := .cons rfl r1
  have hl : (Value.ref (hp.objs.size + 1) :: us ++ []).length = ps.length := by
    have e := r2.length
    rw [F1.len _ _ _ _ hq] at e
    rw [List.append_nil]
    exact e.symm
  have hus : us.length ≤ sizeLine := by
    rw [← Paired.length r1, sizeLine_eq]
    omega
  have b2 := hb _ (Value.ref (hp.objs.size + 1) :: us) I2.kIn hl
  rw [List.append_nil] at b2
  refine wpAny_call (HandSPX.call_own F.excBase_Exception (fun _ => rfl) (I1.kIn _ _ hC) (PySem.W.looks_findIn I1.kIn iC) (fun self => PySem.W.bind_fn I1.kIn self tI) hus
    (codeAny_mono (F1.run _ X.stack _ _ ⟨Value.ref (hp.objs.size + 1) :: us, []⟩ (Value.ref (hp.objs.size + 1) :: us) _ _ (fun _ _ _ => False) (hr.make C us []) (I2.env0.make C us []) b2 r2 hq) fun r s' hq' => ?_))
  cases r with
  | error er => exact False.elim hq'
  | ok fl =>
    cases fl with
    | ret u => exact made T I1 hq'
    | next => exact False.elim hq'
    | brk => exact False.elim hq'
    | cont => exact False.elim hq'
theorem mk_hot (T : Cls X.K C) (iC : PySem.W.findIn X.K (.ref C) "__init__" = some (some (.ref fI))) (tI : PySem.W.typeIn X.K (.ref fI) = some (.type "function"))
    (F1 : L2H.FnH X.prog X.w X.K X.mg X.base CX0 k fI fd ps sp) (hr : L2H.RoomH (k + 1) X.A) (hc : L2H.HotC X) (hb : Binds X.K fd ps []) (hg : Gl X x) (hm : X.mg x = some (.ref C)) (ha : PA X (e :: es) ta)
    (hdb : (x == ("__debug__" : Str)) = false := by decide) (he : starEach (e :: es) X.env = (false, eval e X.env) :: starEach es X.env := by rfl) (hpl : (backTo pos (starEach es X.env)).any (·.1) = false := by rfl) :
    L2H.PMk5 X (.Call (.Name x p) (e :: es) [] pos) (tMkO C sp [] ta) := by
  intro pins s σ H Q I h
  obtain ⟨nm, q, N, bs, sn, sub, ab, col, dd, k0, k1, k2, k3, k5, hC⟩ := T.cls
  obtain ⟨pn, hot, hpn⟩ := hc
  refine wpAny_Call_Name_kw (ld_glob I hg hm ?_ hdb)
  refine PySem.W.callWith_K (h₀ := X.base) I.ok.mod.kin T.kC (thn (ha.run pos pins s σ H _ I h) fun us s1 ⟨vs, H1, I1, r1, hz, q1⟩ => ⟨I1.kIn, ?_⟩) he hpl
  show wpAny _ _ (call (.ref C) us) _ _ _
  obtain ⟨hp, g, dr, tk, os⟩ := s1
  have hn : H1 (hp.objs.size + 1) = none := I1.hok.fresh (Nat.le_succ _)
  have hq := q1 (hp.objs.size + 1) hn
  rw [List.append_nil] at hq
  have I2 := laid (C := C) (us := us) I1
  have r2 : Vals (V.ref (hp.objs.size + 1) :: vs) (Value.ref (hp.objs.size + 1) :: us) := .cons rfl r1
  have hl : (Value.ref (hp.objs.size + 1) :: us ++ []).length = ps.length := by
    have e := r2.length
    rw [F1.len _ _ _ _ hq] at e
    rw [List.append_nil]
    exact e.symm
  have hus : us.length ≤ sizeLine := by
    rw [← Paired.length r1, sizeLine_eq]
    omega
  have b2 := hb _ (Value.ref (hp.objs.size + 1) :: us) I2.kIn hl
  rw [List.append_nil] at b2
  have P1 := I2.pin pn (List.mem_append_left _ hpn)
  have hpin : L2H.PinOk X.stack (upd H1 (hp.objs.size + 1) (exo (hp.objs.size + 1) C none)) ⟨(hp.push (PySem.W.kdv_tup us)).push (HandSPX.excO C hp.objs.size), g, dr, tk, os⟩ pn :=
    ⟨P1.1, P1.2.1, fun hmm => (List.mem_cons.mp (I2.stkSub pn.1 hmm)).elim P1.2.2.1 P1.2.2.2.1, P1.2.2.2.2⟩
  refine wpAny_call (HandSPX.call_own F.excBase_Exception (fun _ => rfl) (I1.kIn _ _ hC) (PySem.W.looks_findIn I1.kIn iC) (fun self => PySem.W.bind_fn I1.kIn self tI) hus
    (codeAny_mono (F1.run _ X.stack _ _ ⟨Value.ref (hp.objs.size + 1) :: us, []⟩ (Value.ref (hp.objs.size + 1) :: us) _ _ (fun _ _ _ => False) pn (hr.make C us []) ⟨hot.1, hot.2⟩ hpin (I2.env0.make C us []) b2 r2 hq) fun r s' hq' => ?_))
  cases r with
  | error er => exact False.elim hq'
  | ok fl =>
    cases fl with
    | ret u => exact made T I1 hq'
    | next => exact False.elim hq'
    | brk => exact False.elim hq'
    | cont => exact False.elim hq'
/-- as the rules of raise without «from» have it -/
theorem plain {t : L2.St → Hp → XK → Prop} (h : L2H.PMk5 X e t) : L2.PMk X e t := fun pins s σ H Q I q => thn (h pins s σ H Q I q) fun u s' x => by
  obtain ⟨⟨a, oe, vs, sI, H', cls, d, h1, h2, h3, h4, h5, h6, r⟩, _⟩ := x
  exact ⟨a, oe, vs, sI, H', cls, d, h1, h2, h3, h4, h5, h6.zc, r⟩
end
/-! ### an except suite's call that is handed the error -/
/-- what is known of the error: where it stands, its class, its own dict -/
structure Err (a : Addr) (cls : Value) (d : Option Addr) (p : Addr × Obj) : Prop where
  at_ : p.1 = a
  zc : Zc cls d p.2
  fl : ∃ vs, p.2.data = .fields vs
/-- a def's promise where it is called with the error that is handled -/
structure FnE (P : Program) (w : World) (K : PySem.W.Frag) (mg : Str → Option Value) (base : Heap) (k : Nat) (f : Addr) (fd : FuncData) (ps : List Str) (sp : Addr → Value → Option Addr → Sp) : Prop where
  len : ∀ a cls d vs H Q E, sp a cls d vs H Q E → vs.length = ps.length
  run : ∀ (A : Around) (outer : List Env) (s : Shared) (H : Hp) (args : Args) (us : List Value) (vs : List V) (Q : VK) (E : XK) (p : Addr × Obj) (a : Addr) (cls : Value) (d : Option Addr), L2H.RoomH k A → Err a cls d p → L2H.PinOk outer H s p →
    Env0 P w K mg base A outer s H → BindsTo s fd args (ps.zip us) → Vals vs us → sp a cls d vs H Q E → codeAny (model P w) A (.call (.ref f) args) (CR CX0 outer P w H s Q E) s
theorem fn_ofE {P : Program} {w : World} {K : PySem.W.Frag} {mg : Str → Option Value} {base : Heap} {k : Nat} {f : Addr} {x qual : Str} {st : Stmt} {fd : FuncData} {N ps : List Str} {sp : Addr → Value → Option Addr → Sp} (F : Fun K x qual st f fd) (S : FnScope N ps (defScope st))
    (len : ∀ a cls d vs H Q E, sp a cls d vs H Q E → vs.length = ps.length)
    (hbody : ∀ (cdv : Value) (A : Around) (outer : List Env) (s : Shared) (H : Hp) (vs : List V) (Q : VK) (E : XK) (p : Addr × Obj) (a : Addr) (cls : Value) (d : Option Addr), Err a cls d p → L2H.RoomH k (A.deeper (envOfC qual (defScope st) s.heap.objs.size f cdv)) → sp a cls d vs H Q E →
      ∃ t, PSs (L2H.cxH CX0 P w K mg base N qual (defScope st) f cdv A outer s H E p) (defBody st) t ∧ t { nx := fun _ H' => Q .non H', rt := Q } (L2.start N vs) H) :
    FnE P w K mg base (k + 1) f fd ps sp := by
  obtain ⟨oc, od, kV, doc, pm, an, cdv, ct, osl, rfl, lk, hcd⟩ := F.ex
  refine ⟨len, fun A outer s H args us vs Q E p a cls d hr he hpin e0 hb r hsp => ?_⟩
  have hl := len _ _ _ _ _ _ _ hsp
  have KX : K.In s.heap := e0.mod.kin.keeps fun b o e => (e0.bs b o e).1
  have lim : s.heap.NoLimit := e0.mod.nolimit.keeps fun b o e => (e0.bs b o e).1
  have hkind : ∀ y ∈ ps.zip us, (defScope st).names.lookup y.1 = some .local ∨ ((defScope st).names.lookup y.1 = some .cell ∧ ((cellsFrom (s.heap.objs.size + 1) (defScope st).names []).lookup y.1).isSome = true) := fun ⟨n, v⟩ hy => by
    rcases S.par n (List.of_mem_zip hy).1 with q | q
    · exact .inl q
    · exact .inr ⟨q, PySem.W.cellsFrom_some _ _ _ (.inl q)⟩
  refine codeAny_call_function hr.depth (KX _ _ lk) rfl S.co S.gen rfl (PySem.W.codeRec_of KX hcd) (hb _ _ _ _ ?_)
  refine wpAny_newFunctionEnv_cells S.kind hkind fun env hen s1 x => ?_
  subst hen
  refine ⟨lim.keeps x.toInCall.keep, codeAny_func ?_⟩
  obtain ⟨t, ht, hq⟩ := hbody cdv A outer s H vs Q E p a cls d he (hr.deeper _) hsp
  have I := L2H.inv_startH (CX := CX0) (P := P) (w := w) (K := K) (mg := mg) (base := base) (E := E) S hpin e0 hl r x
  refine wpAny_mono (ht.run [] s1 (L2.start N vs) H _ I hq) (fun fl s' hs => ?_) fun e s' hs => hs
  cases fl with
  | ret u =>
    obtain ⟨v, σ', H', J, rv, q⟩ := hs
    exact ⟨v, H', J.os, J.bare, J.base, J.hok, rv, q⟩
  | next =>
    obtain ⟨σ', H', J, q⟩ := hs
    exact ⟨V.non, H', J.os, J.bare, J.base, J.hok, rfl, q⟩
  | brk =>
    obtain ⟨_, _, _, q⟩ := hs
    exact False.elim q
  | cont =>
    obtain ⟨_, _, _, q⟩ := hs
    exact False.elim q
section
variable {X : Cx} {k : Nat} {f C : Addr} {fd : FuncData} {ps : List Str} {sp : Addr → Value → Option Addr → Sp} {x : Str} {q pos : Pos} {e : Expr} {es : List Expr} {ta : TA} {te : TE} {n : Str} {pr : Addr × Obj} {a : Addr} {cls : Value} {d : Option Addr}
def tCallE (sp : Sp) (t : TA) : TE := fun σ H Q => t σ H fun vs H1 => sp vs H1 Q E0
theorem pe_callE (F : FnE X.prog X.w X.K X.mg X.base k f fd ps sp) (hr : L2H.RoomH k X.A) (hp : pr ∈ X.pn) (he : Err a cls d pr) (hg : Gl X x) (hm : X.mg x = some (.ref f)) (hk : PySem.W.keepIn X.K (.ref f) = true) (hb : Binds X.K fd ps [])
    (ha : PA X (e :: es) ta) (hdb : (x == ("__debug__" : Str)) = false := by decide) (hst : starEach (e :: es) X.env = (false, eval e X.env) :: starEach es X.env := by rfl) (hpl : (backTo pos (starEach es X.env)).any (·.1) = false := by rfl) :
    PE X (.Call (.Name x q) (e :: es) [] pos) (tCallE (sp a cls d) ta) := by
  refine ⟨fun pins s σ H Q I h => ?_⟩
  refine wpAny_Call_Name_kw (ld_glob I hg hm ?_ hdb)
  refine PySem.W.callWith_K (h₀ := X.base) I.ok.mod.kin hk (thn (ha.run pos pins s σ H _ I h) fun us s1 ⟨vs, H1, I1, r, q⟩ => ⟨I1.kIn, ?_⟩) hst hpl
  show wpAny _ _ (call (.ref f) us) _ _ _
  have hl : us.length = ps.length := by rw [← r.length]; exact F.len _ _ _ _ _ _ _ q
  have b := hb s1 us I1.kIn (by rw [List.append_nil]; exact hl)
  rw [List.append_nil] at b
  have P1 := I1.pin pr (List.mem_append_left _ hp)
  have hpin : L2H.PinOk X.stack H1 s1 pr := ⟨P1.1, P1.2.1, fun hm => (List.mem_cons.mp (I1.stkSub pr.1 hm)).elim P1.2.2.1 P1.2.2.2.1, P1.2.2.2.2⟩
  refine wpAny_call (codeAny_mono (F.run X.A X.stack s1 H1 ⟨us, []⟩ us vs Q E0 pr a cls d hr he hpin I1.env0 b r q) fun r s' hq => ?_)
  cases r with
  | error e => exact False.elim hq
  | ok fl =>
    cases fl with
    | ret u => exact I1.after hq
    | next => exact False.elim hq
    | brk => exact False.elim hq
    | cont => exact False.elim hq
/-- err.n, err the error that the context bears -/
theorem pe_errF (T : XfC X.K C) (hno : PySem.W.findIn X.K (.ref C) n = some none) (hp : pr ∈ X.pn) (hz : Err a cls d pr) (he : PE X e te) (hb : attributeBase e n X.env (eval e X.env) = eval e X.env := by rfl) :
    PE X (.Attribute e n pos) (tXf a cls d C n te) := by
  refine ⟨fun pins s σ H Q I h => ?_⟩
  refine attr_of hb (thn (he.run pins s σ H _ I h) fun u s1 hh => ?_)
  obtain ⟨x, H1, I1, rx, ex, ec, dd, fs, v, ed, ea, l, q⟩ := hh
  subst ex
  obtain rfl : u = Value.ref a := rx
  subst ec
  subst ed
  obtain ⟨p1, p2⟩ := pr
  obtain ⟨e1, z, vs, hd⟩ := hz
  dsimp only at e1 z hd
  subst e1
  obtain ⟨ha, _⟩ := I1.pin (p1, p2) (List.mem_append_left _ hp)
  have hx : ObjOk X.prog X.w H1 s1.heap dd (.xd fs) := I1.hok dd _ ea
  obtain ⟨mA, hns, hr⟩ := hx
  obtain ⟨od, ho, hl⟩ := lookIn_ns hns
  obtain ⟨u, hu, ru⟩ := RelO.some_of (v := v) (o := mA n) (by rw [← l]; exact hr n)
  have J : PySem.W.InstAt s1.heap p1 p2 C (some od) := ⟨ha, z.1, by unfold PySem.W.notCls; rw [hd] <;> rfl, by rw [z.2]; exact ho⟩
  exact HandSPX.exc_get I1.kIn J T.ga T.gg T.exC (PySem.W.findObj_own T.hdC hno rfl (by rw [hl, hu])) (handed_of ru) ⟨v, H1, I1.tok _, ru, q⟩
end
end Ox
namespace Ox
open PySem PySem.Spec PyProof.Rows L2
/-! ### try: body / except X as n: a suite that raises -/
section
variable {M : Model} {A A' : Around} {E : Value → Shared → Prop} {s : Shared} {Z : Obj → Prop}
theorem traced_but {h h' base : Heap} {e L : Addr} {fl : Value} {m : Str → Option Value} (x : HandSPX.TracedZ h base e Z fl) (hn : h.Ns L m) (hs : Heap.SameBut L h h') : HandSPX.TracedZ h' base e Z fl := by
  obtain ⟨oe, vs, T, oT, ts, he, hc, hd, h1, hnT, hTe, hT, hdT, h3⟩ := x
  obtain ⟨oL, es, ep, hoL, hdL, _⟩ := hn
  have ne1 : e ≠ L := fun q => by
    rw [q, hoL] at he
    have z := Option.some.inj he
    rw [← z, hdL] at hd
    cases hd
  have ne2 : T ≠ L := fun q => by
    rw [q, hoL] at hT
    have z := Option.some.inj hT
    rw [← z, hdL] at hdT
    cases hdT
  exact ⟨oe, vs, T, oT, ts, (hs.2 e ne1).trans he, hc, hd, h1, hnT, hTe, (hs.2 T ne2).trans hT, hdT, h3⟩
/-- behind the first look: the clause's name goes, the error is passed on, looked at again, and is back in the def's own activation -/
theorem as_tail {base : Heap} {env : Env} {outer : List Env} {L e : Addr} {n : Str} {pos : Pos} {m : Str → Option Value} {E2 : Value → Shared → Prop}
    (hf : env.frame = some L) (hL : env.locals = L) (hh : HandSPX.HeldZ base (env :: outer) e Z L s.heap) (hn : s.heap.Ns L m) (hlo : env.kindOf n = some .local)
    (hp : (env.scope.kind == .class || (env.scope.kind == .module && env.locals != env.globals)) = false)
    (hQ : ∀ h', HandSPX.HeldZ base (env :: outer) e Z L h' → (∀ b o, s.heap.get? b = some o → b ≠ L → (∀ vs, o.data ≠ .fields vs) → ∃ sl, h'.get? b = some { o with slots := sl }) → E (.ref e) { s with heap := h', toks := s.toks + 1 }) :
    wpAny M A' (do bindName env n .none; unbindBehindTheSuite env n pos)
      (fun _ s2 => wpAny M A' (PySem.passOn "try.except-as" (.ref e) env : Sem Flow) (fun _ _ => False) (notedBy M A' env (cameBackBy M A env E)) s2) E2 s := by
  obtain ⟨b1, b0, f1, t1⟩ := hh
  have hbL : base.get? L = none := by
    obtain ⟨_, ⟨L', _, hf', hb', _⟩, _⟩ := f1
    rw [hf] at hf'
    rw [Option.some.inj hf']
    exact hb'
  refine wpAny_nameGoes_keeps hlo (by rw [hL]; exact hn) hp fun h2 v2 hn2 hs2 => ?_
  rw [hL] at hn2 hs2
  have b2 : base.StaysIn h2 := fun b o hb => (hs2.2 b fun q => by rw [q, hbL] at hb; cases hb).trans (b1 b o hb)
  have f2 : h2.FunFrames base (env :: outer) := Heap.FunFrames.sameBut hs2 hn2 f1
  have t2 := traced_but t1 hn hs2
  obtain ⟨oe, vs, T, oT, ts, he, hc, hd, h1, r⟩ := id t2
  unfold PySem.passOn
  refine wpAny_bind (wpAny_field he hd h1 ?_)
  rw [if_neg (show ¬ ((Value.ref T == Value.none) = true) from by simp)]
  rw [hf]
  refine wpAny_bind (HandSPX.setFlight_anyZ (fr := some L) (l := env :: outer) b2 f2 t2 fun h3 b3 f3 t3 k3 => ?_)
  refine wpAny_throw ?_
  show wpAny M A' (noteFrame (.ref e) env) _ _ _
  refine HandSPX.againZ hf t3 ?_
  obtain ⟨oe', vs', T', oT', ts', he', hc', hd', h1', r'⟩ := id t3
  show wpAny M A (do
    if (← field (.ref e) 1) == .none then unsupported "frame.own-activation:exception-without-traceback"
    setFlight (.ref e) env.frame) _ _ _
  refine wpAny_bind (wpAny_field he' hd' h1' ?_)
  rw [if_neg (show ¬ ((Value.ref T' == Value.none) = true) from by simp)]
  rw [hf]
  refine HandSPX.setFlight_anyZ (fr := some L) (l := env :: outer) b3 f3 t3 fun h4 b4 f4 t4 k4 => ?_
  refine hQ h4 ⟨b4, b0, f4, t4⟩ fun b o hb hbL' hnf => ?_
  obtain ⟨sl, e1⟩ := (k3.trans k4) b o ((hs2.2 b hbL').trans hb) hnf
  exact ⟨sl, e1⟩
/-- the look at an error in the air -/
theorem note {B : Heap} {env : Env} {outer : List Env} {L a : Addr} {Q : Unit → Shared → Prop} (hZ : HandSPX.Steady Z) (hfr : A.frames = some (env :: outer)) (hf : env.frame = some L)
    (x : Sky B (env :: outer) a Z L s.heap) (hQ : ∀ h', HandSPX.HeldZ B (env :: outer) a Z L h' → s.heap.UpToSlots h' → Q () { s with heap := h' }) : wpAny M A (noteFrame (.ref a) env) Q E s := by
  rcases x with ⟨hB, hn, hl, oe, vs, he, hz, hd, h1⟩ | fl | hh
  · exact HandSPX.look_newZ hZ hfr hl hf he hB hn hd h1 hz hQ
  · exact HandSPX.looks_onZ hZ hfr hf fl hQ
  · exact HandSPX.againZ hf hh.2.2.2 (hQ s.heap hh (Heap.UpToSlots.refl _))
end
/-- what the clause wishes of an error of the body (all of them are of its class) -/
def wX (K : PySem.W.Frag) (c : Value) (i : Nat) (ts : Addr → Value → Option Addr → TS) : WX := fun cls d σ H =>
  PySem.W.exmOne K cls c = some true ∧ ∀ a, H a = none → ts a cls d { nx := fun _ _ => False, rt := fun _ _ => False } (σ.set i (some (.ref a))) H
/-- it leaves the def from where its frame holds it -/
theorem leave_held {X Y : Cx} {pins : List (Addr × Obj)} {σ : L2.St} {H : Hp} {sI s' : Shared} {B : Heap} {a : Addr} {cls : Value} {d : Option Addr} {E : XK} {E1 : Value → Shared → Prop} (hf : X.env.frame = some X.env.locals) (hex : X.ex = [])
    (hs : X.stack = X.env :: X.outer) (I : Inv Y pins σ H sI) (hY : Y.stack = X.stack ∧ Y.outer = X.outer ∧ Y.H_0 = X.H_0 ∧ Y.s_0 = X.s_0 ∧ Y.ex = X.ex ∧ Y.prog = X.prog ∧ Y.w = X.w ∧ Y.env = X.env)
    (nb : ∀ b o, sI.heap.get? b = some o → b ∉ frs X.stack → B.get? b = some o) (up : ∀ b o, sI.heap.get? b = some o → b ≠ X.env.locals → (∀ vs, o.data ≠ .fields vs) → ∃ sl, s'.heap.get? b = some { o with slots := sl })
    (hh : HandSPX.HeldZ B (X.env :: X.outer) a (Zc cls d) X.env.locals s'.heap) (na : H a = none) (os : s'.os = sI.os) (ag : AllBare s'.gens) (w : E cls d H) :
    wpAny (model X.prog X.w) X.A (leaving X.env (.ref a)) (fun _ s'' => L2.CX X.prog X.w X.outer X.H_0 X.s_0 E (.ref a) s'') E1 s' := by
  obtain ⟨y1, y2, y3, y4, y5, y6, y7, y8⟩ := hY
  have base := I.base
  have hokB := I.inGround (by rw [y1]; exact nb)
  rw [y6, y7] at hokB
  have yfs : Y.fs = X.fs := by
    show frs Y.outer = frs X.outer
    rw [y2]
  rw [yfs, y5, y3, y4] at base
  have nst : ∀ b o, X.s_0.heap.get? b = some o → b ∉ X.fs → b ∉ frs X.stack := fun b o e hb hm => by
    rw [← y1] at hm
    rcases List.mem_cons.mp (I.stkSub b hm) with z | z
    · have h1 := Heap.lt_size e
      have h2 := I.ok.above
      rw [y4, y8] at h2
      rw [y8] at z
      rw [z] at h1
      exact absurd (Nat.lt_of_lt_of_le h1 h2) (Nat.lt_irrefl _)
    · rw [yfs] at z
      exact hb z
  have hex' : ∀ b, b ∉ X.ex := fun b hb => by rw [hex] at hb; cases hb
  refine HandSPX.leaves_heldZ hf hh fun h' fl up' => ?_
  refine ⟨a, B, H, cls, d, rfl, fl, hokB, ⟨fun b o e n hb => nb b o (base.keep b o e n hb (hex' b)) (nst b o e hb), fun b o e hb => ?_, fun b o e n => base.free b o e n (hex' b), fun b o e hb => ?_, base.tups, base.frzs, base.tbls⟩,
    na, ?_, ag, w⟩
  · have hb' : b ∈ Y.fs := by rw [yfs]; exact hb
    obtain ⟨_, o0, e0, hnf⟩ := I.ok.funs.mem hb'
    rw [y4, e] at e0
    cases e0
    have fr := I.ok.frf b hb'
    rw [y3] at fr
    obtain ⟨sl, e1⟩ := base.slot b o e fr hb (hex' b)
    have hne : b ≠ X.env.locals := fun z => by
      have h1 := Heap.lt_size e
      have h2 := I.ok.above
      rw [y4, y8, ← z] at h2
      exact absurd (Nat.lt_of_lt_of_le h1 h2) (Nat.lt_irrefl _)
    obtain ⟨sl2, e2⟩ := up b _ e1 hne hnf
    obtain ⟨sl3, e3⟩ := up' b _ e2 hnf
    exact ⟨sl3, e3⟩
  · obtain ⟨o', e1⟩ := base.there b o e (hex' b)
    exact ⟨o', nb b o' e1 (nst b o e hb)⟩
  · have := I.os
    rw [y4] at this
    exact os.trans this
section
variable {X : Cx} {x n : Str} {c : Value} {i : Nat} {body suite : List Stmt} {b0 : Stmt} {np pos pos' : Pos} {tb : WX → TS} {ts : Addr → Value → Option Addr → TS} {E : XK} {E1 : Value → Shared → Prop}
theorem ps_try_asX (hs : X.stack = X.env :: X.outer) (hf : X.env.frame = some X.env.locals) (hex : X.ex = []) (hN : X.N.Nodup) (hi : X.N[i]? = some n) (hln : X.env.kindOf n = some .local) (hc : Names X x c)
    (hx : X.xe = fun e s' => wpAny (model X.prog X.w) X.A (leaving X.env e) (fun _ s'' => L2.CX X.prog X.w X.outer X.H_0 X.s_0 E e s'') E1 s')
    (hb : ∀ (W : WX) (pn : List (Addr × Obj)) (xe : Value → Shared → Prop), L2N.Takes (X.tr pn xe) W → PSs (X.tr pn xe) body (tb W))
    (hsu : ∀ (a : Addr) (oe : Obj) (cls : Value) (d : Option Addr) (pn : List (Addr × Obj)) (xe : Value → Shared → Prop), Err a cls d (a, oe) → L2.Takes ((L2H.suiteX X a ((a, oe) :: pn)).wish xe) (fun cls d _ H => E cls d H) →
      L2H.HotC ((L2H.suiteX X a ((a, oe) :: pn)).wish xe) → PSs ((L2H.suiteX X a ((a, oe) :: pn)).wish xe) (b0 :: suite) (ts a cls d)) :
    PS X (.Try body [.ExceptHandler (some (.Name x np)) (some n) (b0 :: suite) pos'] [] [] pos) (fun D σ H => tb (wX X.K c i ts) D σ H) := by
  refine ⟨fun pins s σ H D I h => ?_⟩
  have ok := I.ok
  have hfr : X.A.frames = some (X.env :: X.outer) := by rw [ok.frames, hs]
  have hloc : Loc X.env.scope n := .inl hln
  have hcls : (X.env.scope.kind == .class || (X.env.scope.kind == .module && X.env.locals != X.env.globals)) = false := by rw [ok.kind]; rfl
  have notFr : ∀ {B h : Heap} {a : Addr} {o : Obj} {vs : Array Value}, h.FunFrames B (X.env :: X.outer) → h.get? a = some o → o.data = .fields vs → a ∉ frs (X.env :: X.outer) := fun {B h a o vs} ff e dd hm => by
    obtain ⟨_, o', e', hnf⟩ := ff.mem hm
    rw [e] at e'; cases e'
    exact hnf _ dd
  refine wpAny_Try_except ?_
  refine wpAny_mono ((hb (wX X.K c i ts) (X.pn ++ pins) (fun e s1 => wpAny (model X.prog X.w) X.A (noteFrame e X.env) (fun _ s2 => wpAny (model X.prog X.w) X.A (setFlight e none) (fun _ s3 =>
    wpAny (model X.prog X.w) X.A (handleBy e X.env [.ExceptHandler (some (.Name x np)) (some n) (b0 :: suite) pos']) (SP X pins D) X.xe s3) X.xe s2) X.xe s1) (fun u s' xx => ?_)).run [] s σ H D (I.toTry _) h) (fun f s1 hsp => ?_) (fun e s1 he => he)
  · obtain ⟨a, B, sI, pins', σ', H', cls, d, rfl, J', nb, up, sky, na, os, ag, hb1, hyes⟩ := xx
    have J : Inv X pins σ' H' sI := J'.ofTry ok
    have sky' : Sky B (X.env :: X.outer) a (L2N.Zn cls d) X.env.locals s'.heap := by rw [← hs]; exact sky
    show wpAny (model X.prog X.w) X.A (noteFrame (.ref a) X.env) _ _ _
    refine L2N.Sky.land L2N.Zn.steady hfr hf sky' fun h3 fl3 up3 => ?_
    have J3 : Inv X pins σ' H' { s' with heap := h3 } := J.landed nb fl3.1 (up.trans up3) os ag
    obtain ⟨oe3, vs3, he3, hz3, hd3⟩ := fl3.there
    have nfr : a ∉ frs (X.env :: X.outer) := notFr fl3.2.2.1 he3 hd3
    have nL : a ≠ X.env.locals := fun z => nfr (List.mem_filterMap.mpr ⟨X.env, List.mem_cons_self, by rw [hf, z]⟩)
    have nF : a ∉ X.fs := fun hm => by
      obtain ⟨e, he, q⟩ := List.mem_filterMap.mp hm
      exact nfr (List.mem_filterMap.mpr ⟨e, List.mem_cons_of_mem _ he, q⟩)
    have S3 := J3.suite he3 hd3 na nL nF
    refine wpAny_handleBy_cons (codeAny_handlers_test ?_) (by intro q; cases q)
    have LT : PySem.W.Looks (model X.prog X.w) h3 (typeOf (.ref a)) cls := fun A Q E s k q => wpAny_typeOf_ref (k _ _ he3) (by rw [hz3.1]; exact q)
    have LM := PySem.W.exm_one (M := model X.prog X.w) (J3.kIn) LT hb1
    have test : ∀ {Q : Value → Shared → Prop} {E : Value → Shared → Prop}, Q c { s' with heap := h3 } → wpAny (model X.prog X.w) (X.A.mark (some (.ref a))) (eval (.Name x np) X.env) Q E { s' with heap := h3 } := fun {Q E} q => by
      obtain ⟨hg, hdbg, hm | ⟨hm, hv, hnn⟩⟩ := hc
      · exact ld_glob (X := X.suite a ((a, oe3) :: (X.pn ++ pins))) S3 hg hm q hdbg
      · exact ld_blt (X := X.suite a ((a, oe3) :: (X.pn ++ pins))) S3 hg hm hv q hnn hdbg
    refine test (LM.here ?_)
    refine codeAny_handlers_suite_as ?_
    refine HandSPX.lands_againZ fl3 fun h4 fl4 up4 => ?_
    have J4 : Inv X pins σ' H' { s' with heap := h4 } := J.landed nb fl4.1 ((up.trans up3).trans up4) os ag
    obtain ⟨oe4, vs4, he4, hz4, hd4⟩ := fl4.there
    have S4 := J4.suite he4 hd4 na nL nF
    refine store_ok (X := X.suite a ((a, oe4) :: (X.pn ++ pins))) (v := .ref a) S4 hN hi hloc rfl (fun s5 S5 => ?_) (.inr hln)
    refine wpAny_mono ((hsu a oe4 cls d (X.pn ++ pins) (fun x s3 => wpAny (model X.prog X.w) (X.A.mark (some (.ref a))) (noteFrame x X.env) (fun _ s3' =>
      wpAny (model X.prog X.w) (X.A.mark (some (.ref a))) (do bindName X.env n .none; unbindBehindTheSuite X.env n pos')
        (fun _ s4 => wpAny (model X.prog X.w) (X.A.mark (some (.ref a))) (PySem.passOn "try.except-as" x X.env : Sem Flow) (fun _ _ => False) (notedBy (model X.prog X.w) (X.A.mark (some (.ref a))) X.env (cameBackBy (model X.prog X.w) X.A X.env X.xe)) s4)
        (fun y s4 => wpAny (model X.prog X.w) (X.A.mark (some (.ref a))) (setFlight x none) (fun _ s5 => (notedBy (model X.prog X.w) (X.A.mark (some (.ref a))) X.env (cameBackBy (model X.prog X.w) X.A X.env X.xe)) y s5) (notedBy (model X.prog X.w) (X.A.mark (some (.ref a))) X.env (cameBackBy (model X.prog X.w) X.A X.env X.xe)) s4) s3')
      (notedBy (model X.prog X.w) (X.A.mark (some (.ref a))) X.env (cameBackBy (model X.prog X.w) X.A X.env X.xe)) s3) ⟨rfl, hz4.zc, _, hd4⟩ (fun u2 s2 x2 => ?_) ⟨(a, oe4), ⟨rfl, vs4, hd4, hz4.2.2 vs4 hd4⟩, List.mem_cons_self⟩).run [] s5 _ H' _ (S5.wish _) (hyes a na)) (fun f s6 hsp => ?_) (fun e6 s6 z => z)
    · -- the suite's error: looked at, the name goes, it leaves
      obtain ⟨a2, B2, sI2, pn2, σ2, H2, cls2, d2, rfl, I2, nb2, up2, sky2, na2, os2, ag2, w2⟩ := x2
      have nb2' : ∀ b o, sI2.heap.get? b = some o → b ∉ frs X.stack → B2.get? b = some o := nb2
      have sky2' : Sky B2 (X.env :: X.outer) a2 (Zc cls2 d2) X.env.locals s2.heap := by rw [← hs]; exact sky2
      show wpAny _ (X.A.mark (some (.ref a))) (noteFrame (.ref a2) X.env) _ _ _
      refine note Zc.steady (by show (X.A.mark _).frames = _; exact hfr) hf sky2' fun h6 hh6 up6 => ?_
      have J6 := I2.landed nb2 (s' := { s2 with heap := h6 }) hh6.1 (up2.trans up6) os2 ag2
      obtain ⟨m6, hn6, _⟩ := J6.loc
      refine as_tail hf rfl hh6 hn6 hln hcls fun h7 hh7 k7 => ?_
      rw [hx]
      refine leave_held hf hex hs I2 ⟨rfl, rfl, rfl, rfl, rfl, rfl, rfl, rfl⟩ nb2' (fun b o e ne hnf => ?_) hh7 na2 os2 ag2 w2
      obtain ⟨sl, e1⟩ := (up2.trans up6) b o e hnf
      obtain ⟨sl2, e2⟩ := k7 b _ e1 ne hnf
      exact ⟨sl2, e2⟩
    · cases f with
      | next =>
        obtain ⟨_, _, _, q⟩ := hsp
        exact False.elim q
      | brk =>
        obtain ⟨_, _, _, q⟩ := hsp
        exact False.elim q
      | cont =>
        obtain ⟨_, _, _, q⟩ := hsp
        exact False.elim q
      | ret u =>
        obtain ⟨_, _, _, _, _, q⟩ := hsp
        exact False.elim q
  · cases f with
    | next =>
      obtain ⟨σ', H', J', q⟩ := hsp
      exact wpAny_execs_nil ⟨σ', H', J'.ofTry ok, q⟩
    | brk =>
      obtain ⟨σ', H', J', q⟩ := hsp
      exact ⟨σ', H', J'.ofTry ok, q⟩
    | cont =>
      obtain ⟨σ', H', J', q⟩ := hsp
      exact ⟨σ', H', J'.ofTry ok, q⟩
    | ret u =>
      obtain ⟨v, σ', H', J', r, q⟩ := hsp
      exact ⟨v, σ', H', J'.ofTry ok, r, q⟩
end
end Ox
namespace Ox
open PySem PySem.Spec PyProof.Rows L2
/-! ### defs by their names -/
def Src (K : PySem.W.Frag) (mg : Str → Option Value) (x : Str) (st : Stmt) : Prop := ∃ f fd, mg x = some (.ref f) ∧ Fun K x x st f fd
def Def (P : Program) (w : World) (K : PySem.W.Frag) (mg : Str → Option Value) (base : Heap) (CX : CXT) (x : Str) (k : Nat) (ps : List Str) (sp : Sp) : Prop :=
  ∃ f fd, mg x = some (.ref f) ∧ PySem.W.keepIn K (.ref f) = true ∧ FnOk P w K mg base CX k f fd ps sp ∧ Binds K fd ps []
theorem src_mk {K : PySem.W.Frag} {h : Heap} {mg : Str → Option Value} {x : Str} {st : Stmt} {f : Addr} {od an : Option Addr} {sl : Array (Option Value)} {oc kV dc pm cd ct : Value} (X : K.In h) (G : h.Ns mainGlobals mg)
    (a : PySem.W.nsIn K mainGlobals x = some (some (.ref f))) (l : K.lookup f = some ⟨oc, od, .func (PySem.W.fnOf x x (defArgs st) (defBody st) (defScope st) .none kV dc pm an cd ct), sl⟩) (c : PySem.W.codeIn K cd x = true) (k : PySem.W.keepIn K (.ref f) = true) : Src K mg x st :=
  ⟨f, _, PySem.W.mg_of X G a, fun_mk l c k⟩
section
variable {P : Program} {w : World} {K : PySem.W.Frag} {mg : Str → Option Value} {base : Heap}
theorem Src.def {CX : CXT} {x : Str} {st : Stmt} {k : Nat} {ps : List Str} {sp : Sp} (S : Src K mg x st)
    (hb : ∀ (kV doc pm : Value) (an : Option Addr) (cdv ct : Value) (us : List Value), us.length = ps.length → bindArgs (PySem.W.fnOf x x (defArgs st) (defBody st) (defScope st) .none kV doc pm an cdv ct) ⟨us, []⟩ = pure (ps.zip us))
    (ok : ∀ f fd, mg x = some (.ref f) → Fun K x x st f fd → FnOk P w K mg base CX k f fd ps sp) : Def P w K mg base CX x k ps sp := by
  obtain ⟨f, fd, g, F⟩ := S
  exact ⟨f, fd, g, F.kp, ok f fd g F, F.binds hb⟩
/-- as Fun.ok, for a def whose errors have no context -/
theorem okN {x qual : Str} {st : Stmt} {f : Addr} {fd : FuncData} {N ps : List Str} {k : Nat} {sp : Sp} (F : Fun K x qual st f fd) (S : FnScope N ps (defScope st)) (len : ∀ vs H Q E, sp vs H Q E → vs.length = ps.length)
    (hbody : ∀ (cdv : Value) (A : Around) (outer : List Env) (s : Shared) (H : Hp) (vs : List V) (Q : VK) (E : XK), Room k (A.deeper (envOfC qual (defScope st) s.heap.objs.size f cdv)) → sp vs H Q E →
      ∃ t, PSs (cxOf (L2N.CX P w) P w K mg base N qual (defScope st) f cdv A outer s H E) (defBody st) t ∧ t { nx := fun _ H' => Q .non H', rt := Q } (L2.start N vs) H) : FnOk P w K mg base (L2N.CX P w) (k + 1) f fd ps sp := by
  obtain ⟨oc, od, kV, doc, pm, an, cdv, ct, osl, rfl, lk, hcd⟩ := F.ex
  exact fn_of lk hcd S len fun A outer s H vs Q E hr hsp => hbody cdv A outer s H vs Q E hr hsp
end
/-! f(e, ..), by the def's name; what it raises is wished for at the slots -/
section
variable {X : Cx} {CX : CXT} {k j : Nat} {ps : List Str} {sp : Sp} {E : L2.St → XK} {x : Str} {p pos : Pos} {e : Expr} {es : List Expr} {t : TA}
theorem callS (D : Def X.prog X.w X.K X.mg X.base CX x k ps sp) (hr : Room j X.A) (hx : ∀ σ, PassesAt CX X σ (E σ)) (ha : PA X (e :: es) t) (hk : k ≤ j := by decide) (hg : Gl X x := by rfl) (hdb : (x == ("__debug__" : Str)) = false := by decide)
    (he : starEach (e :: es) X.env = (false, eval e X.env) :: starEach es X.env := by rfl) (hpl : (backTo pos (starEach es X.env)).any (·.1) = false := by rfl) : PE X (.Call (.Name x p) (e :: es) [] pos) (tCallS sp E t) := by
  obtain ⟨f, fd, g, kp, F, b⟩ := D
  exact pe_callS F (hr.mono hk) hg g kp b hx ha hdb he hpl
theorem call0 (D : Def X.prog X.w X.K X.mg X.base CX0 x k ps sp) (hr : Room j X.A) (ha : PA X (e :: es) t) (hk : k ≤ j := by decide) (hg : Gl X x := by rfl) (hdb : (x == ("__debug__" : Str)) = false := by decide)
    (he : starEach (e :: es) X.env = (false, eval e X.env) :: starEach es X.env := by rfl) (hpl : (backTo pos (starEach es X.env)).any (·.1) = false := by rfl) : PE X (.Call (.Name x p) (e :: es) [] pos) (tCallS sp (fun _ => E0) t) :=
  callS D hr (fun _ _ _ _ _ _ _ h => h.elim) ha hk hg hdb he hpl
end
def DefE (P : Program) (w : World) (K : PySem.W.Frag) (mg : Str → Option Value) (base : Heap) (x : Str) (k : Nat) (ps : List Str) (sp : Addr → Value → Option Addr → Sp) : Prop :=
  ∃ f fd, mg x = some (.ref f) ∧ PySem.W.keepIn K (.ref f) = true ∧ FnE P w K mg base k f fd ps sp ∧ Binds K fd ps []
theorem callE {X : Cx} {k j : Nat} {ps : List Str} {sp : Addr → Value → Option Addr → Sp} {x : Str} {p pos : Pos} {e : Expr} {es : List Expr} {t : TA} {pr : Addr × Obj} {a : Addr} {cls : Value} {d : Option Addr}
    (D : DefE X.prog X.w X.K X.mg X.base x k ps sp) (hr : L2H.RoomH j X.A) (hp : pr ∈ X.pn) (hz : Err a cls d pr) (ha : PA X (e :: es) t) (hk : k ≤ j := by decide) (hg : Gl X x := by rfl) (hdb : (x == ("__debug__" : Str)) = false := by decide)
    (he : starEach (e :: es) X.env = (false, eval e X.env) :: starEach es X.env := by rfl) (hpl : (backTo pos (starEach es X.env)).any (·.1) = false := by rfl) : PE X (.Call (.Name x p) (e :: es) [] pos) (tCallE (sp a cls d) t) := by
  obtain ⟨f, fd, g, kp, F, b⟩ := D
  exact pe_callE F (hr.mono hk) hp hz hg g kp b ha hdb he hpl
/-! ### the numbers' and texts' forms -/
def NumAt (H : Hp) (a : Addr) (q : Rat) : Prop := H a = some (.tup [.int q.num, .int ((q.den : Nat) : Int)])
theorem NumAt.same {H H' : Hp} {a : Addr} {q : Rat} (h : NumAt H a q) (s : Same H H') : NumAt H' a q := s _ _ h
def bv (s : EbNum.Bytes) : List V := s.map fun c => .int ((c.toNat : Nat) : Int)
theorem bv_length (s : EbNum.Bytes) : (bv s).length = s.length := List.length_map ..
theorem bv_get (s : EbNum.Bytes) (i : Nat) : (bv s)[i]? = (s[i]?).map fun c => V.int ((c.toNat : Nat) : Int) := List.getElem?_map
theorem bv_B (s : EbNum.Bytes) : bv s = (Ow.B s).map V.int := by
  unfold bv Ow.B
  rw [List.map_map]
  rfl
theorem same_upd {H : Hp} {p : Addr} {o : HO} (h : H p = none) : Same H (upd H p o) := fun b u q => by
  rw [upd_ne (ne_of_none q h)]
  exact q
/-- what is said of the built-ins: no name of the text hides them -/
structure Bi (mg : Str → Option Value) : Prop where
  abs : mg "abs" = none
  len : mg "len" = none
  range : mg "range" = none
  int : mg "int" = none
  ord : mg "ord" = none
  str : mg "str" = none
  list : mg "list" = none
  max : mg "max" = none
  zip : mg "zip" = none
  exc : mg "Exception" = none
def CI (mg : Str → Option Value) (x : Str) (i : Int) : Prop := ∃ t, mg x = some (.int i t)
theorem pe_ci {X : Cx} {x : Str} {i : Int} {pos : Pos} (c : CI X.mg x i) (hg : Gl X x := by rfl) (hd : (x == ("__debug__" : Str)) = false := by decide) : PE X (.Name x pos) (tC (.int i)) := by
  obtain ⟨t, c⟩ := c
  exact pe_glob hg c ⟨_, rfl⟩ hd
/-- the text of an int, however long up to 4,300 digits -/
theorem call_strB {X : Cx} (hc : X.calm = true) (dg : PySem.W.nsIn X.K cStatics "sys.int_max_str_digits" = some none) : CallR X (.type "str") (fun xs H Q => ∃ i, xs = [.int i] ∧ i.natAbs < 10 ^ 4300 ∧ Q (.str (toString i)) H) := by
  intro pins s σ H xs us Q I r h
  obtain ⟨i, rfl, hz, q⟩ := h
  obtain ⟨u, rfl, t, rfl⟩ := vals1 r
  refine str_of_int_or (I.ok.hd hc) (noDigits I.kIn I.nolimit dg) (fun _ => ⟨.str _, H, I.tok _, ⟨_, rfl⟩, q⟩) fun h2 => ?_
  exact absurd h2 (Nat.not_le_of_lt hz)
/-- an own error class, all that is known of it -/
structure Own (K : PySem.W.Frag) (mg : Str → Option Value) (base : Heap) (P : Program) (w : World) (x : Str) (C : Addr) (ps : List Str) (k : Nat) (sp : Sp) : Prop where
  cl : Cls K C
  g : mg x = some (.ref C)
  xf : XfC K C
  te : PySem.W.exmOne K (.ref C) (.ref C) = some true
  init : ∃ fI fd, PySem.W.findIn K (.ref C) "__init__" = some (some (.ref fI)) ∧ PySem.W.typeIn K (.ref fI) = some (.type "function") ∧ FnOk P w K mg base CX0 k fI fd ps sp ∧ L2H.FnH P w K mg base CX0 k fI fd ps sp ∧ Binds K fd ps []
section
variable {X : Cx} {x : Str} {e : Expr} {es : List Expr} {ta : TA} {p pos : Pos} {C : Addr} {k j : Nat} {ps : List Str} {sp : Sp}
theorem Own.cold (O : Own X.K X.mg X.base X.prog X.w x C ps k sp) (hr : Room j X.A) (ha : PA X (e :: es) ta) (hk : k + 1 ≤ j := by decide) (hg : Gl X x := by rfl)
    (hdb : (x == ("__debug__" : Str)) = false := by decide) (he : starEach (e :: es) X.env = (false, eval e X.env) :: starEach es X.env := by rfl) (hpl : (backTo pos (starEach es X.env)).any (·.1) = false := by rfl) :
    L2H.PMk5 X (.Call (.Name x p) (e :: es) [] pos) (tMkO C sp [] ta) := by
  obtain ⟨fI, fd, h1, h2, F, _, b⟩ := O.init
  exact mk_cold O.cl h1 h2 F (hr.mono hk) b hg O.g ha hdb he hpl
theorem Own.hot (O : Own X.K X.mg X.base X.prog X.w x C ps k sp) (hr : L2H.RoomH j X.A) (hc : L2H.HotC X) (ha : PA X (e :: es) ta) (hk : k + 1 ≤ j := by decide) (hg : Gl X x := by rfl)
    (hdb : (x == ("__debug__" : Str)) = false := by decide) (he : starEach (e :: es) X.env = (false, eval e X.env) :: starEach es X.env := by rfl) (hpl : (backTo pos (starEach es X.env)).any (·.1) = false := by rfl) :
    L2H.PMk5 X (.Call (.Name x p) (e :: es) [] pos) (tMkO C sp [] ta) := by
  obtain ⟨fI, fd, h1, h2, _, F, b⟩ := O.init
  exact mk_hot O.cl h1 h2 F (hr.mono hk) hc b hg O.g ha hdb he hpl
end
/-! ### what the errors carry -/
/-- a Refusal with its number and what is told behind it -/
def Err6 (CR : Addr) (H : Hp) (E : XK) (c : Int) (more : List Int) : Prop := ∀ (H' : Hp) (d m : Addr), Same H H' → H' d = some (.xd [("more", .ref m), ("code", .int c)]) → H' m = some (.lst (more.map V.int)) → E (.ref CR) (some d) H'
/-- a BadPlace -/
def Bad (CB : Addr) (H : Hp) (E : XK) (k : Nat) : Prop := ∀ (H' : Hp) (d : Addr), Same H H' → H' d = some (.xd [("at", .int (k : Int))]) → E (.ref CB) (some d) H'
theorem Err6.same {CR : Addr} {H H1 : Hp} {E : XK} {c : Int} {more : List Int} (h : Err6 CR H E c more) (s : Same H H1) : Err6 CR H1 E c more := fun H' d m s' => h H' d m (s.trans s')
theorem Bad.same {CB : Addr} {H H1 : Hp} {E : XK} {k : Nat} (h : Bad CB H E k) (s : Same H H1) : Bad CB H1 E k := fun H' d s' => h H' d (s.trans s')
def spInitR (CR : Addr) : Sp := fun vs H Q _ => ∃ (a : Addr) (c : Int) (m : Addr), vs = [.ref a, .int c, .ref m] ∧ H a = some (exo a CR none) ∧ ∀ dx, H dx = none → dx ≠ a →
  Q .non (upd (upd (upd H dx (exd dx [("code", .int c)])) a (exo a CR (some dx))) dx (exd dx [("more", .ref m), ("code", .int c)]))
def spInitB (CB : Addr) : Sp := fun vs H Q _ => ∃ (a : Addr) (k : Int), vs = [.ref a, .int k] ∧ H a = some (exo a CB none) ∧ ∀ dx, H dx = none → dx ≠ a →
  Q .non (upd (upd H dx (exd dx [("at", .int k)])) a (exo a CB (some dx)))
/-- what a reader of a text answers: a Refusal with its list, or a number -/
def ErrL (CR : Addr) (H : Hp) (E : XK) (l : List Int) : Prop := match l with
  | [] => True
  | c :: more => Err6 CR H E c more
theorem bad_made {CB : Addr} {H : Hp} {E : XK} {k : Nat} (h : Bad CB H E k) : ∀ a, H a = none → spInitB CB (.ref a :: ([.int (k : Int)] ++ [])) (upd H a (exo a CB none))
    (fun v H2 => v = .non ∧ ∃ (d : Addr) (fs : List (Str × V)), H2 a = some (exo a CB (some d)) ∧ H2 d = some (exd d fs) ∧ H d = none ∧ E (.ref CB) (some d) (upd (del H2 a) d (.xd fs))) (fun _ _ _ => False) := fun a ha => by
  refine ⟨a, k, rfl, upd_same, fun dx hd hne => ⟨rfl, dx, [("at", .int (k : Int))], upd_same, ?_, ?_, ?_⟩⟩
  · rw [upd_ne hne]
    exact upd_same
  · rw [upd_ne hne] at hd
    exact hd
  · rw [upd_ne hne] at hd
    refine h _ dx (fun b o q => ?_) upd_same
    have h2 : b ≠ a := ne_of_none q ha
    have h3 : b ≠ dx := ne_of_none q hd
    rw [upd_ne h3, del_ne h2, upd_ne h2, upd_ne h3, upd_ne h2]
    exact q
theorem err_made {CR : Addr} {H : Hp} {E : XK} {c : Int} {more : List Int} {m : Addr} (h : Err6 CR H E c more) (hm : H m = some (.lst (more.map V.int))) : ∀ a, H a = none → spInitR CR (.ref a :: ([.int c, .ref m] ++ [])) (upd H a (exo a CR none))
    (fun v H2 => v = .non ∧ ∃ (d : Addr) (fs : List (Str × V)), H2 a = some (exo a CR (some d)) ∧ H2 d = some (exd d fs) ∧ H d = none ∧ E (.ref CR) (some d) (upd (del H2 a) d (.xd fs))) (fun _ _ _ => False) := fun a ha => by
  refine ⟨a, c, m, rfl, upd_same, fun dx hd hne => ⟨rfl, dx, _, ?_, upd_same, ?_, ?_⟩⟩
  · rw [upd_ne (Ne.symm hne)]
    exact upd_same
  · rw [upd_ne hne] at hd
    exact hd
  · rw [upd_ne hne] at hd
    have st : ∀ b o, H b = some o → b ≠ a ∧ b ≠ dx := fun b o q => ⟨ne_of_none q ha, ne_of_none q hd⟩
    refine h _ dx m (fun b o q => ?_) upd_same ?_
    · obtain ⟨h2, h3⟩ := st b o q
      rw [upd_ne h3, del_ne h2, upd_ne h3, upd_ne h2, upd_ne h3, upd_ne h2]
      exact q
    · obtain ⟨h2, h3⟩ := st m _ hm
      rw [upd_ne h3, del_ne h2, upd_ne h3, upd_ne h2, upd_ne h3, upd_ne h2]
      exact hm
/-- as Fun.ok, for a def that is called while an error is handled -/
theorem okH {P : Program} {w : World} {K : PySem.W.Frag} {mg : Str → Option Value} {base : Heap} {x qual : Str} {st : Stmt} {f : Addr} {fd : FuncData} {N ps : List Str} {k : Nat} {sp : Sp} (F : Fun K x qual st f fd) (S : FnScope N ps (defScope st)) (len : ∀ vs H Q E, sp vs H Q E → vs.length = ps.length)
    (hbody : ∀ (cdv : Value) (A : Around) (outer : List Env) (s : Shared) (H : Hp) (vs : List V) (Q : VK) (E : XK) (p : Addr × Obj), L2H.Hot1 A p → L2H.RoomH k (A.deeper (envOfC qual (defScope st) s.heap.objs.size f cdv)) → sp vs H Q E →
      ∃ t, PSs (L2H.cxH CX0 P w K mg base N qual (defScope st) f cdv A outer s H E p) (defBody st) t ∧ t { nx := fun _ H' => Q .non H', rt := Q } (L2.start N vs) H) : L2H.FnH P w K mg base CX0 (k + 1) f fd ps sp := by
  obtain ⟨oc, od, kV, doc, pm, an, cdv, ct, osl, rfl, lk, hcd⟩ := F.ex
  exact L2H.fn_ofH lk hcd S len fun A outer s H vs Q E p hot hr hsp => hbody cdv A outer s H vs Q E p hot hr hsp
theorem cut_slice (s : EbNum.Bytes) {p e : Nat} (hp : p ≤ e) (he : e ≤ s.length) : cutV (bv s) (some (p : Int)) (some (e : Int)) = bv (Ow.slice s p e) := by
  unfold cutV Ow.slice
  rw [HT.sIx_nat, HT.sIx_nat, bv_length, Nat.min_eq_left he, Nat.min_eq_left (Nat.le_trans hp he)]
  unfold bv
  rw [List.map_take, List.map_drop]
theorem cut_hd (l : List Int) {k : Int} (h0 : 0 ≤ k) (h1 : k ≤ l.length) : cutV (l.map V.int) none (some ((l.length : Int) - k)) = (l.take ((l.length : Int) - k).toNat).map V.int := by
  have e : (l.length : Int) - k = ((((l.length : Int) - k).toNat : Nat) : Int) := by omega
  generalize ((l.length : Int) - k).toNat = m at e
  rw [e]
  unfold cutV
  rw [HT.sIx_nat, List.length_map, show HT.sIx l.length 0 none = 0 from rfl, Nat.sub_zero, Nat.min_eq_left (by omega), List.drop_zero, List.map_take]
theorem cut_tl (l : List Int) {k : Int} (h0 : 0 ≤ k) (h1 : k ≤ l.length) : cutV (l.map V.int) (some ((l.length : Int) - k)) none = (l.drop ((l.length : Int) - k).toNat).map V.int := by
  have e : (l.length : Int) - k = ((((l.length : Int) - k).toNat : Nat) : Int) := by omega
  generalize ((l.length : Int) - k).toNat = m at e
  rw [e]
  unfold cutV
  rw [HT.sIx_nat, List.length_map, show HT.sIx l.length l.length none = l.length from rfl, Nat.min_eq_left (by omega), List.map_drop, List.take_of_length_le]
  rw [List.length_drop, List.length_map]
  exact Nat.le_refl _
/-! ### sizes -/
def Fit (n : Nat) (q : Rat) : Prop := q.num.natAbs < 2 ^ n ∧ q.den < 2 ^ n
abbrev Big : Rat → Prop := Fit 40000
theorem Fit.mono {m n : Nat} {q : Rat} (h : Fit m q) (k : m ≤ n) : Fit n q := ⟨Nat.lt_of_lt_of_le h.1 (Nat.pow_le_pow_right (by decide) k), Nat.lt_of_lt_of_le h.2 (Nat.pow_le_pow_right (by decide) k)⟩
theorem mulW {i j : Int} {a b : Nat} (ha : i.natAbs < 2 ^ a) (hb : j.natAbs < 2 ^ b) (h : a ≤ 400000) (h' : b ≤ 400000) : CMulW i j :=
  wide_mul (a := a + 1) (b := b + 1) (Nat.lt_of_lt_of_le ha (Nat.pow_le_pow_right (by decide) (by omega))) (Nat.lt_of_lt_of_le hb (Nat.pow_le_pow_right (by decide) (by omega))) (by omega) (by omega) (by omega)
theorem den_abs (q : Rat) {n : Nat} (h : q.den < n) : ((q.den : Nat) : Int).natAbs < n := by rw [Int.natAbs_natCast]; exact h
theorem Fit.mulD {x y : Rat} (a : Big x) (b : Big y) : CMulW x.num ((y.den : Nat) : Int) := mulW a.1 (den_abs y b.2) (by decide) (by decide)
def Siz (m n : Nat) (q : Rat) : Prop := q.num.natAbs < 2 ^ m ∧ q.den < 2 ^ n
theorem Siz.mono {m n m' n' : Nat} {q : Rat} (h : Siz m n q) (k : m ≤ m') (k' : n ≤ n') : Siz m' n' q := ⟨Nat.lt_of_lt_of_le h.1 (Nat.pow_le_pow_right (by decide) k), Nat.lt_of_lt_of_le h.2 (Nat.pow_le_pow_right (by decide) k')⟩
theorem Fit.siz {m a b : Nat} {q : Rat} (h : Fit m q) (k : m ≤ a) (k' : m ≤ b) : Siz a b q := Siz.mono (m := m) (n := m) h k k'
theorem tenN_lt (e : Int) (_ : -60 ≤ e) (h : e ≤ 60) : (Ow.tenN e).natAbs < 2 ^ 200 := by
  unfold Ow.tenN
  rw [Int.natAbs_natCast]
  exact Nat.lt_of_le_of_lt (Nat.pow_le_pow_right (by decide) (show e.toNat ≤ 60 by omega)) (by decide)
theorem mul_pow {x y a b : Nat} (h : x < 2 ^ a) (h' : y < 2 ^ b) : x * y < 2 ^ (a + b) := by
  rw [Nat.pow_add]
  exact Nat.mul_lt_mul'' h h'
theorem Siz.units {m n : Nat} {x : Rat} (h : Siz m n x) {d : Int} (h1 : -60 ≤ d) (h2 : d ≤ 60) : Siz (m + 200) (n + 200) (x * EbNum.ten d) := by
  by_cases c : 0 ≤ d
  · rw [← Ow.inUnits_up c]
    have z := Ow.nof_fit (t := x.num * Ow.tenN d) (b := x.den) (Ow.den_pos x) (k := m + 200) (n := n) (by rw [Int.natAbs_mul]; exact mul_pow h.1 (tenN_lt d h1 h2)) (by rw [Int.natAbs_natCast]; exact h.2)
    exact ⟨z.1, Nat.lt_of_lt_of_le z.2 (Nat.pow_le_pow_right (by decide) (by omega))⟩
  · rw [← Ow.inUnits_down c]
    have z := Ow.nof_fit (t := x.num) (b := x.den * Ow.tenN (0 - d)) (Int.mul_pos (Ow.den_pos x) (Ow.tenN_pos _)) (k := m) (n := n + 200) h.1 (by rw [Int.natAbs_mul, Int.natAbs_natCast]; exact mul_pow h.2 (tenN_lt (0 - d) (by omega) (by omega)))
    exact ⟨Nat.lt_of_lt_of_le z.1 (Nat.pow_le_pow_right (by decide) (by omega)), z.2⟩
theorem Siz.neg {m n : Nat} {x : Rat} (h : Siz m n x) : Siz m n (-x) := ⟨by rw [Rat.neg_num, Int.natAbs_neg]; exact h.1, by rw [Rat.neg_den]; exact h.2⟩
theorem Siz.add {a b c d e : Nat} {x y : Rat} (h : Siz a b x) (h' : Siz c d y) (h1 : a + d ≤ e) (h2 : c + b ≤ e) : Siz (e + 1) (b + d) (x + y) := by
  rw [← Ow.nof_add]
  refine Ow.nof_fit (Int.mul_pos (Ow.den_pos x) (Ow.den_pos y)) ?_ ?_
  · have l1 := Nat.lt_of_lt_of_le (mul_pow h.1 h'.2) (Nat.pow_le_pow_right (show 0 < 2 by decide) h1)
    have l2 := Nat.lt_of_lt_of_le (mul_pow h'.1 h.2) (Nat.pow_le_pow_right (show 0 < 2 by decide) h2)
    refine Nat.lt_of_le_of_lt (Int.natAbs_add_le _ _) ?_
    rw [Int.natAbs_mul, Int.natAbs_mul, Int.natAbs_natCast, Int.natAbs_natCast, Nat.pow_succ]
    omega
  · rw [Int.natAbs_mul, Int.natAbs_natCast, Int.natAbs_natCast]
    exact mul_pow h.2 h'.2
theorem Siz.sub {a b c d e : Nat} {x y : Rat} (h : Siz a b x) (h' : Siz c d y) (h1 : a + d ≤ e) (h2 : c + b ≤ e) : Siz (e + 1) (b + d) (x - y) := by
  rw [Rat.sub_eq_add_neg]
  exact h.add h'.neg h1 h2
theorem rnd_abs (t b way : Int) (hb : 0 < b) : (Ow.rnd t b way).natAbs ≤ t.natAbs + 1 := by
  have e : t.fdiv b = t / b := Int.fdiv_eq_ediv_of_nonneg _ (Int.le_of_lt hb)
  have h : (t / b).natAbs ≤ t.natAbs := Int.natAbs_ediv_le_natAbs _ _
  have m0 := Int.emod_nonneg (t / b) (show (2 : Int) ≠ 0 by decide)
  have m1 := Int.emod_lt_of_pos (t / b) (show (0 : Int) < 2 by decide)
  have bb : ∀ c : Bool, Ow.b2 c = 0 ∨ Ow.b2 c = 1 := fun c => by cases c; exact .inl rfl; exact .inr rfl
  unfold Ow.rnd Ow.nearestI
  dsimp only
  rw [e, Int.fmod_eq_emod_of_nonneg _ (by decide)]
  have b1 := bb (decide (b < 2 * (t - t / b * b)))
  have b2 := bb (decide (0 < t))
  have b3 := bb (decide (t < 0))
  split
  · omega
  split
  · split <;> omega
  split
  · omega
  split <;> omega
theorem dec_ints (i j : Int) : decide (V.int i = V.int j) = decide (i = j) := by
  by_cases z : i = j
  · rw [z, decide_eq_true rfl, decide_eq_true rfl]
  · rw [decide_eq_false z]
    exact decide_eq_false fun y => z (V.int.inj y)
/-- numbers at their places -/
structure NumsAt (H : Hp) (ps : List Addr) (qs : List Rat) : Prop where
  len : ps.length = qs.length
  at_ : ∀ (i : Nat) (p : Addr) (q : Rat), ps[i]? = some p → qs[i]? = some q → NumAt H p q
theorem NumsAt.get {H : Hp} {ps : List Addr} {qs : List Rat} (h : NumsAt H ps qs) {i : Nat} {x : V} (hx : (ps.map V.ref)[i]? = some x) : ∃ p q, ps[i]? = some p ∧ qs[i]? = some q ∧ x = .ref p ∧ NumAt H p q := by
  rw [List.getElem?_map] at hx
  cases e : ps[i]? with
  | none =>
    rw [e] at hx
    cases hx
  | some p =>
    rw [e] at hx
    have hi : i < qs.length := by rw [← h.len]; exact (List.getElem?_eq_some_iff.mp e).1
    have hq : qs[i]? = some qs[i] := List.getElem?_eq_getElem hi
    exact ⟨p, qs[i], rfl, hq, (Option.some.inj hx).symm, h.at_ i p _ e hq⟩
theorem NumsAt.one {H : Hp} {p : Addr} {q : Rat} (h : NumAt H p q) : NumsAt H [p] [q] := ⟨rfl, fun i p' q' h1 h2 => by
  cases i with
  | zero =>
    cases h1
    cases h2
    exact h
  | succ i => cases h1⟩
theorem NumsAt.two {H : Hp} {p r : Addr} {q t : Rat} (h : NumAt H p q) (h' : NumAt H r t) : NumsAt H [p, r] [q, t] := ⟨rfl, fun i p' q' h1 h2 => by
  cases i with
  | zero =>
    cases h1
    cases h2
    exact h
  | succ i =>
    cases i with
    | zero =>
      cases h1
      cases h2
      exact h'
    | succ i => cases h1⟩
theorem short_read {i : Nat} {s : EbNum.Bytes} {l : List Int} (h : Ow.readM i s = .error l) : ∃ c more, l = c :: more ∧ more.length ≤ 100 := by
  unfold Ow.readM at h
  split at h
  · cases h
    exact ⟨_, _, rfl, by decide⟩
  · split at h
    · cases h
      exact ⟨_, _, rfl, by show 2 ≤ 100; decide⟩
    · split at h
      · cases h
      · cases h
        exact ⟨_, _, rfl, by decide⟩
/-- what a call answers, as the text's own list, or the Refusal's -/
def Answers (CR : Addr) (H : Hp) (Q : VK) (E : XK) (r : Except (List Int) (List Int)) : Prop :=
  (∀ l, r = .error l → ErrL CR H E l) ∧ (∀ l, r = .ok l → ∀ H' p, Same H H' → H' p = some (.lst (l.map V.int)) → Q (.ref p) H')
theorem read_fits {i : Nat} {s : EbNum.Bytes} {q : Rat} (h : Ow.readM i s = .ok q) : EbNum.fits q = true := by
  unfold Ow.readM at h
  split at h
  · cases h
  · split at h
    · cases h
    · split at h
      · cases h
        assumption
      · cases h
theorem fit_of {q : Rat} (h : EbNum.fits q = true) : Fit 4096 q := (Ow.fits_iff q).mp h
theorem errL_same {CR : Addr} {H H1 : Hp} {E : XK} {l : List Int} (h : ErrL CR H E l) (s : Same H H1) : ErrL CR H1 E l := by
  cases l with
  | nil => exact True.intro
  | cons c more => exact Err6.same (show Err6 CR H E c more from h) s
/-! ### what the top has written -/
theorem ci_mk {K : PySem.W.Frag} {h : Heap} {mg : Str → Option Value} {x : Str} {i : Int} {t : Tok} (X : K.In h) (G : h.Ns mainGlobals mg) (a : PySem.W.nsIn K mainGlobals x = some (some (.int i t))) : CI mg x i := ⟨t, PySem.W.mg_of X G a⟩
theorem bi_mk {K : PySem.W.Frag} {h : Heap} {mg : Str → Option Value} (X : K.In h) (G : h.Ns mainGlobals mg) (a1 : PySem.W.nsIn K mainGlobals "abs" = some none) (a2 : PySem.W.nsIn K mainGlobals "len" = some none) (a3 : PySem.W.nsIn K mainGlobals "range" = some none)
    (a4 : PySem.W.nsIn K mainGlobals "int" = some none) (a5 : PySem.W.nsIn K mainGlobals "ord" = some none) (a6 : PySem.W.nsIn K mainGlobals "str" = some none) (a7 : PySem.W.nsIn K mainGlobals "list" = some none) (a8 : PySem.W.nsIn K mainGlobals "max" = some none)
    (a9 : PySem.W.nsIn K mainGlobals "zip" = some none) (a0 : PySem.W.nsIn K mainGlobals "Exception" = some none) : Bi mg :=
  ⟨PySem.W.mg_none_of X G a1, PySem.W.mg_none_of X G a2, PySem.W.mg_none_of X G a3, PySem.W.mg_none_of X G a4, PySem.W.mg_none_of X G a5, PySem.W.mg_none_of X G a6, PySem.W.mg_none_of X G a7, PySem.W.mg_none_of X G a8, PySem.W.mg_none_of X G a9, PySem.W.mg_none_of X G a0⟩
/-- a class of errors and its __init__ -/
structure ClsAll (K : PySem.W.Frag) (mg : Str → Option Value) (x qual : Str) (st : Stmt) (C fI : Addr) (fd : FuncData) : Prop where
  cl : Cls K C
  g : mg x = some (.ref C)
  xf : XfC K C
  te : PySem.W.exmOne K (.ref C) (.ref C) = some true
  ini : PySem.W.findIn K (.ref C) "__init__" = some (some (.ref fI))
  ty : PySem.W.typeIn K (.ref fI) = some (.type "function")
  F : Fun K "__init__" qual st fI fd
theorem exm_own {K : PySem.W.Frag} {C : Addr} (h1 : PySem.W.subIn K (.ref C) (.type "BaseException") = some true) (h2 : PySem.W.isClsIn K C = true) (h3 : PySem.W.typeIn K (.ref C) = some (.type "type")) (h4 : PySem.W.subIn K (.ref C) (.ref C) = some true) :
    PySem.W.exmOne K (.ref C) (.ref C) = some true := by
  have e1 : (PySem.W.subIn K (.ref C) (.type "BaseException") == some true) = true := by rw [h1] <;> rfl
  have e2 : ((PySem.W.clsIn K C).isSome && PySem.W.typeIn K (.ref C) == some (.type "type")) = true := by
    have h2' : (PySem.W.clsIn K C).isSome = true := h2
    rw [h2', h3] <;> rfl
  unfold PySem.W.exmOne
  first
    | (rw [if_pos e1, if_pos e2]; exact h4)
    | (show (if (PySem.W.subIn K (.ref C) (.type "BaseException") == some true) = true then (if ((PySem.W.clsIn K C).isSome && PySem.W.typeIn K (.ref C) == some (.type "type")) = true then PySem.W.subIn K (.ref C) (.ref C) else none) else none) = some true
       rw [if_pos e1, if_pos e2]
       exact h4)
theorem clsAll_mk {K : PySem.W.Frag} {h : Heap} {mg : Str → Option Value} {x qual : Str} {st : Stmt} {C fI : Addr} {nm q : Str} {N : Addr} {bs : List Value} {sn : List Str} {sub : List Value} {ab : Bool} {col : Option Bool} {dd : Option Addr} {k0 k1 k2 k3 k5 : Option Value}
    {od an : Option Addr} {sl : Array (Option Value)} {oc kV dc pm cd ct : Value} (X : K.In h) (G : h.Ns mainGlobals mg)
    (a : PySem.W.nsIn K mainGlobals x = some (some (.ref C))) (l : K.lookup C = some (excClassObj nm q C N bs [.type "Exception", .type "BaseException", .type "object"] true sn sub ab col dd k0 k1 k2 k3 k5 "Exception.__new__"))
    (sa : PySem.W.findIn K (.ref C) "__setattr__" = some (some (.builtin "object.__setattr__"))) (ga : PySem.W.findIn K (.ref C) "__getattribute__" = some (some (.builtin "BaseException.__getattribute__"))) (gg : PySem.W.findIn K (.ref C) "__getattr__" = some none)
    (exC : PySem.W.subIn K (.ref C) (.type "BaseException") = some true) (tyC : PySem.W.typeIn K (.ref C) = some (.type "type")) (kC : PySem.W.keepIn K (.ref C) = true) (hd : PySem.W.hasDictIn K C = true) (iC : PySem.W.isClsIn K C = true) (sC : PySem.W.subIn K (.ref C) (.ref C) = some true)
    (i1 : PySem.W.findIn K (.ref C) "__init__" = some (some (.ref fI))) (t1 : PySem.W.typeIn K (.ref fI) = some (.type "function"))
    (l1 : K.lookup fI = some ⟨oc, od, .func (PySem.W.fnOf "__init__" qual (defArgs st) (defBody st) (defScope st) .none kV dc pm an cd ct), sl⟩) (c1 : PySem.W.codeIn K cd qual = true) (q1 : PySem.W.keepIn K (.ref fI) = true) :
    ClsAll K mg x qual st C fI (PySem.W.fnOf "__init__" qual (defArgs st) (defBody st) (defScope st) .none kV dc pm an cd ct) :=
  ⟨⟨⟨nm, q, N, bs, sn, sub, ab, col, dd, k0, k1, k2, k3, k5, l⟩, sa, exC, tyC, kC⟩, PySem.W.mg_of X G a, ⟨ga, gg, exC, hd⟩, exm_own exC iC tyC sC, i1, t1, fun_mk l1 c1 q1⟩
theorem refusal_mk {K : PySem.W.Frag} {h : Heap} {mg : Str → Option Value} {st : Stmt} {C fI : Addr} {nm q : Str} {N : Addr} {bs : List Value} {sn : List Str} {sub : List Value} {ab : Bool} {col : Option Bool} {dd : Option Addr} {k0 k1 k2 k3 k5 : Option Value}
    {od an : Option Addr} {sl : Array (Option Value)} {oc kV dc pm cd ct : Value} (X : K.In h) (G : h.Ns mainGlobals mg)
    (a : PySem.W.nsIn K mainGlobals "Refusal" = some (some (.ref C))) (l : K.lookup C = some (excClassObj nm q C N bs [.type "Exception", .type "BaseException", .type "object"] true sn sub ab col dd k0 k1 k2 k3 k5 "Exception.__new__"))
    (sa : PySem.W.findIn K (.ref C) "__setattr__" = some (some (.builtin "object.__setattr__"))) (ga : PySem.W.findIn K (.ref C) "__getattribute__" = some (some (.builtin "BaseException.__getattribute__"))) (gg : PySem.W.findIn K (.ref C) "__getattr__" = some none)
    (exC : PySem.W.subIn K (.ref C) (.type "BaseException") = some true) (tyC : PySem.W.typeIn K (.ref C) = some (.type "type")) (kC : PySem.W.keepIn K (.ref C) = true) (hd : PySem.W.hasDictIn K C = true) (iC : PySem.W.isClsIn K C = true) (sC : PySem.W.subIn K (.ref C) (.ref C) = some true)
    (i1 : PySem.W.findIn K (.ref C) "__init__" = some (some (.ref fI))) (t1 : PySem.W.typeIn K (.ref fI) = some (.type "function"))
    (l1 : K.lookup fI = some ⟨oc, od, .func (PySem.W.fnOf "__init__" "Refusal.__init__" (defArgs st) (defBody st) (defScope st) .none kV dc pm an cd ct), sl⟩) (c1 : PySem.W.codeIn K cd "Refusal.__init__" = true) (q1 : PySem.W.keepIn K (.ref fI) = true) (n1 : PySem.W.findIn K (.ref C) "code" = some none) (n2 : PySem.W.findIn K (.ref C) "more" = some none) :
    ∃ CR fR dR, ClsAll K mg "Refusal" "Refusal.__init__" st CR fR dR ∧ PySem.W.findIn K (.ref CR) "code" = some none ∧ PySem.W.findIn K (.ref CR) "more" = some none :=
  ⟨C, fI, _, clsAll_mk X G a l sa ga gg exC tyC kC hd iC sC i1 t1 l1 c1 q1, n1, n2⟩
theorem badplace_mk {K : PySem.W.Frag} {h : Heap} {mg : Str → Option Value} {st : Stmt} {C fI : Addr} {nm q : Str} {N : Addr} {bs : List Value} {sn : List Str} {sub : List Value} {ab : Bool} {col : Option Bool} {dd : Option Addr} {k0 k1 k2 k3 k5 : Option Value}
    {od an : Option Addr} {sl : Array (Option Value)} {oc kV dc pm cd ct : Value} (X : K.In h) (G : h.Ns mainGlobals mg)
    (a : PySem.W.nsIn K mainGlobals "BadPlace" = some (some (.ref C))) (l : K.lookup C = some (excClassObj nm q C N bs [.type "Exception", .type "BaseException", .type "object"] true sn sub ab col dd k0 k1 k2 k3 k5 "Exception.__new__"))
    (sa : PySem.W.findIn K (.ref C) "__setattr__" = some (some (.builtin "object.__setattr__"))) (ga : PySem.W.findIn K (.ref C) "__getattribute__" = some (some (.builtin "BaseException.__getattribute__"))) (gg : PySem.W.findIn K (.ref C) "__getattr__" = some none)
    (exC : PySem.W.subIn K (.ref C) (.type "BaseException") = some true) (tyC : PySem.W.typeIn K (.ref C) = some (.type "type")) (kC : PySem.W.keepIn K (.ref C) = true) (hd : PySem.W.hasDictIn K C = true) (iC : PySem.W.isClsIn K C = true) (sC : PySem.W.subIn K (.ref C) (.ref C) = some true)
    (i1 : PySem.W.findIn K (.ref C) "__init__" = some (some (.ref fI))) (t1 : PySem.W.typeIn K (.ref fI) = some (.type "function"))
    (l1 : K.lookup fI = some ⟨oc, od, .func (PySem.W.fnOf "__init__" "BadPlace.__init__" (defArgs st) (defBody st) (defScope st) .none kV dc pm an cd ct), sl⟩) (c1 : PySem.W.codeIn K cd "BadPlace.__init__" = true) (q1 : PySem.W.keepIn K (.ref fI) = true) (n1 : PySem.W.findIn K (.ref C) "at" = some none) :
    ∃ CB fB dB, ClsAll K mg "BadPlace" "BadPlace.__init__" st CB fB dB ∧ PySem.W.findIn K (.ref CB) "at" = some none :=
  ⟨C, fI, _, clsAll_mk X G a l sa ga gg exC tyC kC hd iC sC i1 t1 l1 c1 q1, n1⟩
theorem dg_mk {K : PySem.W.Frag} {h : Heap} (_ : K.In h) (a : PySem.W.nsIn K cStatics "sys.int_max_str_digits" = some none) : PySem.W.nsIn K cStatics "sys.int_max_str_digits" = some none := a
/-- a tuple that the top has written -/
def TupC (K : PySem.W.Frag) (mg : Str → Option Value) (x : Str) (xs : List V) : Prop := ∃ a, mg x = some (.ref a) ∧ ∀ H, SqT K H a xs
theorem tup_mk {K : PySem.W.Frag} {h : Heap} {mg : Str → Option Value} {x : Str} {a : Addr} {xs : List V} {its : Array Value} {n : Nat} (X : K.In h) (G : h.Ns mainGlobals mg) (ha : PySem.W.nsIn K mainGlobals x = some (some (.ref a)))
    (l : K.lookup a = some { cls := .type "tuple", data := .seq its n }) (v : Vals xs its.toList) (z : its.size ≤ sizeLine) : TupC K mg x xs := ⟨a, PySem.W.mg_of X G ha, fun H => .inr ⟨_, its, n, l, rfl, rfl, z, v⟩⟩
/-- what the codec of a text says -/
theorem within_text {n : List Int} (h : PySem.W.Codec.inList 0 5000 (PySem.W.Codec.inInt 0 255) n = true) : ∀ x ∈ n, 0 ≤ x ∧ x ≤ 255 := fun x hx =>
  PySem.W.Codec.inInt_iff.mp (List.all_eq_true.mp (Bool.and_eq_true_iff.mp h).2 x hx)
theorem within2 {a b : List Int} (h : (PySem.W.Codec.inList 0 5000 (PySem.W.Codec.inInt 0 255) a && (PySem.W.Codec.inList 0 5000 (PySem.W.Codec.inInt 0 255) b && true)) = true) : (∀ x ∈ a, 0 ≤ x ∧ x ≤ 255) ∧ ∀ x ∈ b, 0 ≤ x ∧ x ≤ 255 := by
  rw [Bool.and_true] at h
  exact ⟨within_text (Bool.and_eq_true_iff.mp h).1, within_text (Bool.and_eq_true_iff.mp h).2⟩
theorem within1 {a : List Int} (h : (PySem.W.Codec.inList 0 5000 (PySem.W.Codec.inInt 0 255) a && true) = true) : ∀ x ∈ a, 0 ≤ x ∧ x ≤ 255 := by
  rw [Bool.and_true] at h
  exact within_text h
end Ox
namespace Ox
open PySem PySem.Spec PyProof.Rows L2
/-! ## The text's defs -/
def top (i : Nat) : Stmt := PySem.Challenge.pw_outward_s05_shown.main.body.getD i (.Pass ⟨0, 0, 0, 0⟩)
abbrev s_Refusal_init : Stmt := inClass (top 2) 0
abbrev s_refuse : Stmt := top 3
abbrev s_common_of : Stmt := top 4
abbrev s_number_of : Stmt := top 5
abbrev s_negated : Stmt := top 6
abbrev s_added : Stmt := top 7
abbrev s_taken : Stmt := top 8
abbrev s_does_fit : Stmt := top 9
abbrev s_look_at_fit : Stmt := top 10
abbrev s_ten_to : Stmt := top 11
abbrev s_in_units : Stmt := top 12
abbrev s_of_units : Stmt := top 13
abbrev s_BadPlace_init : Stmt := inClass (top 22) 0
abbrev s_is_digit_at : Stmt := top 23
abbrev s_digits_end : Stmt := top 24
abbrev s_whole_of : Stmt := top 25
abbrev s_bottom_at : Stmt := top 26
abbrev s_number_at : Stmt := top 27
abbrev s_whole_number : Stmt := top 28
abbrev s_look_at_length : Stmt := top 29
abbrev s_read_number : Stmt := top 30
abbrev s_nearest : Stmt := top 39
abbrev s_rounded : Stmt := top 40
abbrev s_size_of : Stmt := top 41
abbrev s_shown_at : Stmt := top 42
abbrev s_place_told : Stmt := top 43
abbrev s_whole_text : Stmt := top 48
abbrev s_signed : Stmt := top 49
abbrev s_units_text : Stmt := top 50
abbrev s_told : Stmt := top 51
abbrev s_refusal : Stmt := top 54
abbrev s_look_at_sign : Stmt := top 55
abbrev s_shown_now : Stmt := top 56
abbrev s_shown : Stmt := top 57
section
variable {P : Program} {w : World} {K : PySem.W.Frag} {mg : Str → Option Value} {base : Heap} {CR CB : Addr}
theorem sc_Refusal_init : FnScope ["self", "code", "more"] ["self", "code", "more"] (defScope s_Refusal_init) := ⟨rfl, rfl, rfl, by decide +kernel, rfl, by decide +kernel, by decide +kernel⟩
theorem ok_Refusal_init {fI : Addr} {fd : FuncData} (F : Fun K "__init__" "Refusal.__init__" s_Refusal_init fI fd) (T : Bi mg) (cl : Cls K CR) (n1 : PySem.W.findIn K (.ref CR) "code" = some none) (n2 : PySem.W.findIn K (.ref CR) "more" = some none) :
    FnOk P w K mg base CX0 1 fI fd ["self", "code", "more"] (spInitR CR) ∧ L2H.FnH P w K mg base CX0 1 fI fd ["self", "code", "more"] (spInitR CR) := by
  have read : ∀ (vs : List V) (H : Hp) (Q : VK) (E : XK), spInitR CR vs H Q E → (tSeq (tDrop (tInit K (tCons (tVar 0) (tCons (tC (.str "refused")) tNil)))) (tSeq (tPut K "code" (tVar 0) (tVar 1)) (tPut K "more" (tVar 0) (tVar 2)))) { nx := fun _ H' => Q .non H', rt := Q } (L2.start ["self", "code", "more"] vs) H := by
    intro vs H Q E h
    obtain ⟨a, c, m, rfl, ha, k⟩ := h
    refine ⟨_, rfl, a, CR, _, rfl, (by show 1 ≤ 1000; decide), cl, ha, ?_⟩
    refine ⟨_, rfl, _, rfl, a, CR, rfl, cl, n1, .inl ⟨ha, fun dx hd hne => ?_⟩⟩
    refine ⟨_, rfl, _, rfl, a, CR, rfl, cl, n2, .inr ⟨dx, _, upd_same, (by rw [upd_ne hne]; exact upd_same), (by show 1 ≤ 900; decide), ?_⟩⟩
    exact k dx hd hne
  refine ⟨F.ok sc_Refusal_init (fun vs H Q E h => ?_) fun cdv A outer s H vs Q E hr h => ⟨_, pss_cons (ps_expr (pe_init (by rfl) T.exc (pa_cons (pv 0) (pa_cons pe_str pa_nil)))) (pss_cons (ps_put (pv 0) (pv 1)) (pss_one (ps_put (pv 0) (pv 2)))), read vs H Q E h⟩,
    okH F sc_Refusal_init (fun vs H Q E h => ?_) fun cdv A outer s H vs Q E p hot hr h => ⟨_, pss_cons (ps_expr (pe_init (by rfl) T.exc (pa_cons (pv 0) (pa_cons pe_str pa_nil)))) (pss_cons (ps_put (pv 0) (pv 1)) (pss_one (ps_put (pv 0) (pv 2)))), read vs H Q E h⟩⟩
  · obtain ⟨a, c, m, rfl, _⟩ := h
    rfl
  · obtain ⟨a, c, m, rfl, _⟩ := h
    rfl
def spRefuse (CR : Addr) : Sp := fun vs H _ E => ∃ c : Int, vs = [.int c] ∧ Err6 CR H E c []
theorem sc_refuse : FnScope ["code"] ["code"] (defScope s_refuse) := ⟨rfl, rfl, rfl, by decide +kernel, rfl, by decide +kernel, by decide +kernel⟩
theorem ok_refuse (S : Src K mg "refuse" s_refuse) (O : Own K mg base P w "Refusal" CR ["self", "code", "more"] 1 (spInitR CR)) : Def P w K mg base (L2.CX P w) "refuse" 3 ["code"] (spRefuse CR) := by
  refine S.def (fun _ _ _ _ _ _ us hl => match us, hl with | [_], _ => rfl) fun f fd _ F => F.okX sc_refuse (fun vs H Q E h => ?_) fun cdv A outer s H vs Q E hr h => ?_
  · obtain ⟨c, rfl, _⟩ := h
    rfl
  refine ⟨_, pss_one (ps_raise rfl (takes_of rfl rfl rfl rfl) (plain (by exact O.cold hr (pa_cons (pv 0) (pa_cons (pe_lst pa_nil) pa_nil))))), ?_⟩
  obtain ⟨c, rfl, k⟩ := h
  refine ⟨_, rfl, (by show 0 ≤ sizeLine; decide), fun m hm => ⟨(by show 2 ≤ 1000; decide), fun a ha => ?_⟩⟩
  refine ⟨a, c, m, rfl, upd_same, fun dx hd hne => ⟨rfl, dx, _, ?_, upd_same, ?_, ?_⟩⟩
  · rw [upd_ne (Ne.symm hne)]
    exact upd_same
  · rw [upd_ne hne] at hd
    exact hd
  · have hd' : (upd H m (.lst [])) dx = none := by rw [upd_ne hne] at hd; exact hd
    have hma : m ≠ a := fun z => by
      rw [← z, upd_same] at ha
      cases ha
    have hmd : m ≠ dx := fun z => by
      rw [← z, upd_same] at hd'
      cases hd'
    refine k _ dx m (fun b o q => ?_) upd_same ?_
    · have h1 : (upd H m (.lst [])) b = some o := same_upd hm b o q
      have h2 : b ≠ a := ne_of_none h1 ha
      have h3 : b ≠ dx := ne_of_none h1 hd'
      rw [upd_ne h3, del_ne h2, upd_ne h3, upd_ne h2, upd_ne h3, upd_ne h2]
      exact h1
    · rw [upd_ne hmd, del_ne hma, upd_ne hmd, upd_ne hma, upd_ne hmd, upd_ne hma]
      exact upd_same
def spCommon : Sp := fun vs H Q _ => ∃ a b : Int, vs = [.int a, .int b] ∧ Q (.int ((Int.gcd a b : Nat) : Int)) H
theorem sc_common_of : FnScope ["one", "other"] ["one", "other"] (defScope s_common_of) := ⟨rfl, rfl, rfl, by decide +kernel, rfl, by decide +kernel, by decide +kernel⟩
theorem gcd_step (x y : Int) (hx : 0 ≤ x) (hy : 0 < y) : Int.gcd y (x % y) = Int.gcd x y := by
  have h1 : 0 ≤ x % y := Int.emod_nonneg x (by omega)
  obtain ⟨a, rfl⟩ := Int.eq_ofNat_of_zero_le hx
  obtain ⟨b, rfl⟩ := Int.eq_ofNat_of_zero_le (Int.le_of_lt hy)
  show Nat.gcd b (a % b) = Nat.gcd a b
  rw [Nat.gcd_comm b, ← Nat.gcd_rec, Nat.gcd_comm]
theorem ok_common_of (S : Src K mg "common_of" s_common_of) (T : Bi mg) : Def P w K mg base CX0 "common_of" 1 ["one", "other"] spCommon := by
  refine S.def (fun _ _ _ _ _ _ us hl => match us, hl with | [_, _], _ => rfl) fun f fd _ F => F.ok sc_common_of (fun vs H Q E h => ?_) fun cdv A outer s H vs Q E hr h => ?_
  · obtain ⟨a, b, rfl, _⟩ := h
    rfl
  refine ⟨_, pss_cons (ps_set (i := 0) sc_common_of.nd rfl (Or.inl rfl) (pe_callB call_abs (by rfl) T.abs (by decide +kernel) (pa_cons (pv 0) pa_nil)))
    (pss_cons (ps_set (i := 1) sc_common_of.nd rfl (Or.inl rfl) (pe_callB call_abs (by rfl) T.abs (by decide +kernel) (pa_cons (pv 1) pa_nil)))
    (pss_cons (ps_while PassesOwn.never (pt_cmpR op_gt (pv 1) pe_int (nomark _)) (pss_one (ps_par (i := 0) (j := 1) rfl sc_common_of.nd rfl rfl (by decide) rfl rfl (pa_cons (pv 1) (pa_cons (pe_op op_mod (pv 0) (pv 1)) pa_nil)) (by rfl))))
    (pss_one (ps_ret (pv 0))))), ?_⟩
  obtain ⟨a, b, rfl, k⟩ := h
  refine ⟨_, rfl, _, rfl, _, rfl, _, rfl, ?_⟩
  refine ⟨fun m σ H' => ∃ x y : Int, 0 ≤ x ∧ 0 ≤ y ∧ Int.gcd x y = Int.gcd a b ∧ m = y.toNat ∧ σ = [some (.int x), some (.int y)] ∧ H' = H, ⟨_, _, _, ?_, ?_, ?_, rfl, rfl, rfl⟩, ?_⟩
  · split <;> omega
  · split <;> omega
  · have e : ∀ x : Int, (if x < 0 then -x else x) = ((x.natAbs : Nat) : Int) := fun x => by split <;> omega
    rw [e, e]
    rfl
  rintro m σ H' ⟨x, y, hx, hy, hg, rfl, rfl, rfl⟩
  refine ⟨_, rfl, _, _, rfl, rfl, _, rfl, ?_⟩
  refine ite2 (fun c => ?_) fun c => ?_
  · have c : 0 < y := of_decide_eq_true c
    refine ⟨fun σ2 H2 => ∃ x' y' : Int, 0 ≤ x' ∧ 0 ≤ y' ∧ Int.gcd x' y' = Int.gcd a b ∧ y'.toNat < y.toNat ∧ σ2 = [some (.int x'), some (.int y')] ∧ H2 = H', ?_, ?_⟩
    · rintro σ2 H2 ⟨x', y', h1, h2, h3, h4, rfl, rfl⟩
      exact ⟨_, h4, x', y', h1, h2, h3, rfl, rfl, rfl⟩
    · refine ⟨_, rfl, _, rfl, _, rfl, _, _, rfl, rfl, c, _, _, rfl, ?_⟩
      have h1 := Int.emod_nonneg x (show y ≠ 0 by omega)
      have h2 := Int.emod_lt_of_pos x c
      exact ⟨y, x % y, hy, h1, (gcd_step x y hx c).trans hg, by omega, rfl, rfl⟩
  · have c : ¬ 0 < y := fun z => c (decide_eq_true z)
    refine ⟨_, rfl, ?_⟩
    have e : y = 0 := by omega
    subst e
    have e2 : x = ((Int.gcd a b : Nat) : Int) := by
      rw [← hg, Int.gcd_zero_right]
      omega
    rw [e2]
    exact k
def spNumber_of : Sp := fun vs H Q _ => ∃ t b : Int, vs = [.int t, .int b] ∧ 0 < b ∧ b.natAbs < 2 ^ 9000 ∧ ∀ H' p, Same H H' → NumAt H' p (Ow.nof t b) → Q (.ref p) H'
theorem sc_number_of : FnScope ["top", "bottom", "common"] ["top", "bottom"] (defScope s_number_of) := ⟨rfl, rfl, rfl, by decide +kernel, rfl, by decide +kernel, by decide +kernel⟩
theorem ok_number_of (S : Src K mg "number_of" s_number_of) (C : Def P w K mg base CX0 "common_of" 1 ["one", "other"] spCommon) : Def P w K mg base CX0 "number_of" 2 ["top", "bottom"] spNumber_of := by
  refine S.def (fun _ _ _ _ _ _ us hl => match us, hl with | [_, _], _ => rfl) fun f fd _ F => F.ok sc_number_of (fun vs H Q E h => ?_) fun cdv A outer s H vs Q E hr h => ?_
  · obtain ⟨a, b, rfl, _⟩ := h
    rfl
  refine ⟨_, pss_cons (ps_set (i := 2) sc_number_of.nd rfl (Or.inl rfl) (by exact call0 C hr (pa_cons (pv 0) (pa_cons (pv 1) pa_nil))))
    (pss_one (ps_ret (pe_tup (pa_cons (pe_op op_fdivW (pv 0) (pv 2)) (pa_cons (pe_op op_fdivW (pv 1) (pv 2)) pa_nil))))), ?_⟩
  obtain ⟨t, b, rfl, hb, hz, k⟩ := h
  have g0 : 0 < Int.gcd t b := Nat.pos_of_ne_zero fun z => by
    have := (Int.gcd_eq_zero_iff.mp z).2
    omega
  have g1 : (0 : Int) < ((Int.gcd t b : Nat) : Int) := by omega
  have g2 : ((Int.gcd t b : Nat) : Int).natAbs < 2 ^ 9000 := by
    have h1 : Int.gcd t b ∣ b.natAbs := Int.gcd_dvd_natAbs_right t b
    have h2 := Nat.le_of_dvd (by omega) h1
    rw [Int.natAbs_natCast]
    exact Nat.lt_of_le_of_lt h2 hz
  refine ⟨_, rfl, _, rfl, t, b, rfl, ?_⟩
  refine ⟨_, rfl, _, rfl, _, _, rfl, rfl, wide_div g1 g2 (by decide) (by decide), _, rfl, _, rfl, _, _, rfl, rfl, wide_div g1 g2 (by decide) (by decide), (by show 2 ≤ sizeLine; decide), fun p hp => ?_⟩
  refine k _ p (same_upd hp) ?_
  unfold NumAt
  rw [Ow.nof_num_div hb, Ow.nof_den_div hb]
  exact upd_same
def spNegated : Sp := fun vs H Q _ => ∃ (p : Addr) (x : Rat), vs = [.ref p] ∧ NumAt H p x ∧ ∀ H' r, Same H H' → NumAt H' r (-x) → Q (.ref r) H'
theorem sc_negated : FnScope ["one"] ["one"] (defScope s_negated) := ⟨rfl, rfl, rfl, by decide +kernel, rfl, by decide +kernel, by decide +kernel⟩
theorem ok_negated (S : Src K mg "negated" s_negated) : Def P w K mg base CX0 "negated" 1 ["one"] spNegated := by
  refine S.def (fun _ _ _ _ _ _ us hl => match us, hl with | [_], _ => rfl) fun f fd _ F => F.ok sc_negated (fun vs H Q E h => ?_) fun cdv A outer s H vs Q E hr h => ?_
  · obtain ⟨p, x, rfl, _⟩ := h
    rfl
  refine ⟨_, pss_one (ps_ret (pe_tup (pa_cons (pe_op op_sub pe_int (pe_ix ix_tup (pv 0) pe_int (fun _ _ => rfl))) (pa_cons (pe_ix ix_tup (pv 0) pe_int (fun _ _ => rfl)) pa_nil)))), ?_⟩
  obtain ⟨p, x, rfl, hp, k⟩ := h
  refine ⟨_, rfl, p, _, 0, _, rfl, rfl, SqT.of hp, rfl, _, _, rfl, rfl, _, rfl, p, _, 1, _, rfl, rfl, SqT.of hp, rfl, (by show 2 ≤ sizeLine; decide), fun r hr' => ?_⟩
  refine k _ r (same_upd hr') ?_
  unfold NumAt
  rw [← Ow.neg_num', Rat.neg_den]
  exact upd_same
def spAdded : Sp := fun vs H Q _ => ∃ (p q : Addr) (x y : Rat), vs = [.ref p, .ref q] ∧ NumAt H p x ∧ NumAt H q y ∧ Big x ∧ Big y ∧ x.den * y.den < 2 ^ 9000 ∧ ∀ H' r, Same H H' → NumAt H' r (x + y) → Q (.ref r) H'
theorem sc_added : FnScope ["one", "other"] ["one", "other"] (defScope s_added) := ⟨rfl, rfl, rfl, by decide +kernel, rfl, by decide +kernel, by decide +kernel⟩
theorem ok_added (S : Src K mg "added" s_added) (N : Def P w K mg base CX0 "number_of" 2 ["top", "bottom"] spNumber_of) : Def P w K mg base CX0 "added" 3 ["one", "other"] spAdded := by
  refine S.def (fun _ _ _ _ _ _ us hl => match us, hl with | [_, _], _ => rfl) fun f fd _ F => F.ok sc_added (fun vs H Q E h => ?_) fun cdv A outer s H vs Q E hr h => ?_
  · obtain ⟨p, q, x, y, rfl, _⟩ := h
    rfl
  refine ⟨_, pss_one (ps_ret (by exact call0 N hr (pa_cons (pe_op op_add (pe_op op_mulW (pe_ix ix_tup (pv 0) pe_int (fun _ _ => rfl)) (pe_ix ix_tup (pv 1) pe_int (fun _ _ => rfl))) (pe_op op_mulW (pe_ix ix_tup (pv 1) pe_int (fun _ _ => rfl)) (pe_ix ix_tup (pv 0) pe_int (fun _ _ => rfl))))
    (pa_cons (pe_op op_mulW (pe_ix ix_tup (pv 0) pe_int (fun _ _ => rfl)) (pe_ix ix_tup (pv 1) pe_int (fun _ _ => rfl))) pa_nil)))), ?_⟩
  obtain ⟨p, q, x, y, rfl, hp, hq, bx, by_, hz, k⟩ := h
  have dd : CMulW ((x.den : Nat) : Int) ((y.den : Nat) : Int) := mulW (den_abs x bx.2) (den_abs y by_.2) (by decide) (by decide)
  refine ⟨_, rfl, p, _, 0, _, rfl, rfl, SqT.of hp, rfl, _, rfl, q, _, 1, _, rfl, rfl, SqT.of hq, rfl, _, _, rfl, rfl, bx.mulD by_, ?_⟩
  refine ⟨_, rfl, q, _, 0, _, rfl, rfl, SqT.of hq, rfl, _, rfl, p, _, 1, _, rfl, rfl, SqT.of hp, rfl, _, _, rfl, rfl, by_.mulD bx, _, _, rfl, rfl, ?_⟩
  refine ⟨_, rfl, p, _, 1, _, rfl, rfl, SqT.of hp, rfl, _, rfl, q, _, 1, _, rfl, rfl, SqT.of hq, rfl, _, _, rfl, rfl, dd, ?_⟩
  refine ⟨_, _, rfl, Int.mul_pos (Ow.den_pos x) (Ow.den_pos y), ?_, fun H' r S1 hn => ?_⟩
  · rw [← Int.natCast_mul, Int.natAbs_natCast]
    exact hz
  · rw [Ow.nof_add] at hn
    exact k H' r S1 hn
def spTaken : Sp := fun vs H Q _ => ∃ (p q : Addr) (x y : Rat), vs = [.ref p, .ref q] ∧ NumAt H p x ∧ NumAt H q y ∧ Big x ∧ Big y ∧ x.den * y.den < 2 ^ 9000 ∧ ∀ H' r, Same H H' → NumAt H' r (x - y) → Q (.ref r) H'
theorem sc_taken : FnScope ["one", "other"] ["one", "other"] (defScope s_taken) := ⟨rfl, rfl, rfl, by decide +kernel, rfl, by decide +kernel, by decide +kernel⟩
theorem Fit.neg {n : Nat} {q : Rat} (h : Fit n q) : Fit n (-q) := ⟨by rw [Rat.neg_num, Int.natAbs_neg]; exact h.1, by rw [Rat.neg_den]; exact h.2⟩
theorem ok_taken (S : Src K mg "taken" s_taken) (G : Def P w K mg base CX0 "negated" 1 ["one"] spNegated) (N : Def P w K mg base CX0 "added" 3 ["one", "other"] spAdded) : Def P w K mg base CX0 "taken" 4 ["one", "other"] spTaken := by
  refine S.def (fun _ _ _ _ _ _ us hl => match us, hl with | [_, _], _ => rfl) fun f fd _ F => F.ok sc_taken (fun vs H Q E h => ?_) fun cdv A outer s H vs Q E hr h => ?_
  · obtain ⟨p, q, x, y, rfl, _⟩ := h
    rfl
  refine ⟨_, pss_one (ps_ret (by exact call0 N hr (pa_cons (pv 0) (pa_cons (by exact call0 G hr (pa_cons (pv 1) pa_nil)) pa_nil)))), ?_⟩
  obtain ⟨p, q, x, y, rfl, hp, hq, bx, by_, hz, k⟩ := h
  refine ⟨_, rfl, _, rfl, q, y, rfl, hq, fun H1 r1 S1 h1 => ?_⟩
  refine ⟨p, r1, x, -y, rfl, hp.same S1, h1, bx, by_.neg, by rw [Rat.neg_den]; exact hz, fun H2 r2 S2 h2 => ?_⟩
  rw [← Rat.sub_eq_add_neg] at h2
  exact k H2 r2 (S1.trans S2) h2
def spDoes_fit : Sp := fun vs H Q _ => ∃ (p : Addr) (x : Rat), vs = [.ref p] ∧ NumAt H p x ∧ Q (.bl (EbNum.fits x)) H
theorem sc_does_fit : FnScope ["one"] ["one"] (defScope s_does_fit) := ⟨rfl, rfl, rfl, by decide +kernel, rfl, by decide +kernel, by decide +kernel⟩
theorem bits_le (n : Int) (k : Nat) : decide (((Builtin.Int.intBits n : Nat) : Int) ≤ (k : Int)) = decide (n.natAbs < 2 ^ k) := by
  have h : Builtin.Int.intBits n ≤ k ↔ n.natAbs < 2 ^ k := by
    unfold Builtin.Int.intBits
    by_cases z : n.natAbs = 0
    · have z' : n = 0 := by omega
      subst z'
      simp
      exact Nat.pow_pos (by decide)
    · have z' : ¬ n = 0 := by omega
      simp only [beq_iff_eq, z', if_false]
      rw [← Nat.log2_lt z]
      omega
  by_cases c : n.natAbs < 2 ^ k
  · rw [decide_eq_true c]
    exact decide_eq_true (by have := h.mpr c; omega)
  · rw [decide_eq_false c]
    exact decide_eq_false (fun y => c (h.mp (by omega)))
theorem ok_does_fit (S : Src K mg "does_fit" s_does_fit) (T : Bi mg) (c : CI mg "MOST_BITS" 4096) : Def P w K mg base CX0 "does_fit" 1 ["one"] spDoes_fit := by
  refine S.def (fun _ _ _ _ _ _ us hl => match us, hl with | [_], _ => rfl) fun f fd _ F => F.ok sc_does_fit (fun vs H Q E h => ?_) fun cdv A outer s H vs Q E hr h => ?_
  · obtain ⟨p, x, rfl, _⟩ := h
    rfl
  refine ⟨_, pss_one (ps_ret (pe_and (pe_cmpR op_le (pe_bits (pe_callB call_abs (by rfl) T.abs (by decide +kernel) (pa_cons (pe_ix ix_tup (pv 0) pe_int (fun _ _ => rfl)) pa_nil))) (pe_ci c) (nomark _))
    (pe_one (pe_cmpR op_le (pe_bits (pe_ix ix_tup (pv 0) pe_int (fun _ _ => rfl))) (pe_ci c) (nomark _))))), ?_⟩
  obtain ⟨p, x, rfl, hp, k⟩ := h
  have e1 := bits_le (if x.num < 0 then -x.num else x.num) 4096
  have e2 := bits_le ((x.den : Nat) : Int) 4096
  have ea : (if x.num < 0 then -x.num else x.num).natAbs = x.num.natAbs := by split <;> omega
  rw [ea] at e1
  rw [Int.natAbs_natCast] at e2
  refine ⟨_, rfl, p, _, 0, _, rfl, rfl, SqT.of hp, rfl, _, rfl, _, rfl, _, _, rfl, rfl, _, rfl, ?_⟩
  have ef : EbNum.fits x = (decide (x.num.natAbs < 2 ^ 4096) && decide (x.den < 2 ^ 4096)) := rfl
  rw [ef] at k
  refine ite2 (fun c1 => ?_) fun c1 => ?_
  · refine ⟨_, rfl, p, _, 1, _, rfl, rfl, SqT.of hp, rfl, _, rfl, _, _, rfl, rfl, ?_⟩
    have c1' := e1.symm.trans c1
    rw [c1', Bool.true_and, ← e2] at k
    exact k
  · have c1' := e1.symm.trans (Bool.eq_false_iff.mpr c1)
    rw [c1', Bool.false_and] at k
    exact k
def spLook_at_fit (CR : Addr) : Sp := fun vs H Q E => ∃ (l : Addr) (ps : List Addr) (qs : List Rat), vs = [.ref l] ∧ H l = some (.lst (ps.map V.ref)) ∧ NumsAt H ps qs ∧
  (qs.all EbNum.fits = true → ∀ H', Same H H' → Q .non H') ∧ (qs.all EbNum.fits = false → Err6 CR H E (-6) [])
theorem sc_look_at_fit : FnScope ["ones", "one"] ["ones"] (defScope s_look_at_fit) := ⟨rfl, rfl, rfl, by decide +kernel, rfl, by decide +kernel, by decide +kernel⟩
theorem ok_look_at_fit (S : Src K mg "look_at_fit" s_look_at_fit) (D : Def P w K mg base CX0 "does_fit" 1 ["one"] spDoes_fit) (R : Def P w K mg base (L2.CX P w) "refuse" 3 ["code"] (spRefuse CR)) :
    Def P w K mg base (L2.CX P w) "look_at_fit" 4 ["ones"] (spLook_at_fit CR) := by
  refine S.def (fun _ _ _ _ _ _ us hl => match us, hl with | [_], _ => rfl) fun f fd _ F => F.okX sc_look_at_fit (fun vs H Q E h => ?_) fun cdv A outer s H vs Q E hr h => ?_
  · obtain ⟨l, ps, qs, rfl, _⟩ := h
    rfl
  refine ⟨_, pss_one (ps_for (passes_of rfl) rfl (pi_list (pv 0)) (pg_name (i := 1) sc_look_at_fit.nd rfl (Or.inl rfl))
    (pss_one (ps_if (pt_not (pt_val (by exact call0 D hr (pa_cons (pv 1) pa_nil)))) (pss_one (ps_expr (by exact callS R hr (fun σ => passAt (takes_of rfl rfl rfl rfl) σ) (pa_cons (pe_un un_neg pe_int) pa_nil)))) pss_nil))), ?_⟩
  obtain ⟨l, ps, qs, rfl, hl, hn, kT, kF⟩ := h
  refine ⟨_, rfl, l, rfl, ⟨_, SqL.of hl⟩, for_list (K := K) (a := l) (xs := ps.map V.ref) (fun i σ H' => (∃ v, σ = [some (.ref l), v]) ∧ H' = H ∧ (qs.take i).all EbNum.fits = true) ⟨⟨_, rfl⟩, rfl, rfl⟩ (fun i σ H' _ h => by rw [h.2.1]; exact SqL.of hl) ?_ ?_⟩
  · rintro i x σ H' hx ⟨⟨v, rfl⟩, rfl, hall⟩
    obtain ⟨p, q, hp, hq, rfl, hnum⟩ := hn.get hx
    refine ⟨_, rfl, p, q, rfl, hnum, _, rfl, ?_⟩
    have htake : (qs.take (i + 1)).all EbNum.fits = EbNum.fits q := by
      rw [List.take_succ, hq]
      show (qs.take i ++ [q]).all EbNum.fits = _
      rw [List.all_append, hall]
      simp
    cases hf : EbNum.fits q with
    | true =>
      refine iteF ?_
      exact ⟨⟨_, rfl⟩, rfl, htake.trans hf⟩
    | false =>
      refine iteT ?_
      refine ⟨_, rfl, -6, rfl, kF ?_⟩
      refine Bool.eq_false_iff.mpr fun z => ?_
      have := List.all_eq_true.mp z q (List.mem_of_getElem? hq)
      rw [hf] at this
      cases this
  · rintro σ H' ⟨⟨v, rfl⟩, rfl, hall⟩
    rw [List.length_map, hn.len, List.take_length] at hall
    exact kT hall _ (Same.refl _)
def spTen_to : Sp := fun vs H Q _ => ∃ n : Nat, vs = [.int n] ∧ n ≤ 5000 ∧ Q (.int ((10 ^ n : Nat) : Int)) H
theorem sc_ten_to : FnScope ["many", "found", "turn"] ["many"] (defScope s_ten_to) := ⟨rfl, rfl, rfl, by decide +kernel, rfl, by decide +kernel, by decide +kernel⟩
theorem ok_ten_to (S : Src K mg "ten_to" s_ten_to) (T : Bi mg) : Def P w K mg base CX0 "ten_to" 1 ["many"] spTen_to := by
  refine S.def (fun _ _ _ _ _ _ us hl => match us, hl with | [_], _ => rfl) fun f fd _ F => F.ok sc_ten_to (fun vs H Q E h => ?_) fun cdv A outer s H vs Q E hr h => ?_
  · obtain ⟨n, rfl, _⟩ := h
    rfl
  refine ⟨_, pss_cons (ps_set (i := 1) sc_ten_to.nd rfl (Or.inl rfl) pe_int)
    (pss_cons (ps_for PassesOwn.never rfl (pi_range1 rfl T.range (pa_cons (pv 0) pa_nil)) (pg_name (i := 2) sc_ten_to.nd rfl (Or.inl rfl)) (pss_one (ps_aug (i := 1) sc_ten_to.nd rfl (Or.inl rfl) pe_int iop_mul)))
    (pss_one (ps_ret (pv 1)))), ?_⟩
  obtain ⟨n, rfl, hn, k⟩ := h
  refine ⟨_, rfl, n, rfl, by omega, by omega, ?_⟩
  rw [Int.toNat_natCast]
  refine for_range (lo := 0) (n := n) (fun i σ H' => (∃ v, σ = [some (.int (n : Int)), some (.int ((10 ^ i : Nat) : Int)), v]) ∧ H' = H) ⟨⟨_, rfl⟩, rfl⟩ ?_ ?_
  · rintro i σ H' hi ⟨⟨v, rfl⟩, rfl⟩
    refine ⟨_, rfl, _, _, rfl, rfl, .inr ⟨by decide, by decide⟩, ⟨some (V.int (0 + i)), ?_⟩, rfl⟩
    show [some (V.int (n : Int)), some (V.int (((10 ^ i : Nat) : Int) * 10)), some (V.int (0 + i))] = _
    rw [Nat.pow_succ, Int.natCast_mul]
    rfl
  · rintro σ H' ⟨⟨v, rfl⟩, rfl⟩
    exact ⟨_, rfl, k⟩
def spIn_units : Sp := fun vs H Q _ => ∃ (p : Addr) (x : Rat) (d : Int), vs = [.ref p, .int d] ∧ NumAt H p x ∧ -60 ≤ d ∧ d ≤ 60 ∧ Siz 39000 8700 x ∧ ∀ H' r, Same H H' → NumAt H' r (x * EbNum.ten d) → Q (.ref r) H'
theorem sc_in_units : FnScope ["one", "place"] ["one", "place"] (defScope s_in_units) := ⟨rfl, rfl, rfl, by decide +kernel, rfl, by decide +kernel, by decide +kernel⟩
theorem ok_in_units (S : Src K mg "in_units" s_in_units) (Z : Def P w K mg base CX0 "ten_to" 1 ["many"] spTen_to) (G : Def P w K mg base CX0 "number_of" 2 ["top", "bottom"] spNumber_of) : Def P w K mg base CX0 "in_units" 3 ["one", "place"] spIn_units := by
  refine S.def (fun _ _ _ _ _ _ us hl => match us, hl with | [_, _], _ => rfl) fun f fd _ F => F.ok sc_in_units (fun vs H Q E h => ?_) fun cdv A outer s H vs Q E hr h => ?_
  · obtain ⟨p, x, d, rfl, _⟩ := h
    rfl
  refine ⟨_, pss_cons (ps_if (pt_cmpR op_ge (pv 1) pe_int (nomark _)) (pss_one (ps_ret (by exact call0 G hr (pa_cons (pe_op op_mulW (pe_ix ix_tup (pv 0) pe_int (fun _ _ => rfl)) (by exact call0 Z hr (pa_cons (pv 1) pa_nil))) (pa_cons (pe_ix ix_tup (pv 0) pe_int (fun _ _ => rfl)) pa_nil))))) pss_nil)
    (pss_one (ps_ret (by exact call0 G hr (pa_cons (pe_ix ix_tup (pv 0) pe_int (fun _ _ => rfl)) (pa_cons (pe_op op_mulW (pe_ix ix_tup (pv 0) pe_int (fun _ _ => rfl)) (by exact call0 Z hr (pa_cons (pe_op op_sub pe_int (pv 1)) pa_nil))) pa_nil))))), ?_⟩
  obtain ⟨p, x, d, rfl, hp, h1, h2, ⟨b1, b2⟩, k⟩ := h
  have t1 : ∀ e : Int, -60 ≤ e → e ≤ 60 → (Ow.tenN e).natAbs < 2 ^ 200 := tenN_lt
  refine ⟨_, rfl, _, _, rfl, rfl, _, rfl, ?_⟩
  refine ite2 (fun c => ?_) fun c => ?_
  · have c : 0 ≤ d := of_decide_eq_true c
    refine ⟨_, rfl, p, _, 0, _, rfl, rfl, SqT.of hp, rfl, _, rfl, d.toNat, congrArg (fun z => [V.int z]) (by omega), by omega, ?_⟩
    refine ⟨_, _, rfl, rfl, mulW b1 (t1 d h1 h2) (by decide) (by decide), ?_⟩
    refine ⟨_, rfl, p, _, 1, _, rfl, rfl, SqT.of hp, rfl, _, _, rfl, Ow.den_pos x, ?_, fun H' r S1 hn => ?_⟩
    · exact den_abs x (Nat.lt_trans b2 (Nat.pow_lt_pow_right (by decide) (by decide)))
    · refine k H' r S1 ?_
      rw [← Ow.inUnits_up c]
      exact hn
  · have c : ¬ 0 ≤ d := fun z => c (decide_eq_true z)
    refine ⟨_, rfl, p, _, 0, _, rfl, rfl, SqT.of hp, rfl, _, rfl, p, _, 1, _, rfl, rfl, SqT.of hp, rfl, _, rfl, _, _, rfl, rfl, (0 - d).toNat, congrArg (fun z => [V.int z]) (by omega), by omega, ?_⟩
    refine ⟨_, _, rfl, rfl, mulW (den_abs x b2) (t1 (0 - d) (by omega) (by omega)) (by decide) (by decide), ?_⟩
    refine ⟨_, _, rfl, Int.mul_pos (Ow.den_pos x) (Ow.tenN_pos (0 - d)), ?_, fun H' r S1 hn => ?_⟩
    · have e := Nat.mul_lt_mul'' b2 (t1 (0 - d) (by omega) (by omega))
      rw [← Nat.pow_add] at e
      refine Nat.lt_of_le_of_lt (Nat.le_of_eq ?_) (Nat.lt_trans e (Nat.pow_lt_pow_right (by decide) (by decide)))
      rw [← Int.natAbs_natCast x.den, ← Int.natAbs_mul]
      rfl
    · refine k H' r S1 ?_
      rw [← Ow.inUnits_down c]
      exact hn
def spOf_units : Sp := fun vs H Q _ => ∃ n d : Int, vs = [.int n, .int d] ∧ -60 ≤ d ∧ d ≤ 60 ∧ n.natAbs < 2 ^ 39000 ∧ ∀ H' r, Same H H' → NumAt H' r (EbNum.worth d n) → Q (.ref r) H'
theorem sc_of_units : FnScope ["units", "place"] ["units", "place"] (defScope s_of_units) := ⟨rfl, rfl, rfl, by decide +kernel, rfl, by decide +kernel, by decide +kernel⟩
theorem worth_siz {m : Nat} {n d : Int} (h : n.natAbs < 2 ^ m) (h1 : -60 ≤ d) (h2 : d ≤ 60) : Siz (m + 200) 200 (EbNum.worth d n) := by
  by_cases c : 0 ≤ d
  · rw [← Ow.ofUnits_up c]
    have z := Ow.nof_fit (t := n) (b := Ow.tenN d) (Ow.tenN_pos d) (k := m) (n := 200) h (tenN_lt d h1 h2)
    exact ⟨Nat.lt_of_lt_of_le z.1 (Nat.pow_le_pow_right (by decide) (by omega)), z.2⟩
  · refine ⟨?_, ?_⟩
    · rw [Ow.ofUnits_down_num c, Int.natAbs_mul]
      exact mul_pow h (tenN_lt (0 - d) (by omega) (by omega))
    · rw [Ow.ofUnits_down_den c]
      exact Nat.one_lt_two_pow (by decide)
theorem ok_of_units (S : Src K mg "of_units" s_of_units) (Z : Def P w K mg base CX0 "ten_to" 1 ["many"] spTen_to) (G : Def P w K mg base CX0 "number_of" 2 ["top", "bottom"] spNumber_of) : Def P w K mg base CX0 "of_units" 3 ["units", "place"] spOf_units := by
  refine S.def (fun _ _ _ _ _ _ us hl => match us, hl with | [_, _], _ => rfl) fun f fd _ F => F.ok sc_of_units (fun vs H Q E h => ?_) fun cdv A outer s H vs Q E hr h => ?_
  · obtain ⟨n, d, rfl, _⟩ := h
    rfl
  refine ⟨_, pss_cons (ps_if (pt_cmpR op_ge (pv 1) pe_int (nomark _)) (pss_one (ps_ret (by exact call0 G hr (pa_cons (pv 0) (pa_cons (by exact call0 Z hr (pa_cons (pv 1) pa_nil)) pa_nil))))) pss_nil)
    (pss_one (ps_ret (pe_tup (pa_cons (pe_op op_mulW (pv 0) (by exact call0 Z hr (pa_cons (pe_op op_sub pe_int (pv 1)) pa_nil))) (pa_cons pe_int pa_nil))))), ?_⟩
  obtain ⟨n, d, rfl, h1, h2, hn, k⟩ := h
  refine ⟨_, rfl, _, _, rfl, rfl, _, rfl, ?_⟩
  refine ite2 (fun c => ?_) fun c => ?_
  · have c : 0 ≤ d := of_decide_eq_true c
    refine ⟨_, rfl, _, rfl, d.toNat, congrArg (fun z => [V.int z]) (by omega), by omega, ?_⟩
    refine ⟨n, Ow.tenN d, rfl, Ow.tenN_pos d, Nat.lt_trans (tenN_lt d h1 h2) (Nat.pow_lt_pow_right (by decide) (by decide)), fun H' r S1 hr' => ?_⟩
    rw [Ow.ofUnits_up c] at hr'
    exact k H' r S1 hr'
  · have c : ¬ 0 ≤ d := fun z => c (decide_eq_true z)
    refine ⟨_, rfl, _, rfl, _, _, rfl, rfl, (0 - d).toNat, congrArg (fun z => [V.int z]) (by omega), by omega, ?_⟩
    refine ⟨_, _, rfl, rfl, mulW hn (tenN_lt (0 - d) (by omega) (by omega)) (by decide) (by decide), (by show 2 ≤ sizeLine; decide), fun r hr' => ?_⟩
    refine k _ r (same_upd hr') ?_
    unfold NumAt
    rw [Ow.ofUnits_down_num c, Ow.ofUnits_down_den c]
    exact upd_same
theorem sc_BadPlace_init : FnScope ["self", "at"] ["self", "at"] (defScope s_BadPlace_init) := ⟨rfl, rfl, rfl, by decide +kernel, rfl, by decide +kernel, by decide +kernel⟩
theorem ok_BadPlace_init {fI : Addr} {fd : FuncData} (F : Fun K "__init__" "BadPlace.__init__" s_BadPlace_init fI fd) (T : Bi mg) (cl : Cls K CB) (n1 : PySem.W.findIn K (.ref CB) "at" = some none) :
    FnOk P w K mg base CX0 1 fI fd ["self", "at"] (spInitB CB) ∧ L2H.FnH P w K mg base CX0 1 fI fd ["self", "at"] (spInitB CB) := by
  have read : ∀ (vs : List V) (H : Hp) (Q : VK) (E : XK), spInitB CB vs H Q E → (tSeq (tDrop (tInit K (tCons (tVar 0) (tCons (tC (.str "a byte that can't stand there")) tNil)))) (tPut K "at" (tVar 0) (tVar 1))) { nx := fun _ H' => Q .non H', rt := Q } (L2.start ["self", "at"] vs) H := by
    intro vs H Q E h
    obtain ⟨a, c, rfl, ha, k⟩ := h
    refine ⟨_, rfl, a, CB, _, rfl, (by show 1 ≤ 1000; decide), cl, ha, ?_⟩
    refine ⟨_, rfl, _, rfl, a, CB, rfl, cl, n1, .inl ⟨ha, fun dx hd hne => ?_⟩⟩
    exact k dx hd hne
  refine ⟨F.ok sc_BadPlace_init (fun vs H Q E h => ?_) fun cdv A outer s H vs Q E hr h => ⟨_, pss_cons (ps_expr (pe_init (by rfl) T.exc (pa_cons (pv 0) (pa_cons pe_str pa_nil)))) (pss_one (ps_put (pv 0) (pv 1))), read vs H Q E h⟩,
    okH F sc_BadPlace_init (fun vs H Q E h => ?_) fun cdv A outer s H vs Q E p hot hr h => ⟨_, pss_cons (ps_expr (pe_init (by rfl) T.exc (pa_cons (pv 0) (pa_cons pe_str pa_nil)))) (pss_one (ps_put (pv 0) (pv 1))), read vs H Q E h⟩⟩
  · obtain ⟨a, c, rfl, _⟩ := h
    rfl
  · obtain ⟨a, c, rfl, _⟩ := h
    rfl
def spIs_digit_at (K : PySem.W.Frag) : Sp := fun vs H Q _ => ∃ (a : Addr) (s : EbNum.Bytes) (p : Nat), vs = [.ref a, .int (p : Int)] ∧ SqL K H a (bv s) ∧ Q (.bl (Ow.isD s p)) H
theorem sc_is_digit_at : FnScope ["text", "at"] ["text", "at"] (defScope s_is_digit_at) := ⟨rfl, rfl, rfl, by decide +kernel, rfl, by decide +kernel, by decide +kernel⟩
theorem ok_is_digit_at (S : Src K mg "is_digit_at" s_is_digit_at) (T : Bi mg) (c0 : CI mg "DIGIT_0_reading" 48) (c9 : CI mg "DIGIT_9" 57) : Def P w K mg base CX0 "is_digit_at" 1 ["text", "at"] (spIs_digit_at K) := by
  refine S.def (fun _ _ _ _ _ _ us hl => match us, hl with | [_, _], _ => rfl) fun f fd _ F => F.ok sc_is_digit_at (fun vs H Q E h => ?_) fun cdv A outer s H vs Q E hr h => ?_
  · obtain ⟨a, s, p, rfl, _⟩ := h
    rfl
  refine ⟨_, pss_one (ps_ret (pe_and (pe_cmpR op_lt (pv 1) (pe_callB call_len_seq (by rfl) T.len PySem.boot_len (pa_cons (pv 0) pa_nil)) (nomark _))
    (pe_one (pe_chain op_le op_le (pe_ci c0) (pe_ix ix_list (pv 0) (pv 1) (fun _ _ => rfl)) (pe_ci c9))))), ?_⟩
  obtain ⟨a, s, p, rfl, hs, k⟩ := h
  refine ⟨_, rfl, _, rfl, a, _, rfl, .inl hs, _, _, rfl, rfl, _, rfl, ?_⟩
  rw [bv_length]
  unfold Ow.isD at k
  refine ite2 (fun c => ?_) fun c => ?_
  · have c : p < s.length := by have := of_decide_eq_true c; omega
    have hg : s[p]? = some s[p] := List.getElem?_eq_getElem c
    rw [hg] at k
    have hb : (bv s)[p]? = some (.int ((s[p].toNat : Nat) : Int)) := by rw [bv_get, hg]; rfl
    refine ⟨_, rfl, _, rfl, a, _, _, _, rfl, rfl, hs, atI_nat hb, _, _, rfl, rfl, _, rfl, ?_⟩
    have k : Q (.bl (decide (48 ≤ s[p].toNat) && decide (s[p].toNat ≤ 57))) H := k
    refine ite2 (fun d => ?_) fun d => ?_
    · have d : 48 ≤ s[p].toNat := by have := of_decide_eq_true d; omega
      refine ⟨_, _, rfl, rfl, ?_⟩
      rw [decide_eq_true d, Bool.true_and] at k
      have e : decide (((s[p].toNat : Nat) : Int) ≤ 57) = decide (s[p].toNat ≤ 57) := by
        by_cases z : s[p].toNat ≤ 57
        · rw [decide_eq_true z, decide_eq_true (by omega)]
        · rw [decide_eq_false z, decide_eq_false (by omega)]
      show Q (.bl (decide (((s[p].toNat : Nat) : Int) ≤ 57))) H
      rw [e]
      exact k
    · have d : ¬ 48 ≤ s[p].toNat := fun z => d (decide_eq_true (by omega))
      rw [decide_eq_false d, Bool.false_and] at k
      exact k
  · have c : ¬ p < s.length := fun z => c (decide_eq_true (by omega))
    rw [List.getElem?_eq_none_iff.mpr (by omega)] at k
    exact k
def spDigits_end (K : PySem.W.Frag) (CB : Addr) : Sp := fun vs H Q E => ∃ (a : Addr) (s : EbNum.Bytes) (p : Nat), vs = [.ref a, .int (p : Int)] ∧ SqL K H a (bv s) ∧
  (∀ k, Ow.endOf s p = .error k → Bad CB H E k) ∧ (∀ e : Nat, Ow.endOf s p = .ok e → Q (.int (e : Int)) H)
theorem sc_digits_end : FnScope ["text", "at", "end"] ["text", "at"] (defScope s_digits_end) := ⟨rfl, rfl, rfl, by decide +kernel, rfl, by decide +kernel, by decide +kernel⟩
theorem ok_digits_end (S : Src K mg "digits_end" s_digits_end) (D : Def P w K mg base CX0 "is_digit_at" 1 ["text", "at"] (spIs_digit_at K)) (O : Own K mg base P w "BadPlace" CB ["self", "at"] 1 (spInitB CB)) (c : CI mg "MOST_DIGITS" 1300) :
    Def P w K mg base (L2N.CX P w) "digits_end" 3 ["text", "at"] (spDigits_end K CB) := by
  refine S.def (fun _ _ _ _ _ _ us hl => match us, hl with | [_, _], _ => rfl) fun f fd _ F => okN F sc_digits_end (fun vs H Q E h => ?_) fun cdv A outer s H vs Q E hr h => ?_
  · obtain ⟨a, s, p, rfl, _⟩ := h
    rfl
  refine ⟨_, pss_cons (ps_if (pt_not (pt_val (by exact call0 D hr (pa_cons (pv 0) (pa_cons (pv 1) pa_nil))))) (pss_one (L2N.ps_raise rfl (L2N.takes_of rfl rfl rfl rfl) (L2H.PMk5.pmk (by exact O.cold hr (pa_cons (pv 1) pa_nil))))) pss_nil)
    (pss_cons (ps_set (i := 2) sc_digits_end.nd rfl (Or.inl rfl) (pv 1))
    (pss_cons (ps_while (passes_of rfl) (pt_val (by exact call0 D hr (pa_cons (pv 0) (pa_cons (pv 2) pa_nil))))
      (pss_cons (ps_if (pt_cmpR op_eq (pe_op op_sub (pv 2) (pv 1)) (pe_ci c) (nomark _)) (pss_one (L2N.ps_raise rfl (L2N.takes_of rfl rfl rfl rfl) (L2H.PMk5.pmk (by exact O.cold hr (pa_cons (pv 2) pa_nil))))) pss_nil)
      (pss_one (ps_aug (i := 2) sc_digits_end.nd rfl (Or.inl rfl) pe_int ip_add))))
    (pss_one (ps_ret (pv 2))))), ?_⟩
  obtain ⟨a, s, p, rfl, hs, kE, kQ⟩ := h
  have e0 : Ow.endOf s p = if Ow.runAt s p = [] then .error p else if 1300 < (Ow.runAt s p).length then .error (p + 1300) else .ok (p + (Ow.runAt s p).length) := rfl
  refine ⟨_, rfl, _, rfl, a, s, p, rfl, hs, _, rfl, ?_⟩
  cases c1 : Ow.isD s p with
  | false =>
    have h1 := (Ow.isD_nil s p).mp c1
    rw [h1, if_pos rfl] at e0
    exact iteT ⟨_, rfl, (by show 1 ≤ 1000; decide), bad_made (kE p e0)⟩
  | true =>
    have h1 : ¬ Ow.runAt s p = [] := fun z => by
      rw [(Ow.isD_nil s p).mpr z] at c1
      cases c1
    rw [if_neg h1] at e0
    refine iteF ?_
    refine ⟨_, rfl, ?_⟩
    refine ⟨fun m σ H' => ∃ i : Nat, i ≤ (Ow.runAt s p).length ∧ i ≤ 1300 ∧ m = 1300 - i ∧ σ = [some (.ref a), some (.int (p : Int)), some (.int ((p + i : Nat) : Int))] ∧ H' = H, ⟨_, 0, Nat.zero_le _, Nat.zero_le _, rfl, rfl, rfl⟩, ?_⟩
    rintro m σ H' ⟨i, hi, hi2, rfl, rfl, rfl⟩
    refine ⟨_, rfl, _, rfl, a, s, p + i, rfl, hs, _, rfl, ?_⟩
    rw [Ow.isD_run s p i hi]
    refine ite2 (fun d => ?_) fun d => ?_
    · have d := of_decide_eq_true d
      refine ⟨fun σ2 H2 => ∃ j : Nat, j = i + 1 ∧ i < 1300 ∧ σ2 = [some (.ref a), some (.int (p : Int)), some (.int ((p + j : Nat) : Int))] ∧ H2 = H', ?_, ?_⟩
      · rintro σ2 H2 ⟨j, rfl, hlt, rfl, rfl⟩
        exact ⟨_, by omega, i + 1, d, hlt, rfl, rfl, rfl⟩
      · refine ⟨_, rfl, _, rfl, _, _, rfl, rfl, rfl, _, rfl, ?_⟩
        have ee : decide (V.int (((p + i : Nat) : Int) - (p : Int)) = V.int 1300) = decide (i = 1300) := by
          by_cases z : i = 1300
          · rw [decide_eq_true z]
            exact decide_eq_true (congrArg V.int (by omega))
          · rw [decide_eq_false z]
            exact decide_eq_false fun q => z (by have := V.int.inj q; omega)
        rw [ee]
        refine ite2 (fun z => ?_) fun z => ?_
        · have z : i = 1300 := of_decide_eq_true z
          subst z
          rw [if_pos d] at e0
          exact ⟨_, rfl, (by show 1 ≤ 1000; decide), bad_made (kE _ e0)⟩
        · have z : ¬ i = 1300 := fun q => z (decide_eq_true q)
          refine ⟨_, rfl, _, _, rfl, rfl, i + 1, rfl, by omega, ?_, rfl⟩
          show [some (V.ref a), some (V.int (p : Int)), some (V.int (((p + i : Nat) : Int) + 1))] = _
          have q : ((p + i : Nat) : Int) + 1 = ((p + (i + 1) : Nat) : Int) := by omega
          rw [q]
    · have d : ¬ i < (Ow.runAt s p).length := fun q => d (decide_eq_true q)
      have e : i = (Ow.runAt s p).length := by omega
      rw [if_neg (by omega)] at e0
      refine ⟨_, rfl, ?_⟩
      rw [e]
      exact kQ _ e0
def spWhole_of (K : PySem.W.Frag) : Sp := fun vs H Q _ => ∃ (a : Addr) (b : EbNum.Bytes), vs = [.ref a] ∧ SqL K H a (bv b) ∧ (∀ c ∈ b, EbNum.isDigit c = true) ∧ Q (.int ((EbNum.number b : Nat) : Int)) H
theorem sc_whole_of : FnScope ["digits", "found", "digit"] ["digits"] (defScope s_whole_of) := ⟨rfl, rfl, rfl, by decide +kernel, rfl, by decide +kernel, by decide +kernel⟩
theorem ok_whole_of (S : Src K mg "whole_of" s_whole_of) (c0 : CI mg "DIGIT_0_reading" 48) : Def P w K mg base CX0 "whole_of" 1 ["digits"] (spWhole_of K) := by
  refine S.def (fun _ _ _ _ _ _ us hl => match us, hl with | [_], _ => rfl) fun f fd _ F => F.ok sc_whole_of (fun vs H Q E h => ?_) fun cdv A outer s H vs Q E hr h => ?_
  · obtain ⟨a, b, rfl, _⟩ := h
    rfl
  refine ⟨_, pss_cons (ps_set (i := 1) sc_whole_of.nd rfl (Or.inl rfl) pe_int)
    (pss_cons (ps_for PassesOwn.never rfl (pi_list (pv 0)) (pg_name (i := 2) sc_whole_of.nd rfl (Or.inl rfl)) (pss_one (ps_set (i := 1) sc_whole_of.nd rfl (Or.inl rfl) (pe_op op_sub (pe_op op_add (pe_op op_mul pe_int (pv 1)) (pv 2)) (pe_ci c0)))))
    (pss_one (ps_ret (pv 1)))), ?_⟩
  obtain ⟨a, b, rfl, hs, hd, k⟩ := h
  refine ⟨_, rfl, a, rfl, ⟨_, hs⟩, for_list (K := K) (a := a) (xs := bv b) (fun i σ H' => (∃ v, σ = [some (.ref a), some (.int ((EbNum.number (b.take i) : Nat) : Int)), v]) ∧ H' = H) ⟨⟨_, rfl⟩, rfl⟩ (fun i σ H' _ h => by rw [h.2]; exact hs) ?_ ?_⟩
  · rintro i x σ H' hx ⟨⟨v, rfl⟩, rfl⟩
    rw [bv_get] at hx
    cases e : b[i]? with
    | none =>
      rw [e] at hx
      cases hx
    | some c =>
      rw [e] at hx
      have hx := Option.some.inj hx
      subst hx
      have hc := Ow.digit_ge (hd c (List.mem_of_getElem? e))
      refine ⟨_, rfl, _, _, rfl, rfl, .inl ⟨by decide, by decide⟩, _, rfl, _, _, rfl, rfl, _, _, rfl, rfl, ⟨some (V.int ((c.toNat : Nat) : Int)), ?_⟩, rfl⟩
      show [some (V.ref a), some (V.int (10 * ((EbNum.number (b.take i) : Nat) : Int) + ((c.toNat : Nat) : Int) - 48)), some (V.int ((c.toNat : Nat) : Int))] = _
      rw [Ow.number_take b i c e]
      have q : 10 * ((EbNum.number (b.take i) : Nat) : Int) + ((c.toNat : Nat) : Int) - 48 = ((10 * EbNum.number (b.take i) + (c.toNat - 48) : Nat) : Int) := by omega
      rw [q]
  · rintro σ H' ⟨⟨v, rfl⟩, rfl⟩
    refine ⟨_, rfl, ?_⟩
    rw [bv_length, List.take_length]
    exact k
def spBottom_at (K : PySem.W.Frag) (CB : Addr) : Sp := fun vs H Q E => ∃ (a : Addr) (s : EbNum.Bytes) (p : Nat), vs = [.ref a, .int (p : Int)] ∧ SqL K H a (bv s) ∧ p ≤ s.length ∧
  (∀ k, Ow.endOf s p = .error k → Bad CB H E k) ∧ (∀ e : Nat, Ow.endOf s p = .ok e → EbNum.number (Ow.slice s p e) = 0 → Bad CB H E p) ∧
  (∀ e : Nat, Ow.endOf s p = .ok e → ¬ EbNum.number (Ow.slice s p e) = 0 → ∀ H' t, Same H H' → H' t = some (.tup [.int ((EbNum.number (Ow.slice s p e) : Nat) : Int), .int (e : Int)]) → Q (.ref t) H')
theorem sc_bottom_at : FnScope ["text", "at", "end", "bottom"] ["text", "at"] (defScope s_bottom_at) := ⟨rfl, rfl, rfl, by decide +kernel, rfl, by decide +kernel, by decide +kernel⟩
theorem ok_bottom_at (S : Src K mg "bottom_at" s_bottom_at) (D : Def P w K mg base (L2N.CX P w) "digits_end" 3 ["text", "at"] (spDigits_end K CB)) (N : Def P w K mg base CX0 "whole_of" 1 ["digits"] (spWhole_of K)) (O : Own K mg base P w "BadPlace" CB ["self", "at"] 1 (spInitB CB)) :
    Def P w K mg base (L2N.CX P w) "bottom_at" 4 ["text", "at"] (spBottom_at K CB) := by
  refine S.def (fun _ _ _ _ _ _ us hl => match us, hl with | [_, _], _ => rfl) fun f fd _ F => okN F sc_bottom_at (fun vs H Q E h => ?_) fun cdv A outer s H vs Q E hr h => ?_
  · obtain ⟨a, s, p, rfl, _⟩ := h
    rfl
  refine ⟨_, pss_cons (ps_set (i := 2) sc_bottom_at.nd rfl (Or.inl rfl) (by exact callS D hr (fun σ => L2N.passAt (L2N.takes_of rfl rfl rfl rfl) σ) (pa_cons (pv 0) (pa_cons (pv 1) pa_nil))))
    (pss_cons (ps_set (i := 3) sc_bottom_at.nd rfl (Or.inl rfl) (by exact call0 N hr (pa_cons (pe_slice sl_list (pv 0) (po_some (pv 1)) (po_some (pv 2))) pa_nil)))
    (pss_cons (ps_if (pt_cmpR op_eq (pv 3) pe_int (nomark _)) (pss_one (L2N.ps_raise rfl (L2N.takes_of rfl rfl rfl rfl) (L2H.PMk5.pmk (by exact O.cold hr (pa_cons (pv 1) pa_nil))))) pss_nil)
    (pss_one (ps_ret (pe_tup (pa_cons (pv 3) (pa_cons (pv 2) pa_nil))))))), ?_⟩
  obtain ⟨a, s, p, rfl, hs, hp, kE, kZ, kQ⟩ := h
  refine ⟨_, rfl, _, rfl, a, s, p, rfl, hs, kE, fun e he => ?_⟩
  obtain ⟨h1, h2⟩ := Ow.endOf_le hp he
  have hsl : Ow.slice s p e = Ow.runAt s p := by
    rw [(Ow.endOf_ok he).1]
    exact Ow.slice_run s p
  refine ⟨_, rfl, _, rfl, _, rfl, _, rfl, _, rfl, a, _, rfl, hs, fun l hl => ?_⟩
  rw [cut_slice s (Nat.le_of_lt h2) h1]
  refine ⟨l, Ow.slice s p e, rfl, SqL.of upd_same, by rw [hsl]; exact Ow.runAt_digits s p, ?_⟩
  refine ⟨_, rfl, rfl, _, rfl, ?_⟩
  have ee : decide (V.int ((EbNum.number (Ow.slice s p e) : Nat) : Int) = V.int 0) = decide (EbNum.number (Ow.slice s p e) = 0) := by
    by_cases z : EbNum.number (Ow.slice s p e) = 0
    · rw [decide_eq_true z, z]
      rfl
    · rw [decide_eq_false z]
      exact decide_eq_false fun q => z (by have := V.int.inj q; omega)
  rw [ee]
  refine ite2 (fun z => ?_) fun z => ?_
  · exact ⟨_, rfl, (by show 1 ≤ 1000; decide), bad_made ((kZ e he (of_decide_eq_true z)).same (same_upd hl))⟩
  · have z : ¬ EbNum.number (Ow.slice s p e) = 0 := fun q => z (decide_eq_true q)
    refine ⟨_, rfl, _, rfl, (by show 2 ≤ sizeLine; decide), fun t ht => ?_⟩
    exact kQ e he z _ t ((same_upd hl).trans (same_upd ht)) upd_same
def spNumber_at (K : PySem.W.Frag) (CB : Addr) : Sp := fun vs H Q E => ∃ (a : Addr) (s : EbNum.Bytes) (p : Nat) (sg : Bool), vs = [.ref a, .int (p : Int), .bl sg] ∧ SqL K H a (bv s) ∧ p ≤ s.length ∧
  (∀ k, Ow.numM s p sg = .error k → Bad CB H E k) ∧
  (∀ x, Ow.numM s p sg = .ok x → Fit 9000 x.1 ∧ x.1.den < 2 ^ 4400 → p ≤ x.2 → x.2 ≤ s.length → ∀ H' t n, Same H H' → H' t = some (.tup [.ref n, .int ((x.2 : Nat) : Int)]) → NumAt H' n x.1 → Q (.ref t) H')
theorem sc_number_at : FnScope ["text", "at", "is_signed", "sign", "end", "top", "bottom", "first"] ["text", "at", "is_signed"] (defScope s_number_at) := ⟨rfl, rfl, rfl, by decide +kernel, rfl, by decide +kernel, by decide +kernel⟩
theorem dec_byte (c : UInt8) (k : Nat) (hk : k < 256) : decide (V.int ((c.toNat : Nat) : Int) = V.int (k : Int)) = decide (some c = some (UInt8.ofNat k)) := by
  have e : (UInt8.ofNat k).toNat = k := by
    rw [UInt8.toNat_ofNat']
    exact Nat.mod_eq_of_lt hk
  by_cases z : c = UInt8.ofNat k
  · subst z
    rw [e, decide_eq_true rfl, decide_eq_true rfl]
  · rw [decide_eq_false (fun q => z (Option.some.inj q)), decide_eq_false]
    intro q
    refine z (UInt8.toNat_inj.mp ?_)
    rw [e]
    have := V.int.inj q
    omega
theorem sgn_abs (m : Bool) (t : Int) : (Ow.sgn m * t).natAbs = t.natAbs := by
  cases m
  · show (1 * t).natAbs = _
    rw [Int.one_mul]
  · show (-1 * t).natAbs = _
    rw [Int.neg_mul, Int.one_mul, Int.natAbs_neg]
theorem ok_number_at (S : Src K mg "number_at" s_number_at) (T : Bi mg) (D : Def P w K mg base (L2N.CX P w) "digits_end" 3 ["text", "at"] (spDigits_end K CB)) (N : Def P w K mg base CX0 "whole_of" 1 ["digits"] (spWhole_of K))
    (B : Def P w K mg base (L2N.CX P w) "bottom_at" 4 ["text", "at"] (spBottom_at K CB)) (Z : Def P w K mg base CX0 "ten_to" 1 ["many"] spTen_to) (G : Def P w K mg base CX0 "number_of" 2 ["top", "bottom"] spNumber_of)
    (cH : CI mg "HYPHEN_reading" 45) (cP : CI mg "POINT_reading" 46) (cS : CI mg "STROKE" 47) :
    Def P w K mg base (L2N.CX P w) "number_at" 5 ["text", "at", "is_signed"] (spNumber_at K CB) := by
  refine S.def (fun _ _ _ _ _ _ us hl => match us, hl with | [_, _, _], _ => rfl) fun f fd _ F => okN F sc_number_at (fun vs H Q E h => ?_) fun cdv A outer s H vs Q E hr h => ?_
  · obtain ⟨a, s, p, sg, rfl, _⟩ := h
    rfl
  have nd := sc_number_at.nd
  refine ⟨_, pss_cons (ps_set (i := 3) nd rfl (Or.inl rfl) pe_int)
    (C8.pss_cut (ps_if (PW.pt (pw_and (pt_val (pv 2)) (pw_and (pt_cmpR op_lt (pv 1) (pe_callB call_len_seq (by rfl) T.len PySem.boot_len (pa_cons (pv 0) pa_nil)) (nomark _)) (pw_and1 (pt_cmpR op_eq (pe_ix ix_list (pv 0) (pv 1) (fun _ _ => rfl)) (pe_ci cH) (nomark _))))))
      (pss_cons (ps_set (i := 3) nd rfl (Or.inl rfl) (pe_un un_neg pe_int)) (pss_one (ps_aug (i := 1) nd rfl (Or.inl rfl) pe_int ip_add))) pss_nil)
    (pss_cons (ps_set (i := 4) nd rfl (Or.inl rfl) (by exact callS D hr (fun σ => L2N.passAt (L2N.takes_of rfl rfl rfl rfl) σ) (pa_cons (pv 0) (pa_cons (pv 1) pa_nil))))
    (pss_cons (ps_set (i := 5) nd rfl (Or.inl rfl) (by exact call0 N hr (pa_cons (pe_slice sl_list (pv 0) (po_some (pv 1)) (po_some (pv 4))) pa_nil)))
    (pss_cons (ps_set (i := 6) nd rfl (Or.inl rfl) pe_int)
    (C8.pss_cut (ps_if (PW.pt (pw_and (pt_cmpR op_lt (pv 4) (pe_callB call_len_seq (by rfl) T.len PySem.boot_len (pa_cons (pv 0) pa_nil)) (nomark _)) (pw_and1 (pt_cmpR op_eq (pe_ix ix_list (pv 0) (pv 4) (fun _ _ => rfl)) (pe_ci cP) (nomark _)))))
      (pss_cons (ps_set (i := 7) nd rfl (Or.inl rfl) (pe_op op_add (pv 4) pe_int))
      (pss_cons (ps_set (i := 4) nd rfl (Or.inl rfl) (by exact callS D hr (fun σ => L2N.passAt (L2N.takes_of rfl rfl rfl rfl) σ) (pa_cons (pv 0) (pa_cons (pv 7) pa_nil))))
      (pss_cons (ps_set (i := 6) nd rfl (Or.inl rfl) (by exact call0 Z hr (pa_cons (pe_op op_sub (pv 4) (pv 7)) pa_nil)))
      (pss_one (ps_set (i := 5) nd rfl (Or.inl rfl) (pe_op op_add (pe_op op_mulW (pv 5) (pv 6)) (by exact call0 N hr (pa_cons (pe_slice sl_list (pv 0) (po_some (pv 7)) (po_some (pv 4))) pa_nil))))))))
      (pss_one (ps_if (PW.pt (pw_and (pt_cmpR op_lt (pv 4) (pe_callB call_len_seq (by rfl) T.len PySem.boot_len (pa_cons (pv 0) pa_nil)) (nomark _)) (pw_and1 (pt_cmpR op_eq (pe_ix ix_list (pv 0) (pv 4) (fun _ _ => rfl)) (pe_ci cS) (nomark _)))))
        (pss_one (ps_asg (by exact callS B hr (fun σ => L2N.passAt (L2N.takes_of rfl rfl rfl rfl) σ) (pa_cons (pv 0) (pa_cons (pe_op op_add (pv 4) pe_int) pa_nil))) (pg_tup rfl (pgs_cons (pg_name (i := 6) nd rfl (Or.inl rfl)) (pgs_cons (pg_name (i := 4) nd rfl (Or.inl rfl)) pgs_nil)))))
        pss_nil)))
    (pss_one (ps_ret (pe_tup (pa_cons (by exact call0 G hr (pa_cons (pe_op op_mul (pv 3) (pv 5)) (pa_cons (pv 6) pa_nil))) (pa_cons (pv 4) pa_nil)))))))))), ?_⟩
  obtain ⟨a, s, p, sg, rfl, hs, hp, kE, kQ⟩ := h
  -- behind the sign: whether there is one, where the digits begin
  refine ⟨fun σ H' => ∃ m : Bool, m = (sg && decide (s[p]? = some 45)) ∧ H' = H ∧ σ = [some (.ref a), some (.int (((if m then p + 1 else p) : Nat) : Int)), some (.bl sg), some (.int (Ow.sgn m)), none, none, none, none], ?_, ?_⟩
  · refine ⟨_, rfl, sg, rfl, ?_⟩
    cases sg with
    | false => exact iteF (iteF ⟨false, rfl, rfl, rfl⟩)
    | true =>
      refine iteT ?_
      refine ⟨_, rfl, _, rfl, a, _, rfl, .inl hs, _, _, rfl, rfl, _, rfl, ?_⟩
      rw [bv_length]
      refine ite2 (fun c => ?_) fun c => ?_
      · have c : p < s.length := by have := of_decide_eq_true c; omega
        have hg : s[p]? = some s[p] := List.getElem?_eq_getElem c
        have hb : (bv s)[p]? = some (.int ((s[p].toNat : Nat) : Int)) := by rw [bv_get, hg]; rfl
        refine ⟨_, rfl, _, rfl, a, _, _, _, rfl, rfl, hs, atI_nat hb, rfl, _, rfl, ?_⟩
        have ed := dec_byte s[p] 45 (by decide)
        rw [← hg] at ed
        refine ite2 (fun d => ?_) fun d => ?_
        · have d' := ed.symm.trans d
          refine ⟨_, rfl, _, rfl, _, _, rfl, rfl, true, ?_, rfl, ?_⟩
          · rw [Bool.true_and]
            exact d'.symm
          · show [some (V.ref a), some (V.int ((p : Int) + 1)), some (V.bl true), some (V.int (-1)), none, none, none, none] = _
            rfl
        · have d' := ed.symm.trans (Bool.eq_false_iff.mpr d)
          exact ⟨false, by rw [Bool.true_and]; exact d'.symm, rfl, rfl⟩
      · have c : ¬ p < s.length := fun z => c (decide_eq_true (by omega))
        refine iteF ⟨false, ?_, rfl, rfl⟩
        rw [List.getElem?_eq_none_iff.mpr (by omega)]
        rfl
  rintro σ H1 ⟨m, hm, rfl, rfl⟩
  have eN : Ow.numM s p sg = (match Ow.endOf s (if m then p + 1 else p) with
    | .error k => .error k
    | .ok e =>
      if s[e]? = some 46 then
        match Ow.endOf s (e + 1) with
        | .error k => .error k
        | .ok e2 => .ok (Ow.nof (Ow.sgn m * (((EbNum.number (Ow.slice s (if m then p + 1 else p) e) : Nat) : Int) * ((10 ^ (e2 - (e + 1)) : Nat) : Int) + ((EbNum.number (Ow.slice s (e + 1) e2) : Nat) : Int))) ((10 ^ (e2 - (e + 1)) : Nat) : Int), e2)
      else if s[e]? = some 47 then
        match Ow.endOf s (e + 1) with
        | .error k => .error k
        | .ok e2 => if EbNum.number (Ow.slice s (e + 1) e2) = 0 then .error (e + 1) else .ok (Ow.nof (Ow.sgn m * ((EbNum.number (Ow.slice s (if m then p + 1 else p) e) : Nat) : Int)) ((EbNum.number (Ow.slice s (e + 1) e2) : Nat) : Int), e2)
      else .ok (Ow.nof (Ow.sgn m * ((EbNum.number (Ow.slice s (if m then p + 1 else p) e) : Nat) : Int)) 1, e)) := by
    subst hm
    rfl
  have hq : (if m then p + 1 else p) ≤ s.length ∧ p ≤ (if m then p + 1 else p) := by
    cases m with
    | false => exact ⟨hp, Nat.le_refl _⟩
    | true =>
      have h1 := (Bool.and_eq_true_iff.mp hm.symm).2
      have h2 := of_decide_eq_true h1
      have h3 := (List.getElem?_eq_some_iff.mp h2).1
      exact ⟨h3, Nat.le_succ _⟩
  generalize (if m then p + 1 else p) = q at eN hq
  obtain ⟨hq, hpq⟩ := hq
  refine ⟨_, rfl, _, rfl, a, s, q, rfl, hs, fun k hk => ?_, fun e he => ?_⟩
  · rw [hk] at eN
    exact kE k eN
  rw [he] at eN
  dsimp only at eN
  obtain ⟨e1, e2⟩ := Ow.endOf_le hq he
  obtain ⟨r1, _, r3⟩ := Ow.endOf_ok he
  have sl1 : Ow.slice s q e = Ow.runAt s q := by
    rw [r1]
    exact Ow.slice_run s q
  have top_lt : EbNum.number (Ow.slice s q e) < 10 ^ 1300 := by
    rw [sl1]
    exact Ow.run_num s q r3
  have p5200 : (10 : Nat) ^ 1300 < 2 ^ 4400 := by decide +kernel
  have p2600 : (10 : Nat) ^ 2600 < 2 ^ 8700 := by decide +kernel
  refine ⟨_, rfl, _, rfl, _, rfl, _, rfl, _, rfl, a, _, rfl, hs, fun l hl => ?_⟩
  rw [cut_slice s (Nat.le_of_lt e2) e1]
  refine ⟨l, Ow.slice s q e, rfl, SqL.of upd_same, by rw [sl1]; exact Ow.runAt_digits s q, ?_⟩
  have S1 := same_upd (o := HO.lst (bv (Ow.slice s q e))) hl
  -- behind the point, the stroke: the top, the bottom, the end
  refine ⟨fun σ H' => ∃ (t b : Int) (e' : Nat) (v7 : Option V), Same H1 H' ∧ 0 < b ∧ t.natAbs < 2 ^ 8700 ∧ b.natAbs < 2 ^ 4400 ∧ p ≤ e' ∧ e' ≤ s.length ∧ Ow.numM s p sg = .ok (Ow.nof (Ow.sgn m * t) b, e') ∧
    σ = [some (.ref a), some (.int (q : Int)), some (.bl sg), some (.int (Ow.sgn m)), some (.int (e' : Int)), some (.int t), some (.int b), v7], ?_, ?_⟩
  · refine ⟨_, rfl, _, rfl, a, _, rfl, .inl (S1.seq hs), _, _, rfl, rfl, _, rfl, ?_⟩
    rw [bv_length]
    have last : ¬ s[e]? = some 46 → ¬ s[e]? = some 47 → ∃ (t b : Int) (e' : Nat) (v7 : Option V), Same H1 (upd H1 l (.lst (bv (Ow.slice s q e)))) ∧ 0 < b ∧ t.natAbs < 2 ^ 8700 ∧ b.natAbs < 2 ^ 4400 ∧ p ≤ e' ∧ e' ≤ s.length ∧ Ow.numM s p sg = .ok (Ow.nof (Ow.sgn m * t) b, e') ∧
        [some (V.ref a), some (V.int (q : Int)), some (V.bl sg), some (V.int (Ow.sgn m)), some (V.int (e : Int)), some (V.int ((EbNum.number (Ow.slice s q e) : Nat) : Int)), some (V.int 1), (none : Option V)] =
        [some (.ref a), some (.int (q : Int)), some (.bl sg), some (.int (Ow.sgn m)), some (.int (e' : Int)), some (.int t), some (.int b), v7] := fun n6 n7 => by
      rw [if_neg n6, if_neg n7] at eN
      refine ⟨_, 1, e, none, S1, by decide, ?_, by decide, by omega, e1, eN, rfl⟩
      rw [Int.natAbs_natCast]
      exact Nat.lt_trans (Nat.lt_trans top_lt p5200) (Nat.pow_lt_pow_right (by decide) (by decide))
    refine ite2 (fun c => ?_) fun c => ?_
    · have c : e < s.length := by have := of_decide_eq_true c; omega
      have hg : s[e]? = some s[e] := List.getElem?_eq_getElem c
      have hb : (bv s)[e]? = some (.int ((s[e].toNat : Nat) : Int)) := by rw [bv_get, hg]; rfl
      have ed6 := dec_byte s[e] 46 (by decide)
      have ed7 := dec_byte s[e] 47 (by decide)
      rw [← hg] at ed6 ed7
      refine ⟨_, rfl, _, rfl, a, _, _, _, rfl, rfl, S1.seq hs, atI_nat hb, rfl, _, rfl, ?_⟩
      refine ite2 (fun d => ?_) fun d => ?_
      · -- a point
        have d6 : s[e]? = some 46 := of_decide_eq_true (ed6.symm.trans d)
        rw [if_pos d6] at eN
        refine ⟨_, rfl, _, _, rfl, rfl, ?_⟩
        refine ⟨_, rfl, _, rfl, a, s, e + 1, rfl, S1.seq hs, fun k hk => ?_, fun f2 hf => ?_⟩
        · rw [hk] at eN
          exact (kE k eN).same S1
        rw [hf] at eN
        dsimp only at eN
        obtain ⟨g1, g2⟩ := Ow.endOf_le (show e + 1 ≤ s.length from c) hf
        obtain ⟨t1, _, t3⟩ := Ow.endOf_ok hf
        have sl2 : Ow.slice s (e + 1) f2 = Ow.runAt s (e + 1) := by
          rw [t1]
          exact Ow.slice_run s (e + 1)
        have z1 : ((f2 : Nat) : Int) - ((e : Int) + 1) = ((f2 - (e + 1) : Nat) : Int) := by omega
        have z2 : f2 - (e + 1) ≤ 1300 := by omega
        refine ⟨_, rfl, _, rfl, _, _, rfl, rfl, f2 - (e + 1), congrArg (fun z => [V.int z]) z1, by omega, ?_⟩
        have ten_lt : 10 ^ (f2 - (e + 1)) < 2 ^ 4400 := Nat.lt_of_le_of_lt (Nat.pow_le_pow_right (by decide) z2) p5200
        refine ⟨_, rfl, _, rfl, _, _, rfl, rfl, ?_, ?_⟩
        · refine mulW (a := 4400) (b := 4400) ?_ ?_ (by decide) (by decide)
          · rw [Int.natAbs_natCast]
            exact Nat.lt_trans top_lt p5200
          · rw [Int.natAbs_natCast]
            exact ten_lt
        have z3 : (e : Int) + 1 = ((e + 1 : Nat) : Int) := by omega
        refine ⟨_, rfl, _, rfl, _, rfl, _, rfl, _, rfl, a, _, rfl, S1.seq hs, fun l2 hl2 => ?_⟩
        rw [z3, cut_slice s (Nat.le_of_lt g2) g1]
        refine ⟨l2, Ow.slice s (e + 1) f2, rfl, SqL.of upd_same, by rw [sl2]; exact Ow.runAt_digits s (e + 1), ?_⟩
        refine ⟨_, _, rfl, rfl, ?_⟩
        refine ⟨_, ((10 ^ (f2 - (e + 1)) : Nat) : Int), f2, _, S1.trans (same_upd hl2), ?_, ?_, ?_, by omega, g1, eN, rfl⟩
        · have : 0 < 10 ^ (f2 - (e + 1)) := Nat.pow_pos (by decide)
          omega
        · have n2 : EbNum.number (Ow.slice s (e + 1) f2) < 10 ^ (f2 - (e + 1)) := by
            have h3 := Ow.number_lt _ (Ow.runAt_digits s (e + 1))
            rw [← sl2] at h3
            have h4 : (Ow.slice s (e + 1) f2).length = f2 - (e + 1) := by
              rw [sl2]
              omega
            rw [h4] at h3
            exact h3
          have n3 : EbNum.number (Ow.slice s q e) * 10 ^ (f2 - (e + 1)) + EbNum.number (Ow.slice s (e + 1) f2) < 10 ^ 2600 := by
            have h5 : (EbNum.number (Ow.slice s q e) + 1) * 10 ^ (f2 - (e + 1)) ≤ 10 ^ 1300 * 10 ^ 1300 := Nat.mul_le_mul top_lt (Nat.pow_le_pow_right (by decide) z2)
            rw [← Nat.pow_add, Nat.add_mul, Nat.one_mul] at h5
            omega
          have n4 : (((EbNum.number (Ow.slice s q e) : Nat) : Int) * ((10 ^ (f2 - (e + 1)) : Nat) : Int) + ((EbNum.number (Ow.slice s (e + 1) f2) : Nat) : Int)).natAbs = EbNum.number (Ow.slice s q e) * 10 ^ (f2 - (e + 1)) + EbNum.number (Ow.slice s (e + 1) f2) := by
            rw [← Int.natCast_mul, ← Int.natCast_add, Int.natAbs_natCast]
          rw [n4]
          exact Nat.lt_trans n3 p2600
        · rw [Int.natAbs_natCast]
          exact ten_lt
      · have d6 : ¬ s[e]? = some 46 := fun z => d (ed6.trans (decide_eq_true z))
        refine ⟨_, rfl, _, rfl, a, _, rfl, .inl (S1.seq hs), _, _, rfl, rfl, _, rfl, ?_⟩
        rw [bv_length, decide_eq_true (show ((e : Nat) : Int) < ((s.length : Nat) : Int) by omega)]
        refine iteT ?_
        refine ⟨_, rfl, _, rfl, a, _, _, _, rfl, rfl, S1.seq hs, atI_nat hb, rfl, _, rfl, ?_⟩
        refine ite2 (fun d2 => ?_) fun d2 => ?_
        · -- a stroke
          have d7 : s[e]? = some 47 := of_decide_eq_true (ed7.symm.trans d2)
          rw [if_neg d6, if_pos d7] at eN
          refine ⟨_, rfl, _, rfl, _, _, rfl, rfl, a, s, e + 1, rfl, S1.seq hs, c, fun k hk => ?_, fun f2 hf hz => ?_, fun f2 hf hz H' t S2 ht => ?_⟩
          · rw [hk] at eN
            exact (kE k eN).same S1
          · rw [hf] at eN
            dsimp only at eN
            rw [if_pos hz] at eN
            exact (kE _ eN).same S1
          · rw [hf] at eN
            dsimp only at eN
            rw [if_neg hz] at eN
            obtain ⟨g1, g2⟩ := Ow.endOf_le (show e + 1 ≤ s.length from c) hf
            obtain ⟨t1, _, t3⟩ := Ow.endOf_ok hf
            have sl2 : Ow.slice s (e + 1) f2 = Ow.runAt s (e + 1) := by
              rw [t1]
              exact Ow.slice_run s (e + 1)
            refine ⟨t, _, rfl, SqT.of ht, rfl, _, _, rfl, _, _, rfl, rfl, ?_⟩
            refine ⟨_, ((EbNum.number (Ow.slice s (e + 1) f2) : Nat) : Int), f2, none, S1.trans S2, by omega, ?_, ?_, by omega, g1, eN, rfl⟩
            · rw [Int.natAbs_natCast]
              exact Nat.lt_trans (Nat.lt_trans top_lt p5200) (Nat.pow_lt_pow_right (by decide) (by decide))
            · rw [Int.natAbs_natCast, sl2]
              exact Nat.lt_trans (Ow.run_num s (e + 1) t3) p5200
        · exact last d6 fun z => d2 (ed7.trans (decide_eq_true z))
    · have c : ¬ e < s.length := fun z => c (decide_eq_true (by omega))
      have hn : s[e]? = none := List.getElem?_eq_none_iff.mpr (by omega)
      refine iteF ?_
      refine ⟨_, rfl, _, rfl, a, _, rfl, .inl (S1.seq hs), _, _, rfl, rfl, _, rfl, ?_⟩
      rw [bv_length, decide_eq_false (show ¬ ((e : Nat) : Int) < ((s.length : Nat) : Int) by omega)]
      refine iteF ?_
      exact iteF (last (by rw [hn]; exact fun z => by cases z) (by rw [hn]; exact fun z => by cases z))
  rintro σ H2 ⟨t, b, e', v7, S2, hb, ht, hbz, g0, g1, eK, rfl⟩
  refine ⟨_, rfl, _, rfl, _, _, rfl, rfl, .inl ?_, _, rfl, _, b, rfl, hb, Nat.lt_trans hbz (Nat.pow_lt_pow_right (by decide) (by decide)), fun H3 n S3 hn => ?_⟩
  · cases m <;> exact ⟨by decide, by decide⟩
  refine ⟨_, rfl, (by show 2 ≤ sizeLine; decide), fun r hr' => ?_⟩
  have S4 := same_upd (o := HO.tup [V.ref n, V.int ((e' : Nat) : Int)]) hr'
  refine kQ _ eK ?_ g0 g1 _ r n ((S2.trans S3).trans S4) upd_same (hn.same S4)
  have := Ow.nof_fit hb (show (Ow.sgn m * t).natAbs < 2 ^ 8700 by rw [sgn_abs]; exact ht) hbz
  exact ⟨⟨Nat.lt_trans this.1 (Nat.pow_lt_pow_right (by decide) (by decide)), Nat.lt_trans this.2 (Nat.pow_lt_pow_right (by decide) (by decide))⟩, this.2⟩
def spWhole_number (K : PySem.W.Frag) (CB : Addr) : Sp := fun vs H Q E => ∃ (a : Addr) (s : EbNum.Bytes), vs = [.ref a] ∧ SqL K H a (bv s) ∧
  (∀ k, Ow.wholeM s = .error k → Bad CB H E k) ∧ (∀ q, Ow.wholeM s = .ok q → Fit 9000 q → ∀ H' n, Same H H' → NumAt H' n q → Q (.ref n) H')
theorem sc_whole_number : FnScope ["text", "found", "end"] ["text"] (defScope s_whole_number) := ⟨rfl, rfl, rfl, by decide +kernel, rfl, by decide +kernel, by decide +kernel⟩
theorem ok_whole_number (S : Src K mg "whole_number" s_whole_number) (T : Bi mg) (D : Def P w K mg base (L2N.CX P w) "number_at" 5 ["text", "at", "is_signed"] (spNumber_at K CB)) (O : Own K mg base P w "BadPlace" CB ["self", "at"] 1 (spInitB CB)) :
    Def P w K mg base (L2N.CX P w) "whole_number" 6 ["text"] (spWhole_number K CB) := by
  refine S.def (fun _ _ _ _ _ _ us hl => match us, hl with | [_], _ => rfl) fun f fd _ F => okN F sc_whole_number (fun vs H Q E h => ?_) fun cdv A outer s H vs Q E hr h => ?_
  · obtain ⟨a, s, rfl, _⟩ := h
    rfl
  have nd := sc_whole_number.nd
  refine ⟨_, pss_cons (ps_asg (by exact callS D hr (fun σ => L2N.passAt (L2N.takes_of rfl rfl rfl rfl) σ) (pa_cons (pv 0) (pa_cons pe_int (pa_cons pe_bl pa_nil)))) (pg_tup rfl (pgs_cons (pg_name (i := 1) nd rfl (Or.inl rfl)) (pgs_cons (pg_name (i := 2) nd rfl (Or.inl rfl)) pgs_nil))))
    (pss_cons (ps_if (pt_cmpR op_lt (pv 2) (pe_callB call_len_seq (by rfl) T.len PySem.boot_len (pa_cons (pv 0) pa_nil)) (nomark _)) (pss_one (L2N.ps_raise rfl (L2N.takes_of rfl rfl rfl rfl) (L2H.PMk5.pmk (by exact O.cold hr (pa_cons (pv 2) pa_nil))))) pss_nil)
    (pss_one (ps_ret (pv 1)))), ?_⟩
  obtain ⟨a, s, rfl, hs, kE, kQ⟩ := h
  have eW : Ow.wholeM s = (match Ow.numM s 0 true with
    | .error k => .error k
    | .ok x => if x.2 < s.length then .error x.2 else .ok x.1) := rfl
  refine ⟨_, rfl, a, s, 0, true, rfl, hs, Nat.zero_le _, fun k hk => ?_, fun x hx fx _ hle H' t n S1 ht hn => ?_⟩
  · rw [hk] at eW
    exact kE k eW
  rw [hx] at eW
  dsimp only at eW
  refine ⟨t, _, rfl, SqT.of ht, rfl, _, _, rfl, _, _, rfl, rfl, ?_⟩
  refine ⟨_, rfl, _, rfl, a, _, rfl, .inl (S1.seq hs), _, _, rfl, rfl, _, rfl, ?_⟩
  rw [bv_length]
  refine ite2 (fun c => ?_) fun c => ?_
  · have c : x.2 < s.length := by have := of_decide_eq_true c; omega
    rw [if_pos c] at eW
    exact ⟨_, rfl, (by show 1 ≤ 1000; decide), bad_made ((kE _ eW).same S1)⟩
  · have c : ¬ x.2 < s.length := fun z => c (decide_eq_true (by omega))
    rw [if_neg c] at eW
    exact ⟨_, rfl, kQ _ eW fx.1 _ n S1 hn⟩
def spLook_at_length (K : PySem.W.Frag) (CR : Addr) : Sp := fun vs H Q E => ∃ (a : Addr) (s : EbNum.Bytes), vs = [.ref a] ∧ SqL K H a (bv s) ∧ (4096 < s.length → Err6 CR H E (-1) []) ∧ (¬ 4096 < s.length → ∀ H', Same H H' → Q .non H')
theorem sc_look_at_length : FnScope ["text"] ["text"] (defScope s_look_at_length) := ⟨rfl, rfl, rfl, by decide +kernel, rfl, by decide +kernel, by decide +kernel⟩
theorem ok_look_at_length (S : Src K mg "look_at_length" s_look_at_length) (T : Bi mg) (R : Def P w K mg base (L2.CX P w) "refuse" 3 ["code"] (spRefuse CR)) (c : CI mg "MOST_BYTES" 4096) :
    Def P w K mg base (L2.CX P w) "look_at_length" 4 ["text"] (spLook_at_length K CR) := by
  refine S.def (fun _ _ _ _ _ _ us hl => match us, hl with | [_], _ => rfl) fun f fd _ F => F.okX sc_look_at_length (fun vs H Q E h => ?_) fun cdv A outer s H vs Q E hr h => ?_
  · obtain ⟨a, s, rfl, _⟩ := h
    rfl
  refine ⟨_, pss_one (ps_if (pt_cmpR op_gt (pe_callB call_len_seq (by rfl) T.len PySem.boot_len (pa_cons (pv 0) pa_nil)) (pe_ci c) (nomark _)) (pss_one (ps_expr (by exact callS R hr (fun σ => passAt (takes_of rfl rfl rfl rfl) σ) (pa_cons (pe_un un_neg pe_int) pa_nil)))) pss_nil), ?_⟩
  obtain ⟨a, s, rfl, hs, kE, kQ⟩ := h
  refine ⟨_, rfl, a, _, rfl, .inl hs, _, _, rfl, rfl, _, rfl, ?_⟩
  rw [bv_length]
  refine ite2 (fun c => ?_) fun c => ?_
  · have c : 4096 < s.length := by have := of_decide_eq_true c; omega
    exact ⟨_, rfl, -1, rfl, kE c⟩
  · have c : ¬ 4096 < s.length := fun z => c (decide_eq_true (by omega))
    exact kQ c _ (Same.refl _)
def spRead_number (K : PySem.W.Frag) (CR : Addr) : Sp := fun vs H Q E => ∃ (a : Addr) (s : EbNum.Bytes) (i : Nat), vs = [.ref a, .int (i : Int)] ∧ SqL K H a (bv s) ∧
  (∀ l, Ow.readM i s = .error l → ErrL CR H E l) ∧ (∀ q, Ow.readM i s = .ok q → ∀ H' n, Same H H' → NumAt H' n q → Q (.ref n) H')
theorem sc_read_number : FnScope ["text", "which", "found", "e"] ["text", "which"] (defScope s_read_number) := ⟨rfl, rfl, rfl, by decide +kernel, rfl, by decide +kernel, by decide +kernel⟩
theorem ok_read_number (S : Src K mg "read_number" s_read_number) (L : Def P w K mg base (L2.CX P w) "look_at_length" 4 ["text"] (spLook_at_length K CR)) (W : Def P w K mg base (L2N.CX P w) "whole_number" 6 ["text"] (spWhole_number K CB))
    (Z : Def P w K mg base (L2.CX P w) "look_at_fit" 4 ["ones"] (spLook_at_fit CR)) (OB : Own K mg base P w "BadPlace" CB ["self", "at"] 1 (spInitB CB)) (O : Own K mg base P w "Refusal" CR ["self", "code", "more"] 1 (spInitR CR)) (nB : PySem.W.findIn K (.ref CB) "at" = some none) :
    Def P w K mg base (L2.CX P w) "read_number" 7 ["text", "which"] (spRead_number K CR) := by
  refine S.def (fun _ _ _ _ _ _ us hl => match us, hl with | [_, _], _ => rfl) fun f fd _ F => F.okX sc_read_number (fun vs H Q E h => ?_) fun cdv A outer s H vs Q E hr h => ?_
  · obtain ⟨a, s, i, rfl, _⟩ := h
    rfl
  have nd := sc_read_number.nd
  refine ⟨_, pss_cons (ps_expr (by exact callS L hr (fun σ => passAt (takes_of rfl rfl rfl rfl) σ) (pa_cons (pv 0) pa_nil)))
    (pss_cons (ps_try_asX (i := 3) (E := E) rfl rfl rfl nd rfl rfl ⟨rfl, by decide, Or.inl OB.g⟩ rfl
      (fun W' pn xe tk => pss_one (ps_set (i := 2) nd rfl (Or.inl rfl) (by exact callS W hr (fun σ => L2N.passAt tk σ) (pa_cons (pv 0) pa_nil))))
      (fun a oe cls d pn xe he tk hc => pss_one (L2H.ps_raiseHN hc tk (by exact O.hot (L2H.roomH_mark hr _) hc (pa_cons (pe_un un_neg pe_int) (pa_cons (pe_lst (pa_cons (pv 1) (pa_cons (pe_errF OB.xf nB List.mem_cons_self he (pv 3)) pa_nil))) pa_nil))))))
    (pss_cons (ps_expr (by exact callS Z hr (fun σ => passAt (takes_of rfl rfl rfl rfl) σ) (pa_cons (pe_lst (pa_cons (pv 2) pa_nil)) pa_nil)))
    (pss_one (ps_ret (pv 2))))), ?_⟩
  obtain ⟨a, s, i, rfl, hs, kE, kQ⟩ := h
  have eR : Ow.readM i s = if 4096 < s.length then .error [-1] else match Ow.wholeM s with
    | .error k => .error [-3, (i : Int), (k : Int)]
    | .ok q => if EbNum.fits q = true then .ok q else .error [-6] := rfl
  refine ⟨_, rfl, a, s, rfl, hs, fun c => ?_, fun c H1 S1 => ?_⟩
  · rw [if_pos c] at eR
    exact kE _ eR
  rw [if_neg c] at eR
  refine ⟨_, rfl, a, s, rfl, S1.seq hs, fun k hk => ?_, fun q hq fq H2 n S2 hn => ?_⟩
  · rw [hk] at eR
    have k6 : Err6 CR H E (-3) [(i : Int), (k : Int)] := kE _ eR
    refine fun H' d S3 hd => ⟨OB.te, fun a' ha' => ?_⟩
    refine ⟨_, rfl, _, rfl, _, rfl, rfl, rfl, d, _, _, rfl, hd, rfl, (by show 2 ≤ sizeLine; decide), fun m hm => ⟨(by show 2 ≤ 1000; decide), ?_⟩⟩
    exact err_made (more := [(i : Int), (k : Int)]) (k6.same ((S1.trans S3).trans (same_upd hm))) upd_same
  · rw [hq] at eR
    dsimp only at eR
    refine ⟨_, rfl, (by show 1 ≤ sizeLine; decide), fun l hl => ?_⟩
    have S3 := (S1.trans S2).trans (same_upd (o := HO.lst [V.ref n]) hl)
    refine ⟨l, [n], [q], rfl, upd_same, NumsAt.one (hn.same (same_upd hl)), fun hf H4 S4 => ?_, fun hf => ?_⟩
    · have hf : EbNum.fits q = true := by simpa using hf
      rw [if_pos hf] at eR
      exact ⟨_, rfl, kQ q eR _ n (S3.trans S4) ((hn.same (same_upd hl)).same S4)⟩
    · have hf : EbNum.fits q = false := by simpa using hf
      rw [if_neg (by rw [hf]; exact Bool.false_ne_true)] at eR
      have k6 : Err6 CR H E (-6) [] := kE _ eR
      exact k6.same S3
def spNearest : Sp := fun vs H Q _ => ∃ b r t : Int, vs = [.int b, .int r, .int t] ∧ r.natAbs < 2 ^ 39000 ∧ Q (.int (Ow.nearestI b r t)) H
theorem sc_nearest : FnScope ["below", "rest", "bottom"] ["below", "rest", "bottom"] (defScope s_nearest) := ⟨rfl, rfl, rfl, by decide +kernel, rfl, by decide +kernel, by decide +kernel⟩
theorem ok_nearest (S : Src K mg "nearest" s_nearest) (T : Bi mg) : Def P w K mg base CX0 "nearest" 1 ["below", "rest", "bottom"] spNearest := by
  refine S.def (fun _ _ _ _ _ _ us hl => match us, hl with | [_, _, _], _ => rfl) fun f fd _ F => F.ok sc_nearest (fun vs H Q E h => ?_) fun cdv A outer s H vs Q E hr h => ?_
  · obtain ⟨b, r, t, rfl, _⟩ := h
    rfl
  refine ⟨_, pss_cons (ps_if (pt_cmpR op_eq (pe_op op_mulW pe_int (pv 1)) (pv 2) (nomark _)) (pss_one (ps_ret (pe_op op_add (pv 0) (pe_op op_mod (pv 0) pe_int)))) pss_nil)
    (pss_one (ps_ret (pe_op op_add (pv 0) (pe_callTy call_int1 (by rfl) T.int (by decide +kernel) (pa_cons (pe_cmpR op_gt (pe_op op_mulW pe_int (pv 1)) (pv 2) (nomark _)) pa_nil))))), ?_⟩
  obtain ⟨b, r, t, rfl, hr2, k⟩ := h
  have m2 : CMulW 2 r := mulW (a := 2) (by decide) hr2 (by decide) (by decide)
  unfold Ow.nearestI at k
  refine ⟨_, rfl, _, _, rfl, rfl, m2, _, rfl, rfl, _, rfl, ?_⟩
  rw [dec_ints]
  refine ite2 (fun c => ?_) fun c => ?_
  · have c : 2 * r = t := of_decide_eq_true c
    rw [if_pos c, Int.fmod_eq_emod_of_nonneg _ (by decide)] at k
    exact ⟨_, rfl, _, rfl, _, _, rfl, rfl, (show (0 : Int) < 2 by decide), _, _, rfl, rfl, k⟩
  · have c : ¬ 2 * r = t := fun z => c (decide_eq_true z)
    rw [if_neg c] at k
    refine ⟨_, rfl, _, rfl, _, _, rfl, rfl, m2, _, rfl, _, _, rfl, rfl, .inr ⟨_, rfl, ?_⟩⟩
    refine ⟨_, _, rfl, rfl, ?_⟩
    refine (congrArg (fun z => Q (V.int z) H) ?_).mp k
    unfold Ow.b2
    by_cases c1 : t < 2 * r <;> simp [c1]
def spRounded : Sp := fun vs H Q _ => ∃ (p : Addr) (q : Rat) (way : Int), vs = [.ref p, .int way] ∧ NumAt H p q ∧ Siz 39000 8900 q ∧ Q (.int (Ow.rnd q.num q.den way)) H
theorem sc_rounded : FnScope ["one", "way", "top", "bottom", "below", "rest"] ["one", "way"] (defScope s_rounded) := ⟨rfl, rfl, rfl, by decide +kernel, rfl, by decide +kernel, by decide +kernel⟩
theorem ok_rounded (S : Src K mg "rounded" s_rounded) (T : Bi mg) (N : Def P w K mg base CX0 "nearest" 1 ["below", "rest", "bottom"] spNearest) (c0 : CI mg "NEAREST" 0) (c1 : CI mg "UP" 1) (c2 : CI mg "DOWN" 2) (c3 : CI mg "AWAY" 3) :
    Def P w K mg base CX0 "rounded" 2 ["one", "way"] spRounded := by
  refine S.def (fun _ _ _ _ _ _ us hl => match us, hl with | [_, _], _ => rfl) fun f fd _ F => F.ok sc_rounded (fun vs H Q E h => ?_) fun cdv A outer s H vs Q E hr h => ?_
  · obtain ⟨p, q, way, rfl, _⟩ := h
    rfl
  have nd := sc_rounded.nd
  refine ⟨_, pss_cons (ps_asg (pv 0) (pg_tup rfl (pgs_cons (pg_name (i := 2) nd rfl (Or.inl rfl)) (pgs_cons (pg_name (i := 3) nd rfl (Or.inl rfl)) pgs_nil))))
    (pss_cons (ps_set (i := 4) nd rfl (Or.inl rfl) (pe_op op_fdivW (pv 2) (pv 3)))
    (pss_cons (ps_set (i := 5) nd rfl (Or.inl rfl) (pe_op op_sub (pv 2) (pe_op op_mulW (pv 4) (pv 3))))
    (pss_cons (ps_if (PW.pt (pw_or (pt_cmpR op_eq (pv 5) pe_int (nomark _)) (pw_or1 (pt_cmpR op_eq (pv 1) (pe_ci c2) (nomark _))))) (pss_one (ps_ret (pv 4))) pss_nil)
    (pss_cons (ps_if (pt_cmpR op_eq (pv 1) (pe_ci c0) (nomark _)) (pss_one (ps_ret (by exact call0 N hr (pa_cons (pv 4) (pa_cons (pv 5) (pa_cons (pv 3) pa_nil)))))) pss_nil)
    (pss_cons (ps_if (pt_cmpR op_eq (pv 1) (pe_ci c1) (nomark _)) (pss_one (ps_ret (pe_op op_add (pv 4) pe_int))) pss_nil)
    (pss_cons (ps_if (pt_cmpR op_eq (pv 1) (pe_ci c3) (nomark _)) (pss_one (ps_ret (pe_op op_add (pv 4) (pe_callTy call_int1 (by rfl) T.int (by decide +kernel) (pa_cons (pe_cmpR op_gt (pv 2) pe_int (nomark _)) pa_nil))))) pss_nil)
    (pss_one (ps_ret (pe_op op_add (pv 4) (pe_callTy call_int1 (by rfl) T.int (by decide +kernel) (pa_cons (pe_cmpR op_lt (pv 2) pe_int (nomark _)) pa_nil))))))))))), ?_⟩
  obtain ⟨p, q, way, rfl, hp, ⟨b1, b2⟩, k⟩ := h
  have dp := Ow.den_pos q
  have hd : ((q.den : Nat) : Int).natAbs < 2 ^ 9000 := den_abs q (Nat.lt_trans b2 (Nat.pow_lt_pow_right (by decide) (by decide)))
  have ef : q.num.fdiv (q.den : Int) = q.num / (q.den : Int) := Int.fdiv_eq_ediv_of_nonneg _ (Int.le_of_lt dp)
  have bq : (q.num / (q.den : Int)).natAbs < 2 ^ 39000 := Nat.lt_of_le_of_lt (Int.natAbs_ediv_le_natAbs _ _) b1
  have r0 : 0 ≤ q.num - q.num / (q.den : Int) * (q.den : Int) := by
    rw [Int.mul_comm, ← Int.emod_def]
    exact Int.emod_nonneg _ (by omega)
  have r1 : q.num - q.num / (q.den : Int) * (q.den : Int) < (q.den : Int) := by
    rw [Int.mul_comm, ← Int.emod_def]
    exact Int.emod_lt_of_pos _ dp
  have bR : (q.num - q.num / (q.den : Int) * (q.den : Int)).natAbs < 2 ^ 39000 := by
    refine Nat.lt_trans (show _ < q.den by omega) (Nat.lt_trans b2 (Nat.pow_lt_pow_right (by decide) (by decide)))
  have eR : Ow.rnd q.num q.den way = if q.num - q.num / (q.den : Int) * (q.den : Int) = 0 ∨ way = 2 then q.num / (q.den : Int) else if way = 0 then Ow.nearestI (q.num / (q.den : Int)) (q.num - q.num / (q.den : Int) * (q.den : Int)) (q.den : Int)
      else if way = 1 then q.num / (q.den : Int) + 1 else if way = 3 then q.num / (q.den : Int) + Ow.b2 (decide (0 < q.num)) else q.num / (q.den : Int) + Ow.b2 (decide (q.num < 0)) := by
    unfold Ow.rnd
    dsimp only
    rw [ef]
  rw [eR] at k
  have cm : CMulW (q.num / (q.den : Int)) (q.den : Int) := mulW bq (den_abs q b2) (by decide) (by decide)
  refine ⟨_, rfl, p, _, rfl, SqT.of hp, rfl, _, _, rfl, _, _, rfl, rfl, ?_⟩
  refine ⟨_, rfl, _, rfl, _, _, rfl, rfl, wide_div dp hd (by decide) (by decide), ?_⟩
  refine ⟨_, rfl, _, rfl, _, rfl, _, _, rfl, rfl, cm, _, _, rfl, rfl, ?_⟩
  refine ⟨_, rfl, rfl, _, rfl, ?_⟩
  rw [dec_ints]
  by_cases hR : q.num - q.num / (q.den : Int) * (q.den : Int) = 0
  · rw [if_pos (Or.inl hR)] at k
    rw [decide_eq_true hR]
    exact iteT (iteT ⟨_, rfl, k⟩)
  rw [decide_eq_false hR]
  refine iteF ?_
  refine ⟨_, rfl, rfl, _, rfl, ?_⟩
  rw [dec_ints]
  refine ite2 (fun c => ?_) fun c => ?_
  · have c : way = 2 := of_decide_eq_true c
    rw [if_pos (Or.inr c)] at k
    exact ⟨_, rfl, k⟩
  have n2 : ¬ way = 2 := fun z => c (decide_eq_true z)
  rw [if_neg (fun z => z.elim hR n2)] at k
  refine ⟨_, rfl, rfl, _, rfl, ?_⟩
  rw [dec_ints]
  refine ite2 (fun c => ?_) fun c => ?_
  · have c : way = 0 := of_decide_eq_true c
    rw [if_pos c] at k
    exact ⟨_, rfl, _, rfl, _, rfl, _, _, _, rfl, bR, k⟩
  have n0 : ¬ way = 0 := fun z => c (decide_eq_true z)
  rw [if_neg n0] at k
  refine ⟨_, rfl, rfl, _, rfl, ?_⟩
  rw [dec_ints]
  refine ite2 (fun c => ?_) fun c => ?_
  · have c : way = 1 := of_decide_eq_true c
    rw [if_pos c] at k
    exact ⟨_, rfl, _, _, rfl, rfl, k⟩
  have n1 : ¬ way = 1 := fun z => c (decide_eq_true z)
  rw [if_neg n1] at k
  refine ⟨_, rfl, rfl, _, rfl, ?_⟩
  rw [dec_ints]
  refine ite2 (fun c => ?_) fun c => ?_
  · have c : way = 3 := of_decide_eq_true c
    rw [if_pos c] at k
    refine ⟨_, rfl, _, rfl, _, _, rfl, rfl, .inr ⟨_, rfl, ?_⟩⟩
    refine ⟨_, _, rfl, rfl, ?_⟩
    refine (congrArg (fun z => Q (V.int z) H) ?_).mp k
    unfold Ow.b2
    by_cases c1 : 0 < q.num <;> simp [c1]
  have n3 : ¬ way = 3 := fun z => c (decide_eq_true z)
  rw [if_neg n3] at k
  refine ⟨_, rfl, _, rfl, _, _, rfl, rfl, .inr ⟨_, rfl, ?_⟩⟩
  refine ⟨_, _, rfl, rfl, ?_⟩
  refine (congrArg (fun z => Q (V.int z) H) ?_).mp k
  unfold Ow.b2
  by_cases c1 : q.num < 0 <;> simp [c1]
def spSize_of : Sp := fun vs H Q _ => ∃ (p : Addr) (x : Rat), vs = [.ref p] ∧ NumAt H p x ∧ ∀ H' r, Same H H' → NumAt H' r (EbNum.size x) → Q (.ref r) H'
theorem sc_size_of : FnScope ["one"] ["one"] (defScope s_size_of) := ⟨rfl, rfl, rfl, by decide +kernel, rfl, by decide +kernel, by decide +kernel⟩
theorem ok_size_of (S : Src K mg "size_of" s_size_of) (G : Def P w K mg base CX0 "negated" 1 ["one"] spNegated) : Def P w K mg base CX0 "size_of" 2 ["one"] spSize_of := by
  refine S.def (fun _ _ _ _ _ _ us hl => match us, hl with | [_], _ => rfl) fun f fd _ F => F.ok sc_size_of (fun vs H Q E h => ?_) fun cdv A outer s H vs Q E hr h => ?_
  · obtain ⟨p, x, rfl, _⟩ := h
    rfl
  refine ⟨_, pss_one (ps_ret (pe_ifExp (pt_cmpR op_lt (pe_ix ix_tup (pv 0) pe_int (fun _ _ => rfl)) pe_int (nomark _)) (by exact call0 G hr (pa_cons (pv 0) pa_nil)) (pv 0))), ?_⟩
  obtain ⟨p, x, rfl, hp, k⟩ := h
  have e := Ow.size_is x
  refine ⟨_, rfl, p, _, 0, _, rfl, rfl, SqT.of hp, rfl, _, _, rfl, rfl, _, rfl, ?_⟩
  refine ite2 (fun c => ?_) fun c => ?_
  · have c : x.num < 0 := of_decide_eq_true c
    rw [if_pos c] at e
    rw [e] at k
    exact ⟨_, rfl, p, x, rfl, hp, k⟩
  · have c : ¬ x.num < 0 := fun z => c (decide_eq_true z)
    rw [if_neg c] at e
    rw [e] at k
    exact ⟨_, rfl, k _ p (Same.refl _) hp⟩
def spShown_at : Sp := fun vs H Q _ => ∃ (a b : Addr) (p q : Rat) (d : Int), vs = [.ref a, .ref b, .int d] ∧ NumAt H a p ∧ NumAt H b q ∧ Fit 4096 p ∧ Fit 4096 q ∧ -60 ≤ d ∧ d ≤ 60 ∧
  ∀ H' t, Same H H' → H' t = some (.tup [.int (EbNum.valueAt d p), .int (EbNum.boundAt d p q)]) → Q (.ref t) H'
theorem sc_shown_at : FnScope ["value", "bound", "place", "units", "lost"] ["value", "bound", "place"] (defScope s_shown_at) := ⟨rfl, rfl, rfl, by decide +kernel, rfl, by decide +kernel, by decide +kernel⟩
theorem Siz.size {m n : Nat} {x : Rat} (h : Siz m n x) : Siz m n (EbNum.size x) := by
  rw [Ow.size_is]
  split
  · exact h.neg
  · exact h
theorem value_rnd (d : Int) (p : Rat) : EbNum.valueAt d p = Ow.rnd (p * EbNum.ten d).num (p * EbNum.ten d).den 0 := by
  have e := Ow.rnd_is (p * EbNum.ten d) 0 (by decide)
  exact e.symm
theorem bound_rnd (d : Int) (p q : Rat) : EbNum.boundAt d p q = Ow.rnd ((q + EbNum.size (EbNum.worth d (EbNum.valueAt d p) - p)) * EbNum.ten d).num ((q + EbNum.size (EbNum.worth d (EbNum.valueAt d p) - p)) * EbNum.ten d).den 1 := by
  have e := Ow.rnd_is ((q + EbNum.size (EbNum.worth d (EbNum.valueAt d p) - p)) * EbNum.ten d) 1 (by decide)
  exact e.symm
theorem value_lt {p : Rat} (h : Fit 4096 p) {d : Int} (h1 : -60 ≤ d) (h2 : d ≤ 60) : (EbNum.valueAt d p).natAbs < 2 ^ 4297 := by
  have u := (h.siz (a := 4096) (b := 4096) (Nat.le_refl _) (Nat.le_refl _)).units h1 h2
  rw [value_rnd]
  have a := rnd_abs (p * EbNum.ten d).num (p * EbNum.ten d).den 0 (Ow.den_pos _)
  have b := u.1
  have c : (2 : Nat) ^ (4096 + 200) + 1 < 2 ^ 4297 := by decide +kernel
  omega
theorem lost_siz {p : Rat} (h : Fit 4096 p) {d : Int} (h1 : -60 ≤ d) (h2 : d ≤ 60) : Siz 8594 4296 (EbNum.worth d (EbNum.valueAt d p) - p) :=
  Siz.sub (worth_siz (value_lt h h1 h2) h1 h2) (h.siz (a := 4096) (b := 4096) (Nat.le_refl _) (Nat.le_refl _)) (e := 8593) (by decide) (by decide)
theorem all_siz {p q : Rat} (h : Fit 4096 p) (h' : Fit 4096 q) {d : Int} (h1 : -60 ≤ d) (h2 : d ≤ 60) : Siz 12691 8392 (q + EbNum.size (EbNum.worth d (EbNum.valueAt d p) - p)) :=
  Siz.add (h'.siz (a := 4096) (b := 4096) (Nat.le_refl _) (Nat.le_refl _)) (lost_siz h h1 h2).size (e := 12690) (by decide) (by decide)
theorem bound_lt {p q : Rat} (h : Fit 4096 p) (h' : Fit 4096 q) {d : Int} (h1 : -60 ≤ d) (h2 : d ≤ 60) : (EbNum.boundAt d p q).natAbs < 2 ^ 12892 := by
  have u := (all_siz h h' h1 h2).units h1 h2
  rw [bound_rnd]
  have a := rnd_abs ((q + EbNum.size (EbNum.worth d (EbNum.valueAt d p) - p)) * EbNum.ten d).num ((q + EbNum.size (EbNum.worth d (EbNum.valueAt d p) - p)) * EbNum.ten d).den 1 (Ow.den_pos _)
  have b := u.1
  have c : (2 : Nat) ^ (12691 + 200) + 1 < 2 ^ 12892 := by decide +kernel
  omega
theorem ok_shown_at (S : Src K mg "shown_at" s_shown_at) (U : Def P w K mg base CX0 "in_units" 3 ["one", "place"] spIn_units) (R : Def P w K mg base CX0 "rounded" 2 ["one", "way"] spRounded) (O : Def P w K mg base CX0 "of_units" 3 ["units", "place"] spOf_units)
    (A2 : Def P w K mg base CX0 "taken" 4 ["one", "other"] spTaken) (A1 : Def P w K mg base CX0 "added" 3 ["one", "other"] spAdded) (Z : Def P w K mg base CX0 "size_of" 2 ["one"] spSize_of) (c0 : CI mg "NEAREST" 0) (c1 : CI mg "UP" 1) :
    Def P w K mg base CX0 "shown_at" 5 ["value", "bound", "place"] spShown_at := by
  refine S.def (fun _ _ _ _ _ _ us hl => match us, hl with | [_, _, _], _ => rfl) fun f fd _ F => F.ok sc_shown_at (fun vs H Q E h => ?_) fun cdv A outer s H vs Q E hr h => ?_
  · obtain ⟨a, b, p, q, d, rfl, _⟩ := h
    rfl
  have nd := sc_shown_at.nd
  refine ⟨_, pss_cons (ps_set (i := 3) nd rfl (Or.inl rfl) (by exact call0 R hr (pa_cons (by exact call0 U hr (pa_cons (pv 0) (pa_cons (pv 2) pa_nil))) (pa_cons (pe_ci c0) pa_nil))))
    (pss_cons (ps_set (i := 4) nd rfl (Or.inl rfl) (by exact call0 Z hr (pa_cons (by exact call0 A2 hr (pa_cons (by exact call0 O hr (pa_cons (pv 3) (pa_cons (pv 2) pa_nil))) (pa_cons (pv 0) pa_nil))) pa_nil)))
    (pss_one (ps_ret (pe_tup (pa_cons (pv 3) (pa_cons (by exact call0 R hr (pa_cons (by exact call0 U hr (pa_cons (by exact call0 A1 hr (pa_cons (pv 1) (pa_cons (pv 4) pa_nil))) (pa_cons (pv 2) pa_nil))) (pa_cons (pe_ci c1) pa_nil))) pa_nil)))))), ?_⟩
  obtain ⟨a, b, p, q, d, rfl, ha, hb, fp, fq, h1, h2, k⟩ := h
  have up := fp.siz (a := 4096) (b := 4096) (Nat.le_refl _) (Nat.le_refl _)
  have u1 := up.units h1 h2
  have vl := value_lt fp h1 h2
  have ws := worth_siz vl h1 h2
  have ls := lost_siz fp h1 h2
  have as := all_siz fp fq h1 h2
  have au := as.units h1 h2
  refine ⟨_, rfl, _, rfl, a, p, d, rfl, ha, h1, h2, fp.siz (by decide) (by decide), fun H1 n1 S1 e1 => ?_⟩
  refine ⟨n1, _, 0, rfl, e1, u1.mono (by decide) (by decide), ?_⟩
  rw [← value_rnd]
  rw [bound_rnd] at k
  generalize EbNum.valueAt d p = v at k vl ws ls as au
  refine ⟨_, rfl, _, rfl, v, d, rfl, h1, h2, Nat.lt_trans vl (Nat.pow_lt_pow_right (by decide) (by decide)), fun H2 n2 S2 e2 => ?_⟩
  have S12 := S1.trans S2
  refine ⟨_, rfl, n2, a, _, p, rfl, e2, ha.same S12, Siz.mono ws (by decide) (by decide), Siz.mono up (by decide) (by decide), Nat.lt_trans (mul_pow ws.2 up.2) (Nat.pow_lt_pow_right (by decide) (by decide)), fun H3 n3 S3 e3 => ?_⟩
  refine ⟨n3, _, rfl, e3, fun H4 n4 S4 e4 => ?_⟩
  have S14 := (S12.trans S3).trans S4
  refine ⟨_, rfl, _, rfl, _, rfl, b, n4, q, _, rfl, hb.same S14, e4, fq.siz (by decide) (by decide), Siz.mono ls.size (by decide) (by decide), Nat.lt_trans (mul_pow fq.2 ls.size.2) (Nat.pow_lt_pow_right (by decide) (by decide)), fun H5 n5 S5 e5 => ?_⟩
  refine ⟨_, rfl, n5, _, d, rfl, e5, h1, h2, as.mono (by decide) (by decide), fun H6 n6 S6 e6 => ?_⟩
  refine ⟨n6, _, 1, rfl, e6, au.mono (by decide) (by decide), (by show 2 ≤ sizeLine; decide), fun t ht => ?_⟩
  exact k _ t ((S14.trans S5).trans S6 |>.trans (same_upd ht)) upd_same
def spPlace_told : Sp := fun vs H Q _ => ∃ (a b : Addr) (p q : Rat), vs = [.ref a, .ref b] ∧ NumAt H a p ∧ NumAt H b q ∧ Fit 4096 p ∧ Fit 4096 q ∧
  (∀ H', Same H H' → Ow.placeM p q = none → Q .non H') ∧ (∀ H' d, Same H H' → Ow.placeM p q = some d → Q (.int d) H')
theorem sc_place_told : FnScope ["value", "bound", "places", "bounds", "none_lost", "few", "place", "units"] ["value", "bound"] (defScope s_place_told) := ⟨rfl, rfl, rfl, by decide +kernel, rfl, by decide +kernel, by decide +kernel⟩
theorem dpAll_ints {H : Hp} : ∀ l : List Int, L2.DpAll K H (l.map V.int) (l.map PyData.int)
  | [] => .nil
  | i :: r => .cons (.int i) (dpAll_ints r)
theorem eqv_empty (l : List Int) : PyData.eqv (.list (l.map PyData.int)) (.list []) = decide (l = []) := by
  cases l <;> simp [PyData.eqv, PyData.eqvAll]
theorem rg_places : rgV (-60) (60 + 1) = Ow.places.map V.int := by
  unfold rgV Ow.places
  rw [List.map_map]
  rfl
theorem place_in {i : Nat} {d : Int} (h : Ow.places[i]? = some d) : -60 ≤ d ∧ d ≤ 60 := by
  unfold Ow.places at h
  rw [List.getElem?_map] at h
  obtain ⟨k, hk, rfl⟩ := Option.map_eq_some_iff.mp h
  have h2 := List.mem_of_getElem? hk
  have h3 := List.mem_range.mp h2
  omega
theorem places_length : Ow.places.length = 121 := by
  unfold Ow.places
  rw [List.length_map, List.length_range]
theorem take_filter_succ (l : List Int) (f : Int → Bool) {i : Nat} {d : Int} (h : l[i]? = some d) : (l.take (i + 1)).filter f = (l.take i).filter f ++ (if f d = true then [d] else []) := by
  rw [List.take_add_one, h]
  show List.filter f (List.take i l ++ [d]) = _
  rw [List.filter_append]
  cases e : f d <;> simp [e]
theorem ok_place_told (S : Src K mg "place_told" s_place_told) (T : Bi mg) (SA : Def P w K mg base CX0 "shown_at" 5 ["value", "bound", "place"] spShown_at) (cF : CI mg "FIRST_PLACE" (-60)) (cL : CI mg "LAST_PLACE" 60) (cU : CI mg "MOST_UNITS" 99) :
    Def P w K mg base CX0 "place_told" 7 ["value", "bound"] spPlace_told := by
  refine S.def (fun _ _ _ _ _ _ us hl => match us, hl with | [_, _], _ => rfl) fun f fd _ F => F.ok sc_place_told (fun vs H Q E h => ?_) fun cdv A outer s H vs Q E hr h => ?_
  · obtain ⟨a, b, p, q, rfl, _⟩ := h
    rfl
  have nd := sc_place_told.nd
  refine ⟨_, pss_cons (ps_set (i := 2) nd rfl (Or.inl rfl) (pe_listRg rfl (by rfl) T.list (prg_2 (by rfl) T.range (pe_ci cF) (pe_op op_add (pe_ci cL) pe_int))))
    (pss_cons (ps_setLc (i := 3) (own := [("place", 6)]) (g := gName 6) (tt := tYes) rfl nd rfl rfl (sw_true rfl rfl rfl (by decide +kernel)) (pi_list (pv 2))
      (blkOk_by (own := [("place", 6)]) (N := ["value", "bound", "places", "bounds", "none_lost", "few", "place", "units"]) (sc := defScope s_place_told) (by decide +kernel)) (fun _ _ _ _ _ => pg_name (i := 6) nd rfl (Or.inl rfl)) (fun _ _ _ _ _ => pts_nil)
      (fun _ _ _ _ _ => pe_ix (r := rIxT K) ix_tup (by exact call0 SA hr (pa_cons (pv 0) (pa_cons (pv 1) (pa_cons (pv 6) pa_nil)))) pe_int (fun _ _ => rfl)))
    (pss_cons (ps_setLc (i := 4) (own := [("place", 6), ("units", 7)]) (g := gTup K 2 (gCons (gName 6) (gCons (gName 7) gNil))) rfl nd rfl rfl (sw_true rfl rfl rfl (by decide +kernel)) (pi_zip (by rfl) T.zip (pa_cons (pv 2) (pa_cons (pv 3) pa_nil)))
      (blkOk_by (own := [("place", 6), ("units", 7)]) (N := ["value", "bound", "places", "bounds", "none_lost", "few", "place", "units"]) (sc := defScope s_place_told) (by decide +kernel))
      (fun _ _ _ _ _ => by exact pg_tup rfl (pgs_cons (pg_name (i := 6) nd rfl (Or.inl rfl)) (pgs_cons (pg_name (i := 7) nd rfl (Or.inl rfl)) pgs_nil))) (fun _ _ _ _ _ => pts_one (pt_cmpR op_eq (pv 7) pe_int (nomark _))) (fun _ _ _ _ _ => pv 6))
    (pss_cons (ps_if (pt_cmpR (op_neD hr.units) (pv 4) (pe_lst pa_nil) (nomark _)) (pss_one (ps_ret (pe_callB (call_max2 rfl) (by rfl) T.max (by decide +kernel) (pa_cons pe_int (pa_cons (pe_ix ix_list (pv 4) pe_int (fun _ _ => rfl)) pa_nil))))) pss_nil)
    (pss_cons (ps_setLc (i := 5) (own := [("place", 6), ("units", 7)]) (g := gTup K 2 (gCons (gName 6) (gCons (gName 7) gNil))) rfl nd rfl rfl (sw_true rfl rfl rfl (by decide +kernel)) (pi_zip (by rfl) T.zip (pa_cons (pv 2) (pa_cons (pv 3) pa_nil)))
      (blkOk_by (own := [("place", 6), ("units", 7)]) (N := ["value", "bound", "places", "bounds", "none_lost", "few", "place", "units"]) (sc := defScope s_place_told) (by decide +kernel))
      (fun _ _ _ _ _ => by exact pg_tup rfl (pgs_cons (pg_name (i := 6) nd rfl (Or.inl rfl)) (pgs_cons (pg_name (i := 7) nd rfl (Or.inl rfl)) pgs_nil))) (fun _ _ _ _ _ => pts_one (pt_cmpR op_le (pv 7) (pe_ci cU) (nomark _))) (fun _ _ _ _ _ => pv 6))
    (pss_one (ps_ret (pe_ifExp (pt_cmpR (op_neD hr.units) (pv 5) (pe_lst pa_nil) (nomark _)) (pe_ix ix_list (pv 5) (pe_un un_neg pe_int) (fun _ _ => rfl)) pe_non))))))), ?_⟩
  obtain ⟨a, b, p, q, rfl, ha, hb, fp, fq, kN, kS⟩ := h
  have big : (121 : Nat) < sizeLine := by decide
  have ePl := places_length
  -- the places
  refine ⟨_, _, rfl, rfl, _, _, rfl, rfl, ⟨by decide, by decide, by decide, by decide, by decide⟩, fun aP haP => ?_⟩
  rw [rg_places]
  have S1 := same_upd (o := HO.lst (Ow.places.map V.int)) haP
  -- the bounds
  refine ⟨_, rfl, aP, rfl, ⟨_, SqL.of upd_same⟩, fun aB haB => ?_⟩
  refine lc_it (walk_list (a := aP) (xs := Ow.places.map V.int)) (fun i H' => Same (upd H aP (.lst (Ow.places.map V.int))) H' ∧ H' aB = some (.lst ((Ow.places.take i).map fun d => V.int (EbNum.boundAt d p q)))) ⟨same_upd haB, upd_same⟩ (fun i H' _ h => SqL.of (h.1 _ _ upd_same)) ?_ ?_
  · rintro i x H1 H2 hi ⟨S2, e2⟩ ⟨rfl, hx⟩
    obtain ⟨d, hd, rfl⟩ : ∃ d, Ow.places[i]? = some d ∧ x = V.int d := by
      rw [List.getElem?_map] at hx
      obtain ⟨d, hd, e⟩ := Option.map_eq_some_iff.mp hx
      exact ⟨d, hd, e.symm⟩
    obtain ⟨h1, h2⟩ := place_in hd
    refine ⟨rfl, _, rfl, _, rfl, _, rfl, a, b, p, q, d, rfl, (ha.same S1).same S2, (hb.same S1).same S2, fp, fq, h1, h2, fun H3 t S3 ht => ?_⟩
    refine ⟨t, _, 1, _, rfl, rfl, SqT.of ht, rfl, _, S3 _ _ e2, ?_, ?_, ?_⟩
    · rw [List.length_map, List.length_take]
      omega
    · exact fun c o z => by rw [upd_ne (ne_of_none z haB)]; exact (S2.trans S3) c o z
    · rw [upd_same, List.take_add_one, hd]
      show _ = some (HO.lst ((Ow.places.take i ++ [d]).map fun d => V.int (EbNum.boundAt d p q)))
      rw [List.map_append]
      rfl
  rintro H1 ⟨S2, eB⟩
  rw [List.length_map, List.take_length] at eB
  have eP : H1 aP = some (.lst (Ow.places.map V.int)) := S2 _ _ upd_same
  have S12 := S1.trans S2
  clear haP haB
  have lB : ((Ow.places.map fun d => V.int (EbNum.boundAt d p q)) : List V).length = 121 := by rw [List.length_map, ePl]
  have lP : (Ow.places.map V.int).length = 121 := by rw [List.length_map, ePl]
  have both : ∀ {i : Nat} {x y : V}, (Ow.places.map V.int)[i]? = some x → (Ow.places.map fun d => V.int (EbNum.boundAt d p q))[i]? = some y → ∃ d, Ow.places[i]? = some d ∧ x = .int d ∧ y = .int (EbNum.boundAt d p q) := fun {i x y} hx hy => by
    rw [List.getElem?_map] at hx hy
    obtain ⟨d, hd, e⟩ := Option.map_eq_some_iff.mp hx
    rw [hd] at hy
    exact ⟨d, hd, e.symm, (Option.some.inj hy).symm⟩
  -- where nothing is lost
  refine ⟨_, rfl, _, rfl, aP, aB, _, _, rfl, SqL.of eP, SqL.of eB, fun aN haN => ?_⟩
  refine lc_it (walk_zip (a := aP) (b := aB) (xs := Ow.places.map V.int) (ys := Ow.places.map fun d => V.int (EbNum.boundAt d p q)) (n := 121) (by rw [lB, lP]; rfl)) (fun i H' => Same H1 H' ∧ H' aN = some (.lst (((Ow.places.take i).filter fun d => decide (EbNum.boundAt d p q = 0)).map V.int))) ⟨same_upd haN, upd_same⟩ (fun i H' _ h => ⟨SqL.of (h.1 _ _ eP), SqL.of (h.1 _ _ eB)⟩) ?_ ?_
  · rintro i v H2 H3 hi ⟨S3, e3⟩ ⟨t, x, y, rfl, ht, rfl, hx, hy⟩
    obtain ⟨d, hd, rfl, rfl⟩ := both hx hy
    have S4 := same_upd (o := HO.tup [V.int d, V.int (EbNum.boundAt d p q)]) ht
    have e4 := take_filter_succ Ow.places (fun d => decide (EbNum.boundAt d p q = 0)) hd
    refine ⟨t, _, rfl, SqT.of upd_same, rfl, _, _, rfl, _, _, rfl, rfl, ?_⟩
    refine ⟨rfl, _, rfl, rfl, _, rfl, ?_⟩
    rw [dec_ints]
    refine ite2 (fun c => ?_) fun c => ?_
    · refine ⟨_, rfl, _, S4 _ _ e3, ?_, ?_, ?_⟩
      · rw [List.length_map]
        exact Nat.lt_of_le_of_lt (List.length_filter_le _ _) (by rw [List.length_take]; omega)
      · exact fun c o z => by rw [upd_ne (ne_of_none z haN)]; exact (S3.trans S4) c o z
      · rw [upd_same, e4, if_pos c, List.map_append]
        rfl
    · refine ⟨S3.trans S4, ?_⟩
      rw [e4, if_neg c, List.append_nil]
      exact S4 _ _ e3
  rintro H2 ⟨S3, eN⟩
  rw [show Ow.places.take 121 = Ow.places from by rw [← ePl, List.take_length]] at eN
  have eNL : Ow.noneLost p q = Ow.places.filter fun d => decide (EbNum.boundAt d p q = 0) := rfl
  rw [← eNL] at eN
  have S13 := S12.trans S3
  have eM : Ow.placeM p q = (match Ow.noneLost p q with
    | d :: _ => some (if 0 < d then d else 0)
    | [] => (Ow.few p q).getLast?) := rfl
  refine ⟨_, rfl, (by show 0 ≤ sizeLine; decide), fun e he => ⟨_, _, .lst (SqL.of (same_upd he _ _ eN)) (dpAll_ints _), .lst (SqL.of upd_same) .nil, PySem.W.shaped_ints _, rfl, _, rfl, ?_⟩⟩
  have S4 := same_upd (o := HO.lst []) he
  have S14 := S13.trans S4
  rw [eqv_empty]
  cases hN : Ow.noneLost p q with
  | cons d0 r =>
    rw [hN] at eM eN
    refine iteT ?_
    refine ⟨_, rfl, aN, _, 0, V.int d0, rfl, rfl, SqL.of (S4 _ _ eN), atI_nat (xs := (d0 :: r).map V.int) (j := 0) rfl, 0, d0, rfl, ?_⟩
    exact kS _ _ S14 eM
  | nil =>
    rw [hN] at eM
    refine iteF ?_
    have eP2 := (S3.trans S4) _ _ eP
    have eB2 := (S3.trans S4) _ _ eB
    generalize upd H2 e (HO.lst []) = H3 at S14 eP2 eB2
    refine ⟨_, rfl, _, rfl, aP, aB, _, _, rfl, SqL.of eP2, SqL.of eB2, fun aF haF => ?_⟩
    refine lc_it (walk_zip (a := aP) (b := aB) (xs := Ow.places.map V.int) (ys := Ow.places.map fun d => V.int (EbNum.boundAt d p q)) (n := 121) (by rw [lB, lP]; rfl)) (fun i H' => Same H3 H' ∧ H' aF = some (.lst (((Ow.places.take i).filter fun d => decide (EbNum.boundAt d p q ≤ 99)).map V.int))) ⟨same_upd haF, upd_same⟩ (fun i H' _ h => ⟨SqL.of (h.1 _ _ eP2), SqL.of (h.1 _ _ eB2)⟩) ?_ ?_
    · rintro i v H4 H5 hi ⟨S5, e5⟩ ⟨t, x, y, rfl, ht, rfl, hx, hy⟩
      obtain ⟨d, hd, rfl, rfl⟩ := both hx hy
      have S6 := same_upd (o := HO.tup [V.int d, V.int (EbNum.boundAt d p q)]) ht
      have e6 := take_filter_succ Ow.places (fun d => decide (EbNum.boundAt d p q ≤ 99)) hd
      refine ⟨t, _, rfl, SqT.of upd_same, rfl, _, _, rfl, _, _, rfl, rfl, ?_⟩
      refine ⟨rfl, _, rfl, _, _, rfl, rfl, _, rfl, ?_⟩
      refine ite2 (fun c => ?_) fun c => ?_
      · refine ⟨_, rfl, _, S6 _ _ e5, ?_, ?_, ?_⟩
        · rw [List.length_map]
          exact Nat.lt_of_le_of_lt (List.length_filter_le _ _) (by rw [List.length_take]; omega)
        · exact fun c o z => by rw [upd_ne (ne_of_none z haF)]; exact (S5.trans S6) c o z
        · rw [upd_same, e6, if_pos c, List.map_append]
          rfl
      · refine ⟨S5.trans S6, ?_⟩
        rw [e6, if_neg c, List.append_nil]
        exact S6 _ _ e5
    rintro H4 ⟨S5, eF⟩
    rw [show Ow.places.take 121 = Ow.places from by rw [← ePl, List.take_length]] at eF
    have eFW : Ow.few p q = Ow.places.filter fun d => decide (EbNum.boundAt d p q ≤ 99) := rfl
    rw [← eFW] at eF
    have S15 := S14.trans S5
    refine ⟨_, rfl, (by show 0 ≤ sizeLine; decide), fun e2 he2 => ⟨_, _, .lst (SqL.of (same_upd he2 _ _ eF)) (dpAll_ints _), .lst (SqL.of upd_same) .nil, PySem.W.shaped_ints _, rfl, _, rfl, ?_⟩⟩
    have S6 := same_upd (o := HO.lst []) he2
    rw [eqv_empty]
    rcases List.eq_nil_or_concat (Ow.few p q) with hF | ⟨ys, d, hF⟩
    · rw [hF]
      rw [hF] at eM
      exact iteF (kN _ (S15.trans S6) eM)
    · rw [hF]
      rw [hF] at eM eF
      rw [decide_eq_false (by simp)]
      refine iteT ?_
      refine ⟨_, rfl, _, rfl, aF, _, -1, V.int d, rfl, rfl, SqL.of (S6 _ _ eF), ?_, ?_⟩
      · rw [List.concat_eq_append, List.map_append]
        exact atI_last _ _
      · refine kS _ _ (S15.trans S6) ?_
        rw [eM, List.concat_eq_append]
        simp
def spWhole_text : Sp := fun vs H Q _ => ∃ m : Nat, vs = [.int (m : Int)] ∧ m < 10 ^ 4000 ∧ ∀ H' p, Same H H' → H' p = some (.lst ((Ow.B (Ow.dg m)).map V.int)) → Q (.ref p) H'
theorem sc_whole_text : FnScope ["number", "sign"] ["number"] (defScope s_whole_text) := ⟨rfl, rfl, rfl, by decide +kernel, rfl, by decide +kernel, by decide +kernel⟩
theorem signs_nat (m : Nat) : (Str.ofString (toString (m : Int))).cps.toList.map (fun c => ((c : Nat) : Int)) = Ow.B (Ow.dg m) := by
  rw [signs_ofString, List.map_map, ← Ow.dg_chars]
  have e : (toString (m : Int)).toList = Nat.toDigits 10 m := by
    show (Nat.repr m).toList = _
    exact Nat.toList_repr
  rw [e]
  rfl
theorem ok_whole_text (S : Src K mg "whole_text" s_whole_text) (T : Bi mg) (dg : PySem.W.nsIn K cStatics "sys.int_max_str_digits" = some none) : Def P w K mg base CX0 "whole_text" 1 ["number"] spWhole_text := by
  refine S.def (fun _ _ _ _ _ _ us hl => match us, hl with | [_], _ => rfl) fun f fd _ F => F.ok sc_whole_text (fun vs H Q E h => ?_) fun cdv A outer s H vs Q E hr h => ?_
  · obtain ⟨m, rfl, _⟩ := h
    rfl
  have nd := sc_whole_text.nd
  refine ⟨_, pss_one (ps_ret (pe_lc (own := [("sign", 1)]) (g := gName 1) (tt := tYes) rfl nd (pi_str (pe_callTy (call_strB rfl dg) (by rfl) T.str (by decide +kernel) (pa_cons (pv 0) pa_nil)))
    (blkOk_by (own := [("sign", 1)]) (N := ["number", "sign"]) (sc := defScope s_whole_text) (by decide +kernel)) (fun _ _ _ _ _ => pg_name (i := 1) nd rfl (Or.inl rfl)) (fun _ _ _ _ _ => pts_nil)
    (fun _ _ _ _ _ => pe_callB call_ord (by rfl) T.ord (by decide +kernel) (pa_cons (pv 1) pa_nil)))), ?_⟩
  obtain ⟨m, rfl, hm, k⟩ := h
  have hz : ((m : Int)).natAbs < 10 ^ 4300 := by
    rw [Int.natAbs_natCast]
    exact Nat.lt_of_lt_of_le hm (Nat.pow_le_pow_right (by decide) (by decide))
  refine ⟨_, rfl, _, rfl, hz, _, rfl, fun D hD => ?_⟩
  have es := signs_nat m
  generalize Str.ofString (toString (m : Int)) = z at es
  have hlen : z.cps.size ≤ 4001 := by
    have h1 := congrArg List.length es
    rw [List.length_map, Ow.B_length, Array.length_toList] at h1
    rw [h1]
    exact Ow.dg_len_le 4000 m hm
  have big : (4001 : Nat) < sizeLine := by decide
  refine lc_it (walk_str (z := z)) (fun i H' => Same H H' ∧ H' D = some (.lst (((Ow.B (Ow.dg m)).take i).map V.int))) ⟨same_upd hD, upd_same⟩ (fun _ _ _ _ => True.intro) ?_ ?_
  · rintro i x H1 H2 hi ⟨S1, e1⟩ ⟨rfl, c, hc, rfl⟩
    have e2 : (Ow.B (Ow.dg m))[i]? = some ((c : Nat) : Int) := by
      rw [← es, List.getElem?_map, Array.getElem?_toList, hc]
      rfl
    refine ⟨rfl, _, rfl, ⟨#[c]⟩, rfl, rfl, _, e1, ?_, ?_, ?_⟩
    · rw [List.length_map, List.length_take]
      omega
    · have hne : ∀ b o, H b = some o → b ≠ D := fun b o q => ne_of_none q hD
      exact fun b o q => by rw [upd_ne (hne b o q)]; exact S1 b o q
    · rw [upd_same, List.take_add_one, e2]
      show _ = some (HO.lst (((Ow.B (Ow.dg m)).take i ++ [((c : Nat) : Int)]).map V.int))
      rw [List.map_append]
      rfl
  · rintro H1 ⟨S1, e1⟩
    refine k _ D S1 ?_
    have e2 : z.cps.size = (Ow.B (Ow.dg m)).length := by
      rw [← es, List.length_map, Array.length_toList]
    rw [e2, List.take_length] at e1
    exact e1
def spSigned : Sp := fun vs H Q _ => ∃ (n : Int) (p : Addr) (l : List Int), vs = [.int n, .ref p] ∧ H p = some (.lst (l.map V.int)) ∧ l.length ≤ 20000 ∧ ∀ H' q, Same H H' → H' q = some (.lst ((Ow.signedI n l).map V.int)) → Q (.ref q) H'
theorem sc_signed : FnScope ["number", "text"] ["number", "text"] (defScope s_signed) := ⟨rfl, rfl, rfl, by decide +kernel, rfl, by decide +kernel, by decide +kernel⟩
theorem ok_signed (S : Src K mg "signed" s_signed) (c : CI mg "HYPHEN_writing" 45) : Def P w K mg base CX0 "signed" 1 ["number", "text"] spSigned := by
  refine S.def (fun _ _ _ _ _ _ us hl => match us, hl with | [_, _], _ => rfl) fun f fd _ F => F.ok sc_signed (fun vs H Q E h => ?_) fun cdv A outer s H vs Q E hr h => ?_
  · obtain ⟨n, p, l, rfl, _⟩ := h
    rfl
  refine ⟨_, pss_cons (ps_if (pt_cmpR op_lt (pv 0) pe_int (nomark _)) (pss_one (ps_ret (pe_op op_cat (pe_lst (pa_cons (pe_ci c) pa_nil)) (pv 1)))) pss_nil) (pss_one (ps_ret (pv 1))), ?_⟩
  obtain ⟨n, p, l, rfl, hp, hl, k⟩ := h
  refine ⟨_, rfl, _, _, rfl, rfl, _, rfl, ?_⟩
  unfold Ow.signedI at k
  have big : (20001 : Nat) ≤ sizeLine := by decide
  refine ite2 (fun c => ?_) fun c => ?_
  · have c : n < 0 := of_decide_eq_true c
    rw [if_pos c] at k
    refine ⟨(by show 1 ≤ sizeLine; decide), fun q hq => ?_⟩
    have S1 := same_upd (o := HO.lst [V.int 45]) hq
    refine ⟨_, rfl, q, p, _, _, rfl, rfl, upd_same, S1 _ _ hp, ?_, fun r hr' => ?_⟩
    · rw [List.length_map]
      show 1 + l.length ≤ sizeLine
      omega
    · exact k _ r (S1.trans (same_upd hr')) upd_same
  · have c : ¬ n < 0 := fun z => c (decide_eq_true z)
    rw [if_neg c] at k
    exact ⟨_, rfl, k _ p (Same.refl _) hp⟩
def spUnits_text : Sp := fun vs H Q _ => ∃ n d : Int, vs = [.int n, .int d] ∧ -60 ≤ d ∧ d ≤ 60 ∧ n.natAbs < 10 ^ 4000 ∧ ∀ H' r, Same H H' → H' r = some (.lst ((Ow.unitsI n d).map V.int)) → Q (.ref r) H'
theorem sc_units_text : FnScope ["units", "place", "text"] ["units", "place"] (defScope s_units_text) := ⟨rfl, rfl, rfl, by decide +kernel, rfl, by decide +kernel, by decide +kernel⟩
theorem flat_rep (k : Nat) (x : V) : (List.replicate k [x]).flatten = List.replicate k x := by
  induction k with
  | zero => rfl
  | succ k ih =>
    rw [List.replicate_succ, List.flatten_cons, ih, List.replicate_succ]
    rfl
theorem abs_cast' (n : Int) : (if n < 0 then -n else n) = ((n.natAbs : Nat) : Int) := by split <;> omega
theorem unitsI_len {n d : Int} (h1 : -60 ≤ d) (h2 : d ≤ 60) (h : n.natAbs < 10 ^ 4000) : (Ow.unitsI n d).length ≤ 5000 := by
  have hl : (Ow.B (Ow.dg n.natAbs)).length ≤ 4001 := by rw [Ow.B_length]; exact Ow.dg_len_le 4000 _ h
  have aux : ∀ l : List Int, l.length ≤ 4900 → (Ow.signedI n l).length ≤ 5000 := fun l hl => by
    unfold Ow.signedI
    split
    · rw [List.length_cons]
      omega
    · omega
  unfold Ow.unitsI
  dsimp only
  split
  · refine aux _ ?_
    split
    · rw [List.length_append, List.length_replicate]
      omega
    · omega
  · refine aux _ ?_
    rw [List.length_append, List.length_append, List.length_take, List.length_drop, List.length_append, List.length_replicate]
    show _ + 1 + _ ≤ 4900
    omega
theorem ok_units_text (S : Src K mg "units_text" s_units_text) (T : Bi mg) (W : Def P w K mg base CX0 "whole_text" 1 ["number"] spWhole_text) (G : Def P w K mg base CX0 "signed" 1 ["number", "text"] spSigned) (c0 : CI mg "DIGIT_0_writing" 48) (cP : CI mg "POINT_writing" 46) :
    Def P w K mg base CX0 "units_text" 2 ["units", "place"] spUnits_text := by
  refine S.def (fun _ _ _ _ _ _ us hl => match us, hl with | [_, _], _ => rfl) fun f fd _ F => F.ok sc_units_text (fun vs H Q E h => ?_) fun cdv A outer s H vs Q E hr h => ?_
  · obtain ⟨n, d, rfl, _⟩ := h
    rfl
  have nd := sc_units_text.nd
  refine ⟨_, pss_cons (ps_set (i := 2) nd rfl (Or.inl rfl) (by exact call0 W hr (pa_cons (pe_callB call_abs (by rfl) T.abs (by decide +kernel) (pa_cons (pv 0) pa_nil)) pa_nil)))
    (pss_cons (ps_if (pt_cmpR op_le (pv 1) pe_int (nomark _))
      (C8.pss_cut (ps_if (pt_cmpR op_ne (pv 0) pe_int (nomark _)) (pss_one (ps_set (i := 2) nd rfl (Or.inl rfl) (pe_op op_cat (pv 2) (pe_op op_rep (pe_lst (pa_cons (pe_ci c0) pa_nil)) (pe_op op_sub pe_int (pv 1)))))) pss_nil)
        (pss_one (ps_ret (by exact call0 G hr (pa_cons (pv 0) (pa_cons (pv 2) pa_nil)))))) pss_nil)
    (pss_cons (ps_set (i := 2) nd rfl (Or.inl rfl) (pe_op op_cat (pe_op op_rep (pe_lst (pa_cons (pe_ci c0) pa_nil)) (pe_callB (call_max2 rfl) (by rfl) T.max (by decide +kernel) (pa_cons pe_int (pa_cons (pe_op op_sub (pe_op op_add (pv 1) pe_int) (pe_callB call_len_seq (by rfl) T.len PySem.boot_len (pa_cons (pv 2) pa_nil))) pa_nil)))) (pv 2)))
    (pss_one (ps_ret (by exact call0 G hr (pa_cons (pv 0) (pa_cons (pe_op op_cat (pe_op op_cat (pe_slice sl_list (pv 2) po_none (po_some (pe_op op_sub (pe_callB call_len_seq (by rfl) T.len PySem.boot_len (pa_cons (pv 2) pa_nil)) (pv 1)))) (pe_lst (pa_cons (pe_ci cP) pa_nil)))
      (pe_slice sl_list (pv 2) (po_some (pe_op op_sub (pe_callB call_len_seq (by rfl) T.len PySem.boot_len (pa_cons (pv 2) pa_nil)) (pv 1))) po_none)) pa_nil))))))), ?_⟩
  obtain ⟨n, d, rfl, h1, h2, hn, k⟩ := h
  have hl : (Ow.B (Ow.dg n.natAbs)).length ≤ 4001 := by rw [Ow.B_length]; exact Ow.dg_len_le 4000 _ hn
  have eU : Ow.unitsI n d = if d ≤ 0 then Ow.signedI n (if n ≠ 0 then Ow.B (Ow.dg n.natAbs) ++ List.replicate (0 - d).toNat 48 else Ow.B (Ow.dg n.natAbs)) else
      Ow.signedI n ((List.replicate (d + 1 - (Ow.B (Ow.dg n.natAbs)).length).toNat 48 ++ Ow.B (Ow.dg n.natAbs)).take ((List.replicate (d + 1 - (Ow.B (Ow.dg n.natAbs)).length).toNat 48 ++ Ow.B (Ow.dg n.natAbs)).length - d).toNat ++ [46] ++
        (List.replicate (d + 1 - (Ow.B (Ow.dg n.natAbs)).length).toNat 48 ++ Ow.B (Ow.dg n.natAbs)).drop ((List.replicate (d + 1 - (Ow.B (Ow.dg n.natAbs)).length).toNat 48 ++ Ow.B (Ow.dg n.natAbs)).length - d).toNat) := rfl
  rw [eU] at k
  have big : (20000 : Nat) ≤ sizeLine := by decide
  refine ⟨_, rfl, _, rfl, n.natAbs, congrArg (fun z => [V.int z]) (abs_cast' n), hn, fun H1 r1 S1 e1 => ?_⟩
  generalize Ow.B (Ow.dg n.natAbs) = t at k hl e1
  refine ⟨_, rfl, _, _, rfl, rfl, _, rfl, ?_⟩
  refine ite2 (fun c => ?_) fun c => ?_
  · have c : d ≤ 0 := of_decide_eq_true c
    rw [if_pos c] at k
    refine ⟨fun σ H' => ∃ (r : Addr) (l : List Int), Same H H' ∧ σ = [some (.int n), some (.int d), some (.ref r)] ∧ H' r = some (.lst (l.map V.int)) ∧ l.length ≤ 20000 ∧ (if n ≠ 0 then t ++ List.replicate (0 - d).toNat 48 else t) = l, ?_, ?_⟩
    · refine ⟨_, rfl, rfl, _, rfl, ?_⟩
      rw [dec_ints]
      by_cases z : n = 0
      · rw [decide_eq_true z]
        exact iteF ⟨r1, t, S1, rfl, e1, by omega, if_neg (fun y => y z)⟩
      · rw [decide_eq_false z]
        refine iteT ?_
        refine ⟨_, rfl, (by show 1 ≤ sizeLine; decide), fun a ha => ?_⟩
        have S2 := same_upd (o := HO.lst [V.int 48]) ha
        refine ⟨_, rfl, _, _, rfl, rfl, a, _, _, rfl, rfl, upd_same, by omega, by omega, ?_, fun a2 ha2 => ?_⟩
        · show 1 * _ ≤ sizeLine
          omega
        have S3 := same_upd (o := HO.lst (List.replicate (0 - d).toNat [V.int 48]).flatten) ha2
        refine ⟨r1, a2, _, _, rfl, rfl, (S2.trans S3) _ _ e1, upd_same, ?_, fun a3 ha3 => ?_⟩
        · rw [flat_rep, List.length_map, List.length_replicate]
          omega
        refine ⟨a3, t ++ List.replicate (0 - d).toNat 48, ((S1.trans S2).trans S3).trans (same_upd ha3), rfl, ?_, ?_, if_pos z⟩
        · rw [upd_same, flat_rep, List.map_append, List.map_replicate]
        · rw [List.length_append, List.length_replicate]
          omega
    rintro σ H2 ⟨r, l, S2, rfl, el, hl2, ex⟩
    rw [ex] at k
    exact ⟨_, rfl, _, rfl, n, r, l, rfl, el, hl2, fun H3 r3 S3 e3 => k _ r3 (S2.trans S3) e3⟩
  · have c : ¬ d ≤ 0 := fun z => c (decide_eq_true z)
    rw [if_neg c] at k
    have em : (if d + 1 - ((t.map V.int).length : Int) > 0 then d + 1 - ((t.map V.int).length : Int) else 0) = (((d + 1 - (t.length : Int)).toNat : Nat) : Int) := by
      rw [List.length_map]
      split <;> omega
    obtain ⟨m, hm⟩ : ∃ m, m = (d + 1 - (t.length : Int)).toNat := ⟨_, rfl⟩
    rw [← hm] at k em
    obtain ⟨u, hu⟩ : ∃ u : List Int, u = List.replicate m 48 ++ t := ⟨_, rfl⟩
    rw [← hu] at k
    have lu : u.length = m + t.length := by rw [hu, List.length_append, List.length_replicate]
    refine ⟨(by show 1 ≤ sizeLine; decide), fun a ha => ?_⟩
    have S2 := same_upd (o := HO.lst [V.int 48]) ha
    refine ⟨_, rfl, _, _, rfl, rfl, _, rfl, r1, _, rfl, .inl (SqL.of (S2 _ _ e1)), _, _, rfl, rfl, _, _, rfl, ?_⟩
    rw [em]
    refine ⟨a, _, _, rfl, rfl, upd_same, by omega, by omega, ?_, fun a2 ha2 => ?_⟩
    · rw [Int.toNat_natCast]
      show 1 * m ≤ sizeLine
      omega
    rw [Int.toNat_natCast, flat_rep]
    have S3 := same_upd (o := HO.lst (List.replicate m (V.int 48))) ha2
    refine ⟨_, rfl, a2, r1, _, _, rfl, rfl, upd_same, (S2.trans S3) _ _ e1, ?_, fun a3 ha3 => ?_⟩
    · rw [List.length_map, List.length_replicate]
      omega
    have eu : List.replicate m (V.int 48) ++ t.map V.int = u.map V.int := by rw [hu, List.map_append, List.map_replicate]
    rw [eu]
    have S4 := same_upd (o := HO.lst (u.map V.int)) ha3
    refine ⟨_, rfl, _, rfl, _, rfl, a3, _, rfl, .inl (SqL.of upd_same), _, rfl, _, _, rfl, rfl, _, rfl, a3, _, rfl, SqL.of upd_same, fun a4 ha4 => ?_⟩
    rw [List.length_map, cut_hd u (k := d) (by omega) (by omega)]
    have S5 := same_upd (o := HO.lst ((u.take ((u.length : Int) - d).toNat).map V.int)) ha4
    refine ⟨(by show 1 ≤ sizeLine; decide), fun a5 ha5 => ?_⟩
    have S6 := same_upd (o := HO.lst [V.int 46]) ha5
    refine ⟨a4, a5, _, _, rfl, rfl, S6 _ _ upd_same, upd_same, ?_, fun a6 ha6 => ?_⟩
    · rw [List.length_map, List.length_take]
      show _ + 1 ≤ sizeLine
      omega
    have S7 := same_upd (o := HO.lst ((u.take ((u.length : Int) - d).toNat).map V.int ++ [V.int 46])) ha6
    have e3 := ((S5.trans S6).trans S7) a3 _ upd_same
    refine ⟨_, rfl, _, rfl, a3, _, rfl, .inl (SqL.of e3), _, rfl, _, _, rfl, rfl, _, rfl, a3, _, rfl, SqL.of e3, fun a7 ha7 => ?_⟩
    rw [List.length_map, cut_tl u (k := d) (by omega) (by omega)]
    have S8 := same_upd (o := HO.lst ((u.drop ((u.length : Int) - d).toNat).map V.int)) ha7
    refine ⟨a6, a7, _, _, rfl, rfl, S8 _ _ upd_same, upd_same, ?_, fun a8 ha8 => ?_⟩
    · rw [List.length_append, List.length_map, List.length_map, List.length_take, List.length_drop]
      show _ + 1 + _ ≤ sizeLine
      omega
    refine ⟨n, a8, u.take ((u.length : Int) - d).toNat ++ [46] ++ u.drop ((u.length : Int) - d).toNat, rfl, ?_, ?_, fun H9 r9 S9 e9 => ?_⟩
    · rw [upd_same, List.map_append, List.map_append]
      rfl
    · rw [List.length_append, List.length_append, List.length_take, List.length_drop]
      show _ + 1 + _ ≤ 20000
      omega
    · exact k _ r9 ((((((((S1.trans S2).trans S3).trans S4).trans S5).trans S6).trans S7).trans S8).trans (same_upd ha8) |>.trans S9) e9
def spTold : Sp := fun vs H Q _ => ∃ (p : Addr) (l : List Int), vs = [.ref p] ∧ H p = some (.lst (l.map V.int)) ∧ l.length ≤ 50000 ∧ ∀ H' q, Same H H' → H' q = some (.lst ((Ow.toldI l).map V.int)) → Q (.ref q) H'
theorem sc_told : FnScope ["text"] ["text"] (defScope s_told) := ⟨rfl, rfl, rfl, by decide +kernel, rfl, by decide +kernel, by decide +kernel⟩
theorem ok_told (S : Src K mg "told" s_told) (T : Bi mg) : Def P w K mg base CX0 "told" 1 ["text"] spTold := by
  refine S.def (fun _ _ _ _ _ _ us hl => match us, hl with | [_], _ => rfl) fun f fd _ F => F.ok sc_told (fun vs H Q E h => ?_) fun cdv A outer s H vs Q E hr h => ?_
  · obtain ⟨p, l, rfl, _⟩ := h
    rfl
  refine ⟨_, pss_one (ps_ret (pe_op op_cat (pe_lst (pa_cons (pe_callB call_len_seq (by rfl) T.len PySem.boot_len (pa_cons (pv 0) pa_nil)) pa_nil)) (pv 0))), ?_⟩
  obtain ⟨p, l, rfl, hp, hl, k⟩ := h
  have big : (50001 : Nat) ≤ sizeLine := by decide
  refine ⟨_, rfl, p, _, rfl, .inl (SqL.of hp), (by show 1 ≤ sizeLine; decide), fun a ha => ?_⟩
  have S1 := same_upd (o := HO.lst [V.int ((l.map V.int).length : Nat)]) ha
  refine ⟨_, rfl, a, p, _, _, rfl, rfl, upd_same, S1 _ _ hp, ?_, fun r hr' => ?_⟩
  · rw [List.length_map]
    show 1 + l.length ≤ sizeLine
    omega
  · refine k _ r (S1.trans (same_upd hr')) ?_
    rw [upd_same, List.length_map]
    rfl
/-- refusal(e): the list that is told of the error -/
def spRefusal (CR : Addr) : Addr → Value → Option Addr → Sp := fun a cls d vs H Q _ => ∃ (c : Int) (more : List Int) (dd m : Addr), vs = [.ref a] ∧ cls = .ref CR ∧ d = some dd ∧ H dd = some (.xd [("more", .ref m), ("code", .int c)]) ∧ H m = some (.lst (more.map V.int)) ∧ more.length ≤ 100 ∧
  ∀ H' p, Same H H' → H' p = some (.lst ((c :: more).map V.int)) → Q (.ref p) H'
theorem sc_refusal : FnScope ["e"] ["e"] (defScope s_refusal) := ⟨rfl, rfl, rfl, by decide +kernel, rfl, by decide +kernel, by decide +kernel⟩
theorem ok_refusal {f : Addr} {fd : FuncData} (F : Fun K "refusal" "refusal" s_refusal f fd) (X : XfC K CR) (n1 : PySem.W.findIn K (.ref CR) "code" = some none) (n2 : PySem.W.findIn K (.ref CR) "more" = some none) :
    FnE P w K mg base 1 f fd ["e"] (spRefusal CR) := by
  refine fn_ofE F sc_refusal (fun a cls d vs H Q E h => ?_) fun cdv A outer s H vs Q E p a cls d he hr h => ?_
  · obtain ⟨c, more, dd, m, rfl, _⟩ := h
    rfl
  refine ⟨_, pss_one (ps_ret (pe_op op_cat (pe_lst (pa_cons (pe_errF X n1 List.mem_cons_self he (pv 0)) pa_nil)) (pe_errF X n2 List.mem_cons_self he (pv 0)))), ?_⟩
  obtain ⟨c, more, dd, m, rfl, rfl, rfl, hd, hm, hl, k⟩ := h
  refine ⟨_, rfl, rfl, rfl, dd, _, _, rfl, hd, rfl, (by show 1 ≤ sizeLine; decide), fun l hl' => ?_⟩
  have S1 := same_upd (o := HO.lst [V.int c]) hl'
  refine ⟨_, rfl, rfl, rfl, dd, _, _, rfl, S1 _ _ hd, rfl, l, m, _, _, rfl, rfl, upd_same, S1 _ _ hm, ?_, fun p hp => ?_⟩
  · rw [List.length_map]
    have : (101 : Nat) ≤ sizeLine := by decide
    show 1 + more.length ≤ sizeLine
    omega
  · exact k _ p (S1.trans (same_upd hp)) upd_same
def spLook_at_sign (CR : Addr) : Sp := fun vs H Q E => ∃ (p : Addr) (q : Rat), vs = [.ref p] ∧ NumAt H p q ∧ (q.num < 0 → Err6 CR H E (-2) []) ∧ (¬ q.num < 0 → ∀ H', Same H H' → Q .non H')
theorem sc_look_at_sign : FnScope ["one"] ["one"] (defScope s_look_at_sign) := ⟨rfl, rfl, rfl, by decide +kernel, rfl, by decide +kernel, by decide +kernel⟩
theorem ok_look_at_sign (S : Src K mg "look_at_sign" s_look_at_sign) (R : Def P w K mg base (L2.CX P w) "refuse" 3 ["code"] (spRefuse CR)) : Def P w K mg base (L2.CX P w) "look_at_sign" 4 ["one"] (spLook_at_sign CR) := by
  refine S.def (fun _ _ _ _ _ _ us hl => match us, hl with | [_], _ => rfl) fun f fd _ F => F.okX sc_look_at_sign (fun vs H Q E h => ?_) fun cdv A outer s H vs Q E hr h => ?_
  · obtain ⟨p, q, rfl, _⟩ := h
    rfl
  refine ⟨_, pss_one (ps_if (pt_cmpR op_lt (pe_ix ix_tup (pv 0) pe_int (fun _ _ => rfl)) pe_int (nomark _)) (pss_one (ps_expr (by exact callS R hr (fun σ => passAt (takes_of rfl rfl rfl rfl) σ) (pa_cons (pe_un un_neg pe_int) pa_nil)))) pss_nil), ?_⟩
  obtain ⟨p, q, rfl, hp, kE, kQ⟩ := h
  refine ⟨_, rfl, p, _, 0, _, rfl, rfl, SqT.of hp, rfl, _, _, rfl, rfl, _, rfl, ?_⟩
  refine ite2 (fun c => ?_) fun c => ?_
  · exact ⟨_, rfl, -2, rfl, kE (of_decide_eq_true c)⟩
  · exact kQ (fun z => c (decide_eq_true z)) _ (Same.refl _)
def spShown_now (K : PySem.W.Frag) (CR : Addr) : Sp := fun vs H Q E => ∃ (a b : Addr) (s t : EbNum.Bytes), vs = [.ref a, .ref b] ∧ SqL K H a (bv s) ∧ SqL K H b (bv t) ∧ Answers CR H Q E (Ow.shownM s t)
theorem sc_shown_now : FnScope ["v", "b", "value", "bound", "place", "units", "bounds"] ["v", "b"] (defScope s_shown_now) := ⟨rfl, rfl, rfl, by decide +kernel, rfl, by decide +kernel, by decide +kernel⟩
theorem place_range {p q : Rat} {d : Int} (h : Ow.placeM p q = some d) : -60 ≤ d ∧ d ≤ 60 := by
  have inP : ∀ {x : Int}, x ∈ Ow.places → -60 ≤ x ∧ x ≤ 60 := fun {x} hx => by
    obtain ⟨i, hi⟩ := List.mem_iff_getElem?.mp hx
    exact place_in hi
  unfold Ow.placeM at h
  split at h
  · rename_i d0 r e
    have hm : d0 ∈ Ow.noneLost p q := by rw [e]; exact List.mem_cons_self
    have := inP (List.mem_filter.mp hm).1
    cases h
    split <;> omega
  · have hm : d ∈ Ow.few p q := List.mem_of_getLast? h
    exact inP (List.mem_filter.mp hm).1
theorem ok_shown_now (S : Src K mg "shown_now" s_shown_now) (T : Bi mg) (R : Def P w K mg base (L2.CX P w) "read_number" 7 ["text", "which"] (spRead_number K CR)) (G : Def P w K mg base (L2.CX P w) "look_at_sign" 4 ["one"] (spLook_at_sign CR))
    (PT : Def P w K mg base CX0 "place_told" 7 ["value", "bound"] spPlace_told) (Z : Def P w K mg base (L2.CX P w) "refuse" 3 ["code"] (spRefuse CR)) (SA : Def P w K mg base CX0 "shown_at" 5 ["value", "bound", "place"] spShown_at) (O : Def P w K mg base CX0 "of_units" 3 ["units", "place"] spOf_units)
    (Y : Def P w K mg base (L2.CX P w) "look_at_fit" 4 ["ones"] (spLook_at_fit CR)) (X : Def P w K mg base CX0 "units_text" 2 ["units", "place"] spUnits_text) (L : Def P w K mg base CX0 "told" 1 ["text"] spTold) (tB : TupC K mg "BETWEEN" [.int 32, .int 43, .int 45, .int 32]) :
    Def P w K mg base (L2.CX P w) "shown_now" 8 ["v", "b"] (spShown_now K CR) := by
  obtain ⟨aT, gT, hT⟩ := tB
  refine S.def (fun _ _ _ _ _ _ us hl => match us, hl with | [_, _], _ => rfl) fun f fd _ F => F.okX sc_shown_now (fun vs H Q E h => ?_) fun cdv A outer s H vs Q E hr h => ?_
  · obtain ⟨a, b, s, t, rfl, _⟩ := h
    rfl
  have nd := sc_shown_now.nd
  refine ⟨_, pss_cons (ps_set (i := 2) nd rfl (Or.inl rfl) (by exact callS R hr (fun σ => passAt (takes_of rfl rfl rfl rfl) σ) (pa_cons (pv 0) (pa_cons pe_int pa_nil))))
    (pss_cons (ps_set (i := 3) nd rfl (Or.inl rfl) (by exact callS R hr (fun σ => passAt (takes_of rfl rfl rfl rfl) σ) (pa_cons (pv 1) (pa_cons pe_int pa_nil))))
    (pss_cons (ps_expr (by exact callS G hr (fun σ => passAt (takes_of rfl rfl rfl rfl) σ) (pa_cons (pv 3) pa_nil)))
    (pss_cons (ps_set (i := 4) nd rfl (Or.inl rfl) (by exact call0 PT hr (pa_cons (pv 2) (pa_cons (pv 3) pa_nil))))
    (pss_cons (ps_if (pt_cmpR op_isN (pv 4) pe_non (nomark _)) (pss_one (ps_expr (by exact callS Z hr (fun σ => passAt (takes_of rfl rfl rfl rfl) σ) (pa_cons (pe_un un_neg pe_int) pa_nil)))) pss_nil)
    (pss_cons (ps_asg (by exact call0 SA hr (pa_cons (pv 2) (pa_cons (pv 3) (pa_cons (pv 4) pa_nil)))) (pg_tup rfl (pgs_cons (pg_name (i := 5) nd rfl (Or.inl rfl)) (pgs_cons (pg_name (i := 6) nd rfl (Or.inl rfl)) pgs_nil))))
    (pss_cons (ps_expr (by exact callS Y hr (fun σ => passAt (takes_of rfl rfl rfl rfl) σ) (pa_cons (pe_lst (pa_cons (by exact call0 O hr (pa_cons (pv 5) (pa_cons (pv 4) pa_nil))) (pa_cons (by exact call0 O hr (pa_cons (pv 6) (pa_cons (pv 4) pa_nil))) pa_nil))) pa_nil)))
    (pss_one (ps_ret (by exact call0 L hr (pa_cons (pe_op op_cat (pe_op op_cat (by exact call0 X hr (pa_cons (pv 5) (pa_cons (pv 4) pa_nil))) (pe_callTy call_list_of (by rfl) T.list (by decide +kernel) (pa_cons (pe_glob (x := "BETWEEN") (v := .ref aT) (by rfl) gT rfl) pa_nil)))
      (by exact call0 X hr (pa_cons (pv 6) (pa_cons (pv 4) pa_nil)))) pa_nil)))))))))), ?_⟩
  obtain ⟨a, b, s, t, rfl, ha, hb, kE, kQ⟩ := h
  have eO : Ow.shownM s t = (match Ow.readM 0 s with
    | .error l => .error l
    | .ok p => match Ow.readM 1 t with
      | .error l => .error l
      | .ok q => if q.num < 0 then .error [-2] else match Ow.placeM p q with
        | none => .error [-5]
        | some d => if (EbNum.fits (EbNum.worth d (EbNum.valueAt d p)) && EbNum.fits (EbNum.worth d (EbNum.boundAt d p q))) = true then .ok (Ow.toldI (Ow.unitsI (EbNum.valueAt d p) d ++ ([32, 43, 45, 32] ++ Ow.unitsI (EbNum.boundAt d p q) d))) else .error [-6]) := rfl
  refine ⟨_, rfl, a, s, 0, rfl, ha, fun l hl => ?_, fun p hp H1 n1 S1 e1 => ?_⟩
  · rw [hl] at eO
    exact kE l eO
  rw [hp] at eO
  dsimp only at eO
  refine ⟨_, rfl, b, t, 1, rfl, S1.seq hb, fun l hl => ?_, fun q hq H2 n2 S2 e2 => ?_⟩
  · rw [hl] at eO
    exact errL_same (kE l eO) S1
  rw [hq] at eO
  dsimp only at eO
  have S12 := S1.trans S2
  have fp := fit_of (read_fits hp)
  have fq := fit_of (read_fits hq)
  refine ⟨_, rfl, n2, q, rfl, e2, fun z => ?_, fun z H3 S3 => ?_⟩
  · rw [if_pos z] at eO
    exact (show Err6 CR H E (-2) [] from kE _ eO).same S12
  rw [if_neg z] at eO
  have S13 := S12.trans S3
  have p3 := (e1.same S2).same S3
  have q3 := e2.same S3
  refine ⟨_, rfl, _, rfl, n1, n2, p, q, rfl, p3, q3, fp, fq, fun H4 S4 hM => ?_, fun H4 d S4 hM => ?_⟩
  · rw [hM] at eO
    refine ⟨_, rfl, rfl, _, rfl, ?_⟩
    refine iteT ?_
    exact ⟨_, rfl, -5, rfl, (show Err6 CR H E (-5) [] from kE _ eO).same (S13.trans S4)⟩
  rw [hM] at eO
  dsimp only at eO
  obtain ⟨h1, h2⟩ := place_range hM
  have vl := value_lt fp h1 h2
  have bl := bound_lt fp fq h1 h2
  have S14 := S13.trans S4
  refine ⟨_, rfl, rfl, _, rfl, ?_⟩
  refine iteF ?_
  refine ⟨_, rfl, _, rfl, _, rfl, n1, n2, p, q, d, rfl, p3.same S4, q3.same S4, fp, fq, h1, h2, fun H5 t5 S5 e5 => ?_⟩
  have S15 := S14.trans S5
  generalize EbNum.valueAt d p = u at eO vl e5
  generalize EbNum.boundAt d p q = v at eO bl e5
  refine ⟨t5, _, rfl, SqT.of e5, rfl, _, _, rfl, _, _, rfl, rfl, ?_⟩
  refine ⟨_, rfl, _, rfl, u, d, rfl, h1, h2, Nat.lt_trans vl (Nat.pow_lt_pow_right (by decide) (by decide)), fun H6 n6 S6 e6 => ?_⟩
  refine ⟨_, rfl, _, rfl, v, d, rfl, h1, h2, Nat.lt_trans bl (Nat.pow_lt_pow_right (by decide) (by decide)), fun H7 n7 S7 e7 => ?_⟩
  have S17 := (S15.trans S6).trans S7
  refine ⟨(by show 2 ≤ sizeLine; decide), fun l hl => ?_⟩
  have S8 := same_upd (o := HO.lst [V.ref n6, V.ref n7]) hl
  have S18 := S17.trans S8
  refine ⟨l, [n6, n7], [EbNum.worth d u, EbNum.worth d v], rfl, upd_same, NumsAt.two ((e6.same S7).same S8) (e7.same S8), fun hf H9 S9 => ?_, fun hf => ?_⟩
  · have hf : (EbNum.fits (EbNum.worth d u) && EbNum.fits (EbNum.worth d v)) = true := by simpa using hf
    rw [if_pos hf] at eO
    have ten : (2 : Nat) ^ 12892 < 10 ^ 4000 := by decide +kernel
    have u4 : u.natAbs < 10 ^ 4000 := Nat.lt_trans (Nat.lt_trans vl (Nat.pow_lt_pow_right (by decide) (by decide))) ten
    have v4 : v.natAbs < 10 ^ 4000 := Nat.lt_trans bl ten
    have lu := unitsI_len h1 h2 u4
    have lv := unitsI_len h1 h2 v4
    have big : (30000 : Nat) ≤ sizeLine := by decide
    have S19 := S18.trans S9
    refine ⟨_, rfl, _, rfl, u, d, rfl, h1, h2, u4, fun Ha ra Sa ea => ?_⟩
    refine ⟨aT, _, rfl, .inr (hT _), fun l2 hl2 => ?_⟩
    have Sb := same_upd (o := HO.lst [V.int 32, V.int 43, V.int 45, V.int 32]) hl2
    refine ⟨ra, l2, _, _, rfl, rfl, Sb _ _ ea, upd_same, ?_, fun c1 hc1 => ?_⟩
    · rw [List.length_map]
      show _ + 4 ≤ sizeLine
      omega
    have Sc := same_upd (o := HO.lst ((Ow.unitsI u d).map V.int ++ [V.int 32, V.int 43, V.int 45, V.int 32])) hc1
    refine ⟨_, rfl, _, rfl, v, d, rfl, h1, h2, v4, fun Hd rd Sd ed => ?_⟩
    refine ⟨c1, rd, _, _, rfl, rfl, Sd _ _ upd_same, ed, ?_, fun c2 hc2 => ?_⟩
    · rw [List.length_append, List.length_map, List.length_map]
      show _ + 4 + _ ≤ sizeLine
      omega
    have Se := same_upd (o := HO.lst ((Ow.unitsI u d).map V.int ++ [V.int 32, V.int 43, V.int 45, V.int 32] ++ (Ow.unitsI v d).map V.int)) hc2
    refine ⟨c2, Ow.unitsI u d ++ ([32, 43, 45, 32] ++ Ow.unitsI v d), rfl, ?_, ?_, fun Hf rf Sf ef => ?_⟩
    · rw [upd_same, List.map_append, List.map_append, List.append_assoc]
      rfl
    · rw [List.length_append, List.length_append]
      show _ + (4 + _) ≤ 50000
      omega
    · exact kQ _ eO _ rf ((((((S19.trans Sa).trans Sb).trans Sc).trans Sd).trans Se).trans Sf) ef
  · have hf : (EbNum.fits (EbNum.worth d u) && EbNum.fits (EbNum.worth d v)) = false := by simpa using hf
    rw [if_neg (by rw [hf]; exact Bool.false_ne_true)] at eO
    exact (show Err6 CR H E (-6) [] from kE _ eO).same S18
def spShown (K : PySem.W.Frag) : Sp := fun vs H Q _ => ∃ (a b : Addr) (s t : EbNum.Bytes), vs = [.ref a, .ref b] ∧ SqL K H a (bv s) ∧ SqL K H b (bv t) ∧ ∀ H' p, H' p = some (.lst ((Ow.ans (Ow.shownM s t)).map V.int)) → Q (.ref p) H'
theorem sc_shown : FnScope ["v", "b", "found", "e"] ["v", "b"] (defScope s_shown) := ⟨rfl, rfl, rfl, by decide +kernel, rfl, by decide +kernel, by decide +kernel⟩
theorem short_shown (s t : EbNum.Bytes) (l : List Int) (h : Ow.shownM s t = .error l) : ∃ c more, l = c :: more ∧ more.length ≤ 100 := by
  unfold Ow.shownM at h
  split at h
  · rename_i e
    cases h
    exact short_read e
  split at h
  · rename_i e
    cases h
    exact short_read e
  split at h
  · cases h
    exact ⟨_, _, rfl, by decide⟩
  split at h
  · cases h
    exact ⟨_, _, rfl, by decide⟩
  split at h
  · cases h
  · cases h
    exact ⟨_, _, rfl, by decide⟩
theorem ok_shown {f : Addr} {fd : FuncData} (F : Fun K "shown" "shown" s_shown f fd) (O : Own K mg base P w "Refusal" CR ["self", "code", "more"] 1 (spInitR CR)) (N : Def P w K mg base (L2.CX P w) "shown_now" 8 ["v", "b"] (spShown_now K CR))
    (RF : DefE P w K mg base "refusal" 1 ["e"] (spRefusal CR)) : FnOk P w K mg base CX0 9 f fd ["v", "b"] (spShown K) := by
  refine F.ok sc_shown (fun vs H Q E h => ?_) fun cdv A outer s H vs Q E hr h => ?_
  · obtain ⟨a, b, s, t, rfl, _⟩ := h
    rfl
  have nd := sc_shown.nd
  refine ⟨_, pss_cons (L2H.ps_try_asH (i := 3) (Wout := fun _ _ _ _ => False) rfl rfl nd rfl rfl ⟨rfl, by decide, Or.inl O.g⟩ takes0
      (fun W' pn xe _ tk _ => pss_one (ps_set (i := 2) nd rfl (Or.inl rfl) (by exact callS N hr (fun σ => passAt tk σ) (pa_cons (pv 0) (pa_cons (pv 1) pa_nil)))))
      (fun a oe cls d pn hz hf => pss_one (ps_set (i := 2) nd rfl (Or.inl rfl) (by exact callE RF (L2H.roomH_mark hr _) List.mem_cons_self ⟨rfl, hz, hf⟩ (pa_cons (pv 3) pa_nil)))))
    (pss_one (ps_ret (pv 2))), ?_⟩
  obtain ⟨a, b, s, t, rfl, ha, hb, k⟩ := h
  refine ⟨_, rfl, _, rfl, a, b, s, t, rfl, ha, hb, fun l hl => ?_, fun l hl H' p S1 hp => ?_⟩
  · obtain ⟨c, more, rfl, hlen⟩ := short_shown s t l hl
    refine fun H' d m S1 hd hm => ⟨true, O.te, fun _ a0 ha0 => ?_, fun q => Bool.noConfusion q⟩
    refine ⟨_, rfl, c, more, d, m, rfl, rfl, rfl, hd, hm, hlen, fun H2 p S2 hp => ?_⟩
    refine ⟨_, rfl, k _ p ?_⟩
    rw [hl]
    exact hp
  · refine ⟨_, rfl, k _ p ?_⟩
    rw [hl]
    exact hp
/-- the text's main def keeps its promise -/
theorem all_ok {fR fB : Addr} {dR dB : FuncData} (T : Bi mg)
    (hR : ClsAll K mg "Refusal" "Refusal.__init__" s_Refusal_init CR fR dR)
    (hB : ClsAll K mg "BadPlace" "BadPlace.__init__" s_BadPlace_init CB fB dB)
    (nC : PySem.W.findIn K (.ref CR) "code" = some none)
    (nM : PySem.W.findIn K (.ref CR) "more" = some none)
    (nB : PySem.W.findIn K (.ref CB) "at" = some none)
    (dg : PySem.W.nsIn K cStatics "sys.int_max_str_digits" = some none)
    (S_refuse : Src K mg "refuse" s_refuse)
    (S_common_of : Src K mg "common_of" s_common_of)
    (S_number_of : Src K mg "number_of" s_number_of)
    (S_negated : Src K mg "negated" s_negated)
    (S_added : Src K mg "added" s_added)
    (S_taken : Src K mg "taken" s_taken)
    (S_does_fit : Src K mg "does_fit" s_does_fit)
    (S_look_at_fit : Src K mg "look_at_fit" s_look_at_fit)
    (S_ten_to : Src K mg "ten_to" s_ten_to)
    (S_in_units : Src K mg "in_units" s_in_units)
    (S_of_units : Src K mg "of_units" s_of_units)
    (S_is_digit_at : Src K mg "is_digit_at" s_is_digit_at)
    (S_digits_end : Src K mg "digits_end" s_digits_end)
    (S_whole_of : Src K mg "whole_of" s_whole_of)
    (S_bottom_at : Src K mg "bottom_at" s_bottom_at)
    (S_number_at : Src K mg "number_at" s_number_at)
    (S_whole_number : Src K mg "whole_number" s_whole_number)
    (S_look_at_length : Src K mg "look_at_length" s_look_at_length)
    (S_read_number : Src K mg "read_number" s_read_number)
    (S_nearest : Src K mg "nearest" s_nearest)
    (S_rounded : Src K mg "rounded" s_rounded)
    (S_size_of : Src K mg "size_of" s_size_of)
    (S_shown_at : Src K mg "shown_at" s_shown_at)
    (S_place_told : Src K mg "place_told" s_place_told)
    (S_whole_text : Src K mg "whole_text" s_whole_text)
    (S_signed : Src K mg "signed" s_signed)
    (S_units_text : Src K mg "units_text" s_units_text)
    (S_told : Src K mg "told" s_told)
    (S_refusal : Src K mg "refusal" s_refusal)
    (S_look_at_sign : Src K mg "look_at_sign" s_look_at_sign)
    (S_shown_now : Src K mg "shown_now" s_shown_now)
    (c_MOST_BITS_numbers : CI mg "MOST_BITS" (4096))
    (c_DIGIT_0_reading : CI mg "DIGIT_0_reading" (48))
    (c_DIGIT_9_reading : CI mg "DIGIT_9" (57))
    (c_MOST_DIGITS_reading : CI mg "MOST_DIGITS" (1300))
    (c_HYPHEN_reading : CI mg "HYPHEN_reading" (45))
    (c_POINT_reading : CI mg "POINT_reading" (46))
    (c_STROKE_reading : CI mg "STROKE" (47))
    (c_MOST_BYTES_reading : CI mg "MOST_BYTES" (4096))
    (c_NEAREST_rounding : CI mg "NEAREST" (0))
    (c_UP_rounding : CI mg "UP" (1))
    (c_DOWN_rounding : CI mg "DOWN" (2))
    (c_AWAY_rounding : CI mg "AWAY" (3))
    (c_FIRST_PLACE_rounding : CI mg "FIRST_PLACE" (-60))
    (c_LAST_PLACE_rounding : CI mg "LAST_PLACE" (60))
    (c_MOST_UNITS_rounding : CI mg "MOST_UNITS" (99))
    (c_HYPHEN_writing : CI mg "HYPHEN_writing" (45))
    (c_DIGIT_0_writing : CI mg "DIGIT_0_writing" (48))
    (c_POINT_writing : CI mg "POINT_writing" (46))
    (tB : TupC K mg "BETWEEN" [.int 32, .int 43, .int 45, .int 32])
    {f : Addr} {fd : FuncData} (F : Fun K "shown" "shown" s_shown f fd) : FnOk P w K mg base CX0 9 f fd ["v", "b"] (spShown K) := by
  have iR := ok_Refusal_init (P := P) (w := w) (mg := mg) (base := base) hR.F T hR.cl nC nM
  have iB := ok_BadPlace_init (P := P) (w := w) (mg := mg) (base := base) hB.F T hB.cl nB
  have OR : Own K mg base P w "Refusal" CR ["self", "code", "more"] 1 (spInitR CR) := ⟨hR.cl, hR.g, hR.xf, hR.te, fR, dR, hR.ini, hR.ty, iR.1, iR.2, hR.F.binds fun _ _ _ _ _ _ us hl => match us, hl with | [_, _, _], _ => rfl⟩
  have OB : Own K mg base P w "BadPlace" CB ["self", "at"] 1 (spInitB CB) := ⟨hB.cl, hB.g, hB.xf, hB.te, fB, dB, hB.ini, hB.ty, iB.1, iB.2, hB.F.binds fun _ _ _ _ _ _ us hl => match us, hl with | [_, _], _ => rfl⟩
  have o_refuse := ok_refuse (P := P) (w := w) (base := base) S_refuse OR
  have o_common_of := ok_common_of (P := P) (w := w) (base := base) S_common_of T
  have o_number_of := ok_number_of (P := P) (w := w) (base := base) S_number_of o_common_of
  have o_negated := ok_negated (P := P) (w := w) (base := base) S_negated
  have o_added := ok_added (P := P) (w := w) (base := base) S_added o_number_of
  have o_taken := ok_taken (P := P) (w := w) (base := base) S_taken o_negated o_added
  have o_does_fit := ok_does_fit (P := P) (w := w) (base := base) S_does_fit T c_MOST_BITS_numbers
  have o_look_at_fit := ok_look_at_fit (P := P) (w := w) (base := base) S_look_at_fit o_does_fit o_refuse
  have o_ten_to := ok_ten_to (P := P) (w := w) (base := base) S_ten_to T
  have o_in_units := ok_in_units (P := P) (w := w) (base := base) S_in_units o_ten_to o_number_of
  have o_of_units := ok_of_units (P := P) (w := w) (base := base) S_of_units o_ten_to o_number_of
  have o_is_digit_at := ok_is_digit_at (P := P) (w := w) (base := base) S_is_digit_at T c_DIGIT_0_reading c_DIGIT_9_reading
  have o_digits_end := ok_digits_end (P := P) (w := w) (base := base) S_digits_end o_is_digit_at OB c_MOST_DIGITS_reading
  have o_whole_of := ok_whole_of (P := P) (w := w) (base := base) S_whole_of c_DIGIT_0_reading
  have o_bottom_at := ok_bottom_at (P := P) (w := w) (base := base) S_bottom_at o_digits_end o_whole_of OB
  have o_number_at := ok_number_at (P := P) (w := w) (base := base) S_number_at T o_digits_end o_whole_of o_bottom_at o_ten_to o_number_of c_HYPHEN_reading c_POINT_reading c_STROKE_reading
  have o_whole_number := ok_whole_number (P := P) (w := w) (base := base) S_whole_number T o_number_at OB
  have o_look_at_length := ok_look_at_length (P := P) (w := w) (base := base) S_look_at_length T o_refuse c_MOST_BYTES_reading
  have o_read_number := ok_read_number (P := P) (w := w) (base := base) S_read_number o_look_at_length o_whole_number o_look_at_fit OB OR nB
  have o_nearest := ok_nearest (P := P) (w := w) (base := base) S_nearest T
  have o_rounded := ok_rounded (P := P) (w := w) (base := base) S_rounded T o_nearest c_NEAREST_rounding c_UP_rounding c_DOWN_rounding c_AWAY_rounding
  have o_size_of := ok_size_of (P := P) (w := w) (base := base) S_size_of o_negated
  have o_shown_at := ok_shown_at (P := P) (w := w) (base := base) S_shown_at o_in_units o_rounded o_of_units o_taken o_added o_size_of c_NEAREST_rounding c_UP_rounding
  have o_place_told := ok_place_told (P := P) (w := w) (base := base) S_place_told T o_shown_at c_FIRST_PLACE_rounding c_LAST_PLACE_rounding c_MOST_UNITS_rounding
  have o_whole_text := ok_whole_text (P := P) (w := w) (base := base) S_whole_text T dg
  have o_signed := ok_signed (P := P) (w := w) (base := base) S_signed c_HYPHEN_writing
  have o_units_text := ok_units_text (P := P) (w := w) (base := base) S_units_text T o_whole_text o_signed c_DIGIT_0_writing c_POINT_writing
  have o_told := ok_told (P := P) (w := w) (base := base) S_told T
  have o_look_at_sign := ok_look_at_sign (P := P) (w := w) (base := base) S_look_at_sign o_refuse
  have o_shown_now := ok_shown_now (P := P) (w := w) (base := base) S_shown_now T o_read_number o_look_at_sign o_place_told o_refuse o_shown_at o_of_units o_look_at_fit o_units_text o_told tB
  have RF : DefE P w K mg base "refusal" 1 ["e"] (spRefusal CR) := by
    obtain ⟨f, fd, g, F⟩ := S_refusal
    exact ⟨f, fd, g, F.kp, ok_refusal F hR.xf nC nM, F.binds fun _ _ _ _ _ _ us hl => match us, hl with | [_], _ => rfl⟩
  exact ok_shown F OR o_shown_now RF
end
end Ox
open PySem PySem.W PyProof.Rows
set_option maxRecDepth 100000 in
set_option maxHeartbeats 8000000 in
theorem PySem.Challenge.cw_outward_s05_shown_holds : PySem.Challenge.rw_outward_s05_shown.Holds := by
  w_on; k_headS; (case hw => exact ⟨[.list [], .list []], by decide +kernel, by decide +kernel⟩)
  k_fillS
  refine L2.walk_specK (r := PySem.Challenge.rw_outward_s05_shown) (k := 9) (CX := L2.CX0) (ps := ["v", "b"]) (sp := Ox.spShown) (by decide +kernel) rfl rfl ⟨rfl, by decide, by decide⟩ (fun w h Y => PySem.W.kIn_of Y) ?F ?S (fun _ _ _ _ z => z)
  case F =>
    intro w mg fa h Y KX G hmg
    have T : Ox.Bi mg := by
      refine' Ox.bi_mk KX G ?a1 ?a2 ?a3 ?a4 ?a5 ?a6 ?a7 ?a8 ?a9 ?a0
      (case a1 => k_is); (case a2 => k_is); (case a3 => k_is); (case a4 => k_is); (case a5 => k_is); (case a6 => k_is); (case a7 => k_is); (case a8 => k_is); (case a9 => k_is); (case a0 => k_is)
    have HR := by
      refine' Ox.refusal_mk (st := Ox.s_Refusal_init) KX G ?a ?l ?sa ?ga ?gg ?exC ?tyC ?kC ?hd ?iC ?sC ?i1 ?t1 ?l1 ?c1 ?q1 ?n1 ?n2
      (case a => k_is); (case l => k_is); (case sa => k_is); (case ga => k_is); (case gg => k_is); (case exC => k_is); (case tyC => k_is); (case kC => k_is); (case hd => k_is); (case iC => k_is); (case sC => first | rfl | k_is); (case i1 => k_is); (case t1 => k_is); (case l1 => k_is); (case c1 => k_is); (case q1 => k_is); (case n1 => k_is); (case n2 => k_is)
    have HB := by
      refine' Ox.badplace_mk (st := Ox.s_BadPlace_init) KX G ?a ?l ?sa ?ga ?gg ?exC ?tyC ?kC ?hd ?iC ?sC ?i1 ?t1 ?l1 ?c1 ?q1 ?n1
      (case a => k_is); (case l => k_is); (case sa => k_is); (case ga => k_is); (case gg => k_is); (case exC => k_is); (case tyC => k_is); (case kC => k_is); (case hd => k_is); (case iC => k_is); (case sC => first | rfl | k_is); (case i1 => k_is); (case t1 => k_is); (case l1 => k_is); (case c1 => k_is); (case q1 => k_is); (case n1 => k_is)
    obtain ⟨CR, fR, dR, hR, nC, nM⟩ := HR
    obtain ⟨CB, fB, dB, hB, nB⟩ := HB
    have dg := by
      refine' Ox.dg_mk KX ?a
      (case a => k_is)
    have S_refuse := by
      refine' Ox.src_mk (x := "refuse") (st := Ox.s_refuse) KX G ?a ?l ?c ?k
      (case a => k_is); (case l => k_is); (case c => k_is); (case k => k_is)
    have S_common_of := by
      refine' Ox.src_mk (x := "common_of") (st := Ox.s_common_of) KX G ?a ?l ?c ?k
      (case a => k_is); (case l => k_is); (case c => k_is); (case k => k_is)
    have S_number_of := by
      refine' Ox.src_mk (x := "number_of") (st := Ox.s_number_of) KX G ?a ?l ?c ?k
      (case a => k_is); (case l => k_is); (case c => k_is); (case k => k_is)
    have S_negated := by
      refine' Ox.src_mk (x := "negated") (st := Ox.s_negated) KX G ?a ?l ?c ?k
      (case a => k_is); (case l => k_is); (case c => k_is); (case k => k_is)
    have S_added := by
      refine' Ox.src_mk (x := "added") (st := Ox.s_added) KX G ?a ?l ?c ?k
      (case a => k_is); (case l => k_is); (case c => k_is); (case k => k_is)
    have S_taken := by
      refine' Ox.src_mk (x := "taken") (st := Ox.s_taken) KX G ?a ?l ?c ?k
      (case a => k_is); (case l => k_is); (case c => k_is); (case k => k_is)
    have S_does_fit := by
      refine' Ox.src_mk (x := "does_fit") (st := Ox.s_does_fit) KX G ?a ?l ?c ?k
      (case a => k_is); (case l => k_is); (case c => k_is); (case k => k_is)
    have S_look_at_fit := by
      refine' Ox.src_mk (x := "look_at_fit") (st := Ox.s_look_at_fit) KX G ?a ?l ?c ?k
      (case a => k_is); (case l => k_is); (case c => k_is); (case k => k_is)
    have S_ten_to := by
      refine' Ox.src_mk (x := "ten_to") (st := Ox.s_ten_to) KX G ?a ?l ?c ?k
      (case a => k_is); (case l => k_is); (case c => k_is); (case k => k_is)
    have S_in_units := by
      refine' Ox.src_mk (x := "in_units") (st := Ox.s_in_units) KX G ?a ?l ?c ?k
      (case a => k_is); (case l => k_is); (case c => k_is); (case k => k_is)
    have S_of_units := by
      refine' Ox.src_mk (x := "of_units") (st := Ox.s_of_units) KX G ?a ?l ?c ?k
      (case a => k_is); (case l => k_is); (case c => k_is); (case k => k_is)
    have S_is_digit_at := by
      refine' Ox.src_mk (x := "is_digit_at") (st := Ox.s_is_digit_at) KX G ?a ?l ?c ?k
      (case a => k_is); (case l => k_is); (case c => k_is); (case k => k_is)
    have S_digits_end := by
      refine' Ox.src_mk (x := "digits_end") (st := Ox.s_digits_end) KX G ?a ?l ?c ?k
      (case a => k_is); (case l => k_is); (case c => k_is); (case k => k_is)
    have S_whole_of := by
      refine' Ox.src_mk (x := "whole_of") (st := Ox.s_whole_of) KX G ?a ?l ?c ?k
      (case a => k_is); (case l => k_is); (case c => k_is); (case k => k_is)
    have S_bottom_at := by
      refine' Ox.src_mk (x := "bottom_at") (st := Ox.s_bottom_at) KX G ?a ?l ?c ?k
      (case a => k_is); (case l => k_is); (case c => k_is); (case k => k_is)
    have S_number_at := by
      refine' Ox.src_mk (x := "number_at") (st := Ox.s_number_at) KX G ?a ?l ?c ?k
      (case a => k_is); (case l => k_is); (case c => k_is); (case k => k_is)
    have S_whole_number := by
      refine' Ox.src_mk (x := "whole_number") (st := Ox.s_whole_number) KX G ?a ?l ?c ?k
      (case a => k_is); (case l => k_is); (case c => k_is); (case k => k_is)
    have S_look_at_length := by
      refine' Ox.src_mk (x := "look_at_length") (st := Ox.s_look_at_length) KX G ?a ?l ?c ?k
      (case a => k_is); (case l => k_is); (case c => k_is); (case k => k_is)
    have S_read_number := by
      refine' Ox.src_mk (x := "read_number") (st := Ox.s_read_number) KX G ?a ?l ?c ?k
      (case a => k_is); (case l => k_is); (case c => k_is); (case k => k_is)
    have S_nearest := by
      refine' Ox.src_mk (x := "nearest") (st := Ox.s_nearest) KX G ?a ?l ?c ?k
      (case a => k_is); (case l => k_is); (case c => k_is); (case k => k_is)
    have S_rounded := by
      refine' Ox.src_mk (x := "rounded") (st := Ox.s_rounded) KX G ?a ?l ?c ?k
      (case a => k_is); (case l => k_is); (case c => k_is); (case k => k_is)
    have S_size_of := by
      refine' Ox.src_mk (x := "size_of") (st := Ox.s_size_of) KX G ?a ?l ?c ?k
      (case a => k_is); (case l => k_is); (case c => k_is); (case k => k_is)
    have S_shown_at := by
      refine' Ox.src_mk (x := "shown_at") (st := Ox.s_shown_at) KX G ?a ?l ?c ?k
      (case a => k_is); (case l => k_is); (case c => k_is); (case k => k_is)
    have S_place_told := by
      refine' Ox.src_mk (x := "place_told") (st := Ox.s_place_told) KX G ?a ?l ?c ?k
      (case a => k_is); (case l => k_is); (case c => k_is); (case k => k_is)
    have S_whole_text := by
      refine' Ox.src_mk (x := "whole_text") (st := Ox.s_whole_text) KX G ?a ?l ?c ?k
      (case a => k_is); (case l => k_is); (case c => k_is); (case k => k_is)
    have S_signed := by
      refine' Ox.src_mk (x := "signed") (st := Ox.s_signed) KX G ?a ?l ?c ?k
      (case a => k_is); (case l => k_is); (case c => k_is); (case k => k_is)
    have S_units_text := by
      refine' Ox.src_mk (x := "units_text") (st := Ox.s_units_text) KX G ?a ?l ?c ?k
      (case a => k_is); (case l => k_is); (case c => k_is); (case k => k_is)
    have S_told := by
      refine' Ox.src_mk (x := "told") (st := Ox.s_told) KX G ?a ?l ?c ?k
      (case a => k_is); (case l => k_is); (case c => k_is); (case k => k_is)
    have S_refusal := by
      refine' Ox.src_mk (x := "refusal") (st := Ox.s_refusal) KX G ?a ?l ?c ?k
      (case a => k_is); (case l => k_is); (case c => k_is); (case k => k_is)
    have S_look_at_sign := by
      refine' Ox.src_mk (x := "look_at_sign") (st := Ox.s_look_at_sign) KX G ?a ?l ?c ?k
      (case a => k_is); (case l => k_is); (case c => k_is); (case k => k_is)
    have S_shown_now := by
      refine' Ox.src_mk (x := "shown_now") (st := Ox.s_shown_now) KX G ?a ?l ?c ?k
      (case a => k_is); (case l => k_is); (case c => k_is); (case k => k_is)
    have c_MOST_BITS_numbers : Ox.CI mg "MOST_BITS" (4096) := by
      refine' Ox.ci_mk KX G ?a
      (case a => k_is)
    have c_DIGIT_0_reading : Ox.CI mg "DIGIT_0_reading" (48) := by
      refine' Ox.ci_mk KX G ?a
      (case a => k_is)
    have c_DIGIT_9_reading : Ox.CI mg "DIGIT_9" (57) := by
      refine' Ox.ci_mk KX G ?a
      (case a => k_is)
    have c_MOST_DIGITS_reading : Ox.CI mg "MOST_DIGITS" (1300) := by
      refine' Ox.ci_mk KX G ?a
      (case a => k_is)
    have c_HYPHEN_reading : Ox.CI mg "HYPHEN_reading" (45) := by
      refine' Ox.ci_mk KX G ?a
      (case a => k_is)
    have c_POINT_reading : Ox.CI mg "POINT_reading" (46) := by
      refine' Ox.ci_mk KX G ?a
      (case a => k_is)
    have c_STROKE_reading : Ox.CI mg "STROKE" (47) := by
      refine' Ox.ci_mk KX G ?a
      (case a => k_is)
    have c_MOST_BYTES_reading : Ox.CI mg "MOST_BYTES" (4096) := by
      refine' Ox.ci_mk KX G ?a
      (case a => k_is)
    have c_NEAREST_rounding : Ox.CI mg "NEAREST" (0) := by
      refine' Ox.ci_mk KX G ?a
      (case a => k_is)
    have c_UP_rounding : Ox.CI mg "UP" (1) := by
      refine' Ox.ci_mk KX G ?a
      (case a => k_is)
    have c_DOWN_rounding : Ox.CI mg "DOWN" (2) := by
      refine' Ox.ci_mk KX G ?a
      (case a => k_is)
    have c_AWAY_rounding : Ox.CI mg "AWAY" (3) := by
      refine' Ox.ci_mk KX G ?a
      (case a => k_is)
    have c_FIRST_PLACE_rounding : Ox.CI mg "FIRST_PLACE" (-60) := by
      refine' Ox.ci_mk KX G ?a
      (case a => k_is)
    have c_LAST_PLACE_rounding : Ox.CI mg "LAST_PLACE" (60) := by
      refine' Ox.ci_mk KX G ?a
      (case a => k_is)
    have c_MOST_UNITS_rounding : Ox.CI mg "MOST_UNITS" (99) := by
      refine' Ox.ci_mk KX G ?a
      (case a => k_is)
    have c_HYPHEN_writing : Ox.CI mg "HYPHEN_writing" (45) := by
      refine' Ox.ci_mk KX G ?a
      (case a => k_is)
    have c_DIGIT_0_writing : Ox.CI mg "DIGIT_0_writing" (48) := by
      refine' Ox.ci_mk KX G ?a
      (case a => k_is)
    have c_POINT_writing : Ox.CI mg "POINT_writing" (46) := by
      refine' Ox.ci_mk KX G ?a
      (case a => k_is)
    have tB := by
      refine' Ox.tup_mk (x := "BETWEEN") (xs := [L2.V.int 32, L2.V.int 43, L2.V.int 45, L2.V.int 32]) KX G ?a ?l ?v ?z
      (case a => k_is); (case l => k_is); (case z => decide)
      (case v => exact .cons ⟨_, rfl⟩ (.cons ⟨_, rfl⟩ (.cons ⟨_, rfl⟩ (.cons ⟨_, rfl⟩ .nil))))
    have SM := by
      refine' Ox.src_mk (x := "shown") (st := Ox.s_shown) KX G ?a ?l ?c ?k
      (case a => k_is); (case l => k_is); (case c => k_is); (case k => k_is)
    obtain ⟨f, fd, g, F⟩ := SM
    have e := hmg.symm.trans g
    cases e
    refine ⟨fd, fun s us hu => ?_, fun base hk hg => Ox.all_ok T hR hB nC nM nB dg S_refuse S_common_of S_number_of S_negated S_added S_taken S_does_fit S_look_at_fit S_ten_to S_in_units S_of_units S_is_digit_at S_digits_end S_whole_of S_bottom_at S_number_at S_whole_number S_look_at_length S_read_number S_nearest S_rounded S_size_of S_shown_at S_place_told S_whole_text S_signed S_units_text S_told S_refusal S_look_at_sign S_shown_now c_MOST_BITS_numbers c_DIGIT_0_reading c_DIGIT_9_reading c_MOST_DIGITS_reading c_HYPHEN_reading c_POINT_reading c_STROKE_reading c_MOST_BYTES_reading c_NEAREST_rounding c_UP_rounding c_DOWN_rounding c_AWAY_rounding c_FIRST_PLACE_rounding c_LAST_PLACE_rounding c_MOST_UNITS_rounding c_HYPHEN_writing c_DIGIT_0_writing c_POINT_writing tB F⟩
    obtain ⟨oc, od, kV, doc, pm, an, cdv, ct, osl, rfl, lk, hcd⟩ := F.ex
    exact match us, hu with | [_, _], _ => .of_eq rfl
  case S =>
    intro K H xs a hO hwi hask hx
    cases hx with
    | cons h1 h2 =>
      cases h2 with
      | cons h3 h4 =>
        cases h4
        cases h1 with
        | lst hs ha =>
          cases h3 with
          | lst hs' hb =>
            have e1 := L2.ints_dw a.1 _ ha
            have e2 := L2.ints_dw a.2.1 _ hb
            subst e1 e2
            obtain ⟨w1, w2⟩ := Ox.within2 hwi
            refine ⟨_, _, Ow.txt a.1, Ow.txt a.2.1, rfl, ?_, ?_, fun H' p hp => .lst (L2.SqL.of hp) ?_⟩
            · rw [Ox.bv_B, Ow.txt_back a.1 w1]; exact hs
            · rw [Ox.bv_B, Ow.txt_back a.2.1 w2]; exact hs'
            · have e : PyWqbbbi.shown a.1 a.2.1 = Ow.ans (Ow.shownM (Ow.txt a.1) (Ow.txt a.2.1)) := Ow.shown_due a.1 a.2.1
              rw [← e]
              exact L2.dw_ints _
#print axioms PySem.Challenge.cw_outward_s05_shown_holds
