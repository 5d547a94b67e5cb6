import PyProof.Rows.All
import Wide.All
import OpenK.AllK
import Wide.FinOn
import PyProof.EqAt
import PyProof.EqKinds
import PyProof.TupleCall
import Open.SpecLaws
import KE.OsGo
import PySem.Challenge.RW_stagefades_s01_answers
import HandS.ForSpec
import HandS.Comp
import HandS.Dict
import HandS.Iter
import HandS.Codes
import KE.KDictZip
import KE.KItemsList
import HandS.Walk
import HandS.Zip
import HandS.TryOnly
set_option Elab.async false
set_option linter.all false
set_option maxRecDepth 100000
set_option maxHeartbeats 8000000
namespace Sf
open Sg
/-! fractions -/
theorem frac_num (top : Int) (b : Nat) (hb : b ≠ 0) : (mkRat top b).num = top / ((Nat.gcd top.natAbs b : Nat) : Int) := by
  rw [Rat.num_mkRat, if_neg hb, Nat.gcd_comm]
theorem frac_den (top : Int) (b : Nat) (hb : b ≠ 0) : (mkRat top b).den = b / Nat.gcd top.natAbs b := by
  rw [Rat.den_mkRat, if_neg hb, Nat.gcd_comm]
theorem mk_div (top : Int) (b : Nat) : mkRat top b = (top : Rat) / (b : Rat) := by
  exact Rat.mkRat_eq_div ..
theorem self_div (q : Rat) : q = (q.num : Rat) / (q.den : Rat) := by
  rw [← mk_div, Rat.mkRat_self]
theorem den_ne (q : Rat) : ((q.den : Nat) : Rat) ≠ 0 := by
  intro h
  have := q.den_nz
  exact this (by exact_mod_cast h)
/-- k of p parts of the way from q to n -/
theorem between_eq (q : Rat) (n k p : Nat) (h : k < p) :
    mkRat (q.num * ((p : Int) - (k : Int)) + (n : Int) * (q.den : Int) * (k : Int)) (q.den * p) = q + ((n : Rat) - q) * (k : Rat) / (p : Rat) := by
  have hp : (p : Rat) ≠ 0 := by
    intro h0
    have : p = 0 := by exact_mod_cast h0
    omega
  have hd := den_ne q
  rw [mk_div]
  have hq := self_div q
  generalize hN : q.num = N at *
  generalize hD : q.den = D at *
  rw [hq]
  push_cast
  grind
theorem gcd_small (q : Rat) (n k p : Nat) (h : k < p) (hp : p ≤ 600) :
    Nat.gcd (q.num * ((p : Int) - (k : Int)) + (n : Int) * (q.den : Int) * (k : Int)).natAbs (q.den * p) ≤ 360000 := by
  generalize hT : (q.num * ((p : Int) - (k : Int)) + (n : Int) * (q.den : Int) * (k : Int)) = T
  have h1 : Nat.gcd T.natAbs (q.den * p) ∣ Nat.gcd T.natAbs q.den * Nat.gcd T.natAbs p := Nat.gcd_mul_right_dvd_mul_gcd ..
  -- a divisor of T and of q.den divides p - k
  have h2 : Nat.gcd T.natAbs q.den ∣ (p - k) := by
    have a1 : Nat.gcd T.natAbs q.den ∣ T.natAbs := Nat.gcd_dvd_left ..
    have a2 : Nat.gcd T.natAbs q.den ∣ q.den := Nat.gcd_dvd_right ..
    generalize Nat.gcd T.natAbs q.den = g at *
    have b1 : (g : Int) ∣ T := Int.ofNat_dvd_left.mpr a1
    have b2 : (g : Int) ∣ (q.den : Int) := Int.natCast_dvd_natCast.mpr a2
    have b3 : (g : Int) ∣ q.num * ((p : Int) - (k : Int)) := by
      have e : q.num * ((p : Int) - (k : Int)) = T - (q.den : Int) * ((n : Int) * (k : Int)) := by
        rw [← hT]
        have : (n : Int) * (q.den : Int) * (k : Int) = (q.den : Int) * ((n : Int) * (k : Int)) := by
          rw [Int.mul_comm (n : Int), Int.mul_assoc]
        omega
      rw [e]
      exact Int.dvd_sub b1 (Int.dvd_mul_of_dvd_left b2)
    have b4 : g ∣ q.num.natAbs * (p - k) := by
      have : (q.num * ((p : Int) - (k : Int))).natAbs = q.num.natAbs * (p - k) := by
        rw [Int.natAbs_mul]
        congr 1
        omega
      rw [← this]
      exact Int.ofNat_dvd_left.mp b3
    have co : Nat.Coprime g q.num.natAbs := by
      have c : Nat.Coprime q.num.natAbs q.den := q.reduced
      exact (Nat.Coprime.coprime_dvd_right a2 c).symm
    exact Nat.Coprime.dvd_of_dvd_mul_left co b4
  have h3 : Nat.gcd T.natAbs p ∣ p := Nat.gcd_dvd_right ..
  have l2 : Nat.gcd T.natAbs q.den ≤ p - k := Nat.le_of_dvd (by omega) h2
  have l3 : Nat.gcd T.natAbs p ≤ p := Nat.le_of_dvd (by omega) h3
  have pos : 0 < Nat.gcd T.natAbs q.den * Nat.gcd T.natAbs p := Nat.mul_pos (Nat.pos_of_dvd_of_pos h2 (by omega)) (Nat.pos_of_dvd_of_pos h3 (by omega))
  have l1 := Nat.le_of_dvd pos h1
  have l4 : Nat.gcd T.natAbs q.den * Nat.gcd T.natAbs p ≤ 600 * 600 := Nat.mul_le_mul (by omega) (by omega)
  omega
/-- a quotient against a whole number -/
theorem rat_lt_nat (q : Rat) (n : Nat) : q < (n : Rat) ↔ q.num < (n : Int) * (q.den : Int) := by
  rw [Rat.lt_iff]
  simp
theorem nat_lt_rat (q : Rat) (n : Nat) : (n : Rat) < q ↔ (n : Int) * (q.den : Int) < q.num := by
  rw [Rat.lt_iff]
  simp
theorem rat_eq_nat (q : Rat) (n : Nat) : q = (n : Rat) ↔ q.num = (n : Int) * (q.den : Int) := by
  have a := rat_lt_nat q n
  have b := nat_lt_rat q n
  constructor
  · intro e
    have x : ¬ q < (n : Rat) := by rw [e]; exact Rat.lt_irrefl
    have y : ¬ (n : Rat) < q := by rw [e]; exact Rat.lt_irrefl
    rw [a] at x
    rw [b] at y
    omega
  · intro e
    have x : ¬ q < (n : Rat) := by rw [a]; omega
    have y : ¬ (n : Rat) < q := by rw [b]; omega
    grind
/-- the same as data: numerator and denominator -/
theorem rat_eq_nat2 (q : Rat) (n : Nat) : q = (n : Rat) ↔ q.num = (n : Int) ∧ q.den = 1 := by
  constructor
  · intro e
    rw [e]
    exact ⟨Rat.num_natCast n, Rat.den_natCast n⟩
  · rintro ⟨h1, h2⟩
    rw [rat_eq_nat, h1, h2]
    simp
/-- the sign of a number -/
def sg (i : Int) : Int := (if 0 < i then 1 else 0) - (if i < 0 then 1 else 0)
theorem sg_cases (i : Int) : (0 < i ∧ sg i = 1) ∨ (i = 0 ∧ sg i = 0) ∨ (i < 0 ∧ sg i = -1) := by
  unfold sg
  rcases Int.lt_trichotomy i 0 with h | h | h
  · right; right
    rw [if_pos h, if_neg (by omega)]
    omega
  · right; left
    rw [if_neg (by omega), if_neg (by omega)]
    omega
  · left
    rw [if_pos h, if_neg (by omega)]
    omega
/-- -1, 0, 1 as a quotient is below, at, above a whole number -/
def sideOf (q : Rat) (z : Nat) : Int := sg (q.num - (z : Int) * (q.den : Int))
theorem side_lt {q : Rat} {z : Nat} (h : q < (z : Rat)) : sideOf q z = -1 := by
  rw [rat_lt_nat] at h
  unfold sideOf sg
  split <;> split <;> omega
theorem side_gt {q : Rat} {z : Nat} (h : (z : Rat) < q) : sideOf q z = 1 := by
  rw [nat_lt_rat] at h
  unfold sideOf sg
  split <;> split <;> omega
theorem side_eq {q : Rat} {z : Nat} (h : q = (z : Rat)) : sideOf q z = 0 := by
  rw [rat_eq_nat] at h
  unfold sideOf sg
  split <;> split <;> omega
theorem rat_cases (q : Rat) (z : Nat) : q < (z : Rat) ∨ q = (z : Rat) ∨ (z : Rat) < q := by grind
/-- at a level or beyond it, from the side where one was -/
def isMet (side : Int) (q : Rat) (z : Nat) : Prop := sideOf q z * side ≤ 0
instance (side : Int) (q : Rat) (z : Nat) : Decidable (isMet side q z) := by unfold isMet; exact inferInstance
theorem met_zero (q : Rat) (z : Nat) : isMet 0 q z := by unfold isMet; omega
theorem met_low (q : Rat) (z : Nat) : isMet (-1) q z ↔ (z : Rat) ≤ q := by
  unfold isMet
  rcases rat_cases q z with h | h | h
  · rw [side_lt h]
    constructor
    · intro x; omega
    · intro x; exact absurd h (by grind)
  · rw [side_eq h]
    constructor
    · intro x; rw [h]; exact Rat.le_refl
    · intro x; omega
  · rw [side_gt h]
    constructor
    · intro x; grind
    · intro x; omega
theorem met_high (q : Rat) (z : Nat) : isMet 1 q z ↔ q ≤ (z : Rat) := by
  unfold isMet
  rcases rat_cases q z with h | h | h
  · rw [side_lt h]
    constructor
    · intro x; grind
    · intro x; omega
  · rw [side_eq h]
    constructor
    · intro x; rw [h]; exact Rat.le_refl
    · intro x; omega
  · rw [side_gt h]
    constructor
    · intro x; omega
    · intro x; exact absurd h (by grind)
/-- from v it has come to z: the specification's word -/
theorem come_met {v : Rat} {z : Nat} (hv : v ≠ (z : Rat)) (q : Rat) : come v (z : Rat) q = true ↔ isMet (sideOf v z) q z := by
  unfold come
  rcases rat_cases v z with h | h | h
  · rw [side_lt h, met_low, if_pos h]
    exact decide_eq_true_iff
  · exact absurd h hv
  · rw [side_gt h, met_high, if_neg (by grind)]
    exact decide_eq_true_iff
end Sf

namespace Sf
open Sg
/-! the search within a fade -/
/-- the way to go: numerator, and the fade's whole way -/
def wayOf (f : Fade) (z : Nat) : Int := ((z : Int) * (f.from_.den : Int) - f.from_.num) * (f.lasts : Int)
def denOf (f : Fade) : Int := (f.to : Int) * (f.from_.den : Int) - f.from_.num
theorem here_lin (f : Fade) (T : Nat) (h : T ≤ f.lasts) (hp : 0 < f.lasts) : f.here (f.since + T) = f.from_ + ((f.to : Rat) - f.from_) * (T : Rat) / (f.lasts : Rat) := by
  unfold Fade.here
  have hP : (f.lasts : Rat) ≠ 0 := by
    intro h0
    have : f.lasts = 0 := by exact_mod_cast h0
    omega
  by_cases c : f.since + f.lasts ≤ f.since + T
  · rw [if_pos c]
    have e : T = f.lasts := by omega
    rw [e]
    grind
  · rw [if_neg c]
    have e : f.since + T - f.since = T := by omega
    rw [e]
theorem here_end (f : Fade) (t : Nat) (h : f.since + f.lasts ≤ t) : f.here t = (f.to : Rat) := by
  unfold Fade.here
  rw [if_pos h]
/-- the sign of what is missing -/
theorem side_lin (f : Fade) (z T : Nat) (h : T ≤ f.lasts) (hp : 0 < f.lasts) : sideOf (f.here (f.since + T)) z = sg (denOf f * (T : Int) - wayOf f z) := by
  rw [here_lin f T h hp]
  have hP : (0 : Rat) < (f.lasts : Rat) := by exact_mod_cast hp
  have hb : (0 : Rat) < (f.from_.den : Rat) := by exact_mod_cast f.from_.den_pos
  have hc : (0 : Rat) < (f.from_.den : Rat) * (f.lasts : Rat) := Rat.mul_pos hb hP
  have hs := self_div f.from_
  have key : (f.from_.den : Rat) * (f.lasts : Rat) * (f.from_ + ((f.to : Rat) - f.from_) * (T : Rat) / (f.lasts : Rat)) = (f.from_.den : Rat) * (f.lasts : Rat) * (z : Rat) + ((denOf f * (T : Int) - wayOf f z : Int) : Rat) := by
    unfold denOf wayOf
    generalize f.from_.num = N at *
    generalize f.from_.den = D at *
    generalize f.lasts = P at *
    rw [hs]
    push_cast
    grind
  generalize (f.from_ + ((f.to : Rat) - f.from_) * (T : Rat) / (f.lasts : Rat)) = q at *
  generalize (denOf f * (T : Int) - wayOf f z) = d at *
  generalize ((f.from_.den : Rat) * (f.lasts : Rat)) = c at *
  have k1 : q < (z : Rat) ↔ d < 0 := by
    rw [← Rat.mul_lt_mul_left hc, key]
    constructor
    · intro x
      have : (d : Rat) < ((0 : Int) : Rat) := by grind
      exact_mod_cast this
    · intro x
      have : (d : Rat) < ((0 : Int) : Rat) := by exact_mod_cast x
      grind
  have k2 : (z : Rat) < q ↔ 0 < d := by
    rw [← Rat.mul_lt_mul_left hc, key]
    constructor
    · intro x
      have : ((0 : Int) : Rat) < (d : Rat) := by grind
      exact_mod_cast this
    · intro x
      have : ((0 : Int) : Rat) < (d : Rat) := by exact_mod_cast x
      grind
  rcases rat_cases q z with h | h | h
  · rw [side_lt h]
    have := k1.mp h
    have := sg_cases d
    omega
  · rw [side_eq h]
    have a : ¬ d < 0 := fun x => by have := k1.mpr x; grind
    have b : ¬ 0 < d := fun x => by have := k2.mpr x; grind
    have := sg_cases d
    omega
  · rw [side_gt h]
    have := k2.mp h
    have := sg_cases d
    omega
/-- the first time, from low on, at which it's met in a fade; -1: never -/
def meetI (f : Fade) (low : Nat) (side : Int) (z : Nat) : Int :=
  if isMet side (f.here low) z then (low : Int)
  else if ¬ isMet side (f.to : Rat) z then -1
  else if f.lasts = 0 then (low : Int)
  else (f.since : Int) + (0 - Int.fdiv (0 - wayOf f z) (denOf f))
/-- the least from t on of which P, or none -/
def Least (P : Nat → Prop) (t : Nat) : Option Nat → Prop
  | some u => t ≤ u ∧ P u ∧ ∀ v, t ≤ v → v < u → ¬ P v
  | none => ∀ v, t ≤ v → ¬ P v
theorem Least.uniq {P : Nat → Prop} {t : Nat} : ∀ {a b : Option Nat}, Least P t a → Least P t b → a = b
  | none, none, _, _ => rfl
  | some u, none, ⟨h1, h2, _⟩, h => absurd h2 (h u h1)
  | none, some u, h, ⟨h1, h2, _⟩ => absurd h2 (h u h1)
  | some u, some v, ⟨h1, h2, h3⟩, ⟨g1, g2, g3⟩ => by
    have a : ¬ u < v := fun x => g3 u h1 x h2
    have b : ¬ v < u := fun x => h3 v g1 x g2
    have : u = v := by omega
    rw [this]
theorem Least.congr {P Q : Nat → Prop} {t : Nat} (h : ∀ v, t ≤ v → (P v ↔ Q v)) : ∀ {a : Option Nat}, Least P t a → Least Q t a
  | none, x => fun v hv q => x v hv ((h v hv).mpr q)
  | some u, ⟨h1, h2, h3⟩ => ⟨h1, (h u h1).mp h2, fun v hv hu q => h3 v hv hu ((h v hv).mpr q)⟩
/-- an answer as a number: -1 for none -/
def toI : Option Nat → Int
  | none => -1
  | some u => (u : Int)
theorem fdiv_ceil {w d : Int} (hd : d ≠ 0) (side : Int) (hs : side = -1 ∧ 0 < d ∨ side = 1 ∧ d < 0) (T : Int) :
    (0 - Int.fdiv (0 - w) d ≤ T) ↔ sg (d * T - w) * side ≤ 0 := by
  rcases hs with ⟨rfl, hd⟩ | ⟨rfl, hd⟩
  · rw [Int.fdiv_eq_ediv_of_nonneg _ (by omega)]
    have a : -T ≤ (0 - w) / d ↔ -T * d ≤ 0 - w := Int.le_ediv_iff_mul_le hd
    have e : -T * d = - (d * T) := by rw [Int.neg_mul, Int.mul_comm]
    rw [e] at a
    have b : (0 - (0 - w) / d ≤ T) ↔ -T ≤ (0 - w) / d := by omega
    rw [b, a]
    unfold sg
    split <;> split <;> omega
  · have e0 : Int.fdiv (0 - w) d = w / (-d) := by
      have : Int.fdiv (0 - w) d = Int.fdiv w (-d) := by
        have := Int.neg_fdiv_neg w (-d)
        rw [Int.neg_neg] at this
        rw [← this]
        congr 1
        omega
      rw [this, Int.fdiv_eq_ediv_of_nonneg _ (by omega)]
    rw [e0]
    have a : -T ≤ w / (-d) ↔ -T * (-d) ≤ w := Int.le_ediv_iff_mul_le (by omega)
    have e : -T * (-d) = d * T := by rw [Int.neg_mul_neg, Int.mul_comm]
    rw [e] at a
    have b : (0 - w / (-d) ≤ T) ↔ -T ≤ w / (-d) := by omega
    rw [b, a]
    unfold sg
    split <;> split <;> omega
/-- what holds where the last line of meetI is reached -/
theorem meet_last {f : Fade} {low z : Nat} {side : Int} (hs : side = -1 ∨ side = 0 ∨ side = 1) (hl : f.since ≤ low) (h1 : ¬ isMet side (f.here low) z) (h2 : isMet side (f.to : Rat) z) :
    low < f.since + f.lasts ∧ (side = -1 ∧ 0 < denOf f ∨ side = 1 ∧ denOf f < 0) ∧ sg (denOf f * ((low - f.since : Nat) : Int) - wayOf f z) * side > 0 ∧ sg (denOf f * (f.lasts : Int) - wayOf f z) * side ≤ 0 := by
  have c : low < f.since + f.lasts := by
    by_cases c : f.since + f.lasts ≤ low
    · rw [here_end f low c] at h1
      exact absurd h2 h1
    · omega
  have hp : 0 < f.lasts := by omega
  have e1 := side_lin f z (low - f.since) (by omega) hp
  have e2 := side_lin f z f.lasts (Nat.le_refl _) hp
  rw [here_end f (f.since + f.lasts) (Nat.le_refl _)] at e2
  have e3 : f.since + (low - f.since) = low := by omega
  rw [e3] at e1
  unfold isMet at h1 h2
  rw [e1] at h1
  rw [e2] at h2
  have hm : denOf f * (f.lasts : Int) - denOf f * ((low - f.since : Nat) : Int) = denOf f * ((f.lasts : Int) - ((low - f.since : Nat) : Int)) := by rw [Int.mul_sub]
  have hq : (0 : Int) < (f.lasts : Int) - ((low - f.since : Nat) : Int) := by omega
  generalize denOf f = d at *
  generalize wayOf f z = w at *
  generalize hA : d * (f.lasts : Int) = A at *
  generalize hB : d * ((low - f.since : Nat) : Int) = B at *
  generalize ((f.lasts : Int) - ((low - f.since : Nat) : Int)) = r at *
  refine ⟨c, ?_, by omega, by omega⟩
  rcases hs with rfl | rfl | rfl
  · left
    refine ⟨rfl, ?_⟩
    have a1 : B - w < 0 := by unfold sg at h1; split at h1 <;> split at h1 <;> omega
    have a2 : 0 ≤ A - w := by unfold sg at h2; split at h2 <;> split at h2 <;> omega
    have a3 : 0 < d * r := by omega
    exact Int.pos_of_mul_pos_left a3 hq
  · omega
  · right
    refine ⟨rfl, ?_⟩
    have a1 : 0 < B - w := by unfold sg at h1; split at h1 <;> split at h1 <;> omega
    have a2 : A - w ≤ 0 := by unfold sg at h2; split at h2 <;> split at h2 <;> omega
    have a3 : 0 < (-d) * r := by rw [Int.neg_mul]; omega
    have := Int.pos_of_mul_pos_left a3 hq
    omega
end Sf

namespace Sf
open Sg
theorem met_lin {f : Fade} {z t : Nat} {side : Int} (hl : f.since ≤ t) (he : t ≤ f.since + f.lasts) (hp : 0 < f.lasts) : isMet side (f.here t) z ↔ sg (denOf f * ((t - f.since : Nat) : Int) - wayOf f z) * side ≤ 0 := by
  have e1 := side_lin f z (t - f.since) (by omega) hp
  have e3 : f.since + (t - f.since) = t := by omega
  rw [e3] at e1
  unfold isMet
  rw [e1]
theorem no_between {d w T0 T P : Int} {side : Int} (hs : side = -1 ∨ side = 0 ∨ side = 1) (h1 : sg (d * T0 - w) * side > 0) (h2 : sg (d * P - w) * side > 0) (ha : T0 ≤ T) (hb : T ≤ P) : sg (d * T - w) * side > 0 := by
  have a1 := sg_cases (d * T0 - w)
  have a2 := sg_cases (d * P - w)
  have a3 := sg_cases (d * T - w)
  by_cases hd : 0 ≤ d
  · have m1 : d * T0 ≤ d * T := Int.mul_le_mul_of_nonneg_left ha hd
    have m2 : d * T ≤ d * P := Int.mul_le_mul_of_nonneg_left hb hd
    rcases hs with rfl | rfl | rfl <;> omega
  · have m1 : d * T ≤ d * T0 := Int.mul_le_mul_of_nonpos_left (by omega) ha
    have m2 : d * P ≤ d * T := Int.mul_le_mul_of_nonpos_left (by omega) hb
    rcases hs with rfl | rfl | rfl <;> omega
theorem meet_least {f : Fade} {low z : Nat} {side : Int} (hs : side = -1 ∨ side = 0 ∨ side = 1) (hl : f.since ≤ low) :
    ∃ R, meetI f low side z = toI R ∧ Least (fun t => isMet side (f.here t) z) low R := by
  unfold meetI
  by_cases h1 : isMet side (f.here low) z
  · rw [if_pos h1]
    exact ⟨some low, rfl, Nat.le_refl _, h1, fun v a b => by omega⟩
  rw [if_neg h1]
  by_cases h2 : isMet side (f.to : Rat) z
  · rw [if_neg (by simpa using h2)]
    obtain ⟨c, hd, p1, p2⟩ := meet_last hs hl h1 h2
    rw [if_neg (by omega)]
    have hp : 0 < f.lasts := by omega
    have ceil := fun T => fdiv_ceil (w := wayOf f z) (d := denOf f) (by omega) side hd T
    generalize hR : (0 - Int.fdiv (0 - wayOf f z) (denOf f)) = R at *
    have r1 : ¬ R ≤ ((low - f.since : Nat) : Int) := by rw [ceil]; omega
    have r2 : R ≤ (f.lasts : Int) := by rw [ceil]; exact p2
    refine ⟨some (f.since + R.toNat), ?_, by omega, ?_, fun v a b q => ?_⟩
    · show _ = (((f.since + R.toNat : Nat)) : Int)
      omega
    · show isMet side (f.here (f.since + R.toNat)) z
      rw [met_lin (by omega) (by omega) hp, ← ceil]
      omega
    · have q' : isMet side (f.here v) z := q
      rw [met_lin (by omega) (by omega) hp, ← ceil] at q'
      omega
  · rw [if_pos h2]
    refine ⟨none, rfl, fun v hv q => ?_⟩
    have q' : isMet side (f.here v) z := q
    by_cases c : f.since + f.lasts ≤ v
    · rw [here_end f v c] at q'
      exact h2 q'
    · have hp : 0 < f.lasts := by omega
      rw [met_lin (by omega) (by omega) hp] at q' h1
      have e2 := met_lin (z := z) (side := side) (f := f) (t := f.since + f.lasts) (by omega) (Nat.le_refl _) hp
      rw [here_end f _ (Nat.le_refl _)] at e2
      rw [e2] at h2
      have e : f.since + f.lasts - f.since = f.lasts := by omega
      rw [e] at h2
      have := no_between (d := denOf f) (w := wayOf f z) (T0 := ((low - f.since : Nat) : Int)) (T := ((v - f.since : Nat) : Int)) (P := (f.lasts : Int)) hs (by omega) (by omega) (by omega) (by omega)
      omega
theorem way_small {f : Fade} {z low : Nat} {side : Int} (hs : side = -1 ∨ side = 0 ∨ side = 1) (hd : side = -1 ∧ 0 < denOf f ∨ side = 1 ∧ denOf f < 0)
    (h1 : sg (denOf f * ((low - f.since : Nat) : Int) - wayOf f z) * side > 0) (h2 : sg (denOf f * (f.lasts : Int) - wayOf f z) * side ≤ 0) (hla : f.lasts ≤ 600) : (wayOf f z).natAbs ≤ 600 * (denOf f).natAbs := by
  have a1 := sg_cases (denOf f * ((low - f.since : Nat) : Int) - wayOf f z)
  have a2 := sg_cases (denOf f * (f.lasts : Int) - wayOf f z)
  have hT : (0 : Int) ≤ ((low - f.since : Nat) : Int) := Int.natCast_nonneg _
  have hP : (f.lasts : Int) ≤ 600 := by omega
  generalize ((low - f.since : Nat) : Int) = T at *
  generalize (f.lasts : Int) = Q at *
  generalize wayOf f z = w at *
  generalize denOf f = d at *
  rcases hd with ⟨rfl, hd⟩ | ⟨rfl, hd⟩
  · have m1 : 0 ≤ d * T := Int.mul_nonneg (by omega) hT
    have m2 : d * Q ≤ d * 600 := Int.mul_le_mul_of_nonneg_left hP (by omega)
    omega
  · have m1 : d * T ≤ 0 := by
      have := Int.mul_nonneg (show 0 ≤ -d by omega) hT
      rw [Int.neg_mul] at this
      omega
    have m2 : d * 600 ≤ d * Q := Int.mul_le_mul_of_nonpos_left (by omega) hP
    omega
/-! a channel: the fades before the last, the last with what will begin -/
structure Chan where
  pre : List Fade
  cur : Fade
/-- the fade that begins -/
def begun (f : Fade) (n : Coming) : Fade := ⟨f.here n.at_, n.level, n.at_, if f.here n.at_ < (n.level : Rat) then n.up else n.down, none⟩
theorem settled_some {f : Fade} {n : Coming} {t : Nat} (h : f.next = some n) (ht : n.at_ ≤ t) : f.settled t = begun f n := by
  unfold Fade.settled
  rw [h]
  dsimp only
  rw [if_neg (by omega)]
  rfl
theorem settled_late {f : Fade} {n : Coming} {t : Nat} (h : f.next = some n) (ht : t < n.at_) : f.settled t = f := by
  unfold Fade.settled
  rw [h]
  dsimp only
  rw [if_pos ht]
theorem settled_none {f : Fade} {t : Nat} (h : f.next = none) : f.settled t = f := by
  unfold Fade.settled
  rw [h]
/-- begin_told -/
def Chan.begin (c : Chan) (t : Nat) : Chan := match c.cur.next with
  | none => c
  | some n => if t < n.at_ then c else ⟨c.pre ++ [c.cur], begun c.cur n⟩
theorem begin_none {c : Chan} {t : Nat} (h : c.cur.next = none) : c.begin t = c := by
  unfold Chan.begin
  rw [h]
theorem begin_late {c : Chan} {n : Coming} {t : Nat} (h : c.cur.next = some n) (ht : t < n.at_) : c.begin t = c := by
  unfold Chan.begin
  rw [h]
  exact if_pos ht
theorem begin_some {c : Chan} {n : Coming} {t : Nat} (h : c.cur.next = some n) (ht : n.at_ ≤ t) : c.begin t = ⟨c.pre ++ [c.cur], begun c.cur n⟩ := by
  unfold Chan.begin
  rw [h]
  exact if_neg (by omega)
theorem begin_cur (c : Chan) (t : Nat) : (c.begin t).cur = c.cur.settled t := by
  cases h : c.cur.next with
  | none => rw [begin_none h, settled_none h]
  | some n =>
    by_cases ht : t < n.at_
    · rw [begin_late h ht, settled_late h ht]
    · rw [begin_some h (by omega), settled_some h (by omega)]
def Chan.next (c : Chan) (n : Coming) : Chan := ⟨c.pre, { c.cur with next := some n }⟩
/-- tell -/
def Chan.tell (c : Chan) (t : Nat) (n : Coming) : Chan := ((c.begin t).next n).begin t
theorem tell_cur (c : Chan) (t : Nat) (n : Coming) : (c.tell t n).cur = c.cur.told t n := by
  unfold Chan.tell Fade.told
  rw [begin_cur]
  show ({ (c.begin t).cur with next := some n } : Fade).settled t = _
  rw [begin_cur]
/-- all fades, if it's told nothing more -/
def Chan.all (c : Chan) : List Fade := match c.cur.next with
  | none => c.pre ++ [c.cur]
  | some n => c.pre ++ [c.cur, begun c.cur n]
/-- where a channel is at a time: the last fade that has begun -/
def traj : List Fade → Nat → Rat
  | [], _ => 0
  | [f], t => f.here t
  | f :: g :: r, t => if g.since ≤ t then traj (g :: r) t else f.here t
theorem traj_app_late {g : Fade} {t : Nat} (h : t < g.since) : ∀ (l : List Fade), l ≠ [] → traj (l ++ [g]) t = traj l t
  | [], h0 => absurd rfl h0
  | [f], _ => by
    show (if g.since ≤ t then _ else f.here t) = f.here t
    rw [if_neg (by omega)]
  | f :: k :: r, _ => by
    show (if k.since ≤ t then traj (k :: (r ++ [g])) t else f.here t) = (if k.since ≤ t then traj (k :: r) t else f.here t)
    have := traj_app_late h (k :: r) (by simp)
    rw [List.cons_append] at this
    rw [this]
theorem traj_app_now {g : Fade} {t : Nat} (h : g.since ≤ t) : ∀ (l : List Fade), (∀ f ∈ l, f.since ≤ t) → traj (l ++ [g]) t = g.here t
  | [], _ => rfl
  | [f], _ => by
    show (if g.since ≤ t then g.here t else f.here t) = g.here t
    rw [if_pos h]
  | f :: k :: r, hl => by
    show (if k.since ≤ t then traj (k :: (r ++ [g])) t else f.here t) = g.here t
    have := traj_app_now h (k :: r) (fun x hx => hl x (List.mem_cons_of_mem _ hx))
    rw [List.cons_append] at this
    rw [this, if_pos (hl k (by simp))]
/-- a channel in order, at a time by which its last fade has begun -/
structure ChWf (c : Chan) (now : Nat) : Prop where
  srt : (c.pre ++ [c.cur]).Pairwise (fun a b => a.since ≤ b.since)
  cs : c.cur.since ≤ now
  nx : ∀ n, c.cur.next = some n → c.cur.since ≤ n.at_
  sm : ∀ f ∈ c.pre ++ [c.cur], f.to ≤ 100 ∧ f.lasts ≤ 600
  nsm : ∀ n, c.cur.next = some n → n.level ≤ 100 ∧ n.up ≤ 600 ∧ n.down ≤ 600
theorem ChWf.pre_le {c : Chan} {now : Nat} (w : ChWf c now) : ∀ f ∈ c.pre, f.since ≤ c.cur.since := fun f hf => by
  have := (List.pairwise_append.mp w.srt).2.2
  exact this f hf c.cur (by simp)
theorem ChWf.mono {c : Chan} {a b : Nat} (w : ChWf c a) (h : a ≤ b) : ChWf c b := ⟨w.srt, Nat.le_trans w.cs h, w.nx, w.sm, w.nsm⟩
/-- behind its last fade's beginning a channel is where the specification says -/
theorem traj_level {c : Chan} {now t : Nat} (w : ChWf c now) (ht : c.cur.since ≤ t) : traj c.all t = c.cur.level t := by
  have hp : ∀ f ∈ c.pre, f.since ≤ t := fun f hf => Nat.le_trans (w.pre_le f hf) ht
  unfold Chan.all Fade.level
  cases h : c.cur.next with
  | none =>
    show traj (c.pre ++ [c.cur]) t = _
    rw [settled_none h, traj_app_now ht _ hp]
  | some n =>
    show traj (c.pre ++ [c.cur, begun c.cur n]) t = _
    have e : c.pre ++ [c.cur, begun c.cur n] = (c.pre ++ [c.cur]) ++ [begun c.cur n] := by simp
    rw [e]
    by_cases hn : n.at_ ≤ t
    · rw [settled_some h hn]
      refine traj_app_now hn _ fun f hf => ?_
      rcases List.mem_append.mp hf with x | x
      · exact hp f x
      · rw [List.mem_singleton.mp x]
        exact ht
    · rw [settled_late h (by omega), traj_app_late (by show t < n.at_; omega) _ (by simp), traj_app_now ht _ hp]
theorem all_next (p : List Fade) (f : Fade) (n : Coming) : (Chan.mk p { f with next := some n }).all = p ++ [{ f with next := some n }, begun f n] := rfl
theorem here_next (f : Fade) (o : Option Coming) (t : Nat) : ({ f with next := o } : Fade).here t = f.here t := rfl
theorem traj_next {f : Fade} {o : Option Coming} {t : Nat} : ∀ l : List Fade, traj (l ++ [{ f with next := o }]) t = traj (l ++ [f]) t
  | [] => rfl
  | [g] => rfl
  | g :: k :: r => by
    show (if k.since ≤ t then traj (k :: (r ++ [{ f with next := o }])) t else g.here t) = (if k.since ≤ t then traj (k :: (r ++ [f])) t else g.here t)
    have := traj_next (f := f) (o := o) (t := t) (k :: r)
    rw [List.cons_append, List.cons_append] at this
    rw [this]
/-- a channel told at d is before d where it was -/
theorem traj_tell {c : Chan} {d t : Nat} {n : Coming} (h : t < d) (hn : d ≤ n.at_) : traj (c.tell d n).all t = traj c.all t := by
  -- the end: a channel without what will begin, told
  have fin : ∀ (p : List Fade) (f : Fade), traj ((Chan.mk p { f with next := some n }).begin d).all t = traj (p ++ [f]) t := by
    intro p f
    have hb : traj (p ++ [{ f with next := some n }] ++ [begun { f with next := some n } n]) t = traj (p ++ [f]) t := by
      rw [traj_app_late (by show t < n.at_; omega) _ (by simp), traj_next]
    by_cases c1 : n.at_ ≤ d
    · rw [begin_some rfl c1]
      show traj ((p ++ [{ f with next := some n }]) ++ [begun { f with next := some n } n]) t = _
      exact hb
    · rw [begin_late rfl (by omega)]
      show traj (p ++ [{ f with next := some n }, begun { f with next := some n } n]) t = _
      rw [← hb]
      simp
  unfold Chan.tell Chan.next
  cases hx : c.cur.next with
  | none =>
    rw [begin_none hx, fin]
    unfold Chan.all
    rw [hx]
  | some m =>
    by_cases hm : m.at_ ≤ d
    · rw [begin_some hx hm, fin]
      unfold Chan.all
      rw [hx]
      simp
    · rw [begin_late hx (by omega), fin]
      unfold Chan.all
      rw [hx]
      show _ = traj (c.pre ++ [c.cur, begun c.cur m]) t
      have e : c.pre ++ [c.cur, begun c.cur m] = (c.pre ++ [c.cur]) ++ [begun c.cur m] := by simp
      rw [e]
      exact (traj_app_late (g := begun c.cur m) (show t < m.at_ by omega) (c.pre ++ [c.cur]) (by simp)).symm
end Sf

namespace Sf
open Sg
theorem wf_begin {c : Chan} {now t : Nat} (w : ChWf c now) (h : now ≤ t) : ChWf (c.begin t) t := by
  cases hx : c.cur.next with
  | none => rw [begin_none hx]; exact w.mono h
  | some n =>
    by_cases ht : t < n.at_
    · rw [begin_late hx ht]; exact w.mono h
    · rw [begin_some hx (by omega)]
      have nsm := w.nsm n hx
      have hb : (begun c.cur n).since = n.at_ := rfl
      refine ⟨?_, by show n.at_ ≤ t; omega, fun m e => (by cases e), fun f hf => ?_, fun m e => (by cases e)⟩
      · show ((c.pre ++ [c.cur]) ++ [begun c.cur n]).Pairwise _
        refine List.pairwise_append.mpr ⟨w.srt, by simp, fun a ha b hb => ?_⟩
        rw [List.mem_singleton.mp hb]
        show a.since ≤ n.at_
        have h1 := w.nx n hx
        rcases List.mem_append.mp ha with x | x
        · have := w.pre_le a x; omega
        · rw [List.mem_singleton.mp x]; exact h1
      · rcases List.mem_append.mp hf with x | x
        · exact w.sm f x
        · rw [List.mem_singleton.mp x]
          refine ⟨nsm.1, ?_⟩
          show (if _ then n.up else n.down) ≤ 600
          split
          · exact nsm.2.1
          · exact nsm.2.2
theorem wf_next {c : Chan} {t : Nat} {n : Coming} (w : ChWf c t) (h : t ≤ n.at_) (hn : n.level ≤ 100 ∧ n.up ≤ 600 ∧ n.down ≤ 600) : ChWf (c.next n) t := by
  refine ⟨?_, w.cs, fun m e => ?_, fun f hf => ?_, fun m e => ?_⟩
  · have := List.pairwise_append.mp w.srt
    refine List.pairwise_append.mpr ⟨this.1, by simp, fun a ha b hb => ?_⟩
    rw [List.mem_singleton.mp hb]
    exact this.2.2 a ha c.cur (by simp)
  · cases (show some n = some m from e)
    show c.cur.since ≤ n.at_
    have := w.cs
    omega
  · rcases List.mem_append.mp hf with x | x
    · exact w.sm f (List.mem_append_left _ x)
    · rw [List.mem_singleton.mp x]
      exact w.sm c.cur (by simp)
  · cases (show some n = some m from e)
    exact hn
theorem wf_tell {c : Chan} {now t : Nat} {n : Coming} (w : ChWf c now) (h : now ≤ t) (hn : t ≤ n.at_) (hs : n.level ≤ 100 ∧ n.up ≤ 600 ∧ n.down ≤ 600) : ChWf (c.tell t n) t :=
  wf_begin (wf_next (wf_begin w h) hn hs) (Nat.le_refl _)
/-- from then on it doesn't change -/
theorem level_still {f : Fade} (hx : ∀ n, f.next = some n → f.since ≤ n.at_) {e t : Nat} (h0 : f.since ≤ e) (he : f.still ≤ e) (ht : e ≤ t) : f.level t = f.level e := by
  have flat : ∀ (g : Fade) (a b : Nat), (if g.from_ = (g.to : Rat) then 0 else g.since + g.lasts) ≤ a → a ≤ b → g.here b = g.here a := by
    intro g a b ha hb
    by_cases c : g.from_ = (g.to : Rat)
    · have k : ∀ u, g.here u = (g.to : Rat) := fun u => by
        unfold Fade.here
        split
        · rfl
        · rw [c]; grind
      rw [k, k]
    · rw [if_neg c] at ha
      rw [here_end g a ha, here_end g b (by omega)]
  unfold Fade.level
  cases hn : f.next with
  | none =>
    rw [settled_none hn, settled_none hn]
    unfold Fade.still at he
    rw [hn] at he
    exact flat f e t he ht
  | some n =>
    unfold Fade.still at he
    rw [hn] at he
    dsimp only at he
    have g0 := hx n hn
    by_cases c : f.here n.at_ = (n.level : Rat)
    · rw [if_pos c] at he
      -- the fade begun stays where it is
      have k : ∀ u, (begun f n).here u = f.here n.at_ := fun u => by
        unfold Fade.here
        split
        · exact c.symm
        · show f.here n.at_ + ((n.level : Rat) - f.here n.at_) * _ / _ = f.here n.at_
          rw [c]; grind
      by_cases c1 : n.at_ ≤ e
      · rw [settled_some hn c1, settled_some hn (by omega), k, k]
      · rw [settled_late (t := e) hn (by omega)]
        have he' : (if f.from_ = (f.to : Rat) then 0 else f.since + f.lasts) ≤ e := by omega
        by_cases c2 : n.at_ ≤ t
        · rw [settled_some hn c2, k]
          exact flat f e n.at_ he' (by omega)
        · rw [settled_late hn (by omega)]
          exact flat f e t he' ht
    · rw [if_neg c] at he
      have hb : (begun f n).since + (begun f n).lasts = n.at_ + (if f.here n.at_ < (n.level : Rat) then n.up else n.down) := rfl
      rw [settled_some hn (by omega), settled_some hn (by omega), here_end _ _ (by omega), here_end _ _ (by omega)]
/-! the fades with when each one's next begins -/
def withUntil : List Fade → List (Fade × Option Nat)
  | [] => []
  | [f] => [(f, none)]
  | f :: g :: r => (f, some g.since) :: withUntil (g :: r)
theorem wu_length : ∀ l : List Fade, (withUntil l).length = l.length
  | [] => rfl
  | [f] => rfl
  | f :: g :: r => by
    show (withUntil (g :: r)).length + 1 = _
    rw [wu_length (g :: r)]
    rfl
/-- as the program has it: a number, -1 for the last one -/
def untilI : Option Nat → Int
  | none => -1
  | some u => (u : Int)
theorem wu_get : ∀ (l : List Fade) (i : Nat) (f : Fade), l[i]? = some f → (withUntil l)[i]? = some (f, l[i + 1]?.map (·.since))
  | [], i, f, h => by simp at h
  | [g], 0, f, h => by
    have e : g = f := Option.some.inj h
    subst e
    rfl
  | [g], i + 1, f, h => by simp at h
  | g :: k :: r, 0, f, h => by
    have e : g = f := Option.some.inj h
    subst e
    rfl
  | g :: k :: r, i + 1, f, h => by
    have := wu_get (k :: r) i f (by simpa using h)
    show (withUntil (k :: r))[i]? = _
    rw [this]
    simp
/-- by a fade a channel changes until then, 0 where it doesn't -/
def contr (p : Fade × Option Nat) : Nat :=
  let e := match p.2 with
    | none => p.1.since + p.1.lasts
    | some u => min (p.1.since + p.1.lasts) u
  if p.1.from_ ≠ (p.1.to : Rat) ∧ (p.1.since < e ∨ p.1.lasts = 0) then e else 0
def lastChange (l : List Fade) : Nat := (withUntil l).foldl (fun m p => max m (contr p)) 0
theorem fold_max {α : Type} (g : α → Nat) : ∀ (l : List α) (m : Nat), l.foldl (fun m p => max m (g p)) m = max m (l.foldl (fun m p => max m (g p)) 0)
  | [], m => by simp
  | x :: r, m => by
    rw [List.foldl_cons, List.foldl_cons, fold_max g r, fold_max g r (max 0 (g x))]
    omega
theorem fold_small {α : Type} (g : α → Nat) (b : Nat) : ∀ (l : List α), (∀ p ∈ l, g p ≤ b) → l.foldl (fun m p => max m (g p)) 0 ≤ b
  | [], _ => Nat.zero_le _
  | x :: r, h => by
    rw [List.foldl_cons, fold_max]
    have a := h x (by simp)
    have c := fold_small g b r fun p hp => h p (List.mem_cons_of_mem _ hp)
    omega
theorem wu_app (g : Fade) : ∀ (l : List Fade), l ≠ [] → ∃ m : List (Fade × Option Nat), withUntil (l ++ [g]) = m ++ [(g, none)] ∧ (∃ m' f, m = m' ++ [(f, some g.since)] ∧ l.getLast? = some f ∧ (∀ p ∈ m', ∃ u, p.2 = some u ∧ ∃ k ∈ l, u = k.since))
  | [], h => absurd rfl h
  | [f], _ => ⟨[(f, some g.since)], rfl, [], f, rfl, rfl, fun p hp => by simp at hp⟩
  | f :: k :: r, _ => by
    obtain ⟨m, e1, m', f', e2, e3, e4⟩ := wu_app g (k :: r) (by simp)
    refine ⟨(f, some k.since) :: m, ?_, (f, some k.since) :: m', f', by rw [e2]; rfl, by rw [List.getLast?_cons_cons]; exact e3, fun p hp => ?_⟩
    · show (f, some k.since) :: withUntil (k :: (r ++ [g])) = _
      rw [List.cons_append] at e1
      rw [e1]
      rfl
    · rcases List.mem_cons.mp hp with x | x
      · exact ⟨k.since, by rw [x], k, by simp, rfl⟩
      · obtain ⟨u, a, q, b, c⟩ := e4 p x
        exact ⟨u, a, q, List.mem_cons_of_mem _ b, c⟩
theorem contr_le {p : Fade × Option Nat} {u : Nat} (h : p.2 = some u) : contr p ≤ u := by
  unfold contr
  rw [h]
  dsimp only
  split
  · exact Nat.min_le_right _ _
  · exact Nat.zero_le _
/-- the last time by which a channel changes is the specification's, but for what is past -/
theorem change_still {c : Chan} {now : Nat} (w : ChWf c now) : max now (lastChange c.all) = max now c.cur.still := by
  -- all but the last fades are past
  have past : ∀ (l : List Fade) (g : Fade), (∀ f ∈ l, f.since ≤ now) → g.since ≤ now → max now (lastChange (l ++ [g])) = max now (contr (g, none)) := by
    intro l g hl hg
    cases l with
    | nil =>
      show max now (max 0 (contr (g, none))) = _
      omega
    | cons f r =>
      obtain ⟨m, e1, m', f', e2, e3, e4⟩ := wu_app g (f :: r) (by simp)
      unfold lastChange
      rw [e1, List.foldl_append, fold_max]
      show max now (max (m.foldl _ 0) (max 0 (contr (g, none)))) = _
      have : m.foldl (fun m p => max m (contr p)) 0 ≤ now := fold_small _ _ _ fun p hp => by
        rw [e2] at hp
        rcases List.mem_append.mp hp with x | x
        · obtain ⟨u, a, q, b, cc⟩ := e4 p x
          have := contr_le a
          have := hl q b
          omega
        · rw [List.mem_singleton.mp x]
          have := contr_le (p := (f', some g.since)) rfl
          omega
      omega
  have hp : ∀ f ∈ c.pre, f.since ≤ now := fun f hf => Nat.le_trans (w.pre_le f hf) w.cs
  unfold Chan.all Fade.still
  cases hx : c.cur.next with
  | none =>
    show max now (lastChange (c.pre ++ [c.cur])) = _
    rw [past _ _ hp w.cs]
    dsimp only
    unfold contr
    dsimp only
    by_cases e : c.cur.from_ = (c.cur.to : Rat)
    · rw [if_pos e, if_neg (fun q => q.1 e)]
    · rw [if_neg e]
      have := w.cs
      by_cases q : c.cur.since < c.cur.since + c.cur.lasts ∨ c.cur.lasts = 0
      · rw [if_pos ⟨e, q⟩]
      · omega
  | some n =>
    show max now (lastChange (c.pre ++ [c.cur, begun c.cur n])) = _
    have e : c.pre ++ [c.cur, begun c.cur n] = (c.pre ++ [c.cur]) ++ [begun c.cur n] := by simp
    rw [e]
    obtain ⟨m, e1, m', f', e2, e3, e4⟩ := wu_app (begun c.cur n) (c.pre ++ [c.cur]) (by simp)
    have hf : f' = c.cur := by
      rw [List.getLast?_append] at e3
      exact (Option.some.inj e3).symm
    have small : m'.foldl (fun m p => max m (contr p)) 0 ≤ now := fold_small _ _ _ fun p hp' => by
      obtain ⟨u, a, q, b, cc⟩ := e4 p hp'
      have := contr_le a
      have : q.since ≤ now := by
        rcases List.mem_append.mp b with x | x
        · exact hp q x
        · rw [List.mem_singleton.mp x]; exact w.cs
      omega
    have tot : max now (lastChange (c.pre ++ [c.cur] ++ [begun c.cur n])) = max now (max (contr (c.cur, some n.at_)) (contr (begun c.cur n, none))) := by
      unfold lastChange
      rw [e1, e2, hf, List.foldl_append, List.foldl_append, fold_max]
      show max now (max (max (m'.foldl _ 0) (contr (c.cur, some n.at_))) (max 0 (contr (begun c.cur n, none)))) = _
      omega
    rw [tot]
    dsimp only
    have cs := w.cs
    have nx := w.nx n hx
    -- what the last two are
    have A : max now (contr (c.cur, some n.at_)) = max now (min (if c.cur.from_ = (c.cur.to : Rat) then 0 else c.cur.since + c.cur.lasts) n.at_) := by
      unfold contr
      dsimp only
      by_cases e : c.cur.from_ = (c.cur.to : Rat)
      · rw [if_pos e, if_neg (fun q => q.1 e)]
        omega
      · rw [if_neg e]
        by_cases q : c.cur.since < min (c.cur.since + c.cur.lasts) n.at_ ∨ c.cur.lasts = 0
        · rw [if_pos ⟨e, q⟩]
        · rw [if_neg (fun z => q z.2)]
          omega
    have B : contr (begun c.cur n, none) = if c.cur.here n.at_ = (n.level : Rat) then 0 else n.at_ + (if c.cur.here n.at_ < (n.level : Rat) then n.up else n.down) := by
      unfold contr
      show (if (c.cur.here n.at_ ≠ (n.level : Rat) ∧ (n.at_ < n.at_ + (if _ then n.up else n.down) ∨ (if _ then n.up else n.down) = 0)) then n.at_ + (if _ then n.up else n.down) else 0) = _
      generalize (if c.cur.here n.at_ < (n.level : Rat) then n.up else n.down) = r
      by_cases e : c.cur.here n.at_ = (n.level : Rat)
      · rw [if_pos e, if_neg (fun q => q.1 e)]
      · rw [if_neg e, if_pos ⟨e, by omega⟩]
    by_cases e : c.cur.here n.at_ = (n.level : Rat)
    · rw [B, if_pos e, if_pos e]
      omega
    · rw [B, if_neg e, if_neg e]
      generalize (if c.cur.here n.at_ < (n.level : Rat) then n.up else n.down) = r
      have : contr (c.cur, some n.at_) ≤ n.at_ := contr_le rfl
      omega
end Sf

namespace Sf
open Sg
/-! when_met -/
def whenI (side : Int) (t z : Nat) : List (Fade × Option Nat) → Int
  | [] => -1
  | p :: r =>
    if untilI p.2 < 0 ∨ ((max p.1.since t : Nat) : Int) < untilI p.2 then
      if 0 ≤ meetI p.1 (max p.1.since t) side z ∧ (untilI p.2 < 0 ∨ meetI p.1 (max p.1.since t) side z < untilI p.2) then meetI p.1 (max p.1.since t) side z
      else whenI side t z r
    else whenI side t z r
theorem when_none (side : Int) (t z : Nat) (g : Fade) (r : List (Fade × Option Nat)) : whenI side t z ((g, none) :: r) = if 0 ≤ meetI g (max g.since t) side z then meetI g (max g.since t) side z else whenI side t z r := by
  rw [whenI]
  have a : untilI (g, (none : Option Nat)).2 < 0 := by show (-1 : Int) < 0; decide
  rw [if_pos (.inl a)]
  dsimp only
  by_cases c : 0 ≤ meetI g (max g.since t) side z
  · rw [if_pos c, if_pos ⟨c, .inl a⟩]
  · rw [if_neg c, if_neg (fun q => c q.1)]
theorem when_some (side : Int) (t z u : Nat) (g : Fade) (r : List (Fade × Option Nat)) : whenI side t z ((g, some u) :: r) =
    if max g.since t < u then (if 0 ≤ meetI g (max g.since t) side z ∧ meetI g (max g.since t) side z < (u : Int) then meetI g (max g.since t) side z else whenI side t z r) else whenI side t z r := by
  rw [whenI]
  have e : untilI (g, some u).2 = (u : Int) := rfl
  rw [e]
  dsimp only
  by_cases c : max g.since t < u
  · rw [if_pos c, if_pos (.inr (by omega))]
    by_cases d : 0 ≤ meetI g (max g.since t) side z ∧ meetI g (max g.since t) side z < (u : Int)
    · rw [if_pos d, if_pos ⟨d.1, .inr d.2⟩]
    · rw [if_neg d, if_neg (fun q => by omega)]
  · rw [if_neg c, if_neg (by omega)]
def sideAt (t z : Nat) (l : List Fade) : Int := l.foldl (fun s f => if f.since ≤ t then sideOf (f.here t) z else s) 0
theorem side_stay (t z : Nat) : ∀ (l : List Fade) (s : Int), (∀ f ∈ l, t < f.since) → l.foldl (fun s f => if f.since ≤ t then sideOf (f.here t) z else s) s = s
  | [], _, _ => rfl
  | f :: r, s, h => by
    rw [List.foldl_cons, if_neg (by have := h f (by simp); omega)]
    exact side_stay t z r s fun g hg => h g (List.mem_cons_of_mem _ hg)
theorem side_fold (t z : Nat) : ∀ (l : List Fade) (s : Int) (f : Fade) (r : List Fade), l = f :: r → l.Pairwise (fun a b => a.since ≤ b.since) → f.since ≤ t →
    l.foldl (fun s f => if f.since ≤ t then sideOf (f.here t) z else s) s = sideOf (traj l t) z
  | [], _, _, _, h, _, _ => by cases h
  | [g], s, f, r, h, _, hf => by
    cases h
    show (if g.since ≤ t then sideOf (g.here t) z else s) = sideOf (g.here t) z
    rw [if_pos hf]
  | g :: k :: r', s, f, r, h, hp, hf => by
    cases h
    rw [List.foldl_cons, if_pos hf]
    have hp' := (List.pairwise_cons.mp hp).2
    show _ = sideOf (if k.since ≤ t then traj (k :: r') t else g.here t) z
    by_cases hk : k.since ≤ t
    · rw [if_pos hk]
      exact side_fold t z (k :: r') _ k r' rfl hp' hk
    · rw [if_neg hk]
      refine side_stay t z _ _ fun x hx => ?_
      rcases List.mem_cons.mp hx with e | e
      · rw [e]; omega
      · have := (List.pairwise_cons.mp hp').1 x e
        omega
theorem side_at {l : List Fade} {t z : Nat} {f : Fade} {r : List Fade} (h : l = f :: r) (hp : l.Pairwise (fun a b => a.since ≤ b.since)) (hf : f.since ≤ t) : sideAt t z l = sideOf (traj l t) z :=
  side_fold t z l 0 f r h hp hf
theorem side_three (q : Rat) (z : Nat) : sideOf q z = -1 ∨ sideOf q z = 0 ∨ sideOf q z = 1 := by
  unfold sideOf
  have := sg_cases (q.num - (z : Int) * (q.den : Int))
  omega
theorem Least.skip {P : Nat → Prop} {a b : Nat} (hab : a ≤ b) (h : ∀ v, a ≤ v → v < b → ¬ P v) : ∀ {R : Option Nat}, Least P b R → Least P a R
  | none, x => fun v hv => if c : v < b then h v hv c else x v (by omega)
  | some u, ⟨h1, h2, h3⟩ => ⟨by omega, h2, fun v hv hu => if c : v < b then h v hv c else h3 v (by omega) hu⟩
theorem when_least {side : Int} {t z : Nat} (hs : side = -1 ∨ side = 0 ∨ side = 1) : ∀ (l : List Fade) (f : Fade) (r : List Fade), l = f :: r → l.Pairwise (fun a b => a.since ≤ b.since) →
    ∃ R, whenI side t z (withUntil l) = toI R ∧ Least (fun v => isMet side (traj l v) z) (max f.since t) R
  | [], _, _, h, _ => by cases h
  | [g], f, r, h, _ => by
    cases h
    obtain ⟨R, e, L⟩ := meet_least (f := g) (low := max g.since t) (z := z) hs (by omega)
    refine ⟨R, ?_, L⟩
    rw [withUntil, when_none, e]
    cases R with
    | none => rw [if_neg (show ¬ (0 : Int) ≤ toI none by decide)]; rfl
    | some u => rw [if_pos (show (0 : Int) ≤ toI (some u) from Int.natCast_nonneg u)]
  | g :: k :: r', f, r, h, hp => by
    cases h
    have hp' := (List.pairwise_cons.mp hp).2
    have gk : g.since ≤ k.since := (List.pairwise_cons.mp hp).1 k (by simp)
    obtain ⟨R2, e2, L2⟩ := when_least hs (k :: r') k r' rfl hp'
    have late : ∀ v, k.since ≤ v → (isMet side (traj (g :: k :: r') v) z ↔ isMet side (traj (k :: r') v) z) := fun v hv => by
      show (isMet side (if k.since ≤ v then traj (k :: r') v else g.here v) z ↔ _)
      rw [if_pos hv]
    have early : ∀ v, v < k.since → (isMet side (traj (g :: k :: r') v) z ↔ isMet side (g.here v) z) := fun v hv => by
      show (isMet side (if k.since ≤ v then traj (k :: r') v else g.here v) z ↔ _)
      rw [if_neg (by omega)]
    rw [withUntil, when_some]
    by_cases c : max g.since t < k.since
    · rw [if_pos c]
      obtain ⟨R, e, L⟩ := meet_least (f := g) (low := max g.since t) (z := z) hs (by omega)
      rw [e]
      -- nothing within this fade: on to the next
      have next : (∀ v, max g.since t ≤ v → v < k.since → ¬ isMet side (g.here v) z) → Least (fun v => isMet side (traj (g :: k :: r') v) z) (max g.since t) R2 := fun no => by
        have hm : max k.since t = k.since := by omega
        rw [hm] at L2
        exact Least.skip (b := k.since) (by omega) (fun v a b q => no v a b ((early v b).mp q)) (Least.congr (fun v hv => (late v hv).symm) L2)
      cases R with
      | none =>
        rw [if_neg (fun q => absurd q.1 (by decide))]
        exact ⟨R2, e2, next fun v a b => L v a⟩
      | some u =>
        obtain ⟨h1, h2, h3⟩ := L
        by_cases cu : u < k.since
        · rw [if_pos ⟨Int.natCast_nonneg u, by show (u : Int) < _; omega⟩]
          exact ⟨some u, rfl, h1, (early u cu).mpr h2, fun v a b q => h3 v a b ((early v (by omega)).mp q)⟩
        · rw [if_neg (fun q => by
            have q2 : (u : Int) < ((k.since : Nat) : Int) := q.2
            omega)]
          exact ⟨R2, e2, next fun v a b => h3 v a (by omega)⟩
    · rw [if_neg c]
      have hm : max k.since t = max g.since t := by omega
      rw [hm] at L2
      exact ⟨R2, e2, Least.congr (fun v hv => (late v (by omega)).symm) L2⟩
end Sf

namespace Sf
open Sg
/-! the stage -/
structure St where
  cues : List Timed
  gone : Nat
  chans : List Chan
  now : Nat
  leads : Bool
def St.follow (s : St) : Nat := match s.cues[s.gone - 1]? with
  | none => 0
  | some c => c.follow
def St.due (s : St) : Option Nat := if s.gone = 0 ∨ s.cues.length ≤ s.gone ∨ s.follow = 0 ∨ s.leads = false then none else some (s.now + s.follow)
def St.stand (s : St) : Stand := ⟨s.cues, s.gone, s.chans.map (·.cur), s.now, s.due⟩
def comingOf (c : Timed) (t l : Nat) : Coming := ⟨t + c.delay, l, c.up, c.down⟩
def goStep (c : Timed) (t : Nat) (x : Chan × Nat) : Chan := match c.cue.move (x.2 + 1) with
  | none => x.1
  | some l => x.1.tell t (comingOf c t l)
/-- cue_goes -/
def St.goes (s : St) (i t : Nat) : St := match s.cues[i]? with
  | none => s
  | some c => ⟨s.cues, i + 1, s.chans.zipIdx.map (goStep c t), t, true⟩
def toStep (c : Timed) (k : Look) (t : Nat) (x : Chan × Nat) : Chan := x.1.tell t (comingOf c t (k.getD x.2 0))
/-- gone_to -/
def St.goesTo (s : St) (i t : Nat) : St := match s.cues[i]? with
  | none => s
  | some c => ⟨s.cues, i + 1, s.chans.zipIdx.map (toStep c (lookUpTo (sheetOf s.cues) c.cue.number) t), t, s.leads⟩
/-- is_told -/
def St.told (s : St) : St := { s with leads := decide (s.gone < s.cues.length) }
/-- copy -/
def St.copy (s : St) : St := { s with chans := s.chans.map fun c => ⟨[], c.cur⟩ }
def St.passed : Nat → St → Nat → St
  | 0, s, _ => s
  | f + 1, s, t => match s.due with
    | none => s
    | some d => if t < d then s else St.passed f (s.goes s.gone d) t
def St.ended : Nat → St → St
  | 0, s => s
  | f + 1, s => match s.due with
    | none => s
    | some d => St.ended f (s.goes s.gone d)
/-- by_time, follow_all -/
def St.upTo (s : St) (t : Nat) : St := s.copy.passed (s.cues.length + 1) t
def St.final (s : St) : St := s.copy.ended (s.cues.length + 1)
theorem copy_stand (s : St) : s.copy.stand = s.stand := by
  unfold St.stand
  have e : s.copy.chans.map (·.cur) = s.chans.map (·.cur) := by
    unfold St.copy
    simp
  rw [e]
  rfl
theorem due_at {s : St} {i : Nat} {c : Timed} (h : s.cues[i]? = some c) (hs : List Chan) (t : Nat) (b : Bool) :
    (St.mk s.cues (i + 1) hs t b).due = if c.follow = 0 ∨ s.cues.length ≤ i + 1 ∨ b = false then none else some (t + c.follow) := by
  unfold St.due
  have hf : (St.mk s.cues (i + 1) hs t b).follow = c.follow := by
    unfold St.follow
    show (match s.cues[i + 1 - 1]? with | none => 0 | some c => c.follow) = _
    rw [Nat.add_sub_cancel, h]
  rw [hf]
  show (if i + 1 = 0 ∨ s.cues.length ≤ i + 1 ∨ c.follow = 0 ∨ b = false then none else some (t + c.follow)) = _
  by_cases q : c.follow = 0 ∨ s.cues.length ≤ i + 1 ∨ b = false
  · rw [if_pos q, if_pos (by rcases q with q | q | q <;> simp [q])]
  · rw [if_neg q, if_neg (by rintro (a | a | a | a)
                             · omega
                             · exact q (.inr (.inl a))
                             · exact q (.inl a)
                             · exact q (.inr (.inr a)))]
theorem goes_stand (s : St) (i t : Nat) : (s.goes i t).stand = s.stand.goes i t := by
  unfold St.goes Stand.goes
  show _ = match s.cues[i]? with | none => s.stand | some c => _
  cases h : s.cues[i]? with
  | none => rfl
  | some c =>
    dsimp only
    unfold St.stand Stand.at_
    dsimp only
    rw [due_at h]
    congr 1
    · rw [List.map_map, List.zipIdx_map, List.map_map]
      refine List.map_congr_left fun x hx => ?_
      show (goStep c t x).cur = _
      unfold goStep
      dsimp only [Function.comp, Prod.map]
      show _ = (match c.cue.move (x.2 + 1) with | none => x.1.cur | some l => x.1.cur.told t ⟨t + c.delay, l, c.up, c.down⟩)
      cases c.cue.move (x.2 + 1) with
      | none => rfl
      | some l => exact tell_cur _ _ _
    · by_cases q : c.follow = 0 ∨ s.cues.length ≤ i + 1
      · rw [if_pos q, if_pos (by rcases q with q | q <;> simp [q])]
      · rw [if_neg q, if_neg (by rintro (a | a | a)
                                 · exact q (.inl a)
                                 · exact q (.inr a)
                                 · cases a)]
theorem goesTo_stand (s : St) (i t : Nat) (hi : i < s.cues.length) : (s.goesTo i t).told.stand = s.stand.goesTo i t := by
  unfold St.goesTo Stand.goesTo
  show _ = match s.cues[i]? with | none => s.stand | some c => _
  cases h : s.cues[i]? with
  | none =>
    rw [List.getElem?_eq_none_iff] at h
    omega
  | some c =>
    dsimp only
    unfold St.told St.stand Stand.at_
    dsimp only
    rw [due_at h]
    congr 1
    · rw [List.map_map, List.zipIdx_map, List.map_map]
      refine List.map_congr_left fun x hx => ?_
      exact tell_cur _ _ _
    · by_cases q : c.follow = 0 ∨ s.cues.length ≤ i + 1
      · rw [if_pos q, if_pos (by rcases q with q | q <;> simp [q])]
      · rw [if_neg q, if_neg (by rintro (a | a | a)
                                 · exact q (.inl a)
                                 · exact q (.inr a)
                                 · have := of_decide_eq_false a
                                   exact q (.inr (by omega)))]
/-- told behind a go changes nothing of when the next one follows -/
theorem told_stand_go (s : St) (i t : Nat) (hi : i < s.cues.length) : (s.goes i t).told.stand = s.stand.goes i t := by
  rw [← goes_stand]
  unfold St.goes
  cases h : s.cues[i]? with
  | none =>
    rw [List.getElem?_eq_none_iff] at h
    omega
  | some c =>
    dsimp only
    unfold St.told St.stand
    dsimp only
    rw [due_at h, due_at h]
    congr 1
    by_cases q : c.follow = 0 ∨ s.cues.length ≤ i + 1
    · rw [if_pos (by rcases q with q | q <;> simp [q]), if_pos (by rcases q with q | q <;> simp [q])]
    · rw [if_neg (by rintro (a | a | a)
                     · exact q (.inl a)
                     · exact q (.inr a)
                     · have := of_decide_eq_false a
                       exact q (.inr (by omega))), if_neg (by rintro (a | a | a)
                                                              · exact q (.inl a)
                                                              · exact q (.inr a)
                                                              · cases a)]
theorem passed_stand : ∀ (f : Nat) (s : St) (t : Nat), (s.passed f t).stand = Stand.passed f s.stand t
  | 0, _, _ => rfl
  | f + 1, s, t => by
    show (match s.due with | none => s | some d => if t < d then s else St.passed f (s.goes s.gone d) t).stand = (match s.due with | none => s.stand | some d => if t < d then s.stand else Stand.passed f (s.stand.goes s.gone d) t)
    cases s.due with
    | none => rfl
    | some d =>
      dsimp only
      by_cases c : t < d
      · rw [if_pos c, if_pos c]
      · rw [if_neg c, if_neg c, ← goes_stand]
        exact passed_stand f _ t
theorem ended_stand : ∀ (f : Nat) (s : St), (s.ended f).stand = Stand.end_ f s.stand
  | 0, _ => rfl
  | f + 1, s => by
    show (match s.due with | none => s | some d => St.ended f (s.goes s.gone d)).stand = (match s.due with | none => s.stand | some d => Stand.end_ f (s.stand.goes s.gone d))
    cases s.due with
    | none => rfl
    | some d =>
      dsimp only
      rw [← goes_stand]
      exact ended_stand f _
theorem upTo_stand (s : St) (t : Nat) : (s.upTo t).stand = s.stand.upTo t := by
  unfold St.upTo Stand.upTo
  rw [passed_stand, copy_stand]
  rfl
theorem final_stand (s : St) : s.final.stand = Stand.end_ (s.stand.cues.length + 1) s.stand := by
  unfold St.final
  rw [ended_stand, copy_stand]
  rfl
/-! what is kept -/
structure CueOk (c : Timed) : Prop where
  num : c.cue.number ≤ 9999
  times : c.up ≤ 600 ∧ c.down ≤ 600 ∧ c.delay ≤ 600 ∧ c.follow ≤ 600
  rise : c.cue.moves.Pairwise (fun a b => a.1 < b.1)
  move : ∀ m ∈ c.cue.moves, 1 ≤ m.1 ∧ m.1 ≤ 64 ∧ m.2 ≤ 100
structure StWf (s : St) : Prop where
  n64 : s.chans.length = 64
  gn : s.gone ≤ s.cues.length
  nc : s.cues.length ≤ 24
  cq : ∀ c ∈ s.cues, CueOk c
  rise : s.cues.Pairwise (fun a b => a.cue.number < b.cue.number)
  ch : ∀ c ∈ s.chans, ChWf c s.now
theorem due_ge {s : St} {d : Nat} (h : s.due = some d) : s.now < d ∧ s.gone < s.cues.length ∧ s.gone ≠ 0 := by
  unfold St.due at h
  split at h
  · cases h
  · rename_i q
    have e := Option.some.inj h
    refine ⟨?_, ?_, fun z => q (.inl z)⟩
    · have : ¬ s.follow = 0 := fun z => q (.inr (.inr (.inl z)))
      omega
    · have : ¬ s.cues.length ≤ s.gone := fun z => q (.inr (.inl z))
      omega
theorem move_level {c : Timed} (w : CueOk c) {x l : Nat} (h : c.cue.move x = some l) : l ≤ 100 := by
  unfold Cue.move at h
  cases hf : c.cue.moves.find? (fun m => m.1 == x) with
  | none => rw [hf] at h; cases h
  | some m =>
    rw [hf] at h
    cases h
    exact (w.move m (List.mem_of_find?_eq_some hf)).2.2
theorem mem_zipIdx {α : Type} {l : List α} {x : α × Nat} (h : x ∈ l.zipIdx) : l[x.2]? = some x.1 := by
  have := List.mem_zipIdx_iff_getElem?.mp h
  simpa using this
theorem wf_goes {s : St} (w : StWf s) {i t : Nat} (hi : i < s.cues.length) (ht : s.now ≤ t) : StWf (s.goes i t) := by
  unfold St.goes
  cases h : s.cues[i]? with
  | none =>
    rw [List.getElem?_eq_none_iff] at h
    omega
  | some c =>
    have hc := List.mem_of_getElem? h
    have ok := w.cq c hc
    refine ⟨by simp [w.n64], by show i + 1 ≤ s.cues.length; omega, w.nc, w.cq, w.rise, fun k hk => ?_⟩
    obtain ⟨x, hx, e⟩ := List.mem_map.mp hk
    have hm : x.1 ∈ s.chans := List.mem_of_getElem? (mem_zipIdx hx)
    subst e
    show ChWf (goStep c t x) t
    unfold goStep
    cases hv : c.cue.move (x.2 + 1) with
    | none => exact (w.ch _ hm).mono ht
    | some l => exact wf_tell (w.ch _ hm) ht (by show t ≤ t + c.delay; omega) ⟨move_level ok hv, ok.times.1, ok.times.2.1⟩
theorem goes_cues (s : St) (i t : Nat) : (s.goes i t).cues = s.cues := by
  unfold St.goes
  split <;> rfl
theorem goes_gone {s : St} {i t : Nat} (hi : i < s.cues.length) : (s.goes i t).gone = i + 1 ∧ (s.goes i t).now = t ∧ (s.goes i t).leads = true := by
  unfold St.goes
  cases h : s.cues[i]? with
  | none =>
    rw [List.getElem?_eq_none_iff] at h
    omega
  | some c => exact ⟨rfl, rfl, rfl⟩
theorem wf_copy {s : St} (w : StWf s) : StWf s.copy := by
  refine ⟨by simp [St.copy, w.n64], w.gn, w.nc, w.cq, w.rise, fun k hk => ?_⟩
  obtain ⟨c, hc, e⟩ := List.mem_map.mp hk
  subst e
  have q := w.ch c hc
  exact ⟨by simp, q.cs, q.nx, fun f hf => q.sm f (by rcases List.mem_append.mp hf with x | x
                                                     · cases x
                                                     · exact List.mem_append_right _ x), q.nsm⟩
theorem passed_cues : ∀ (f : Nat) (s : St) (t : Nat), (s.passed f t).cues = s.cues
  | 0, _, _ => rfl
  | f + 1, s, t => by
    unfold St.passed
    cases s.due with
    | none => rfl
    | some d =>
      dsimp only
      split
      · rfl
      · rw [passed_cues f, goes_cues]
theorem ended_cues : ∀ (f : Nat) (s : St), (s.ended f).cues = s.cues
  | 0, _ => rfl
  | f + 1, s => by
    unfold St.ended
    cases s.due with
    | none => rfl
    | some d =>
      dsimp only
      rw [ended_cues f, goes_cues]
theorem wf_passed : ∀ (f : Nat) {s : St} {t : Nat}, StWf s → StWf (s.passed f t)
  | 0, _, _, w => w
  | f + 1, s, t, w => by
    unfold St.passed
    cases h : s.due with
    | none => exact w
    | some d =>
      dsimp only
      split
      · exact w
      · exact wf_passed f (wf_goes w (due_ge h).2.1 (Nat.le_of_lt (due_ge h).1))
theorem wf_ended : ∀ (f : Nat) {s : St}, StWf s → StWf (s.ended f)
  | 0, _, w => w
  | f + 1, s, w => by
    unfold St.ended
    cases h : s.due with
    | none => exact w
    | some d => exact wf_ended f (wf_goes w (due_ge h).2.1 (Nat.le_of_lt (due_ge h).1))
theorem passed_now : ∀ (f : Nat) (s : St) (t : Nat), s.now ≤ t → (s.passed f t).now ≤ t ∧ s.now ≤ (s.passed f t).now
  | 0, s, t, h => ⟨h, Nat.le_refl _⟩
  | f + 1, s, t, h => by
    unfold St.passed
    cases hd : s.due with
    | none => exact ⟨h, Nat.le_refl _⟩
    | some d =>
      dsimp only
      split
      · exact ⟨h, Nat.le_refl _⟩
      · have g := due_ge hd
        have e := goes_gone (t := d) g.2.1
        have := passed_now f (s.goes s.gone d) t (by omega)
        omega
theorem ended_now : ∀ (f : Nat) (s : St), s.now ≤ (s.ended f).now
  | 0, s => Nat.le_refl _
  | f + 1, s => by
    unfold St.ended
    cases hd : s.due with
    | none => exact Nat.le_refl _
    | some d =>
      dsimp only
      have g := due_ge hd
      have e := goes_gone (t := d) g.2.1
      have := ended_now f (s.goes s.gone d)
      omega
end Sf

namespace Sf
open Sg
def dk : Chan := ⟨[], Fade.dark⟩
theorem all_sorted {c : Chan} {now : Nat} (w : ChWf c now) : c.all.Pairwise (fun a b => a.since ≤ b.since) := by
  unfold Chan.all
  cases hx : c.cur.next with
  | none => exact w.srt
  | some n =>
    show (c.pre ++ [c.cur, begun c.cur n]).Pairwise _
    have e : c.pre ++ [c.cur, begun c.cur n] = (c.pre ++ [c.cur]) ++ [begun c.cur n] := by simp
    rw [e]
    refine List.pairwise_append.mpr ⟨w.srt, by simp, fun a ha b hb => ?_⟩
    rw [List.mem_singleton.mp hb]
    show a.since ≤ n.at_
    have h1 := w.nx n hx
    rcases List.mem_append.mp ha with x | x
    · have := w.pre_le a x; omega
    · rw [List.mem_singleton.mp x]; exact h1
/-- the first fade began by b -/
def HeadLe (b : Nat) (c : Chan) : Prop := ∀ f, (c.pre ++ [c.cur]).head? = some f → f.since ≤ b
theorem headLe_begin {b t : Nat} {c : Chan} (h : HeadLe b c) : HeadLe b (c.begin t) := by
  unfold Chan.begin
  cases c.cur.next with
  | none => exact h
  | some n =>
    dsimp only
    split
    · exact h
    · intro f hf
      refine h f ?_
      rw [List.head?_append] at hf
      have : (c.pre ++ [c.cur]).head? ≠ none := by simp
      cases q : (c.pre ++ [c.cur]).head? with
      | none => exact absurd q this
      | some g =>
        rw [q] at hf
        exact hf
theorem headLe_tell {b t : Nat} {c : Chan} {n : Coming} (h : HeadLe b c) : HeadLe b (c.tell t n) := by
  unfold Chan.tell
  refine headLe_begin ?_
  have h2 := headLe_begin (t := t) h
  generalize c.begin t = k at h2
  intro f hf
  unfold Chan.next at hf
  cases hp : k.pre with
  | nil =>
    rw [hp] at hf
    cases hf
    exact h2 k.cur (by rw [hp]; rfl)
  | cons g r =>
    rw [hp] at hf
    exact h2 f (by rw [hp]; exact hf)
theorem all_head {b : Nat} {c : Chan} (h : HeadLe b c) : ∃ f r, c.all = f :: r ∧ f.since ≤ b := by
  have hd : ∃ f r, c.pre ++ [c.cur] = f :: r ∧ f.since ≤ b := by
    cases q : c.pre ++ [c.cur] with
    | nil => simp at q
    | cons f r => exact ⟨f, r, rfl, h f (by rw [q]; rfl)⟩
  obtain ⟨f, r, e, hf⟩ := hd
  unfold Chan.all
  cases c.cur.next with
  | none => exact ⟨f, r, e, hf⟩
  | some n =>
    refine ⟨f, r ++ [begun c.cur n], ?_, hf⟩
    show c.pre ++ [c.cur, begun c.cur n] = _
    have : c.pre ++ [c.cur, begun c.cur n] = (c.pre ++ [c.cur]) ++ [begun c.cur n] := by simp
    rw [this, e]
    rfl
theorem goes_chan {s : St} {i t : Nat} {c : Timed} (h : s.cues[i]? = some c) (x : Nat) : (s.goes i t).chans[x]? = s.chans[x]?.map (fun k => goStep c t (k, x)) := by
  unfold St.goes
  rw [h]
  show (s.chans.zipIdx.map (goStep c t))[x]? = _
  rw [List.getElem?_map, List.getElem?_zipIdx]
  cases s.chans[x]? with
  | none => rfl
  | some k =>
    show some (goStep c t (k, 0 + x)) = some (goStep c t (k, x))
    rw [Nat.zero_add]
/-- a law of each channel that telling keeps, a going keeps -/
theorem goes_all {s : St} {i t : Nat} {p : Chan → Prop} (hp : ∀ c n, p c → p (c.tell t n)) (h : ∀ c ∈ s.chans, p c) : ∀ c ∈ (s.goes i t).chans, p c := by
  unfold St.goes
  cases hc : s.cues[i]? with
  | none => exact h
  | some c =>
    intro k hk
    obtain ⟨x, hx, e⟩ := List.mem_map.mp hk
    subst e
    have hm : x.1 ∈ s.chans := List.mem_of_getElem? (mem_zipIdx hx)
    unfold goStep
    cases c.cue.move (x.2 + 1) with
    | none => exact h _ hm
    | some l => exact hp _ _ (h _ hm)
theorem ended_all {p : Chan → Prop} (hp : ∀ t c n, p c → p (c.tell t n)) : ∀ (f : Nat) {s : St}, (∀ c ∈ s.chans, p c) → ∀ c ∈ (s.ended f).chans, p c
  | 0, _, h => h
  | f + 1, s, h => by
    unfold St.ended
    cases s.due with
    | none => exact h
    | some d => exact ended_all hp f (goes_all (hp d) h)
def St.ch (s : St) (x : Nat) : Chan := s.chans.getD (x - 1) dk
def St.tr (s : St) (x t : Nat) : Rat := traj (s.ch x).all t
theorem ch_mem {s : St} (w : StWf s) {x : Nat} (hx : 1 ≤ x ∧ x ≤ 64) : s.ch x ∈ s.chans ∧ s.chans[x - 1]? = some (s.ch x) := by
  have : x - 1 < s.chans.length := by rw [w.n64]; omega
  have e : s.chans[x - 1]? = some (s.ch x) := by
    unfold St.ch
    rw [List.getD_eq_getElem?_getD, List.getElem?_eq_getElem this]
    rfl
  exact ⟨List.mem_of_getElem? e, e⟩
theorem tr_goes {s : St} {i d x t : Nat} (h : t < d) : (s.goes i d).tr x t = s.tr x t := by
  unfold St.tr St.ch
  cases hc : s.cues[i]? with
  | none =>
    unfold St.goes
    rw [hc]
  | some c =>
    rw [List.getD_eq_getElem?_getD, List.getD_eq_getElem?_getD, goes_chan hc]
    cases s.chans[x - 1]? with
    | none => rfl
    | some k =>
      show traj (goStep c d (k, x - 1)).all t = traj k.all t
      unfold goStep
      cases c.cue.move (x - 1 + 1) with
      | none => rfl
      | some l => exact traj_tell h (by show d ≤ d + c.delay; omega)
theorem tr_ended : ∀ (f : Nat) {s : St} {x t : Nat}, (∀ d, s.due = some d → t < d) → (s.ended f).tr x t = s.tr x t
  | 0, _, _, _, _ => rfl
  | f + 1, s, x, t, h => by
    unfold St.ended
    cases hd : s.due with
    | none => rfl
    | some d =>
      dsimp only
      have g := due_ge hd
      have e := goes_gone (t := d) g.2.1
      rw [tr_ended f (fun d' h' => by have := (due_ge h').1; have := h d hd; omega), tr_goes (h d hd)]
theorem ended_fuel : ∀ (f g : Nat) (s : St), s.cues.length < f + s.gone → s.cues.length < g + s.gone → s.ended f = s.ended g
  | 0, 0, _, _, _ => rfl
  | 0, g + 1, s, h, _ => by
    show s = _
    unfold St.ended
    cases hd : s.due with
    | none => rfl
    | some d => have := due_ge hd; omega
  | f + 1, 0, s, _, h => by
    show _ = s
    unfold St.ended
    cases hd : s.due with
    | none => rfl
    | some d => have := due_ge hd; omega
  | f + 1, g + 1, s, h1, h2 => by
    unfold St.ended
    cases hd : s.due with
    | none => rfl
    | some d =>
      dsimp only
      have e := goes_gone (t := d) (due_ge hd).2.1
      exact ended_fuel f g _ (by rw [goes_cues]; omega) (by rw [goes_cues]; omega)
def St.fin (s : St) : St := s.ended (s.cues.length + 1)
theorem fin_step {s : St} {d : Nat} (hd : s.due = some d) : s.fin = (s.goes s.gone d).fin := by
  have e := goes_gone (t := d) (due_ge hd).2.1
  have : s.fin = (s.goes s.gone d).ended s.cues.length := by
    unfold St.fin
    rw [St.ended]
    rw [hd]
  rw [this]
  unfold St.fin
  refine ended_fuel _ _ _ ?_ ?_
  · rw [goes_cues]; omega
  · rw [goes_cues]; omega
theorem fin_passed : ∀ (f : Nat) (s : St) (t : Nat), (s.passed f t).fin = s.fin
  | 0, _, _ => rfl
  | f + 1, s, t => by
    unfold St.passed
    cases hd : s.due with
    | none => rfl
    | some d =>
      dsimp only
      split
      · rfl
      · rw [fin_passed f, ← fin_step hd]
theorem passed_due : ∀ (f : Nat) (s : St) (t : Nat), s.cues.length < f + s.gone → ∀ d, (s.passed f t).due = some d → t < d
  | 0, s, t, h, d, hd => by
    have := due_ge (s := s) hd
    omega
  | f + 1, s, t, h, d, hd => by
    unfold St.passed at hd
    cases h0 : s.due with
    | none =>
      rw [h0] at hd
      dsimp only at hd
      rw [h0] at hd
      cases hd
    | some d0 =>
      rw [h0] at hd
      dsimp only at hd
      by_cases c : t < d0
      · rw [if_pos c, h0] at hd
        cases hd
        exact c
      · rw [if_neg c] at hd
        have e := goes_gone (t := d0) (due_ge h0).2.1
        exact passed_due f _ t (by rw [goes_cues]; omega) d hd
/-! still -/
def St.stillM (s : St) : Nat := s.final.chans.foldl (fun m c => max m (lastChange c.all)) (max s.now s.final.now)
theorem final_fin (s : St) : s.final = s.copy.fin := rfl
theorem final_now (s : St) : s.now ≤ s.final.now := ended_now _ s.copy
theorem wf_final {s : St} (w : StWf s) : StWf s.final := wf_ended _ (wf_copy w)
theorem wf_upTo {s : St} (w : StWf s) (t : Nat) : StWf (s.upTo t) := wf_passed _ (wf_copy w)
theorem fold_same {now : Nat} : ∀ (l : List Chan) (m : Nat), now ≤ m → (∀ c ∈ l, ChWf c now) → l.foldl (fun m c => max m (lastChange c.all)) m = (l.map (·.cur)).foldl (fun m f => max m f.still) m
  | [], _, _, _ => rfl
  | c :: r, m, hm, h => by
    have a := change_still (h c (by simp))
    have e : max m (lastChange c.all) = max m c.cur.still := by omega
    rw [List.foldl_cons, List.map_cons, List.foldl_cons, e]
    exact fold_same r _ (by omega) fun k hk => h k (List.mem_cons_of_mem _ hk)
theorem still_eq {s : St} (w : StWf s) : s.stillM = s.stand.still := by
  unfold St.stillM Stand.still
  rw [← final_stand]
  have hm : max s.now s.final.now = s.final.now := by have := final_now s; omega
  rw [hm]
  exact fold_same _ _ (Nat.le_refl _) (wf_final w).ch
theorem le_fold {α : Type} (g : α → Nat) : ∀ (l : List α) (m : Nat), m ≤ l.foldl (fun m p => max m (g p)) m ∧ ∀ p ∈ l, g p ≤ l.foldl (fun m p => max m (g p)) m
  | [], m => ⟨Nat.le_refl _, fun p hp => by cases hp⟩
  | x :: r, m => by
    rw [List.foldl_cons]
    have ih := le_fold g r (max m (g x))
    refine ⟨by omega, fun p hp => ?_⟩
    rcases List.mem_cons.mp hp with e | e
    · rw [e]; omega
    · exact ih.2 p e
theorem still_ge {s : St} (x : Nat) (hx : s.final.ch x ∈ s.final.chans) : s.final.now ≤ s.stand.still ∧ (s.final.ch x).cur.still ≤ s.stand.still := by
  unfold Stand.still
  rw [← final_stand]
  have := le_fold (fun f : Fade => f.still) s.final.stand.fades s.final.stand.now
  exact ⟨this.1, this.2 _ (List.mem_map.mpr ⟨_, hx, rfl⟩)⟩
/-! when -/
def LeastIn (P : Nat → Prop) (t e : Nat) : Option Nat → Prop
  | some u => t ≤ u ∧ u ≤ e ∧ P u ∧ ∀ v, t ≤ v → v < u → ¬ P v
  | none => ∀ v, t ≤ v → v ≤ e → ¬ P v
theorem find_range {p : Nat → Bool} {n : Nat} : (∀ i, (List.range n).find? p = some i → i < n ∧ p i = true ∧ ∀ j, j < i → p j = false) ∧ ((List.range n).find? p = none → ∀ j, j < n → p j = false) := by
  refine ⟨fun i h => ?_, fun h j hj => ?_⟩
  · rw [List.find?_range_eq_some] at h
    refine ⟨List.mem_range.mp h.2.1, h.1, fun j hj => ?_⟩
    have := h.2.2 j hj
    simpa using this
  · rw [List.find?_range_eq_none] at h
    have := h j hj
    simpa using this
theorem whenIn_least {v z : Rat} {x e : Nat} (hx : 1 ≤ x ∧ x ≤ 64) (E : St) : ∀ (f : Nat) (s : St) (t : Nat), StWf s → s.cues.length < f + s.gone → s.now ≤ t → (∀ d, s.due = some d → t < d) → s.fin = E → E.now ≤ e →
    LeastIn (fun u => come v z (E.tr x u) = true) t e (Stand.whenIn v z x e f s.stand t)
  | 0, s, t, w, hf, _, _, _, _ => by have := w.gn; omega
  | f + 1, s, t, w, hf, hn, hd, hE, he => by
    rw [Stand.whenIn]
    have hch : s.stand.fades.getD (x - 1) Fade.dark = (s.ch x).cur := by
      have := (ch_mem w hx).2
      rw [List.getD_eq_getElem?_getD]
      show ((s.chans.map (·.cur))[x - 1]?).getD _ = _
      rw [List.getElem?_map, this]
      rfl
    rw [hch]
    have lev : ∀ u, t ≤ u → (∀ d, s.due = some d → u < d) → (s.ch x).cur.level u = E.tr x u := fun u hu hdu => by
      have wc := w.ch _ (ch_mem w hx).1
      rw [← traj_level wc (by have := wc.cs; omega), ← hE]
      exact (tr_ended _ hdu).symm
    have hdue : s.stand.due = s.due := rfl
    rw [hdue]
    cases hq : s.due with
    | none =>
      dsimp only
      have fr := find_range (p := fun i => come v z ((s.ch x).cur.level (t + i))) (n := e + 1 - t)
      have lev' : ∀ u, t ≤ u → (s.ch x).cur.level u = E.tr x u := fun u hu => lev u hu (fun d h => by rw [hq] at h; cases h)
      cases hr : (List.range (e + 1 - t)).find? fun i => come v z ((s.ch x).cur.level (t + i)) with
      | some i =>
        obtain ⟨a, b, c⟩ := fr.1 i hr
        refine ⟨by omega, by omega, (?_ : come v z (E.tr x (t + i)) = true), fun u hu hlt q => ?_⟩
        · rw [← lev' (t + i) (by omega)]; exact b
        · have := c (u - t) (by omega)
          rw [lev' _ (by omega)] at this
          have e2 : t + (u - t) = u := by omega
          rw [e2] at this
          have q' : come v z (E.tr x u) = true := q
          rw [this] at q'
          cases q'
      | none =>
        intro u hu hle q
        have := fr.2 hr (u - t) (by omega)
        rw [lev' _ (by omega)] at this
        have e2 : t + (u - t) = u := by omega
        rw [e2] at this
        rw [this] at q
        cases q
    | some d =>
      dsimp only
      have htd := hd d hq
      have lev' : ∀ u, t ≤ u → u < d → (s.ch x).cur.level u = E.tr x u := fun u hu hlt => lev u hu (fun d' h => by rw [hq] at h; cases h; exact hlt)
      have g := due_ge hq
      have gg := goes_gone (t := d) g.2.1
      have hde : d ≤ e := by
        have : (s.goes s.gone d).now ≤ E.now := by
          rw [← hE, fin_step hq]
          exact ended_now _ _
        omega
      have hm : min e (d - 1) = d - 1 := by omega
      rw [hm]
      have fr := find_range (p := fun i => come v z ((s.ch x).cur.level (t + i))) (n := d - 1 + 1 - t)
      cases hr : (List.range (d - 1 + 1 - t)).find? fun i => come v z ((s.ch x).cur.level (t + i)) with
      | some i =>
        obtain ⟨a, b, c⟩ := fr.1 i hr
        refine ⟨by omega, by omega, (?_ : come v z (E.tr x (t + i)) = true), fun u hu hlt q => ?_⟩
        · rw [← lev' (t + i) (by omega) (by omega)]; exact b
        · have := c (u - t) (by omega)
          rw [lev' _ (by omega) (by omega)] at this
          have e2 : t + (u - t) = u := by omega
          rw [e2] at this
          have q' : come v z (E.tr x u) = true := q
          rw [this] at q'
          cases q'
      | none =>
        dsimp only
        rw [if_neg (by omega)]
        have no : ∀ u, t ≤ u → u < d → ¬ come v z (E.tr x u) = true := fun u hu hlt q => by
          have := fr.2 hr (u - t) (by omega)
          rw [lev' _ (by omega) (by omega)] at this
          have e2 : t + (u - t) = u := by omega
          rw [e2] at this
          have q' : come v z (E.tr x u) = true := q
          rw [this] at q'
          cases q'
        have ih := whenIn_least (v := v) (z := z) (e := e) hx E f (s.goes s.gone d) d (wf_goes w g.2.1 (by omega)) (by rw [goes_cues]; omega) (by omega) (fun d' h' => by have := (due_ge h').1; omega) (by rw [← fin_step hq]; exact hE) he
        rw [goes_stand] at ih
        show LeastIn _ t e (Stand.whenIn v z x e f (s.stand.goes s.gone d) d)
        revert ih
        cases Stand.whenIn v z x e f (s.stand.goes s.gone d) d with
        | none => exact fun ih u hu hle => if c : u < d then no u hu c else ih u (by omega) hle
        | some k => exact fun ih => ⟨by have := ih.1; omega, ih.2.1, ih.2.2.1, fun u hu hlt => if c : u < d then no u hu c else ih.2.2.2 u (by omega) hlt⟩
def St.whenM (s : St) (x t z : Nat) : Int := whenI (sideAt t z (s.final.ch x).all) t z (withUntil (s.final.ch x).all)
theorem when_eq {s : St} (w : StWf s) {x t z : Nat} (hx : 1 ≤ x ∧ x ≤ 64) (ht : s.now ≤ t) : s.whenM x t z = toI (s.stand.when x z t) := by
  have wF := wf_final w
  have cm := ch_mem wF hx
  have wc := wF.ch _ cm.1
  have hh : HeadLe s.now (s.final.ch x) := by
    refine ended_all (p := HeadLe s.now) (fun t c n h => headLe_tell h) _ (s := s.copy) (fun c hc => ?_) _ cm.1
    obtain ⟨k, hk, e⟩ := List.mem_map.mp hc
    subst e
    intro f hf
    cases hf
    exact (w.ch k hk).cs
  obtain ⟨f, r, hall, hf⟩ := all_head hh
  have srt := all_sorted wc
  have hside := side_at (z := z) hall srt (Nat.le_trans hf ht)
  obtain ⟨R, hR, LR⟩ := when_least (side := sideAt t z (s.final.ch x).all) (t := t) (z := z) (by rw [hside]; exact side_three _ _) _ f r hall srt
  have hmax : max f.since t = t := by omega
  rw [hmax] at LR
  unfold St.whenM
  rw [hR]
  congr 1
  -- the specification's side
  have hv : s.stand.level x t = s.final.tr x t := by
    unfold Stand.level
    rw [← upTo_stand]
    have wu := wf_upTo w t
    have cu := ch_mem wu hx
    have hch : (s.upTo t).stand.fades.getD (x - 1) Fade.dark = ((s.upTo t).ch x).cur := by
      rw [List.getD_eq_getElem?_getD]
      show (((s.upTo t).chans.map (·.cur))[x - 1]?).getD _ = _
      rw [List.getElem?_map, cu.2]
      rfl
    rw [hch]
    have wcu := wu.ch _ cu.1
    have hn := (passed_now (s.cues.length + 1) s.copy t ht).1
    have hn' : (s.upTo t).now ≤ t := hn
    rw [← traj_level wcu (by have := wcu.cs; omega)]
    have hfin : s.final = (s.upTo t).fin := by
      rw [final_fin]
      exact (fin_passed _ _ _).symm
    rw [hfin]
    refine (tr_ended _ fun d hd => ?_).symm
    exact passed_due (s.cues.length + 1) s.copy t (by show s.cues.length < _; omega) d hd
  unfold Stand.when
  rw [hv]
  dsimp only
  by_cases hz : s.final.tr x t = (z : Rat)
  · rw [if_pos hz]
    have hs0 : sideAt t z (s.final.ch x).all = 0 := by rw [hside]; exact side_eq hz
    rw [hs0] at LR
    exact LR.uniq ⟨Nat.le_refl _, met_zero _ _, fun v a b => by omega⟩
  · rw [if_neg hz]
    have st := still_ge x cm.1
    have L := whenIn_least (v := s.final.tr x t) (z := (z : Rat)) (x := x) (e := s.stand.still) hx s.final (s.cues.length + 1) (s.upTo t) t (wf_upTo w t)
      (by show (s.upTo t).cues.length < _; unfold St.upTo; rw [passed_cues]; show s.cues.length < _; omega) (passed_now (s.cues.length + 1) s.copy t ht).1
      (fun d hd => passed_due (s.cues.length + 1) s.copy t (by show s.cues.length < _; omega) d hd) (fin_passed _ _ _) st.1
    rw [upTo_stand] at L
    have hcues : s.stand.cues.length + 1 = s.cues.length + 1 := rfl
    rw [hcues]
    -- behind still nothing changes
    have const : ∀ a b, s.stand.still ≤ a → a ≤ b → s.final.tr x b = s.final.tr x a := fun a b ha hab => by
      have c1 := wc.cs
      unfold St.tr
      rw [traj_level wc (by omega), traj_level wc (by omega)]
      exact level_still wc.nx (by omega) (Nat.le_trans st.2 ha) hab
    have L2 : Least (fun u => come (s.final.tr x t) (z : Rat) (s.final.tr x u) = true) t (Stand.whenIn (s.final.tr x t) (z : Rat) x s.stand.still (s.cues.length + 1) (s.stand.upTo t) t) := by
      revert L
      cases Stand.whenIn (s.final.tr x t) (z : Rat) x s.stand.still (s.cues.length + 1) (s.stand.upTo t) t with
      | some u => exact fun L => ⟨L.1, L.2.2.1, L.2.2.2⟩
      | none =>
        intro L u hu q
        by_cases c : u ≤ s.stand.still
        · exact L u hu c q
        · by_cases c2 : t ≤ s.stand.still
          · rw [const s.stand.still u (Nat.le_refl _) (by omega)] at q
            exact L _ c2 (Nat.le_refl _) q
          · have q' : come (s.final.tr x t) (z : Rat) (s.final.tr x u) = true := q
            rw [const t u (by omega) hu] at q'
            rw [come_met hz] at q'
            unfold isMet at q'
            rcases rat_cases (s.final.tr x t) z with h | h | h
            · rw [side_lt h] at q'; omega
            · exact hz h
            · rw [side_gt h] at q'; omega
    refine LR.uniq (Least.congr (fun u _ => ?_) L2)
    rw [come_met hz, hside]
    rfl
end Sf

namespace Sf
open Sg
/-! a cue's moves, one behind another -/
def goFold (c : Timed) (t : Nat) (ms : List (Nat × Nat)) (cs : List Chan) : List Chan := ms.foldl (fun cs m => cs.modify (m.1 - 1) (fun k => k.tell t (comingOf c t m.2))) cs
theorem goFold_length (c : Timed) (t : Nat) : ∀ (ms : List (Nat × Nat)) (cs : List Chan), (goFold c t ms cs).length = cs.length
  | [], _ => rfl
  | m :: r, cs => by
    show (goFold c t r (cs.modify (m.1 - 1) _)).length = _
    rw [goFold_length c t r, List.length_modify]
theorem goFold_get (c : Timed) (t : Nat) : ∀ (ms : List (Nat × Nat)) (cs : List Chan), ms.Pairwise (fun a b => a.1 < b.1) → (∀ m ∈ ms, 1 ≤ m.1) → ∀ i,
    (goFold c t ms cs)[i]? = cs[i]?.map fun k => match (ms.find? fun m => m.1 == i + 1).map (fun m => m.2) with
      | none => k
      | some l => k.tell t (comingOf c t l)
  | [], cs, _, _, i => by
    show cs[i]? = cs[i]?.map fun k => k
    cases cs[i]? <;> rfl
  | m :: r, cs, hp, h1, i => by
    have hp' := List.pairwise_cons.mp hp
    have m1 := h1 m (by simp)
    show (goFold c t r (cs.modify (m.1 - 1) _))[i]? = _
    rw [goFold_get c t r _ hp'.2 (fun k hk => h1 k (List.mem_cons_of_mem _ hk)), List.getElem?_modify]
    by_cases e : m.1 = i + 1
    · have e1 : m.1 - 1 = i := by omega
      have nf : r.find? (fun m => m.1 == i + 1) = none := by
        rw [List.find?_eq_none]
        intro k hk q
        have := hp'.1 k hk
        have : k.1 = i + 1 := by simpa using q
        omega
      rw [nf, List.find?_cons_of_pos (by simp [e])]
      cases cs[i]? with
      | none => rfl
      | some k =>
        show some (if m.1 - 1 = i then k.tell t (comingOf c t m.2) else k) = _
        rw [if_pos e1]
        rfl
    · have e1 : ¬ m.1 - 1 = i := by omega
      rw [List.find?_cons_of_neg (by simpa using e)]
      cases cs[i]? with
      | none => rfl
      | some k =>
        simp only [Option.map_eq_map, Option.map_some, if_neg e1]
theorem goFold_eq {c : Timed} (w : CueOk c) (t : Nat) (cs : List Chan) : goFold c t c.cue.moves cs = cs.zipIdx.map (goStep c t) := by
  refine List.ext_getElem? fun i => ?_
  rw [goFold_get c t _ _ w.rise (fun m hm => (w.move m hm).1), List.getElem?_map, List.getElem?_zipIdx]
  cases cs[i]? with
  | none => rfl
  | some k =>
    show some _ = some (goStep c t (k, 0 + i))
    rw [Nat.zero_add]
    rfl
/-! a cue's look -/
def lookM (cues : List Timed) (p : Nat) : Look := (cues.take (p + 1)).foldl (fun a c => c.cue.on a) dark
theorem look_low (n : Nat) : ∀ (l : List Timed) (a : Look), (∀ c ∈ l, c.cue.number ≤ n) → (sheetOf l).foldl (fun (a : Look) (c : Cue) => if c.number ≤ n then c.on a else a) a = l.foldl (fun a c => c.cue.on a) a
  | [], _, _ => rfl
  | c :: r, a, h => by
    show (sheetOf r).foldl _ (if c.cue.number ≤ n then c.cue.on a else a) = _
    rw [if_pos (h c (by simp))]
    exact look_low n r _ fun k hk => h k (List.mem_cons_of_mem _ hk)
theorem look_high (n : Nat) : ∀ (l : List Timed) (a : Look), (∀ c ∈ l, n < c.cue.number) → (sheetOf l).foldl (fun (a : Look) (c : Cue) => if c.number ≤ n then c.on a else a) a = a
  | [], _, _ => rfl
  | c :: r, a, h => by
    show (sheetOf r).foldl _ (if c.cue.number ≤ n then c.cue.on a else a) = _
    rw [if_neg (by have := h c (by simp); omega)]
    exact look_high n r _ fun k hk => h k (List.mem_cons_of_mem _ hk)
theorem look_eq {cues : List Timed} (hr : cues.Pairwise (fun a b => a.cue.number < b.cue.number)) {p : Nat} {c : Timed} (h : cues[p]? = some c) : lookUpTo (sheetOf cues) c.cue.number = lookM cues p := by
  have hp : p < cues.length := (List.getElem?_eq_some_iff.mp h).1
  have e : cues = cues.take (p + 1) ++ cues.drop (p + 1) := (List.take_append_drop _ _).symm
  have ht : cues.take (p + 1) = cues.take p ++ [c] := by
    rw [List.take_add_one, h]
    rfl
  have hr2 := hr
  rw [e] at hr2
  have hpw := List.pairwise_append.mp hr2
  have low : ∀ k ∈ cues.take (p + 1), k.cue.number ≤ c.cue.number := fun k hk => by
    rw [ht] at hk hpw
    rcases List.mem_append.mp hk with x | x
    · have := (List.pairwise_append.mp hpw.1).2.2 k x c (by simp)
      omega
    · rw [List.mem_singleton.mp x]
      exact Nat.le_refl _
  have high : ∀ k ∈ cues.drop (p + 1), c.cue.number < k.cue.number := fun k hk => hpw.2.2 c (by rw [ht]; simp) k hk
  unfold lookUpTo lookM
  have es : sheetOf cues = sheetOf (cues.take (p + 1)) ++ sheetOf (cues.drop (p + 1)) := by
    unfold sheetOf
    rw [← List.map_append, List.take_append_drop]
  rw [es, List.foldl_append, look_low _ _ _ low, look_high _ _ _ high]
theorem on_length (c : Cue) (a : Look) : (c.on a).length = a.length := by
  unfold Cue.on
  generalize c.moves = ms
  induction ms generalizing a with
  | nil => rfl
  | cons m r ih =>
    rw [List.foldl_cons, ih]
    exact List.length_set
theorem on_le {c : Timed} (w : CueOk c) (a : Look) (h : ∀ l ∈ a, l ≤ 100) : ∀ l ∈ c.cue.on a, l ≤ 100 := by
  unfold Cue.on
  have hm := w.move
  revert hm
  generalize c.cue.moves = ms
  intro hm
  induction ms generalizing a with
  | nil => exact h
  | cons m r ih =>
    rw [List.foldl_cons]
    refine ih _ (fun l hl => ?_) (fun k hk => hm k (List.mem_cons_of_mem _ hk))
    have hl' : l ∈ a.set (m.1 - 1) m.2 := hl
    rcases List.mem_or_eq_of_mem_set hl' with x | x
    · exact h l x
    · rw [x]; exact (hm m (by simp)).2.2
theorem lookM_ok {cues : List Timed} (hq : ∀ c ∈ cues, CueOk c) (p : Nat) : (lookM cues p).length = 64 ∧ ∀ l ∈ lookM cues p, l ≤ 100 := by
  unfold lookM
  have hq' : ∀ c ∈ cues.take (p + 1), CueOk c := fun c hc => hq c (List.mem_of_mem_take hc)
  revert hq'
  generalize cues.take (p + 1) = cs
  have : dark.length = 64 ∧ ∀ l ∈ dark, l ≤ 100 := by decide
  revert this
  generalize dark = a
  intro ha hq'
  induction cs generalizing a with
  | nil => exact ha
  | cons c r ih =>
    rw [List.foldl_cons]
    exact ih _ ⟨by rw [on_length]; exact ha.1, on_le (hq' c (by simp)) _ ha.2⟩ fun k hk => hq' k (List.mem_cons_of_mem _ hk)
theorem getD_le {k : Look} (h : ∀ l ∈ k, l ≤ 100) (i : Nat) : k.getD i 0 ≤ 100 := by
  rw [List.getD_eq_getElem?_getD]
  cases e : k[i]? with
  | none => exact Nat.zero_le _
  | some l => exact h l (List.mem_of_getElem? e)
/-- gone_to with the look as the program has it -/
theorem goesTo_eq {s : St} (w : StWf s) {i t : Nat} {c : Timed} (h : s.cues[i]? = some c) : s.goesTo i t = ⟨s.cues, i + 1, s.chans.zipIdx.map (toStep c (lookM s.cues i) t), t, s.leads⟩ := by
  unfold St.goesTo
  rw [h]
  dsimp only
  rw [look_eq w.rise h]
theorem wf_goesTo {s : St} (w : StWf s) {i t : Nat} (hi : i < s.cues.length) (ht : s.now ≤ t) : StWf (s.goesTo i t) := by
  cases h : s.cues[i]? with
  | none =>
    rw [List.getElem?_eq_none_iff] at h
    omega
  | some c =>
    have ok := w.cq c (List.mem_of_getElem? h)
    rw [goesTo_eq w h]
    refine ⟨by simp [w.n64], by show i + 1 ≤ s.cues.length; omega, w.nc, w.cq, w.rise, fun k hk => ?_⟩
    obtain ⟨x, hx, e⟩ := List.mem_map.mp hk
    have hm : x.1 ∈ s.chans := List.mem_of_getElem? (mem_zipIdx hx)
    subst e
    exact wf_tell (w.ch _ hm) ht (by show t ≤ t + c.delay; omega) ⟨getD_le (lookM_ok w.cq i).2 _, ok.times.1, ok.times.2.1⟩
/-! the desk: the stage as it was behind the last go that was told -/
structure DkWf (s : St) : Prop extends StWf s where
  ld : s.leads = true → s.gone = 0 ∨ s.gone < s.cues.length
theorem wf_told {s : St} (w : StWf s) : DkWf s.told :=
  { n64 := w.n64, gn := w.gn, nc := w.nc, cq := w.cq, rise := w.rise, ch := w.ch, ld := fun h => .inr (of_decide_eq_true h) }
def newSt (cues : List Timed) : St := ⟨cues, 0, List.replicate 64 dk, 0, true⟩
theorem newSt_stand (cues : List Timed) : (newSt cues).stand = Stand.new cues := by
  unfold St.stand
  have e : (newSt cues).chans.map (·.cur) = darkness := by
    show (List.replicate 64 dk).map (·.cur) = List.replicate 64 Fade.dark
    rw [List.map_replicate]
    rfl
  rw [e]
  rfl
theorem wf_newSt {cues : List Timed} (nc : cues.length ≤ 24) (cq : ∀ c ∈ cues, CueOk c) (rise : cues.Pairwise (fun a b => a.cue.number < b.cue.number)) : DkWf (newSt cues) :=
  { n64 := by simp [newSt], gn := Nat.zero_le _, nc := nc, cq := cq, rise := rise,
    ch := fun c hc => by
      rw [List.eq_of_mem_replicate hc]
      exact ⟨by simp [dk], Nat.le_refl _, (fun n h => by cases h), (fun f hf => by
        rw [List.mem_singleton.mp hf]
        exact ⟨Nat.zero_le _, Nat.zero_le _⟩), (fun n h => by cases h)⟩
    ld := fun _ => .inl rfl }
/-! a cue is added -/
def addSt (s : St) (c : Timed) : St := { s with cues := s.cues ++ [c] }
theorem add_stand {s : St} (w : DkWf s) (c : Timed) : (addSt s c).stand = { s.stand with cues := s.cues ++ [c] } := by
  unfold St.stand
  have e : (addSt s c).due = s.due := by
    unfold St.due
    show (if s.gone = 0 ∨ (s.cues ++ [c]).length ≤ s.gone ∨ (addSt s c).follow = 0 ∨ s.leads = false then none else some (s.now + (addSt s c).follow)) = _
    by_cases h0 : s.gone = 0
    · rw [if_pos (.inl h0), if_pos (.inl h0)]
    · cases hl : s.leads with
      | false => simp
      | true =>
        have hlt : s.gone < s.cues.length := by
          rcases w.ld hl with q | q
          · exact absurd q h0
          · exact q
        have hf : (addSt s c).follow = s.follow := by
          unfold St.follow
          show (match (s.cues ++ [c])[s.gone - 1]? with | none => 0 | some c => c.follow) = _
          rw [List.getElem?_append_left (by omega)] <;> rfl
        rw [hf]
        have a : ¬ (s.cues ++ [c]).length ≤ s.gone := by rw [List.length_append]; omega
        have b : ¬ s.cues.length ≤ s.gone := by omega
        have t : (s.gone = 0 ∨ (s.cues ++ [c]).length ≤ s.gone ∨ s.follow = 0 ∨ true = false) ↔ (s.gone = 0 ∨ s.cues.length ≤ s.gone ∨ s.follow = 0 ∨ true = false) :=
          ⟨fun q => q.elim .inl fun q => q.elim (fun z => absurd z a) fun q => .inr (.inr q), fun q => q.elim .inl fun q => q.elim (fun z => absurd z b) fun q => .inr (.inr q)⟩
        by_cases q : s.gone = 0 ∨ s.cues.length ≤ s.gone ∨ s.follow = 0 ∨ true = false
        · rw [if_pos q, if_pos (t.mpr q)]
        · rw [if_neg q, if_neg (fun z => q (t.mp z))]
  rw [e]
  rfl
theorem wf_add {s : St} (w : DkWf s) {c : Timed} (hc : CueOk c) (hn : s.cues.length < 24) (hr : ∀ k ∈ s.cues, k.cue.number < c.cue.number) : DkWf (addSt s c) :=
  { n64 := w.n64, gn := by show s.gone ≤ (s.cues ++ [c]).length; have := w.gn; rw [List.length_append]; omega, nc := by show (s.cues ++ [c]).length ≤ 24; rw [List.length_append]; show s.cues.length + 1 ≤ 24; omega,
    cq := fun k hk => by
      rcases List.mem_append.mp hk with x | x
      · exact w.cq k x
      · rw [List.mem_singleton.mp x]; exact hc
    rise := List.pairwise_append.mpr ⟨w.rise, by simp, fun a ha b hb => by rw [List.mem_singleton.mp hb]; exact hr a ha⟩
    ch := w.ch
    ld := fun h => by
      rcases w.ld h with q | q
      · exact .inl q
      · right
        show s.gone < (s.cues ++ [c]).length
        rw [List.length_append]; omega }
/-! moves in pairs -/
open Wqatdu in
theorem moves_some : ∀ (a : Nat) (ms : List Nat) (m : List (Nat × Nat)), movesFrom a ms = some m → ms.length = 2 * m.length ∧ (∀ i x l, m[i]? = some (x, l) → ms[2 * i]? = some x ∧ ms[2 * i + 1]? = some l) ∧ m.Pairwise (fun a b => a.1 < b.1) ∧ ∀ k ∈ m, a < k.1 ∧ k.1 ≤ 64 ∧ k.2 ≤ 100
  | a, [], m, h => by
    cases h
    exact ⟨rfl, fun i x l h => by simp at h, .nil, fun k hk => by cases hk⟩
  | a, [x], m, h => by cases h
  | a, x :: l :: r, m, h => by
    rw [movesFrom] at h
    split at h
    · rename_i c
      cases hr : movesFrom x r with
      | none => rw [hr] at h; cases h
      | some m' =>
        rw [hr] at h
        cases h
        obtain ⟨h1, h2, h3, h4⟩ := moves_some x r m' hr
        have c2 : x ≤ 64 := c.2.1
        have c3 : l ≤ 100 := c.2.2
        refine ⟨by simp only [List.length_cons]; omega, fun i y k hi => ?_, List.pairwise_cons.mpr ⟨fun k hk => (h4 k hk).1, h3⟩, fun k hk => ?_⟩
        · cases i with
          | zero =>
            cases hi
            exact ⟨rfl, rfl⟩
          | succ i =>
            have := h2 i y k (by simpa using hi)
            rw [show 2 * (i + 1) = 2 * i + 1 + 1 by omega]
            exact this
        · rcases List.mem_cons.mp hk with e | e
          · rw [e]; exact ⟨c.1, c2, c3⟩
          · have := h4 k e
            exact ⟨by omega, this.2⟩
    · cases h
open Wqatdu in
theorem moves_odd : ∀ (a : Nat) (ms : List Nat), ms.length % 2 = 1 → movesFrom a ms = none
  | a, [], h => by cases h
  | a, [x], h => rfl
  | a, x :: l :: r, h => by
    rw [movesFrom]
    split
    · rw [moves_odd x r (by simp only [List.length_cons] at h; omega)]
      rfl
    · rfl
end Sf

namespace Sf
open Sg
open Wqatdu (Call Ans)
/-! what each call answers of a desk: a refusal's number, or the desk behind it and what is answered -/
abbrev Out := Except Int (St × List Int)
def St.lastNum (s : St) : Nat := match s.cues.getLast? with
  | none => 0
  | some c => c.cue.number
def timed (s : St) (t : Nat) (r : Out) : Out := if s.now ≤ t ∧ t ≤ 1000000 then r else .error (-1)
def addX (s : St) (n u d w f : Nat) (ms : List Nat) : Out :=
  if s.lastNum < n ∧ n ≤ 9999 ∧ (u ≤ 600 ∧ d ≤ 600 ∧ w ≤ 600 ∧ f ≤ 600) then
    match Wqatdu.movesFrom 0 ms with
    | none => .error (-1)
    | some m => if s.cues.length < 24 then .ok (addSt s ⟨⟨n, false, m⟩, u, d, w, f⟩, [((s.cues.length + 1 : Nat) : Int)]) else .error (-5)
  else .error (-1)
def numAt (l : List Timed) (i : Nat) : Nat := match l[i]? with
  | none => 0
  | some c => c.cue.number
def goX (s : St) (t : Nat) : Out := timed s t (
  if (s.upTo t).gone < s.cues.length then .ok (((s.upTo t).goes (s.upTo t).gone t).told, [(numAt s.cues (s.upTo t).gone : Int)]) else .error (-3))
def gotoX (s : St) (n t : Nat) : Out := timed s t (
  match s.cues.findIdx? fun (c : Timed) => c.cue.number == n with
  | none => .error (-4)
  | some i => .ok (((s.upTo t).goesTo i t).told, [(n : Int)]))
def atX (s : St) (t x : Nat) : Out := timed s t (
  if 1 ≤ x ∧ x ≤ 64 then .ok (s, [(((s.upTo t).ch x).cur.level t).num, ((((s.upTo t).ch x).cur.level t).den : Int)]) else .error (-1))
def St.goneNum (s : St) : Nat := if s.gone = 0 then 0 else numAt s.cues (s.gone - 1)
def standX (s : St) (t : Nat) : Out := timed s t (
  .ok (s, ((s.upTo t).goneNum : Int) :: (match (s.upTo t).due with
    | none => [0]
    | some d => [1, (d : Int)])))
def stillX (s : St) : Out := .ok (s, [(s.stillM : Int)])
def whenX (s : St) (t x l : Nat) : Out := timed s t (
  if 1 ≤ x ∧ x ≤ 64 then (if l ≤ 100 then (if 0 ≤ s.whenM x t l then .ok (s, [s.whenM x t l]) else .error (-3)) else .error (-1)) else .error (-1))
def resetX (s : St) : Out := .ok (newSt s.cues, [0])
def stepX (s : St) : Call → Out
  | .cue n u d w f ms => addX s n u d w f ms
  | .go t => goX s t
  | .goto_ n t => gotoX s n t
  | .at_ t x => atX s t x
  | .stand t => standX s t
  | .still => stillX s
  | .when_ t x l => whenX s t x l
  | .reset => resetX s
def fin (s : St) : Out → St × List Int
  | .error n => (s, [n])
  | .ok r => r
def stepM (s : St) (c : Call) : St × List Int := fin s (stepX s c)
def ansI (a : Ans) : List Int := a.ret :: a.nums.map WqatduNeutral.int
/-! they are the specification's -/
theorem bad_iff (s : St) (t : Nat) : Wqatdu.badTime s.stand t = true ↔ ¬ (s.now ≤ t ∧ t ≤ 1000000) := by
  unfold Wqatdu.badTime
  rw [Bool.or_eq_true, decide_eq_true_iff, decide_eq_true_iff]
  show (t < s.now ∨ 1000000 < t) ↔ _
  omega
def Good (s : St) (o : Out) (y : Stand × Ans) : Prop := (fin s o).1.stand = y.1 ∧ (fin s o).2 = ansI y.2 ∧ DkWf (fin s o).1
theorem good_timed {s : St} (w : DkWf s) {t : Nat} {o : Out} {y : Stand × Ans} (h : s.now ≤ t ∧ t ≤ 1000000 → Good s o y) : Good s (timed s t o) (if Wqatdu.badTime s.stand t = true then (s.stand, Wqatdu.BAD) else y) := by
  unfold timed
  by_cases c : s.now ≤ t ∧ t ≤ 1000000
  · rw [if_pos c, if_neg (fun q => (bad_iff s t).mp q c)]
    exact h c
  · rw [if_neg c, if_pos ((bad_iff s t).mpr c)]
    exact ⟨rfl, rfl, w⟩
theorem lastNum_le {s : St} (w : StWf s) : ∀ k ∈ s.cues, k.cue.number ≤ s.lastNum := by
  intro k hk
  unfold St.lastNum
  cases hl : s.cues.getLast? with
  | none =>
    rw [List.getLast?_eq_none_iff] at hl
    rw [hl] at hk
    cases hk
  | some c =>
    have := List.getLast?_eq_some_iff.mp hl
    obtain ⟨ys, e⟩ := this
    have hr := w.rise
    rw [e] at hr hk
    rcases List.mem_append.mp hk with x | x
    · exact Nat.le_of_lt ((List.pairwise_append.mp hr).2.2 k x c (by simp))
    · rw [List.mem_singleton.mp x]
      exact Nat.le_refl _
theorem add_good {s : St} (w : DkWf s) (n u d wt f : Nat) (ms : List Nat) : Good s (addX s n u d wt f ms) (Wqatdu.added s.stand n u d wt f ms) := by
  unfold addX Wqatdu.added
  have hln : Wqatdu.lastNumber s.stand = s.lastNum := rfl
  rw [hln]
  by_cases c : s.lastNum < n ∧ n ≤ 9999 ∧ (u ≤ 600 ∧ d ≤ 600 ∧ wt ≤ 600 ∧ f ≤ 600)
  · rw [if_pos c, if_neg (by
      have e1 : LAST = 9999 := rfl
      have e2 : Wqatdu.LONG = 600 := rfl
      rw [e1, e2]
      omega)]
    cases hm : Wqatdu.movesFrom 0 ms with
    | none => exact ⟨rfl, rfl, w⟩
    | some m =>
      dsimp only
      by_cases c2 : s.cues.length < 24
      · rw [if_pos c2, if_neg (by
          have e1 : CUES = 24 := rfl
          rw [e1]
          show ¬ 24 ≤ s.cues.length
          omega)]
        refine ⟨add_stand w _, rfl, wf_add w ?_ c2 fun k hk => ?_⟩
        · obtain ⟨_, _, h3, h4⟩ := moves_some 0 ms m hm
          exact ⟨c.2.1, ⟨c.2.2.1, c.2.2.2.1, c.2.2.2.2.1, c.2.2.2.2.2⟩, h3, fun k hk => ⟨(h4 k hk).1, (h4 k hk).2⟩⟩
        · have := lastNum_le w.toStWf k hk
          show k.cue.number < n
          omega
      · rw [if_neg c2, if_pos (by
          have e1 : CUES = 24 := rfl
          rw [e1]
          show 24 ≤ s.cues.length
          omega)]
        exact ⟨rfl, rfl, w⟩
  · rw [if_neg c, if_pos (by
      have e1 : LAST = 9999 := rfl
      have e2 : Wqatdu.LONG = 600 := rfl
      rw [e1, e2]
      omega)]
    exact ⟨rfl, rfl, w⟩
theorem upTo_cues (s : St) (t : Nat) : (s.upTo t).cues = s.cues := passed_cues _ _ _
theorem upTo_now {s : St} {t : Nat} (h : s.now ≤ t) : (s.upTo t).now ≤ t ∧ s.now ≤ (s.upTo t).now := passed_now _ s.copy t h
theorem goneNum_eq (s : St) : Wqatdu.lastGone s.stand = s.goneNum := by
  unfold Wqatdu.lastGone St.goneNum numAt
  rfl
theorem go_good {s : St} (w : DkWf s) (t : Nat) : Good s (goX s t) (Wqatdu.goOf s.stand t) := by
  unfold goX Wqatdu.goOf
  refine good_timed w fun ht => ?_
  rw [← upTo_stand]
  have hc : (s.upTo t).stand.cues = s.cues := upTo_cues s t
  have hg : (s.upTo t).stand.gone = (s.upTo t).gone := rfl
  dsimp only
  rw [hc, hg]
  by_cases c : (s.upTo t).gone < s.cues.length
  · rw [if_pos c, if_neg (by omega)]
    have hi : (s.upTo t).gone < (s.upTo t).cues.length := by rw [upTo_cues]; exact c
    have st := told_stand_go (s.upTo t) _ t hi
    refine ⟨st, ?_, wf_told (wf_goes (wf_upTo w.toStWf t) hi (upTo_now ht.1).1)⟩
    rw [← st, goneNum_eq]
    have e1 : ((s.upTo t).goes (s.upTo t).gone t).told.goneNum = numAt s.cues (s.upTo t).gone := by
      unfold St.goneNum
      have a : ((s.upTo t).goes (s.upTo t).gone t).told.gone = (s.upTo t).gone + 1 := (goes_gone hi).1
      have b : ((s.upTo t).goes (s.upTo t).gone t).told.cues = s.cues := (goes_cues _ _ _).trans (upTo_cues s t)
      rw [a, b, if_neg (by omega), Nat.add_sub_cancel]
    rw [e1]
    rfl
  · rw [if_neg c, if_pos (by omega)]
    exact ⟨rfl, rfl, w⟩
theorem goto_good {s : St} (w : DkWf s) (n t : Nat) : Good s (gotoX s n t) (Wqatdu.gotoOf s.stand n t) := by
  unfold gotoX Wqatdu.gotoOf
  refine good_timed w fun ht => ?_
  have hc : s.stand.cues = s.cues := rfl
  rw [hc]
  cases hf : s.cues.findIdx? fun (c : Timed) => c.cue.number == n with
  | none => exact ⟨rfl, rfl, w⟩
  | some i =>
    dsimp only
    rw [← upTo_stand]
    have hi : i < (s.upTo t).cues.length := by
      rw [upTo_cues]
      exact (List.findIdx?_eq_some_iff_getElem.mp hf).1
    exact ⟨goesTo_stand _ _ _ hi, rfl, wf_told (wf_goesTo (wf_upTo w.toStWf t) hi (upTo_now ht.1).1)⟩
theorem ch_stand {s : St} (w : StWf s) {x : Nat} (hx : 1 ≤ x ∧ x ≤ 64) : s.stand.fades.getD (x - 1) Fade.dark = (s.ch x).cur := by
  have := (ch_mem w hx).2
  rw [List.getD_eq_getElem?_getD]
  show ((s.chans.map (·.cur))[x - 1]?).getD _ = _
  rw [List.getElem?_map, this]
  rfl
theorem within_iff (x : Nat) : within 1 CHANNELS x = false ↔ ¬ (1 ≤ x ∧ x ≤ 64) := by
  unfold within
  rw [Bool.and_eq_false_iff, decide_eq_false_iff_not, decide_eq_false_iff_not]
  have e : CHANNELS = 64 := rfl
  rw [e]
  omega
theorem or_bad {s : St} {t : Nat} {p : Prop} [Decidable p] {a b : Ans} : (if Wqatdu.badTime s.stand t = true ∨ p then a else b) = (if Wqatdu.badTime s.stand t = true then a else if p then a else b) := by
  by_cases c : Wqatdu.badTime s.stand t = true
  · rw [if_pos (.inl c), if_pos c]
  · by_cases d : p
    · rw [if_pos (.inr d), if_neg c, if_pos d]
    · rw [if_neg (fun q => q.elim c d), if_neg c, if_neg d]
theorem pair_ite {p : Prop} [Decidable p] {s : Stand} {a b : Ans} : (s, if p then a else b) = if p then (s, a) else (s, b) := by
  split <;> rfl
theorem at_good {s : St} (w : DkWf s) (t x : Nat) : Good s (atX s t x) (s.stand, Wqatdu.told s.stand (.at_ t x)) := by
  unfold atX
  show Good s _ (s.stand, if Wqatdu.badTime s.stand t = true ∨ within 1 CHANNELS x = false then Wqatdu.BAD else Wqatdu.quotient (s.stand.level x t))
  rw [or_bad, pair_ite]
  refine good_timed w fun ht => ?_
  by_cases c : 1 ≤ x ∧ x ≤ 64
  · rw [if_pos c, if_neg (fun q => (within_iff x).mp q c)]
    refine ⟨rfl, ?_, w⟩
    unfold Stand.level
    rw [← upTo_stand, ch_stand (wf_upTo w.toStWf t) c]
    rfl
  · rw [if_neg c, if_pos ((within_iff x).mpr c)]
    exact ⟨rfl, rfl, w⟩
theorem stand_good {s : St} (w : DkWf s) (t : Nat) : Good s (standX s t) (s.stand, Wqatdu.told s.stand (.stand t)) := by
  unfold standX
  show Good s _ (s.stand, if Wqatdu.badTime s.stand t = true then Wqatdu.BAD else Wqatdu.tells (Wqatdu.lastGone (s.stand.upTo t) : Nat) (match (s.stand.upTo t).due with | none => [0] | some d => [1, d]))
  rw [pair_ite]
  refine good_timed w fun ht => ?_
  rw [← upTo_stand, goneNum_eq]
  refine ⟨rfl, ?_, w⟩
  show _ :: (match (s.upTo t).due with | none => [0] | some d => [1, (d : Int)]) = ansI (Wqatdu.tells _ (match (s.upTo t).due with | none => [0] | some d => [1, d]))
  cases (s.upTo t).due <;> rfl
theorem still_good {s : St} (w : DkWf s) : Good s (stillX s) (s.stand, Wqatdu.told s.stand .still) := by
  refine ⟨rfl, ?_, w⟩
  show [(s.stillM : Int)] = ansI (Wqatdu.says (s.stand.still : Nat))
  rw [still_eq w.toStWf]
  rfl
theorem when_good {s : St} (w : DkWf s) (t x l : Nat) : Good s (whenX s t x l) (s.stand, Wqatdu.told s.stand (.when_ t x l)) := by
  unfold whenX
  show Good s _ (s.stand, if Wqatdu.badTime s.stand t = true ∨ within 1 CHANNELS x = false ∨ FULL < l then Wqatdu.BAD else (match s.stand.when x l t with | none => Wqatdu.NO | some z => Wqatdu.says (z : Nat)))
  rw [or_bad, pair_ite]
  refine good_timed w fun ht => ?_
  have hF : FULL = 100 := rfl
  rw [hF]
  by_cases c : 1 ≤ x ∧ x ≤ 64
  · rw [if_pos c]
    by_cases c2 : l ≤ 100
    · have q : ¬ (within 1 CHANNELS x = false ∨ 100 < l) := fun q => q.elim (fun z => (within_iff x).mp z c) (by omega)
      rw [if_pos c2, if_neg q, when_eq w.toStWf c ht.1]
      cases s.stand.when x l t with
      | none =>
        rw [if_neg (show ¬ (0 : Int) ≤ toI none by decide)]
        exact ⟨rfl, rfl, w⟩
      | some z =>
        rw [if_pos (show (0 : Int) ≤ toI (some z) from Int.natCast_nonneg z)]
        exact ⟨rfl, rfl, w⟩
    · rw [if_neg c2, if_pos (.inr (by omega))]
      exact ⟨rfl, rfl, w⟩
  · rw [if_neg c, if_pos (.inl ((within_iff x).mpr c))]
    exact ⟨rfl, rfl, w⟩
theorem reset_good {s : St} (w : DkWf s) : Good s (resetX s) (Stand.new s.stand.cues, Wqatdu.says 0) :=
  ⟨newSt_stand _, rfl, wf_newSt w.nc w.cq w.rise⟩
theorem step_good {s : St} (w : DkWf s) (c : Call) : (stepM s c).1.stand = (Wqatdu.step s.stand c).1 ∧ (stepM s c).2 = ansI (Wqatdu.step s.stand c).2 ∧ DkWf (stepM s c).1 := by
  show Good s (stepX s c) (Wqatdu.step s.stand c)
  cases c with
  | cue n u d wt f ms => exact add_good w n u d wt f ms
  | go t => exact go_good w t
  | goto_ n t => exact goto_good w n t
  | at_ t x => exact at_good w t x
  | stand t => exact stand_good w t
  | still => exact still_good w
  | when_ t x l => exact when_good w t x l
  | reset => exact reset_good w
end Sf

namespace Sf
open Sg
open Wqatdu (Call Ans)
/-! the calls as one list of numbers -/
def asInts (l : List Nat) : List Int := l.map fun (n : Nat) => (n : Int)
def wr : Call → List Int
  | .cue n u d w f ms => (0 : Int) :: (n : Int) :: (u : Int) :: (d : Int) :: (w : Int) :: (f : Int) :: (ms.length : Int) :: asInts ms
  | .go t => [1, (t : Int)]
  | .goto_ n t => [2, (n : Int), (t : Int)]
  | .at_ t x => [3, (t : Int), (x : Int)]
  | .stand t => [4, (t : Int)]
  | .still => [5]
  | .when_ t x l => [6, (t : Int), (x : Int), (l : Int)]
  | .reset => [7]
def rowOk : Call → Prop
  | .cue _ _ _ _ _ ms => ms.length ≤ 200
  | _ => True
theorem toNat_back {a : Int} (h : 0 ≤ a) : ((a.toNat : Nat) : Int) = a := Int.toNat_of_nonneg h
theorem ints_back : ∀ l : List Int, (∀ a ∈ l, 0 ≤ a) → asInts (l.map Int.toNat) = l
  | [], _ => rfl
  | a :: r, h => by
    show ((a.toNat : Nat) : Int) :: asInts (r.map Int.toNat) = _
    rw [toNat_back (h a (by simp)), ints_back r fun b hb => h b (List.mem_cons_of_mem _ hb)]
theorem within_ge {lo hi a : Int} (h : PyInside.within lo hi a = true) : lo ≤ a := by
  unfold PyInside.within at h
  rw [Bool.and_eq_true] at h
  exact of_decide_eq_true h.1
theorem each_cons {lo hi a : Int} {b : List (Int × Int)} {r : List Int} (h : PyInside.each ((lo, hi) :: b) (a :: r) = true) : lo ≤ a ∧ PyInside.each b r = true := by
  have h' : (PyInside.within lo hi a && PyInside.each b r) = true := h
  rw [Bool.and_eq_true] at h'
  exact ⟨within_ge h'.1, h'.2⟩
def tail1 (r : List Int) : Prop := ∃ a t, r = a :: t
theorem len1 {r : List Int} (h : ¬ r.length < 1) : ∃ a t, r = a :: t := by
  cases r with
  | nil => simp at h
  | cons a t => exact ⟨a, t, rfl⟩
theorem len2 {r : List Int} (h : ¬ r.length < 2) : ∃ a b t, r = a :: b :: t := by
  match r, h with
  | a :: b :: t, _ => exact ⟨a, b, t, rfl⟩
  | [a], h => simp at h
  | [], h => simp at h
theorem len3 {r : List Int} (h : ¬ r.length < 3) : ∃ a b c t, r = a :: b :: c :: t := by
  match r, h with
  | a :: b :: c :: t, _ => exact ⟨a, b, c, t, rfl⟩
  | [a, b], h => simp at h
  | [a], h => simp at h
  | [], h => simp at h
theorem len5 {r : List Int} (h : ¬ r.length < 5) : ∃ a b c d e t, r = a :: b :: c :: d :: e :: t := by
  match r, h with
  | a :: b :: c :: d :: e :: t, _ => exact ⟨a, b, c, d, e, t, rfl⟩
  | [a, b, c, d], h => simp at h
  | [a, b, c], h => simp at h
  | [a, b], h => simp at h
  | [a], h => simp at h
  | [], h => simp at h
/-- the next call -/
theorem front {r : List Int} {c : List (List Int)} {t : List Int} (h : PyFlat.call PyWqatdu.shape r = some (c, t)) (hb : PyInside.call PyWqatdu.bound c = true) :
    ∃ x, r = wr x ++ t ∧ WqatduNeutral.callOf (PyWqatdu.whole c) = some x ∧ rowOk x := by
  cases r with
  | nil => cases h
  | cons p r =>
    unfold PyFlat.call at h
    dsimp only at h
    by_cases p0 : p = 0
    · subst p0
      have hs : PyWqatdu.shape 0 = some (5, 1) := rfl
      rw [hs] at h
      dsimp only at h
      by_cases hl : r.length < 5
      · rw [if_pos hl] at h; cases h
      · rw [if_neg hl] at h
        obtain ⟨n, u, d, w, f, q, rfl⟩ := len5 hl
        have hd : (n :: u :: d :: w :: f :: q).drop 5 = q := rfl
        rw [hd] at h
        unfold PyFlat.rows at h
        cases q with
        | nil => cases h
        | cons k q =>
          unfold PyFlat.row at h
          dsimp only at h
          by_cases hk : 0 ≤ k ∧ k.toNat ≤ q.length
          · rw [if_pos hk] at h
            have h' := Option.some.inj h
            have hc := (Prod.mk.inj h').1
            have ht := (Prod.mk.inj h').2
            subst hc
            subst ht
            have hb' : (PyInside.each [(0, 4294967295), (0, 4294967295), (0, 4294967295), (0, 4294967295), (0, 4294967295)] [n, u, d, w, f] && PyInside.lists [(0, 4294967295, 0, 200)] [q.take k.toNat]) = true := hb
            rw [Bool.and_eq_true] at hb'
            obtain ⟨b1, b2⟩ := hb'
            obtain ⟨n0, b1⟩ := each_cons b1
            obtain ⟨u0, b1⟩ := each_cons b1
            obtain ⟨d0, b1⟩ := each_cons b1
            obtain ⟨w0, b1⟩ := each_cons b1
            obtain ⟨f0, b1⟩ := each_cons b1
            have b2' : (decide (0 ≤ (q.take k.toNat).length) && decide ((q.take k.toNat).length ≤ 200) && (q.take k.toNat).all (PyInside.within 0 4294967295) && true) = true := b2
            rw [Bool.and_true, Bool.and_eq_true, Bool.and_eq_true] at b2'
            have hz : ∀ a ∈ q.take k.toNat, 0 ≤ a := fun a ha => within_ge (List.all_eq_true.mp b2'.2 a ha)
            have hlen : (q.take k.toNat).length = k.toNat := by rw [List.length_take]; omega
            refine ⟨.cue n.toNat u.toNat d.toNat w.toNat f.toNat ((q.take k.toNat).map Int.toNat), ?_, rfl, ?_⟩
            · show _ = (0 : Int) :: ((n.toNat : Nat) : Int) :: ((u.toNat : Nat) : Int) :: ((d.toNat : Nat) : Int) :: ((w.toNat : Nat) : Int) :: ((f.toNat : Nat) : Int) :: (((q.take k.toNat).map Int.toNat).length : Int) :: (asInts ((q.take k.toNat).map Int.toNat) ++ q.drop k.toNat)
              rw [toNat_back n0, toNat_back u0, toNat_back d0, toNat_back w0, toNat_back f0, ints_back _ hz, List.take_append_drop, List.length_map, hlen, toNat_back hk.1]
            · show ((q.take k.toNat).map Int.toNat).length ≤ 200
              rw [List.length_map]
              exact of_decide_eq_true b2'.1.2
          · rw [if_neg hk] at h
            cases h
    by_cases p1 : p = 1
    · subst p1
      have hs : PyWqatdu.shape 1 = some (1, 0) := rfl
      rw [hs] at h
      dsimp only at h
      by_cases hl : r.length < 1
      · rw [if_pos hl] at h; cases h
      · rw [if_neg hl] at h
        obtain ⟨a, q, rfl⟩ := len1 hl
        have h' := Option.some.inj h
        have hc := (Prod.mk.inj h').1
        have ht := (Prod.mk.inj h').2
        subst hc
        subst ht
        have hb' : (PyInside.each [(0, 4294967295)] [a] && true) = true := hb
        rw [Bool.and_true] at hb'
        obtain ⟨a0, _⟩ := each_cons hb'
        refine ⟨.go a.toNat, ?_, rfl, trivial⟩
        show _ = (1 : Int) :: ((a.toNat : Nat) : Int) :: q
        rw [toNat_back a0]
    by_cases p2 : p = 2
    · subst p2
      have hs : PyWqatdu.shape 2 = some (2, 0) := rfl
      rw [hs] at h
      dsimp only at h
      by_cases hl : r.length < 2
      · rw [if_pos hl] at h; cases h
      · rw [if_neg hl] at h
        obtain ⟨a, b, q, rfl⟩ := len2 hl
        have h' := Option.some.inj h
        have hc := (Prod.mk.inj h').1
        have ht := (Prod.mk.inj h').2
        subst hc
        subst ht
        have hb' : (PyInside.each [(0, 4294967295), (0, 4294967295)] [a, b] && true) = true := hb
        rw [Bool.and_true] at hb'
        obtain ⟨a0, hb'⟩ := each_cons hb'
        obtain ⟨b0, _⟩ := each_cons hb'
        refine ⟨.goto_ a.toNat b.toNat, ?_, rfl, trivial⟩
        show _ = (2 : Int) :: ((a.toNat : Nat) : Int) :: ((b.toNat : Nat) : Int) :: q
        rw [toNat_back a0, toNat_back b0]
    by_cases p3 : p = 3
    · subst p3
      have hs : PyWqatdu.shape 3 = some (2, 0) := rfl
      rw [hs] at h
      dsimp only at h
      by_cases hl : r.length < 2
      · rw [if_pos hl] at h; cases h
      · rw [if_neg hl] at h
        obtain ⟨a, b, q, rfl⟩ := len2 hl
        have h' := Option.some.inj h
        have hc := (Prod.mk.inj h').1
        have ht := (Prod.mk.inj h').2
        subst hc
        subst ht
        have hb' : (PyInside.each [(0, 4294967295), (0, 4294967295)] [a, b] && true) = true := hb
        rw [Bool.and_true] at hb'
        obtain ⟨a0, hb'⟩ := each_cons hb'
        obtain ⟨b0, _⟩ := each_cons hb'
        refine ⟨.at_ a.toNat b.toNat, ?_, rfl, trivial⟩
        show _ = (3 : Int) :: ((a.toNat : Nat) : Int) :: ((b.toNat : Nat) : Int) :: q
        rw [toNat_back a0, toNat_back b0]
    by_cases p4 : p = 4
    · subst p4
      have hs : PyWqatdu.shape 4 = some (1, 0) := rfl
      rw [hs] at h
      dsimp only at h
      by_cases hl : r.length < 1
      · rw [if_pos hl] at h; cases h
      · rw [if_neg hl] at h
        obtain ⟨a, q, rfl⟩ := len1 hl
        have h' := Option.some.inj h
        have hc := (Prod.mk.inj h').1
        have ht := (Prod.mk.inj h').2
        subst hc
        subst ht
        have hb' : (PyInside.each [(0, 4294967295)] [a] && true) = true := hb
        rw [Bool.and_true] at hb'
        obtain ⟨a0, _⟩ := each_cons hb'
        refine ⟨.stand a.toNat, ?_, rfl, trivial⟩
        show _ = (4 : Int) :: ((a.toNat : Nat) : Int) :: q
        rw [toNat_back a0]
    by_cases p5 : p = 5
    · subst p5
      have hs : PyWqatdu.shape 5 = some (0, 0) := rfl
      rw [hs] at h
      dsimp only at h
      rw [if_neg (by omega)] at h
      have h' := Option.some.inj h
      have hc := (Prod.mk.inj h').1
      have ht := (Prod.mk.inj h').2
      subst hc
      subst ht
      exact ⟨.still, rfl, rfl, trivial⟩
    by_cases p6 : p = 6
    · subst p6
      have hs : PyWqatdu.shape 6 = some (3, 0) := rfl
      rw [hs] at h
      dsimp only at h
      by_cases hl : r.length < 3
      · rw [if_pos hl] at h; cases h
      · rw [if_neg hl] at h
        obtain ⟨a, b, c, q, rfl⟩ := len3 hl
        have h' := Option.some.inj h
        have hc := (Prod.mk.inj h').1
        have ht := (Prod.mk.inj h').2
        subst hc
        subst ht
        have hb' : (PyInside.each [(0, 4294967295), (0, 4294967295), (0, 4294967295)] [a, b, c] && true) = true := hb
        rw [Bool.and_true] at hb'
        obtain ⟨a0, hb'⟩ := each_cons hb'
        obtain ⟨b0, hb'⟩ := each_cons hb'
        obtain ⟨c0, _⟩ := each_cons hb'
        refine ⟨.when_ a.toNat b.toNat c.toNat, ?_, rfl, trivial⟩
        show _ = (6 : Int) :: ((a.toNat : Nat) : Int) :: ((b.toNat : Nat) : Int) :: ((c.toNat : Nat) : Int) :: q
        rw [toNat_back a0, toNat_back b0, toNat_back c0]
    by_cases p7 : p = 7
    · subst p7
      have hs : PyWqatdu.shape 7 = some (0, 0) := rfl
      rw [hs] at h
      dsimp only at h
      rw [if_neg (by omega)] at h
      have h' := Option.some.inj h
      have hc := (Prod.mk.inj h').1
      have ht := (Prod.mk.inj h').2
      subst hc
      subst ht
      exact ⟨.reset, rfl, rfl, trivial⟩
    have hs : PyWqatdu.shape p = none := by
      unfold PyWqatdu.shape
      rw [if_neg p0, if_neg p1, if_neg p2, if_neg p3, if_neg p4, if_neg p5, if_neg p6, if_neg p7]
    rw [hs] at h
    cases h
theorem flat : ∀ (f : Nat) (r : List Int) (raw : List (List (List Int))), PyFlat.calls PyWqatdu.shape f r = some raw → raw.all (PyInside.call PyWqatdu.bound) = true →
    ∃ xs : List Call, r = (xs.map wr).flatten ∧ xs.length = raw.length ∧ (∀ x ∈ xs, rowOk x) ∧ (raw.map PyWqatdu.whole).map WqatduNeutral.callOf = xs.map some
  | _, [], raw, h, _ => by
    have : raw = [] := by
      unfold PyFlat.calls at h
      exact (Option.some.inj h).symm
    subst this
    exact ⟨[], rfl, rfl, (fun x hx => by cases hx), rfl⟩
  | 0, p :: r, raw, h, _ => by cases h
  | f + 1, p :: r, raw, h, hb => by
    unfold PyFlat.calls at h
    cases hc : PyFlat.call PyWqatdu.shape (p :: r) with
    | none => rw [hc] at h; cases h
    | some ct =>
      obtain ⟨c, t⟩ := ct
      rw [hc] at h
      dsimp only at h
      cases hr : PyFlat.calls PyWqatdu.shape f t with
      | none => rw [hr] at h; cases h
      | some cs =>
        rw [hr] at h
        have e := Option.some.inj h
        subst e
        rw [List.all_cons, Bool.and_eq_true] at hb
        obtain ⟨x, e1, e2, e3⟩ := front hc hb.1
        obtain ⟨xs, g1, g2, g3, g4⟩ := flat f t cs hr hb.2
        refine ⟨x :: xs, ?_, by rw [List.length_cons, List.length_cons, g2], fun y hy => ?_, ?_⟩
        · rw [e1, g1, List.map_cons, List.flatten_cons]
        · rcases List.mem_cons.mp hy with q | q
          · rw [q]; exact e3
          · exact g3 y q
        · rw [List.map_cons, List.map_cons, List.map_cons, e2, g4]
/-- what the specification answers, call by call -/
def runI : Stand → List Call → List (List Int)
  | _, [] => []
  | s, x :: r => ansI (Wqatdu.step s x).2 :: runI (Wqatdu.step s x).1 r
theorem played_run : ∀ (cs : List (List (List Int))) (xs : List Call) (s : Stand), cs.map WqatduNeutral.callOf = xs.map some → PyFlat.played WqatduNeutral.step s cs = runI s xs
  | [], [], _, _ => rfl
  | [], _ :: _, _, h => by cases h
  | _ :: _, [], _, h => by cases h
  | c :: cs, x :: xs, s, h => by
    rw [List.map_cons, List.map_cons] at h
    have h1 := (List.cons.inj h).1
    have h2 := (List.cons.inj h).2
    have e : WqatduNeutral.step s c = ((Wqatdu.step s x).1, ansI (Wqatdu.step s x).2) := by
      unfold WqatduNeutral.step
      rw [h1]
      rfl
    rw [PyFlat.played, e]
    show _ :: _ = _ :: _
    rw [played_run cs xs _ h2]
/-- the program's: the desk behind the calls; what is answered -/
def stAfter (s : St) (xs : List Call) : St := xs.foldl (fun s x => (stepM s x).1) s
def outOne (s : St) (x : Call) : List Int := ((stepM s x).2.length : Int) :: (stepM s x).2
def outM : St → List Call → List Int
  | _, [] => []
  | s, x :: r => outOne s x ++ outM (stepM s x).1 r
theorem outM_snoc : ∀ (xs : List Call) (s : St) (x : Call), outM s (xs ++ [x]) = outM s xs ++ outOne (stAfter s xs) x
  | [], s, x => by
    show outOne s x ++ [] = [] ++ outOne s x
    simp
  | y :: r, s, x => by
    show outOne s y ++ outM (stepM s y).1 (r ++ [x]) = (outOne s y ++ outM (stepM s y).1 r) ++ outOne (stAfter (stepM s y).1 r) x
    rw [outM_snoc r, List.append_assoc]
theorem stAfter_snoc (xs : List Call) (s : St) (x : Call) : stAfter s (xs ++ [x]) = (stepM (stAfter s xs) x).1 := by
  unfold stAfter
  rw [List.foldl_append]
  rfl
theorem wf_after : ∀ (xs : List Call) {s : St}, DkWf s → DkWf (stAfter s xs)
  | [], _, w => w
  | x :: r, _, w => wf_after r (step_good w x).2.2
theorem told_out : ∀ (xs : List Call) {s : St}, DkWf s → PyFlat.told (runI s.stand xs) = outM s xs
  | [], _, _ => rfl
  | x :: r, s, w => by
    have g := step_good w x
    have ih := told_out r g.2.2
    rw [g.1] at ih
    show ((ansI (Wqatdu.step s.stand x).2).length : Int) :: ansI (Wqatdu.step s.stand x).2 ++ PyFlat.told (runI (Wqatdu.step s.stand x).1 r) = _
    rw [ih, ← g.2.1]
    rfl
def start : St := newSt []
theorem wf_start : DkWf start := wf_newSt (Nat.zero_le _) (fun c hc => by cases hc) .nil
theorem out_length : ∀ (xs : List Call) (s : St), (∀ (t : St) (x : Call), (stepM t x).2.length ≤ 3) → (outM s xs).length ≤ 4 * xs.length
  | [], _, _ => Nat.le_refl _
  | x :: r, s, h => by
    have ih := out_length r (stepM s x).1 h
    have h0 := h s x
    show (outOne s x ++ outM (stepM s x).1 r).length ≤ 4 * (r.length + 1)
    rw [List.length_append]
    show ((stepM s x).2.length + 1) + _ ≤ _
    omega
theorem ans_length (s : St) (x : Call) : (stepM s x).2.length ≤ 3 := by
  unfold stepM
  cases x with
  | cue n u d w f ms =>
    show (fin s (addX s n u d w f ms)).2.length ≤ 3
    unfold addX
    split
    · split
      · simp [fin]
      · split <;> simp [fin]
    · simp [fin]
  | go t =>
    show (fin s (goX s t)).2.length ≤ 3
    unfold goX timed
    split
    · split <;> simp [fin]
    · simp [fin]
  | goto_ n t =>
    show (fin s (gotoX s n t)).2.length ≤ 3
    unfold gotoX timed
    split
    · split <;> simp [fin]
    · simp [fin]
  | at_ t x =>
    show (fin s (atX s t x)).2.length ≤ 3
    unfold atX timed
    split
    · split <;> simp [fin]
    · simp [fin]
  | stand t =>
    show (fin s (standX s t)).2.length ≤ 3
    unfold standX timed
    split
    · cases (s.upTo t).due <;> simp [fin]
    · simp [fin]
  | still => simp [stepX, stillX, fin]
  | when_ t x l =>
    show (fin s (whenX s t x l)).2.length ≤ 3
    unfold whenX timed
    split
    · split
      · split
        · split <;> simp [fin]
        · simp [fin]
      · simp [fin]
    · simp [fin]
  | reset => simp [stepX, resetX, fin]
/-- THE PLAIN LAW: what is asked is calls, and what is due is what the mirror answers -/
theorem plain_law {l : List Int} (h : PyWqatdu.answers_asked l = true) : ∃ xs : List Call, l = (xs.map wr).flatten ∧ xs.length ≤ 400 ∧ (∀ x ∈ xs, rowOk x) ∧ PyWqatdu.answers l = outM start xs := by
  unfold PyWqatdu.answers_asked at h
  cases hc : PyFlat.calls PyWqatdu.shape l.length l with
  | none => rw [hc] at h; cases h
  | some raw =>
    rw [hc] at h
    dsimp only at h
    rw [Bool.and_eq_true, Bool.and_eq_true, Bool.and_eq_true, Bool.and_eq_true] at h
    obtain ⟨⟨⟨⟨h1, h2⟩, h3⟩, h4⟩, h5⟩ := h
    obtain ⟨xs, e1, e2, e3, e4⟩ := flat _ _ _ hc h3
    refine ⟨xs, e1, ?_, e3, ?_⟩
    · have : raw.length ≤ 400 := of_decide_eq_true h2
      omega
    · unfold PyWqatdu.answers PyWqatdu.calls
      rw [hc]
      dsimp only
      rw [played_run _ xs _ e4]
      have : WqatduNeutral.start = start.stand := (newSt_stand []).symm
      rw [this]
      exact told_out xs wf_start
end Sf

namespace PySem
namespace RefX
open PySem.W PySem.Calls PyProof.Rows PySem.HandSPX
/-! ### the text of __init__ -/
def iA (p1 p2 : Pos) : Arguments := { posonlyargs := [], args := [{ arg := "self", annotation := none, pos := p1 }, { arg := "number", annotation := none, pos := p2 }], vararg := none, kwonlyargs := [], kw_defaults := [], kwarg := none, defaults := [] }
def iB (q1 q2 q3 q4 : Pos) : List Stmt := [.Assign [.Attribute (.Name "self" q1) "number" q2] (.Name "number" q3) q4]
def iS : Scope := { kind := .function, names := [(PySem.Str.ofString "self", .local), (PySem.Str.ofString "number", .local)], isGenerator := false, isCoroutine := false, more := [] }
/-- what the written part says of Refused, at C, and of its __init__, at fI -/
structure RefTxt (K : Frag) (mg : Str → Option Value) (C fI : Addr) : Prop where
  gC : mg "Refused" = some (.ref C)
  cls : ∃ nm q N bs bm sn sub ab col dd k0 k1 k2 k3 k5, K.lookup C = some (excClassObj nm q C N bs bm true sn sub ab col dd k0 k1 k2 k3 k5 "ValueError.__new__") ∧ refsVE bm = true
  sa : findIn K (.ref C) "__setattr__" = some (some (.builtin "object.__setattr__"))
  ga : findIn K (.ref C) "__getattribute__" = some (some (.builtin "BaseException.__getattribute__"))
  gg : findIn K (.ref C) "__getattr__" = some none
  noN : findIn K (.ref C) "number" = some none
  iC : findIn K (.ref C) "__init__" = some (some (.ref fI))
  tC : typeIn K (.ref fI) = some (.type "function")
  kC : keepIn K (.ref C) = true
  exC : subIn K (.ref C) (.type "BaseException") = some true
  tyC : typeIn K (.ref C) = some (.type "type")
  hdC : hasDictIn K C = true
  te : exmOne K (.ref C) (.ref C) = some true
  fn : ∃ (oc : Value) (od : Option Addr) (doc pm : Value) (an : Option Addr) (cdv ct : Value) (osl : Array (Option Value)) (p1 p2 q1 q2 q3 q4 : Pos),
    K.lookup fI = some ⟨oc, od, .func (fnOf "__init__" "Refused.__init__" (iA p1 p2) (iB q1 q2 q3 q4) iS .none .none doc pm an cdv ct), osl⟩ ∧ codeIn K cdv "Refused.__init__" = true
theorem one_size (v : Value) : [v].length ≤ sizeLine := by
  rw [sizeLine_eq]
  exact (by decide : 1 ≤ 16777216)
theorem kept_but {K : Frag} {h h' : Heap} {x : Addr} (X : K.In h) (hx : K.lookup x = none) (k : ∀ b o, b ≠ x → h.get? b = some o → h'.get? b = some o) : K.In h' := fun a o e =>
  k a o (fun z => by rw [z, hx] at e; cases e) (X a o e)
theorem ldC {M : Model} {s : Shared} {name : Str} {scope : Scope} {L a : Addr} {cd : Value} {m : Str → Option Value} {x : Str} {pos : Pos} {v : Value} {Q : Value → Shared → Prop} {A : Around} {E : Value → Shared → Prop} (hn : s.heap.Ns L m) (hv : m x = some v) (h : Q v s)
    (hk : scope.kind = .function := by rfl) (hl : (envOfC name scope L a cd).kindOf x = some .local := by rfl) (hd : (x == ("__debug__" : Str)) = false := by decide) :
    wpAny M A (eval (.Name x pos) (envOfC name scope L a cd)) Q E s := wpAny_Name (wpAny_loadName_local hk hl hn hv h) hd
/-- what __init__ leaves of a fresh exception at x -/
structure InitEnd (h h' : Heap) (x C dx t1 : Addr) (v : Value) : Prop where
  keep : ∀ b o, b ≠ x → h.get? b = some o → h'.get? b = some o
  obj : h'.get? x = some { cls := .ref C, dict := some dx, data := .fields #[.ref t1, .none, .none, .none, .bool false, .none] }
  dbig : h.objs.size ≤ dx
  dne : dx ≠ x
  ns : h'.Ns1 dx (fun y => if y = "number" then some v else none)
/-- a made Refused -/
structure OwnMade (h h' : Heap) (e C d : Addr) (v : Value) : Prop where
  keep : ∀ b o, h.get? b = some o → h'.get? b = some o
  new : h.objs.size ≤ e
  obj : ∃ oe vs, h'.get? e = some oe ∧ oe.cls = .ref C ∧ oe.dict = some d ∧ oe.data = .fields vs ∧ vs[1]? = some .none
  dbig : h.objs.size ≤ d
  dne : d ≠ e
  ns : h'.Ns1 d (fun y => if y = "number" then some v else none)
section
variable {prog : Program} {w : World} {A : Around} {E : Value → Shared → Prop} {R : Result → Shared → Prop} {s : Shared} {K : Frag} {mg : Str → Option Value} {C fI : Addr}
theorem ref_init (T : RefTxt K mg C fI) {x t0 : Addr} {v : Value} (X : K.In s.heap) (hlim : s.heap.NoLimit) (hx : s.heap.get? x = some (excO C t0)) (hnx : K.lookup x = none) (hroom : A.depth < recursionLimit)
    (hq : ∀ h' tk dx, InitEnd s.heap h' x C dx t0 v → R (.ok (.ret .none)) { s with heap := h', toks := tk }) :
    codeAny (model prog w) A (.call (.ref fI) ⟨[.ref x, v], []⟩) R s := by
  obtain ⟨oc, od, doc, pm, an, cdv, ct, osl, p1, p2, q1, q2, q3, q4, ho, hcd⟩ := T.fn
  obtain ⟨nm, q, N, bs, bm, sn, sub, ab, col, dd, k0, k1, k2, k3, k5, hC, hbm⟩ := T.cls
  have hcl : clsIn K C = some { name := nm, bases := bs, mro := .ref C :: bm, ns := N, qualname := q, hasDict := true, slotNames := sn, subclasses := sub, abstract := ab, collection := col, hasDel := false } := by unfold clsIn; rw [hC] <;> rfl
  refine Att.call_fn (binds := [("self", .ref x), ("number", v)]) X hlim ho hcd hroom (BindsTo.of_eq (by first | rfl | with_unfolding_all rfl)) (by first | rfl | decide | with_unfolding_all rfl) (fun s₁ IC => ?_) rfl rfl rfl
  obtain ⟨h₁, tk₁, rfl⟩ := IC.toInCall.same
  have k : ∀ b o, s.heap.get? b = some o → h₁.get? b = some o := IC.toInCall.keep
  have hn := IC.toInCall.ns
  have hxL : s.heap.objs.size ≠ x := Nat.ne_of_gt (Heap.lt_size hx)
  have X₁ : K.In h₁ := X.keeps k
  have hx₁ := k _ _ hx
  -- self.by = by
  show wpAny _ _ (execs _ _) _ _ _
  refine wpAny_execs_cons (plainObj_wpAny_Assign_Attribute ?_)
  refine ldC (v := v) hn (by first | rfl | with_unfolding_all rfl | kernel_rfl) (ldC (v := .ref x) hn (by first | rfl | with_unfolding_all rfl | kernel_rfl) ?_)
  refine set_plain X₁ (ox := excO C t0) (od := none) ⟨hx₁, rfl, rfl, trivial⟩ T.sa ?_
  refine exc_osa X₁ hx₁ hcl (show refsVE (.ref C :: bm) = true from hbm) rfl T.noN (fun h₃ tk₃ dx k₃ dn dne hx₃ hn₃ => ?_)
  show wpAny _ _ (execs _ _) _ _ _
  have z : s.heap.objs.size < h₁.objs.size := hn.lt
  exact wpAny_execs_nil (hq h₃ tk₃ dx ⟨fun b o hb e => k₃ b o hb (k b o e), hx₃, Nat.le_of_lt (Nat.lt_of_lt_of_le z dn), dne, hn₃⟩)
theorem ref_made (T : RefTxt K mg C fI) {v : Value} (X : K.In s.heap) (hlim : s.heap.NoLimit) (hroom : A.depth + 1 < recursionLimit)
    (hq : ∀ h' tk e d, OwnMade s.heap h' e C d v → R (.ok (.ret (.ref e))) { s with heap := h', toks := tk }) :
    codeAny (model prog w) A (.call (.ref C) ⟨[v], []⟩) R s := by
  obtain ⟨nm, q, N, bs, bm, sn, sub, ab, col, dd, k0, k1, k2, k3, k5, hC, hbm⟩ := T.cls
  obtain ⟨hp, g, dr, tk, os⟩ := s
  have k : ∀ b o, hp.get? b = some o → ((hp.push (kdv_tup [v])).push (excO C hp.objs.size)).get? b = some o := fun b o e => Heap.get?_push_of_some _ (Heap.get?_push_of_some _ e)
  have hget : ((hp.push (kdv_tup [v])).push (excO C hp.objs.size)).get? (hp.objs.size + 1) = some (excO C hp.objs.size) := by heap_get
  have hnx : K.lookup (hp.objs.size + 1) = none := by
    cases e : K.lookup (hp.objs.size + 1) with
    | none => rfl
    | some o =>
      have z : hp.get? (hp.objs.size + 1) = some o := X _ _ e
      exact absurd (Nat.lt_of_succ_lt (Heap.lt_size z)) (Nat.lt_irrefl _)
  refine call_own F.excBase_ValueError (fun X => refsVE_contains X bm hbm) (X _ _ hC) (looks_findIn X T.iC) (fun self => bind_fn X self T.tC) (one_size v) ?_
  refine ref_init (s := ⟨(hp.push (kdv_tup [v])).push (excO C hp.objs.size), g, dr, tk, os⟩) T (X.keeps k) (hlim.keeps k) hget hnx ?_ fun h' tk' dx ⟨k', hx, dn, dne, hns⟩ => ?_
  · show A.depth + 1 < recursionLimit
    exact hroom
  · have old : ∀ b o, hp.get? b = some o → h'.get? b = some o := fun b o e => k' b o (Nat.ne_of_lt (Nat.lt_succ_of_lt (Heap.lt_size e))) (k b o e)
    have z : hp.objs.size + 1 + 1 ≤ dx := by
      first
        | (simpa only [Heap.size_push] using dn)
        | exact dn
        | (have q := dn; rw [Heap.size_push, Heap.size_push] at q; exact q)
    exact ⟨rfl, hq h' tk' (hp.objs.size + 1) dx ⟨old, Nat.le_succ _, ⟨_, _, hx, rfl, rfl, rfl, rfl⟩, Nat.le_trans (Nat.le_trans (Nat.le_succ _) (Nat.le_succ _)) z, dne, hns⟩⟩
end
end RefX
end PySem
namespace L2
open PySem PySem.Spec PyProof.Rows
theorem relO_ref {v : V} {v' : Value} (r : RelV v v') (f : Str) : RelO (List.lookup f [(("number" : Str), v)]) (if f = "number" then some v' else none) := by
  by_cases hw : f = "number"
  · subst hw
    rw [if_pos rfl]
    have q : List.lookup ("number" : Str) [(("number" : Str), v)] = some v := by simp [List.lookup]
    rw [q]
    exact r
  · rw [if_neg hw]
    have qw : (f == ("number" : Str)) = false := by simpa using hw
    have q2 : List.lookup f [(("number" : Str), v)] = none := by simp [List.lookup, qw]
    rw [q2]
    trivial
section
variable {X : Cx} {C fI : Addr}
/-- Refused(e) -/
def tMkRef (C : Addr) (ta : TA) : St → Hp → XK → Prop := fun σ H Q => ta σ H fun vs H1 => ∃ v, vs = [v] ∧ ∀ d, H1 d = none → Q (.ref C) (some d) (upd H1 d (.xd [(("number" : Str), v)]))
theorem pmk_ref {a : Expr} {ta : TA} {p pos : Pos} {k : Nat} (T : PySem.RefX.RefTxt X.K X.mg C fI) (hr : Room k X.A) (ha : PA X [a] ta) (hg : Gl X "Refused" := by rfl)
    (he : starEach (a :: []) X.env = (false, eval a X.env) :: starEach [] X.env := by rfl) (hpl : (backTo pos (starEach [] X.env)).any (·.1) = false := by rfl) :
    PMk X (.Call (.Name "Refused" p) [a] [] pos) (tMkRef C ta) := by
  intro pins s σ H Q I h
  refine wpAny_Call_Name_kw (ld_glob I hg T.gC ?_)
  refine PySem.W.callWith_K (h₀ := X.base) I.ok.mod.kin T.kC (thn (ha.run pos pins s σ H _ I h) fun us s1 hh => ?_) he hpl
  obtain ⟨vs, H1, I1, r1, v, ev, q1⟩ := hh
  subst ev
  refine ⟨I1.kIn, ?_⟩
  cases r1 with
  | cons rv rn =>
    rename_i v' us'
    cases rn
    show wpAny _ _ (call (.ref C) [v']) _ _ _
    have hlim := I1.nolimit
    obtain ⟨hp, g, dr, tk, os⟩ := s1
    refine wpAny_call (PySem.RefX.ref_made T I1.kIn hlim (by have := hr.dp; omega) fun h' tk' e d M => ?_)
    show MkP X pins σ Q (.ref e) ⟨h', g, dr, tk', os⟩
    obtain ⟨oe, fv, hoe, hc, hd, hdat, h1⟩ := M.obj
    have hns := M.ns
    obtain ⟨G', g1, g2⟩ := restrict h' fun b => decide (b ≠ e)
    have gk : ∀ b, b ≠ e → G'.get? b = h'.get? b := fun b hb => g1 b (decide_eq_true hb)
    have ge : G'.get? e = none := g2 e (by simp)
    have old : ∀ b o, hp.get? b = some o → G'.get? b = some o := fun b o q => (gk b (Nat.ne_of_lt (Nat.lt_of_lt_of_le (Heap.lt_size q) M.new))).trans (M.keep b o q)
    have ob : ObjOk X.prog X.w (upd H1 d (.xd [(("number" : Str), v)])) G' d (.xd [(("number" : Str), v)]) :=
      ⟨_, hns.at (fun o q => (gk d M.dne).trans q), fun f => relO_ref rv f⟩
    have J : Inv X pins σ (upd H1 d (.xd [(("number" : Str), v)])) ⟨G', g, dr, tk', os⟩ := I1.laid (t' := tk') old M.dbig ob
    refine ⟨e, oe, fv, ⟨G', g, dr, tk', os⟩, _, .ref C, some d, rfl, J, fun b o q => ?_, ge, hoe, ⟨hc, hd⟩, hdat, h1, ?_, rfl, I1.bare, raises_own T.exC T.tyC, q1 d (I1.hok.fresh M.dbig)⟩
    · by_cases hb : b = e
      · have q' : G'.get? b = some o := q
        rw [hb, ge] at q'; cases q'
      · exact (gk b hb).symm.trans q
    · rw [upd_ne (Ne.symm M.dne)]
      exact I1.hok.fresh M.new
/-- raise Refused(e) -/
def tRaiseRef (C : Addr) (W : WX) (ta : TA) : TS := fun _ σ H => tMkRef C ta σ H fun cls d H' => W cls d σ H'
theorem ps_raiseRef {a : Expr} {ta : TA} {W : WX} {p pos pos2 : Pos} {k : Nat} (hc : X.calm = true) (T : PySem.RefX.RefTxt X.K X.mg C fI) (hr : Room k X.A) (tk : Takes X W) (ha : PA X [a] ta) (hg : Gl X "Refused" := by rfl)
    (he : starEach (a :: []) X.env = (false, eval a X.env) :: starEach [] X.env := by rfl) (hpl : (backTo pos (starEach [] X.env)).any (·.1) = false := by rfl) :
    PS X (.Raise (some (.Call (.Name "Refused" p) [a] [] pos)) none pos2) (tRaiseRef C W ta) := ps_raise hc tk (pmk_ref T hr ha hg he hpl)
/-- refused.number, refused the exception that the suite holds (at a; its class cls, its dict d) -/
def tByRef (C : Addr) (a : Addr) (cls : Value) (d : Option Addr) (te : TE) : TE := fun σ H Q => te σ H fun x H1 => x = .ref a ∧ cls = .ref C ∧ ∃ (dd : Addr) (v : V), d = some dd ∧ H1 dd = some (.xd [(("number" : Str), v)]) ∧ Q v H1
theorem pe_byRef {a : Addr} {oe : Obj} {cls : Value} {d : Option Addr} {pn : List (Addr × Obj)} {e : Expr} {te : TE} {pos : Pos} (T : PySem.RefX.RefTxt X.K X.mg C fI) (hz : Zc cls d oe) (hf : ∃ vs, oe.data = .fields vs) (he : PE (X.suite a ((a, oe) :: pn)) e te)
    (hb : attributeBase e "number" X.env (eval e X.env) = eval e X.env := by rfl) :
    PE (X.suite a ((a, oe) :: pn)) (.Attribute e "number" pos) (tByRef C a cls d te) := by
  refine ⟨fun pins s σ H Q I h => ?_⟩
  refine attr_of hb (thn (he.run pins s σ H _ I h) fun u s1 hh => ?_)
  obtain ⟨x, H1, I1, rx, ex, ec, dd, v, ed, ea, q⟩ := hh
  subst ex
  obtain rfl : u = Value.ref a := rx
  subst ec
  subst ed
  obtain ⟨ha, _⟩ := I1.pin (a, oe) (List.mem_append_left _ List.mem_cons_self)
  obtain ⟨vs, hd⟩ := hf
  have hx : ObjOk X.prog X.w H1 s1.heap dd (.xd [(("number" : Str), v)]) := I1.hok dd _ ea
  obtain ⟨mA, hns, hr⟩ := hx
  obtain ⟨od, ho, hl⟩ := lookIn_ns hns
  have l : List.lookup ("number" : Str) [(("number" : Str), v)] = some v := by simp [List.lookup]
  obtain ⟨u, hu, ru⟩ := RelO.some_of (v := v) (o := mA "number") (by rw [← l]; exact hr "number")
  have J : PySem.W.InstAt s1.heap a oe C (some od) := ⟨ha, hz.1, by unfold PySem.W.notCls; rw [hd] <;> rfl, by rw [hz.2]; exact ho⟩
  exact HandSPX.exc_get I1.kIn J T.ga T.gg T.exC (PySem.W.findObj_own T.hdC T.noN rfl (by rw [hl, hu])) (handed_of ru) ⟨v, H1, I1.tok _, ru, q⟩
end
end L2

namespace L2
open PySem PySem.Spec PyProof.Rows
/-- an if whose test is known -/
theorem if_true_of {c : Bool} {A B : Prop} (hc : c = true) (h : A) : if c = true then A else B := by
  rw [if_pos hc]
  exact h
theorem if_false_of {c : Bool} {A B : Prop} (hc : c = false) (h : B) : if c = true then A else B := by
  rw [hc, if_neg Bool.false_ne_true]
  exact h
end L2
namespace Sw
open PySem PySem.Spec PyProof.Rows L2
/-! ### defs of the top, by their names -/
def top (i : Nat) : Stmt := PySem.Challenge.pw_stagefades_s01_answers.main.body.getD i (.Pass ⟨0, 0, 0, 0⟩)
/-- a def that may be called by its name -/
structure Cl (P : Program) (w : World) (K : PySem.W.Frag) (mg : Str → Option Value) (base : Heap) (CX : CXT) (k : Nat) (x : Str) (sp : Sp) : Prop where
  ex : ∃ (f : Addr) (fd : FuncData) (ps : List Str), FnOk P w K mg base CX k f fd ps sp ∧ mg x = some (.ref f) ∧ PySem.W.keepIn K (.ref f) = true ∧ Binds K fd ps []
/-- a def as it stands behind the top -/
structure Df (K : PySem.W.Frag) (mg : Str → Option Value) (x : Str) (st : Stmt) : Prop where
  ex : ∃ (f : Addr) (fd : FuncData), Fun K x x st f fd ∧ mg x = some (.ref f)
section
variable {P : Program} {w : World} {K : PySem.W.Frag} {mg : Str → Option Value} {base : Heap} {x : Str} {st : Stmt} {N ps : List Str} {k : Nat} {sp : Sp}
theorem cl0 (D : Df K mg x st) (S : FnScope N ps (defScope st))
    (hb : ∀ (kV doc pm : Value) (an : Option Addr) (cdv ct : Value) (us : List Value), us.length = ps.length → bindArgs (PySem.W.fnOf x x (defArgs st) (defBody st) (defScope st) .none kV doc pm an cdv ct) ⟨us, []⟩ = pure (ps.zip us))
    (len : ∀ vs H Q E, sp vs H Q E → vs.length = ps.length)
    (hbody : ∀ (f : Addr) (cdv : Value) (A : Around) (outer : List Env) (s : Shared) (H : Hp) (vs : List V) (Q : VK) (E : XK), Room k (A.deeper (envOfC x (defScope st) s.heap.objs.size f cdv)) → sp vs H Q E →
      ∃ t, PSs (cxOf CX0 P w K mg base N x (defScope st) f cdv A outer s H E).nox (defBody st) t ∧ t { nx := fun _ H' => Q .non H', rt := Q } (start N vs) H) : Cl P w K mg base CX0 (k + 1) x sp := by
  obtain ⟨f, fd, F, hm⟩ := D.ex
  exact ⟨f, fd, ps, F.ok S len fun cdv A outer s H vs Q E hr h => hbody f cdv A outer s H vs Q E hr h, hm, F.kp, F.binds hb⟩
theorem clX (D : Df K mg x st) (S : FnScope N ps (defScope st))
    (hb : ∀ (kV doc pm : Value) (an : Option Addr) (cdv ct : Value) (us : List Value), us.length = ps.length → bindArgs (PySem.W.fnOf x x (defArgs st) (defBody st) (defScope st) .none kV doc pm an cdv ct) ⟨us, []⟩ = pure (ps.zip us))
    (len : ∀ vs H Q E, sp vs H Q E → vs.length = ps.length)
    (hbody : ∀ (f : Addr) (cdv : Value) (A : Around) (outer : List Env) (s : Shared) (H : Hp) (vs : List V) (Q : VK) (E : XK), Room k (A.deeper (envOfC x (defScope st) s.heap.objs.size f cdv)) → sp vs H Q E →
      ∃ t, PSs (cxOf (L2.CX P w) P w K mg base N x (defScope st) f cdv A outer s H E) (defBody st) t ∧ t { nx := fun _ H' => Q .non H', rt := Q } (start N vs) H) : Cl P w K mg base (L2.CX P w) (k + 1) x sp := by
  obtain ⟨f, fd, F, hm⟩ := D.ex
  exact ⟨f, fd, ps, F.okX S len fun cdv A outer s H vs Q E hr h => hbody f cdv A outer s H vs Q E hr h, hm, F.kp, F.binds hb⟩
end
section
variable {X : Cx} {k j : Nat} {x : Str} {sp : Sp} {p pos : Pos} {e : Expr} {es : List Expr} {t : TA}
theorem pe_c (c : Cl X.prog X.w X.K X.mg X.base CX0 k x sp) (hr : Room j X.A) (ha : PA X (e :: es) t) (hk : k ≤ j := by decide) (hg : Gl X x := by rfl)
    (hdb : (x == ("__debug__" : Str)) = false := by decide) (he : starEach (e :: es) X.env = (false, eval e X.env) :: starEach es X.env := by rfl) (hpl : (backTo pos (starEach es X.env)).any (·.1) = false := by rfl) :
    PE X (.Call (.Name x p) (e :: es) [] pos) (tCall sp [] E0 t) := by
  obtain ⟨f, fd, ps, F, hm, kp, b⟩ := c.ex
  exact pe_call F (hr.mono hk) hg hm kp b .nil pass0 ha hdb he hpl
theorem pe_c0 (c : Cl X.prog X.w X.K X.mg X.base CX0 k x sp) (hr : Room j X.A) (hk : k ≤ j := by decide) (hg : Gl X x := by rfl)
    (hdb : (x == ("__debug__" : Str)) = false := by decide) : PE X (.Call (.Name x p) [] [] pos) (tCall sp [] E0 tNil) := by
  obtain ⟨f, fd, ps, F, hm, kp, b⟩ := c.ex
  exact pe_call0 F (hr.mono hk) hg hm kp b .nil pass0 hdb
/-- a def that may raise, called where what it raises leaves the def -/
theorem pe_cX {E : XK} (c : Cl X.prog X.w X.K X.mg X.base (L2.CX X.prog X.w) k x sp) (hr : Room j X.A) (tk : Takes X (fun cls d _ H => E cls d H)) (ha : PA X (e :: es) t) (hk : k ≤ j := by decide) (hg : Gl X x := by rfl)
    (hdb : (x == ("__debug__" : Str)) = false := by decide) (he : starEach (e :: es) X.env = (false, eval e X.env) :: starEach es X.env := by rfl) (hpl : (backTo pos (starEach es X.env)).any (·.1) = false := by rfl) :
    PE X (.Call (.Name x p) (e :: es) [] pos) (tCall sp [] E t) := by
  obtain ⟨f, fd, ps, F, hm, kp, b⟩ := c.ex
  exact pe_call F (hr.mono hk) hg hm kp b .nil (passes_call tk fun _ _ _ _ h => h) ha hdb he hpl
end
end Sw

/-! list(zip(xs, ys)) over two lists of one length: a rule that the layer lacks -/
namespace Zl
open PySem PySem.Spec PyProof.Rows PySem.Calls
theorem nolen_zip : typeLookup (.type "zip") "__len__" = pure none := by rw [typeLookup_type, builtinLookup_eq_fast]; kernel_rfl
theorem nohint_zip : typeLookup (.type "zip") "__length_hint__" = pure none := by rw [typeLookup_type, builtinLookup_eq_fast]; kernel_rfl
/-- a zip in the midst of its walk, i pairs given out; S: the list that takes them -/
def ZlSt (h : Heap) (z TI TO i1 i2 l1 l2 S : Addr) (xs ys : Array Value) (i : Nat) : Prop :=
  IsPair h TI (.ref i1) (.ref i2) ∧ h.IsListIter i1 l1 i ∧ h.IsListIter i2 l2 i ∧ h.IsList l1 xs ∧ h.IsList l2 ys ∧
    ((IsZip h z TI TO .none ∧ ∃ a b, IsPair h TO a b) ∨ ∃ T f oT, IsZipHeld h z TI TO T f ∧ h.get? T = some oT ∧ T ≠ z ∧ T ≠ i1 ∧ T ≠ i2 ∧ T ≠ S)
/-- the list stands apart -/
structure Apart (z TI TO i1 i2 l1 l2 S : Addr) : Prop where
  z : S ≠ z
  TI : S ≠ TI
  TO : S ≠ TO
  i1 : S ≠ i1
  i2 : S ≠ i2
  l1 : S ≠ l1
  l2 : S ≠ l2
section
variable {prog : Program} {w : World} {A : Around} {E : Value → Shared → Prop} {s : Shared} {z TI TO i1 i2 l1 l2 S : Addr} {xs ys : Array Value} {i : Nat}
theorem ZlSt.keep {h h' : Heap} (P : Apart z TI TO i1 i2 l1 l2 S) (st : ZlSt h z TI TO i1 i2 l1 l2 S xs ys i) (hk : ∀ b o, b ≠ S → h.get? b = some o → h'.get? b = some o) : ZlSt h' z TI TO i1 i2 l1 l2 S xs ys i := by
  obtain ⟨hTI, h1, h2, hl1, hl2, hz⟩ := st
  refine ⟨hk _ _ (Ne.symm P.TI) hTI, h1.at fun o e => hk _ o (Ne.symm P.i1) e, h2.at fun o e => hk _ o (Ne.symm P.i2) e, hl1.at fun o e => hk _ o (Ne.symm P.l1) e, hl2.at fun o e => hk _ o (Ne.symm P.l2) e, ?_⟩
  rcases hz with ⟨hz, a, b, hTO⟩ | ⟨T, f, oT, hz, hT, r1, r2, r3, r4⟩
  · exact .inl ⟨hk _ _ (Ne.symm P.z) hz, a, b, hk _ _ (Ne.symm P.TO) hTO⟩
  · exact .inr ⟨T, f, oT, hk _ _ (Ne.symm P.z) hz, hk _ _ r4 hT, r1, r2, r3, r4⟩
theorem zl_item {x y : Value} {Q : Option Value → Shared → Prop} (D : ZipApart z TI TO i1 i2 l1 l2) (st : ZlSt s.heap z TI TO i1 i2 l1 l2 S xs ys i) (hS : S < s.heap.objs.size) (hx : xs[i]? = some x) (hy : ys[i]? = some y)
    (hQ : ∀ h', ZlSt h' z TI TO i1 i2 l1 l2 S xs ys (i + 1) → h'.get? s.heap.objs.size = some { cls := .type "tuple", data := .seq #[x, y] } → h'.objs.size = s.heap.objs.size + 1 →
      (∀ c o, c ≠ z → c ≠ TO → c ≠ i1 → c ≠ i2 → s.heap.get? c = some o → h'.get? c = some o) → Q (some (.ref s.heap.objs.size)) { s with heap := h' }) :
    wpAny (model prog w) A (pyNext (.ref z)) Q E s := by
  obtain ⟨hTI, h1, h2, hl1, hl2, hz⟩ := st
  have lt : ∀ {c o}, s.heap.get? c = some o → s.heap.objs.size ≠ c := fun e => Nat.ne_of_gt (Heap.lt_size e)
  have n1 : s.heap.objs.size ≠ i1 := let ⟨_, e, _⟩ := h1; lt e
  have n2 : s.heap.objs.size ≠ i2 := let ⟨_, e, _⟩ := h2; lt e
  rcases hz with ⟨hz, a, b, hTO⟩ | ⟨T, f, oT, hz, hT, r1, r2, r3, r4⟩
  · refine wpAny_pyNext_zip_item D hz hTI hTO h1 h2 hl1 hl2 hx hy fun h' a1 a2 a3 a4 a5 a6 hk => ?_
    exact hQ h' ⟨hk _ _ D.TIz D.TITO D.TIi1 D.TIi2 hTI, a3, a4, hl1.at fun o e => hk _ o D.l1z D.l1TO D.l1i1 D.l1i2 e, hl2.at fun o e => hk _ o D.l2z D.l2TO D.l2i1 D.l2i2 e,
      .inr ⟨s.heap.objs.size, false, _, a1, a5, lt hz, n1, n2, Nat.ne_of_gt hS⟩⟩ a5 a6 hk
  · refine wpAny_pyNext_zip_item_held D hz hT hTI h1 h2 hl1 hl2 hx hy fun h' a1 a3 a4 a5 a6 hk => ?_
    exact hQ h' ⟨hk _ _ D.TIz D.TIi1 D.TIi2 hTI, a3, a4, hl1.at fun o e => hk _ o D.l1z D.l1i1 D.l1i2 e, hl2.at fun o e => hk _ o D.l2z D.l2i1 D.l2i2 e,
      .inr ⟨T, true, oT, a1, hk _ _ r1 r2 r3 hT, r1, r2, r3, r4⟩⟩ a5 a6 fun c o c1 _ c3 c4 e => hk c o c1 c3 c4 e
theorem zl_done {Q : Option Value → Shared → Prop} (hh : A.handled = none) (D : ZipApart z TI TO i1 i2 l1 l2) (st : ZlSt s.heap z TI TO i1 i2 l1 l2 S xs ys i) (hend : xs[i]? = none ∨ ys[i]? = none)
    (hQ : ∀ h', (∀ c o, c ≠ z → c ≠ TO → c ≠ i1 → c ≠ i2 → s.heap.get? c = some o → h'.get? c = some o) → Q none { s with heap := h' }) : wpAny (model prog w) A (pyNext (.ref z)) Q E s := by
  obtain ⟨hTI, h1, h2, hl1, hl2, hz⟩ := st
  rcases hz with ⟨hz, a, b, hTO⟩ | ⟨T, f, oT, hz, hT, r1, r2, r3, r4⟩
  · exact wpAny_pyNext_zip_end hh D hz hTI hTO h1 h2 hl1 hl2 hend hQ
  · exact wpAny_pyNext_zip_end_held hh D hz hT hTI h1 h2 hl1 hl2 hend fun h' hk => hQ h' fun c o c1 _ c3 c4 e => hk c o c1 c3 c4 e
/-- the pairs that have been given out, as they lie -/
structure Out (xs ys : Array Value) (lo : Addr) (h : Heap) (as : List Addr) : Prop where
  rise : as.Pairwise (· < ·)
  above : ∀ a ∈ as, lo < a
  pairs : ∀ (j : Nat) (a : Addr), as[j]? = some a → ∃ x y, xs[j]? = some x ∧ ys[j]? = some y ∧ h.get? a = some { cls := .type "tuple", data := .seq #[x, y] }
theorem Out.there {lo : Addr} {h : Heap} {as : List Addr} (g : Out xs ys lo h as) {a : Addr} (ha : a ∈ as) : a < h.objs.size := by
  obtain ⟨j, hj⟩ := List.mem_iff_getElem?.mp ha
  obtain ⟨_, _, _, _, e⟩ := g.pairs j a hj
  exact Heap.lt_size e
/-- what the walk turns lies below the list -/
structure Below (z TO i1 i2 S : Addr) : Prop where
  z : z < S
  TO : TO < S
  i1 : i1 < S
  i2 : i2 < S
theorem zl_loop {R : Result → Shared → Prop} (hh : A.handled = none) (D : ZipApart z TI TO i1 i2 l1 l2) (P : Apart z TI TO i1 i2 l1 l2 S) (B : Below z TO i1 i2 S) (hxy : xs.size = ys.size) (hn : xs.size ≤ sizeLine) (res : Value) {h₁ : Heap}
    (hR : ∀ h' tk acc c as, (∀ b o, b ≠ S → b ≠ z → b ≠ TO → b ≠ i1 → b ≠ i2 → h₁.get? b = some o → h'.get? b = some o) → h'.get? S = some { cls := .type "list", dict := none, data := .seq acc c, slots := #[] } → as.length = xs.size → Out xs ys S h' as →
      acc.toList = as.map Value.ref → R (.ok (.ret res)) { s with heap := h', toks := tk }) :
    ∀ (k i : Nat) (h : Heap) (tk c : Nat) (acc : Array Value) (as : List Addr), xs.size - i = k → i ≤ xs.size → ZlSt h z TI TO i1 i2 l1 l2 S xs ys i → (∀ b o, b ≠ S → b ≠ z → b ≠ TO → b ≠ i1 → b ≠ i2 → h₁.get? b = some o → h.get? b = some o) →
      h.get? S = some { cls := .type "list", dict := none, data := .seq acc c, slots := #[] } → acc.toList = as.map Value.ref → as.length = i → Out xs ys S h as →
      codeAny (model prog w) A (.builtin "list.extend.loop" ⟨[.ref S, .ref z, res], []⟩) R { s with heap := h, toks := tk } := by
  intro k
  induction k with
  | zero =>
    intro i h tk c acc as hk hi hst hkeep hS hacc hal hG
    have hin : i = xs.size := by omega
    refine codeAny_builtin PySem.F.entry_extend_loop ?_
    rw [Around.under_plainId PySem.F.plain_extend_loop _]
    show wpAny _ A.in1 (pyNext (.ref z) >>= _) _ _ _
    refine wpAny_bind (zl_done (s := { s with heap := h, toks := tk }) (A := A.in1) hh D hst (.inl (Array.getElem?_eq_none (by omega))) fun h' he => ?_)
    refine wpAny_pure (hR h' tk acc c as (fun b o h1 h2 h3 h4 h5 e => he b o h2 h3 h4 h5 (hkeep b o h1 h2 h3 h4 h5 e)) (he S _ P.z P.TO P.i1 P.i2 hS) (by omega) ⟨hG.rise, hG.above, fun j a hj => ?_⟩ hacc)
    obtain ⟨x, y, e1, e2, e3⟩ := hG.pairs j a hj
    have ha := hG.above a (List.mem_of_getElem? hj)
    have bz := B.z
    have bT := B.TO
    have b1 := B.i1
    have b2 := B.i2
    exact ⟨x, y, e1, e2, he a _ (Nat.ne_of_gt (Nat.lt_trans bz ha)) (Nat.ne_of_gt (Nat.lt_trans bT ha)) (Nat.ne_of_gt (Nat.lt_trans b1 ha)) (Nat.ne_of_gt (Nat.lt_trans b2 ha)) e3⟩
  | succ k ih =>
    intro i h tk c acc as hk hi hst hkeep hS hacc hal hG
    have hlt : i < xs.size := by omega
    have hx := Array.getElem?_eq_getElem hlt
    have hy := Array.getElem?_eq_getElem (show i < ys.size by omega)
    generalize xs[i] = x at hx
    generalize ys[i] = y at hy
    have hsz : acc.size = i := by rw [← Array.length_toList, hacc, List.length_map, hal]
    refine codeAny_builtin PySem.F.entry_extend_loop ?_
    rw [Around.under_plainId PySem.F.plain_extend_loop _]
    show wpAny _ A.in1 (pyNext (.ref z) >>= _) _ _ _
    refine wpAny_bind (zl_item (s := { s with heap := h, toks := tk }) (S := S) D hst (Heap.lt_size hS) hx hy fun h' hst' ht hz hkp => ?_)
    dsimp only at ht hz hkp ⊢
    have hS' := hkp S _ P.z P.TO P.i1 P.i2 hS
    have up : ∀ b o, b ≠ S → h'.get? b = some o → (h'.update S (Obj.mapSeq (·.push (Value.ref h.objs.size)))).get? b = some o := fun b o hb e => (Heap.get?_update_other _ _ (Ne.symm hb)).trans e
    have hSl : S < h.objs.size := Heap.lt_size hS
    show wpAny _ A.in1 (updateSeq S (·.push (Value.ref h.objs.size)) >>= _) _ _ _
    refine wpAny_bind ?_
    refine wpAny_updateSeq hS' rfl (wpAny_pure ⟨plainId_quiet PySem.F.plain_extend_loop _, ih (i + 1) _ tk _ (acc.push (Value.ref h.objs.size)) (as ++ [h.objs.size]) (by omega) hlt (hst'.keep P up)
      (fun b o h1 h2 h3 h4 h5 e => up b o h1 (hkp b o h2 h3 h4 h5 (hkeep b o h1 h2 h3 h4 h5 e))) (Heap.get?_update_self _ hS' rfl) (by rw [Array.toList_push, hacc, List.map_append]; rfl) (by rw [List.length_append, hal]; rfl) ⟨?_, ?_, ?_⟩⟩) (by rw [hsz]; omega) (by show (acc.push (Value.ref h.objs.size)).size ≤ sizeLine + 1; rw [Array.size_push, hsz]; omega)
    · refine List.pairwise_append.mpr ⟨hG.rise, List.pairwise_singleton _ _, fun a ha b hb => ?_⟩
      rw [List.mem_singleton.mp hb]
      exact hG.there ha
    · intro a ha
      rcases List.mem_append.mp ha with ha | ha
      · exact hG.above a ha
      · rw [List.mem_singleton.mp ha]; exact hSl
    · intro j b hj
      rcases Nat.lt_trichotomy j as.length with h1 | h1 | h1
      · rw [List.getElem?_append_left h1] at hj
        obtain ⟨x', y', e1, e2, e3⟩ := hG.pairs j b hj
        have hb := hG.above b (List.mem_of_getElem? hj)
        have bz := B.z
        have bT := B.TO
        have b1 := B.i1
        have b2 := B.i2
        exact ⟨x', y', e1, e2, up b _ (Nat.ne_of_gt hb) (hkp b _ (Nat.ne_of_gt (Nat.lt_trans bz hb)) (Nat.ne_of_gt (Nat.lt_trans bT hb)) (Nat.ne_of_gt (Nat.lt_trans b1 hb)) (Nat.ne_of_gt (Nat.lt_trans b2 hb)) e3)⟩
      · subst h1
        have hb : h.objs.size = b := by simpa using hj
        subst hb
        exact ⟨x, y, by rw [hal]; exact hx, by rw [hal]; exact hy, up _ _ (Nat.ne_of_gt hSl) ht⟩
      · have hnone : (as ++ [h.objs.size])[j]? = none := List.getElem?_eq_none (by rw [List.length_append, List.length_singleton]; omega)
        rw [hnone] at hj; cases hj
theorem zl_init {R : Result → Shared → Prop} (hh : A.handled = none) (D : ZipApart z TI TO i1 i2 l1 l2) (P : Apart z TI TO i1 i2 l1 l2 S) (B : Below z TO i1 i2 S) (hxy : xs.size = ys.size) (hn : xs.size ≤ sizeLine)
    (hz0 : ∀ h : Heap, (∀ b o, b ≠ S → s.heap.get? b = some o → h.get? b = some o) → IsZip h z TI TO .none) (hst : ZlSt s.heap z TI TO i1 i2 l1 l2 S xs ys 0) (hS : s.heap.get? S = some { cls := .type "list", data := .seq #[] })
    (hR : ∀ h' tk acc c as, (∀ b o, b ≠ S → b ≠ z → b ≠ TO → b ≠ i1 → b ≠ i2 → s.heap.get? b = some o → h'.get? b = some o) → h'.get? S = some { cls := .type "list", dict := none, data := .seq acc c, slots := #[] } → as.length = xs.size → Out xs ys S h' as →
      acc.toList = as.map Value.ref → R (.ok (.ret .none)) { s with heap := h', toks := tk }) :
    wpAny (model prog w) A.in1 (Builtin.«list.__init__» ⟨[.ref S, .ref z], []⟩)
      (fun fin s' => match fin with | .done f => R (.ok f) s' | .again c' => c'.quiet = true ∧ codeAny (model prog w) A c' R s') (fun e s' => R (.error e) s') s := by
  show wpAny _ _ (do let old ← Builtin.List.listItems (.ref S); Builtin.List.listUpdate (.ref S) (fun _ => #[]); letGo old.toList.reverse; Builtin.List.listExtendWith (.ref S) (.ref z) .none) _ _ s
  refine wpAny_bind ?_
  unfold Builtin.List.listItems
  refine wpAny_bind (wpAny_seqItems hS rfl (wpAny_pure ?_))
  show wpAny _ _ (updateSeq S (fun _ => #[]) >>= fun _ => letGo (#[] : Array Value).toList.reverse >>= fun _ => Builtin.List.listExtendWith (.ref S) (.ref z) .none) _ _ s
  refine wpAny_bind (wpAny_updateSeq hS rfl ?_)
  have hS2 := Heap.get?_update_self (Obj.mapSeq (fun _ => (#[] : Array Value))) hS rfl
  have oth : ∀ b o, b ≠ S → s.heap.get? b = some o → (s.heap.update S (Obj.mapSeq (fun _ => (#[] : Array Value)))).get? b = some o :=
    fun b o hb e => (Heap.get?_update_other _ _ (Ne.symm hb)).trans e
  refine wpAny_bind (wpAny_letGo ?_)
  have z2 := hz0 _ oth
  have hT2 : Shared.TypeIs { s with heap := s.heap.update S (Obj.mapSeq (fun _ => (#[] : Array Value))) } (.ref z) "zip" := ⟨_, z2, rfl⟩
  unfold Builtin.List.listExtendWith
  refine wpAny_bind (wpAny_typeOf (T := "zip") hT2 ?_)
  have h1 : Builtin.List.listSameRef (.ref S) (.ref z) = false := by simp [Builtin.List.listSameRef, P.z]
  have h2 : (Value.type "zip" == Value.type "list") = false := by decide
  have h3 : (Value.type "zip" == Value.type "tuple") = false := by decide
  simp only [h1, h2, h3, Bool.or_false, Bool.false_eq_true, if_false]
  refine wpAny_bind (wpAny_pyIter_zip z2 ?_)
  refine wpAny_bind (wpAny_holding ?_)
  unfold Builtin.List.listLengthHint
  refine wpAny_bind (wpAny_specialOf hT2 nolen_zip ?_)
  show wpAny _ A.in1 (specialOf (Value.ref z) (Str.ofString "__length_hint__") >>= _) _ _ _
  refine wpAny_bind (wpAny_specialOf hT2 nohint_zip ?_)
  refine wpAny_pure ?_
  show wpAny _ A.in1 (rule "list.extend.makes-room" >>= fun _ => Builtin.List.listTouch (.ref S) >>= fun _ =>
    again (.builtin "list.extend.loop" ⟨[.ref S, .ref z, .none], []⟩)) _ _ _
  refine wpAny_bind (wpAny_rule ?_)
  refine wpAny_bind ?_
  show wpAny _ A.in1 (updateSeq S (·.push .none) >>= fun _ => updateSeq S (·.pop)) _ _ _
  refine wpAny_bind (wpAny_updateSeq hS2 rfl ?_)
  have hS3 := Heap.get?_update_self (Obj.mapSeq (·.push Value.none)) hS2 rfl
  refine wpAny_updateSeq (hz := by seq_fits) hS3 rfl ?_
  have hS4 := Heap.get?_update_self (Obj.mapSeq (·.pop)) hS3 rfl
  have oth4 : ∀ b o, b ≠ S → s.heap.get? b = some o → (((s.heap.update S (Obj.mapSeq (fun _ => (#[] : Array Value)))).update S (Obj.mapSeq (·.push Value.none))).update S (Obj.mapSeq (·.pop))).get? b = some o := fun b o hb e =>
    (Heap.get?_update_other _ _ (Ne.symm hb)).trans ((Heap.get?_update_other _ _ (Ne.symm hb)).trans (oth b o hb e))
  refine wpAny_pure ⟨plainId_quiet PySem.F.plain_extend_loop _, ?_⟩
  exact zl_loop (s := s) (h₁ := s.heap) hh D P B hxy hn .none hR xs.size 0 _ s.toks _ #[] [] (Nat.sub_zero _) (Nat.zero_le _) (hst.keep P oth4) (fun b o hb _ _ _ _ e => oth4 b o hb e) hS4 rfl rfl ⟨.nil, (fun _ ha => nomatch ha), (fun j a hj => by simp at hj)⟩
theorem zl_call {Q : Value → Shared → Prop} {N l1 l2 : Nat} (hN : N + 5 = s.heap.objs.size) (hh : A.handled = none) (hl1 : l1 < N) (hl2 : l2 < N) (hxy : xs.size = ys.size) (hn : xs.size ≤ sizeLine)
    (hz : IsZip s.heap (N + 4) (N + 2) (N + 3) .none) (hTI : IsPair s.heap (N + 2) (.ref N) (.ref (N + 1))) (hTO : IsPair s.heap (N + 3) .none .none) (h1 : s.heap.IsListIter N l1 0) (h2 : s.heap.IsListIter (N + 1) l2 0) (hx : s.heap.IsList l1 xs) (hy : s.heap.IsList l2 ys)
    (hQ : ∀ h' tk acc c as, (∀ b o, b < N → s.heap.get? b = some o → h'.get? b = some o) → h'.get? (N + 5) = some { cls := .type "list", dict := none, data := .seq acc c, slots := #[] } → as.length = xs.size → Out xs ys (N + 5) h' as →
      acc.toList = as.map Value.ref → Q (.ref (N + 5)) { s with heap := h', toks := tk }) :
    wpAny (model prog w) A (call (.type "list") [.ref (N + 4)]) Q E s := by
  refine callType_codes (Q₁ := fun obj s₁ => obj = .ref s.heap.objs.size ∧ s₁ = { s with heap := s.heap.push { cls := .type "list", data := .seq #[] } }) PySem.F.called_list (PySem.F.typeCall_list_1 _) PySem.F.entry_list_init
    (code_list_new _ ⟨rfl, rfl⟩) fun obj s₁ h₁ => ?_
  obtain ⟨rfl, rfl⟩ := h₁
  have hS : (s.heap.push { cls := .type "list", data := .seq #[] }).get? s.heap.objs.size = some { cls := .type "list", data := .seq #[] } := Heap.get?_push_size _ rfl
  rw [← hN] at hS ⊢
  have up : ∀ b o, s.heap.get? b = some o → (s.heap.push { cls := .type "list", data := .seq #[] }).get? b = some o := fun b o e => Heap.get?_push_of_some _ e
  have lt : ∀ b o, s.heap.get? b = some o → b ≠ N + 5 := fun b o e => by rw [hN]; exact Nat.ne_of_lt (Heap.lt_size e)
  have ap : Apart (N + 4) (N + 2) (N + 3) N (N + 1) l1 l2 (N + 5) := by constructor <;> (refine PySem.W.neN ?_; omega)
  have bl : Below (N + 4) (N + 3) N (N + 1) (N + 5) := ⟨show (N + 4 : Nat) < N + 5 by omega, show (N + 3 : Nat) < N + 5 by omega, show (N : Nat) < N + 5 by omega, show (N + 1 : Nat) < N + 5 by omega⟩
  refine ⟨⟨_, hS, rfl⟩, PySem.F.args_list_init_2 _ _, zl_init (A := A.in1) (xs := xs) (ys := ys) hh (PySem.W.ktu_apart N l1 l2 hl1 hl2) ap bl hxy hn (fun h hk => hk _ _ ap.z.symm (up _ _ hz)) ⟨up _ _ hTI, h1.at fun o e => up _ o e, h2.at fun o e => up _ o e, hx.at fun o e => up _ o e, hy.at fun o e => up _ o e, .inl ⟨up _ _ hz, _, _, up _ _ hTO⟩⟩ hS (fun h' tk acc c as hk hS' hl hG hacc => ?_)⟩
  refine ⟨rfl, hQ h' tk acc c as (fun b o hb e => hk b o (Nat.ne_of_lt (Nat.lt_of_lt_of_le hb (by omega : N ≤ N + 5))) (Nat.ne_of_lt (Nat.lt_of_lt_of_le hb (by omega : N ≤ N + 4))) (Nat.ne_of_lt (Nat.lt_of_lt_of_le hb (by omega : N ≤ N + 3))) (Nat.ne_of_lt hb) (Nat.ne_of_lt (Nat.lt_of_lt_of_le hb (by omega : N ≤ N + 1))) (up b o e)) hS' hl hG hacc⟩
end
end Zl
namespace Zl
open PySem PySem.Spec PyProof.Rows L2
/-- the tuples tracked at their addresses -/
def putZ : Hp → List Addr → List (V × V) → Hp
  | H, a :: as, p :: r => putZ (upd H a (.tup [p.1, p.2])) as r
  | H, _, _ => H
theorem putZ_off {b : Addr} : ∀ (as : List Addr) (ps : List (V × V)) (H : Hp), b ∉ as → putZ H as ps b = H b
  | [], _, _, _ => rfl
  | _ :: _, [], _, _ => rfl
  | a :: as, p :: ps, H, h => by
    show putZ (upd H a (.tup [p.1, p.2])) as ps b = H b
    rw [putZ_off as ps _ (fun z => h (List.mem_cons_of_mem _ z)), upd_ne (fun z => h (by rw [z]; exact List.mem_cons_self))]
theorem putZ_at : ∀ (as : List Addr) (ps : List (V × V)) (H : Hp), as.length = ps.length → as.Nodup → ∀ (j : Nat) (t : Addr), as[j]? = some t → ∃ p, ps[j]? = some p ∧ putZ H as ps t = some (.tup [p.1, p.2])
  | [], _, _, _, _, j, t, h => by simp at h
  | _ :: _, [], _, h, _, _, _, _ => by cases h
  | a :: as, p :: ps, H, h, hn, 0, t, hj => by
    have e : a = t := Option.some.inj hj
    subst e
    refine ⟨p, rfl, ?_⟩
    show putZ (upd H a (.tup [p.1, p.2])) as ps a = _
    rw [putZ_off as ps _ (List.nodup_cons.mp hn).1, upd_same]
  | a :: as, p :: ps, H, h, hn, j + 1, t, hj => putZ_at as ps _ (Nat.succ.inj h) (List.nodup_cons.mp hn).2 j t (by simpa using hj)
theorem vals_refs : ∀ as : List Addr, Vals (as.map V.ref) (as.map Value.ref)
  | [] => .nil
  | _ :: as => .cons rfl (vals_refs as)
/-- the list of the pairs, as the layer tells it -/
structure Zipped (H' : Hp) (p : Addr) (xs ys : List V) (ts : List Addr) : Prop where
  lst : H' p = some (.lst (ts.map V.ref))
  len : ts.length = xs.length
  item : ∀ (j : Nat) (t : Addr), ts[j]? = some t → ∃ x y, xs[j]? = some x ∧ ys[j]? = some y ∧ H' t = some (.tup [x, y])
def tListZip (K : PySem.W.Frag) (ta : TA) : TE := fun σ H Q => ta σ H fun vs H1 => ∃ a b xs ys, vs = [.ref a, .ref b] ∧ SqL K H1 a xs ∧ SqL K H1 b ys ∧ xs.length = ys.length ∧
  ∀ (H' : Hp) (p : Addr) (ts : List Addr), Same H1 H' → H1 p = none → Zipped H' p xs ys ts → Q (.ref p) H'
theorem zl_laid {X : Cx} {pins : List (Addr × Obj)} {σ : L2.St} {H : Hp} {s : Shared} {h' : Heap} {tk c S : Nat} {xs ys : List V} {ix iy : List Value} {acc : Array Value} {as : List Addr} (I : Inv X pins σ H s) (hz : xs.length ≤ sizeLine) (rx : Vals xs ix) (ry : Vals ys iy) (hxy : xs.length = ys.length)
    (hk : ∀ b o, s.heap.get? b = some o → h'.get? b = some o) (hSz : s.heap.objs.size ≤ S) (hS : h'.get? S = some { cls := .type "list", dict := none, data := .seq acc c, slots := #[] }) (hl : as.length = xs.length) (hG : Out ix.toArray iy.toArray S h' as) (hacc : acc.toList = as.map Value.ref) :
    ∃ H' : Hp, Same H H' ∧ H S = none ∧ Zipped H' S xs ys as ∧ Inv X pins σ H' { s with heap := h', toks := tk } := by
  have hSn : S ∉ as := fun z => Nat.lt_irrefl _ (hG.above _ z)
  have nd : as.Nodup := List.Pairwise.imp (fun {a b} (h : a < b) => Nat.ne_of_lt h) hG.rise
  have new : ∀ t ∈ as, H t = none := fun t ht => I.hok.fresh (Nat.le_trans hSz (Nat.le_of_lt (hG.above t ht)))
  have newS : H S = none := I.hok.fresh hSz
  have lz : (xs.zip ys).length = xs.length := by rw [List.length_zip, ← hxy, Nat.min_self]
  have atP := putZ_at as (xs.zip ys) (upd H S (.lst (as.map V.ref))) (by rw [lz]; exact hl) nd
  have off : ∀ b, b ∉ as → b ≠ S → putZ (upd H S (.lst (as.map V.ref))) as (xs.zip ys) b = H b := fun b h1 h2 => by rw [putZ_off as _ _ h1, upd_ne h2]
  have low : ∀ b o, s.heap.get? b = some o → b ∉ as ∧ b ≠ S := fun b o e => ⟨fun z => absurd (Heap.lt_size e) (Nat.not_lt.mpr (Nat.le_trans hSz (Nat.le_of_lt (hG.above b z)))), Nat.ne_of_lt (Nat.lt_of_lt_of_le (Heap.lt_size e) hSz)⟩
  have kp : ∀ b u, H b = some u → (putZ (upd H S (.lst (as.map V.ref))) as (xs.zip ys)) b = some u := fun b u e => by
    rw [off b (fun z => by rw [new b z] at e; cases e) (fun z => by rw [z, newS] at e; cases e)]
    exact e
  have eS : putZ (upd H S (.lst (as.map V.ref))) as (xs.zip ys) S = some (.lst (as.map V.ref)) := by rw [putZ_off as _ _ hSn, upd_same]
  have pz : ∀ (j : Nat) (p : V × V), (xs.zip ys)[j]? = some p → xs[j]? = some p.1 ∧ ys[j]? = some p.2 := fun j p h => by
    rw [List.getElem?_zip_eq_some] at h
    exact h
  refine ⟨putZ (upd H S (.lst (as.map V.ref))) as (xs.zip ys), kp, newS, ⟨eS, hl, fun j t ht => ?_⟩, ?_⟩
  · obtain ⟨p, e1, e2⟩ := atP j t ht
    exact ⟨p.1, p.2, (pz j p e1).1, (pz j p e1).2, e2⟩
  refine I.call' (ch := []) rfl ⟨fun b o q _ _ _ => hk b o q, fun b o q _ _ _ => ⟨o.slots, hk b o q⟩, fun b o q n _ => ?_, fun b o q _ => ⟨o, hk b o q⟩, fun b xs q => kp b _ q, fun b o u q => kp b _ q, fun b ps q => ⟨#[], by rw [kp b _ q]; simp⟩⟩ (fun b u q => ?_) I.bare fun b z => by simp at z
  · obtain ⟨z1, z2⟩ := low b o q
    rw [off b z1 z2]
    exact n
  · by_cases hb : b ∈ as
    · obtain ⟨j, hj⟩ := List.mem_iff_getElem?.mp hb
      obtain ⟨p, e2, e3⟩ := atP j b hj
      rw [e3] at q
      cases q
      obtain ⟨x, y, f1, f2, f3⟩ := hG.pairs j b hj
      obtain ⟨u1, g1, r1⟩ := rx.get (pz j p e2).1
      obtain ⟨u2, g2, r2⟩ := ry.get (pz j p e2).2
      rw [List.getElem?_toArray, g1] at f1
      rw [List.getElem?_toArray, g2] at f2
      cases f1
      cases f2
      exact ⟨by show 2 ≤ sizeLine; decide, [x, y], .cons r1 (.cons r2 .nil), ⟨_, f3, rfl, _, rfl⟩⟩
    · by_cases hb2 : b = S
      · rw [hb2] at q ⊢
        rw [eS] at q
        cases q
        refine ⟨by rw [List.length_map, hl]; exact hz, acc.toList, c, by rw [hacc]; exact vals_refs as, ?_⟩
        rw [Array.toArray_toList]
        exact hS
      · rw [off b hb hb2] at q
        exact (I.hok b u q).stay (fun d v _ y => hk d v y) (fun d y => kp d _ y) fun d xs y => kp d _ y
section
variable {X : Cx} {e1 e2 : Expr} {ta : TA} {p p2 pos pos2 : Pos}
/-- list(zip(e1, e2)) -/
theorem pe_listZip (hc : X.calm = true) (hml : X.mg "list" = none) (hmz : X.mg "zip" = none) (ha : PA X [e1, e2] ta) (hg : Gl X "list" := by rfl) (hgz : Gl X "zip" := by rfl) (hv : bootBuiltins "list" = some (.type "list") := by decide +kernel)
    (hs : starEach [.Call (.Name "zip" p2) [e1, e2] [] pos2] X.env = (false, eval (.Call (.Name "zip" p2) [e1, e2] [] pos2) X.env) :: starEach [] X.env := by rfl)
    (hs2 : starEach [e1, e2] X.env = (false, eval e1 X.env) :: starEach [e2] X.env := by rfl) (hpl : (backTo pos2 (starEach [e2] X.env)).any (·.1) = false := by rfl) :
    PE X (.Call (.Name "list" p) [.Call (.Name "zip" p2) [e1, e2] [] pos2] [] pos) (tListZip X.K ta) := by
  refine ⟨fun pins s σ H Q I hq => ?_⟩
  refine wpAny_Call_Name_kw (ld_blt I hg hml hv ?_)
  refine PyProof.Rows.callWith_type1 ?_ hs rfl
  rw [hs]
  show wpAny _ _ (spliced ((false, eval (.Call (.Name "zip" p2) [e1, e2] [] pos2) X.env) :: backTo pos (starEach [] X.env))) _ _ s
  refine Calls.spliced_cons ?_
  refine Call_ (ld_blt I hgz hmz PyProof.Rows.boot_zip (PyProof.Rows.callWith_type1 (thn (ha.run pos2 pins s σ H _ I hq) fun us s1 ⟨vs, H1, I1, r1, q1⟩ => ?_) hs2 hpl))
  obtain ⟨a, b, xs, ys, ex, hqx, hqy, hxy, q⟩ := q1
  subst ex
  cases r1 with
  | cons r rr =>
    cases rr with
    | cons r' rr =>
      cases rr
      cases r
      cases r'
      obtain ⟨its, rv, p1, hz1⟩ := I1.list hqx
      obtain ⟨its2, rv2, p2', hz2⟩ := I1.list hqy
      have la : a < s1.heap.objs.size := p1.lt
      have lb : b < s1.heap.objs.size := p2'.lt
      have l1 := rv.length
      have l2 := rv2.length
      refine call_zip_2 p1.isList p2'.isList fun h' hz hTI hTO h1 h2 hsz hk => ?_
      refine Calls.spliced_nil ?_
      refine zl_call (s := { s1 with heap := h' }) (N := s1.heap.objs.size) hsz.symm (I1.ok.hd hc) la lb (xs := its.toArray) (ys := its2.toArray) (by simp; omega) (by simp; omega) hz hTI hTO h1 h2 (p1.isList.at fun o e => hk _ o e) (p2'.isList.at fun o e => hk _ o e) fun h2' tk acc c as hk2 hS hl hG hacc => ?_
      obtain ⟨H', k1, k2, k3, J⟩ := zl_laid (tk := tk) (S := s1.heap.objs.size + 5) I1 (by omega) rv rv2 hxy (fun b o e => hk2 b o (Heap.lt_size e) (hk b o e)) (by omega) hS (by simp at hl; omega) hG hacc
      exact ⟨.ref _, H', J, rfl, q H' _ as k1 k2 k3⟩
end
end Zl

namespace Sw
open PySem PySem.Spec PyProof.Rows L2
/-! ### fractions -/
/-- // where the quotient is small: of any size, of either sign -/
def CDivQ (i j : Int) : Prop := j ≠ 0 ∧ i.natAbs ≤ 600 * j.natAbs
theorem noPylong_quot {x y : Int} (h : y ≠ 0) (hq : x.natAbs ≤ 600 * y.natAbs) : Builtin.divisionGoesByPylong x y = false := by
  have hy : ¬ (y == 0) = true := by simpa using h
  have hyn : y.natAbs ≠ 0 := by omega
  have key : ¬ (if x == 0 then 0 else x.natAbs.log2 / 30 + 1) > (if y == 0 then 0 else y.natAbs.log2 / 30 + 1) + 150 := by
    rw [if_neg hy]
    by_cases hx : (x == 0) = true
    · rw [if_pos hx]; omega
    · rw [if_neg hx]
      have hx0 : x.natAbs ≠ 0 := by
        have : x ≠ 0 := by simpa using hx
        omega
      have a1 : y.natAbs < 2 ^ (y.natAbs.log2 + 1) := Nat.lt_log2_self
      have a2 : x.natAbs < 2 ^ (y.natAbs.log2 + 1 + 10) := by
        rw [Nat.pow_add]
        have : (2 : Nat) ^ 10 = 1024 := by decide
        rw [this]
        omega
      have a3 : x.natAbs.log2 < y.natAbs.log2 + 1 + 10 := (Nat.log2_lt hx0).mpr a2
      omega
  show (_ && decide ((if x == 0 then 0 else x.natAbs.log2 / 30 + 1) > (if y == 0 then 0 else y.natAbs.log2 / 30 + 1) + 150)) = false
  rw [decide_eq_false key, Bool.and_false]
theorem op_fdivQ {X : Cx} : OpR X (binaryOp .FloorDiv) (rI CDivQ fun i j => .int (i.fdiv j)) := opI fun _ _ _ _ _ _ _ hc q => floordiv_int hc.1 q (.inl (noPylong_quot hc.1 hc.2))
/-- a fraction: a tuple of its top and its bottom -/
def fr (q : Rat) : HO := .tup [.int q.num, .int ((q.den : Nat) : Int)]
theorem fr_nat (n : Nat) : fr (n : Rat) = .tup [.int (n : Int), .int 1] := by
  unfold fr
  rw [Rat.num_natCast, Rat.den_natCast]
  rfl
def spCommon : Sp := fun vs H Q _ => ∃ a b : Nat, vs = [.int (a : Int), .int (b : Int)] ∧ Q (.int ((Nat.gcd a b : Nat) : Int)) H
def spFraction : Sp := fun vs H Q _ => ∃ (t : Int) (b : Nat), vs = [.int t, .int (b : Int)] ∧ b ≠ 0 ∧ Nat.gcd t.natAbs b ≤ 360000 ∧ ∀ p, H p = none → Q (.ref p) (upd H p (fr (mkRat t b)))
def spWhole : Sp := fun vs H Q _ => ∃ n : Nat, vs = [.int (n : Int)] ∧ ∀ p, H p = none → Q (.ref p) (upd H p (fr (n : Rat)))
def spIsAbove : Sp := fun vs H Q _ => ∃ (a b : Addr) (n : Nat) (r : Rat), vs = [.ref a, .ref b] ∧ H a = some (fr (n : Rat)) ∧ H b = some (fr r) ∧ n ≤ 100 ∧ Q (.bl (decide (r < (n : Rat)))) H
def spSideOf : Sp := fun vs H Q _ => ∃ (a : Addr) (q : Rat) (z : Nat), vs = [.ref a, .int (z : Int)] ∧ H a = some (fr q) ∧ z ≤ 100 ∧ Q (.int (Sf.sideOf q z)) H
def spBetween : Sp := fun vs H Q _ => ∃ (a : Addr) (q : Rat) (n k p : Nat), vs = [.ref a, .int (n : Int), .int (k : Int), .int (p : Int)] ∧ H a = some (fr q) ∧ k < p ∧ p ≤ 600 ∧ n ≤ 100 ∧
  ∀ r, H r = none → Q (.ref r) (upd H r (fr (q + ((n : Rat) - q) * (k : Rat) / (p : Rat))))
def spRounded : Sp := fun vs H Q _ => ∃ t b : Int, vs = [.int t, .int b] ∧ b ≠ 0 ∧ t.natAbs ≤ 600 * b.natAbs ∧ Q (.int (0 - Int.fdiv (0 - t) b)) H
theorem scCommon : FnScope ["one", "other"] ["one", "other"] (defScope (top 1)) := ⟨rfl, rfl, rfl, by decide +kernel, rfl, by decide +kernel, by decide +kernel⟩
section
variable {P : Program} {w : World} {K : PySem.W.Frag} {mg : Str → Option Value} {base : Heap}
theorem ok_common (D : Df K mg "common" (top 1)) : Cl P w K mg base CX0 1 "common" spCommon := by
  refine cl0 D scCommon (fun _ _ _ _ _ _ us hl => match us, hl with | [_, _], _ => rfl) (fun vs H Q E ⟨_, _, e, _⟩ => by rw [e]; rfl) fun f cdv A outer s H vs Q E hr h => ?_
  obtain ⟨a, b, rfl, k⟩ := h
  refine ⟨_, pss_cons (ps_while PassesOwn.never (pt_cmpR op_ne (pv 1) pe_int (nomark _))
      (pss_one (ps_par (i := 0) (j := 1) rfl scCommon.nd rfl rfl (by decide) rfl rfl (pa_cons (pv 1) (pa_cons (pe_op op_modN (pv 0) (pv 1)) pa_nil)) rfl)))
    (pss_one (ps_ret (pv 0))), ?_⟩
  refine ⟨fun m σ H' => H' = H ∧ ∃ a' b' : Nat, σ = [some (.int (a' : Int)), some (.int (b' : Int))] ∧ Nat.gcd a' b' = Nat.gcd a b ∧ b' = m, ⟨b, rfl, a, b, rfl, rfl, rfl⟩, ?_⟩
  rintro m σ H' ⟨rfl, a', b', rfl, hg, rfl⟩
  refine ⟨_, rfl, rfl, _, rfl, ?_⟩
  by_cases c : b' = 0
  · subst c
    refine if_false_of (by simp) ?_
    refine ⟨_, rfl, ?_⟩
    rw [Nat.gcd_zero_right] at hg
    rw [← hg] at k
    exact k
  · refine if_true_of (by simp; omega) ?_
    refine ⟨_, fun σ' H'' n => n, ?_⟩
    refine ⟨_, rfl, _, rfl, _, rfl, _, _, rfl, rfl, by omega, _, _, rfl, a' % b', Nat.mod_lt _ (by omega), rfl, b', a' % b', ?_, ?_, rfl⟩
    · show [some (V.int (b' : Int)), some (V.int ((a' : Int).fmod (b' : Int)))] = _
      rw [Int.fmod_eq_emod_of_nonneg _ (by omega), Int.natCast_emod]
    · rw [← hg, Nat.gcd_comm a' b', Nat.gcd_rec b' a', Nat.gcd_comm]
theorem scFraction : FnScope ["top", "bottom", "part"] ["top", "bottom"] (defScope (top 2)) := ⟨rfl, rfl, rfl, by decide +kernel, rfl, by decide +kernel, by decide +kernel⟩
theorem ok_fraction (D : Df K mg "fraction" (top 2)) (mabs : mg "abs" = none) (c1 : Cl P w K mg base CX0 1 "common" spCommon) : Cl P w K mg base CX0 2 "fraction" spFraction := by
  refine cl0 D scFraction (fun _ _ _ _ _ _ us hl => match us, hl with | [_, _], _ => rfl) (fun vs H Q E ⟨_, _, e, _⟩ => by rw [e]; rfl) fun f cdv A outer s H vs Q E hr h => ?_
  obtain ⟨t, b, rfl, hb, hg, k⟩ := h
  refine ⟨_, pss_cons (ps_set (i := 2) scFraction.nd rfl (Or.inl rfl) (pe_c c1 hr (pa_cons (pe_callB call_abs (by rfl) mabs (by decide +kernel) (pa_cons (pv 0) pa_nil)) (pa_cons (pv 1) pa_nil))))
    (pss_one (ps_ret (pe_tup (pa_cons (pe_op op_fdivN (pv 0) (pv 2)) (pa_cons (pe_op op_fdivN (pv 1) (pv 2)) pa_nil))))), ?_⟩
  refine ⟨_, rfl, _, rfl, _, rfl, t.natAbs, b, ?_, ?_⟩
  · show [V.int (if t < 0 then -t else t), V.int (b : Int)] = [V.int (t.natAbs : Int), V.int (b : Int)]
    congr 2
    split <;> omega
  · have hg0 : 0 < Nat.gcd t.natAbs b := Nat.gcd_pos_of_pos_right _ (by omega)
    have bd : ((Nat.gcd t.natAbs b : Nat) : Int) ≠ 0 ∧ ((Nat.gcd t.natAbs b : Nat) : Int).natAbs < 1073741824 := by omega
    refine ⟨_, rfl, _, rfl, _, _, rfl, rfl, bd, _, rfl, _, rfl, _, _, rfl, rfl, bd, (by show 2 ≤ sizeLine; decide), fun p hp => ?_⟩
    have e : (HO.tup [V.int (t.fdiv ((Nat.gcd t.natAbs b : Nat) : Int)), V.int ((b : Int).fdiv ((Nat.gcd t.natAbs b : Nat) : Int))]) = fr (mkRat t b) := by
      unfold fr
      rw [Sf.frac_num t b hb, Sf.frac_den t b hb, Int.fdiv_eq_ediv_of_nonneg _ (by omega), Int.fdiv_eq_ediv_of_nonneg _ (by omega), Int.natCast_ediv]
    have q := k p hp
    rw [← e] at q
    exact q
theorem scWhole : FnScope ["number"] ["number"] (defScope (top 3)) := ⟨rfl, rfl, rfl, by decide +kernel, rfl, by decide +kernel, by decide +kernel⟩
theorem ok_whole (D : Df K mg "whole" (top 3)) : Cl P w K mg base CX0 1 "whole" spWhole := by
  refine cl0 D scWhole (fun _ _ _ _ _ _ us hl => match us, hl with | [_], _ => rfl) (fun vs H Q E ⟨_, e, _⟩ => by rw [e]; rfl) fun f cdv A outer s H vs Q E hr h => ?_
  obtain ⟨n, rfl, k⟩ := h
  refine ⟨_, pss_one (ps_ret (pe_tup (pa_cons (pv 0) (pa_cons pe_int pa_nil)))), ?_⟩
  refine ⟨_, rfl, (by show 2 ≤ sizeLine; decide), fun p hp => ?_⟩
  have q := k p hp
  rw [fr_nat] at q
  exact q
theorem scAbove : FnScope ["one", "other"] ["one", "other"] (defScope (top 4)) := ⟨rfl, rfl, rfl, by decide +kernel, rfl, by decide +kernel, by decide +kernel⟩
theorem ok_above (D : Df K mg "is_above" (top 4)) : Cl P w K mg base CX0 1 "is_above" spIsAbove := by
  refine cl0 D scAbove (fun _ _ _ _ _ _ us hl => match us, hl with | [_, _], _ => rfl) (fun vs H Q E ⟨_, _, _, _, e, _⟩ => by rw [e]; rfl) fun f cdv A outer s H vs Q E hr h => ?_
  obtain ⟨a, b, n, r, rfl, ha, hb, hn, k⟩ := h
  refine ⟨_, pss_one (ps_ret (pe_cmpR op_gt (pe_op op_mul (pe_ix ix_tup (pv 0) pe_int (fun _ _ => rfl)) (pe_ix ix_tup (pv 1) pe_int (fun _ _ => rfl))) (pe_op op_mul (pe_ix ix_tup (pv 1) pe_int (fun _ _ => rfl)) (pe_ix ix_tup (pv 0) pe_int (fun _ _ => rfl))) (nomark _))), ?_⟩
  rw [fr_nat] at ha
  have a0 := SqT.of (K := K) ha
  have b0 := SqT.of (K := K) hb
  refine ⟨_, rfl, a, _, 0, _, rfl, rfl, a0, rfl, _, rfl, b, _, 1, _, rfl, rfl, b0, rfl, _, _, rfl, rfl, .inl (by omega), ?_⟩
  refine ⟨_, rfl, b, _, 0, _, rfl, rfl, b0, rfl, _, rfl, a, _, 1, _, rfl, rfl, a0, rfl, _, _, rfl, rfl, .inr (by decide), ?_⟩
  refine ⟨_, _, rfl, rfl, ?_⟩
  have e : decide (r.num * 1 < (n : Int) * ((r.den : Nat) : Int)) = decide (r < (n : Rat)) := by
    rw [Int.mul_one]
    exact decide_eq_decide.mpr (Sf.rat_lt_nat r n).symm
  show Q (.bl (decide (r.num * 1 < (n : Int) * ((r.den : Nat) : Int)))) H
  rw [e]
  exact k
theorem scSide : FnScope ["one", "number", "here", "there"] ["one", "number"] (defScope (top 5)) := ⟨rfl, rfl, rfl, by decide +kernel, rfl, by decide +kernel, by decide +kernel⟩
theorem ok_side (D : Df K mg "side_of" (top 5)) (mint : mg "int" = none) : Cl P w K mg base CX0 1 "side_of" spSideOf := by
  refine cl0 D scSide (fun _ _ _ _ _ _ us hl => match us, hl with | [_, _], _ => rfl) (fun vs H Q E ⟨_, _, _, e, _⟩ => by rw [e]; rfl) fun f cdv A outer s H vs Q E hr h => ?_
  obtain ⟨a, q, z, rfl, ha, hz, k⟩ := h
  refine ⟨_, pss_cons (ps_set (i := 2) scSide.nd rfl (Or.inl rfl) (pe_ix ix_tup (pv 0) pe_int (fun _ _ => rfl)))
    (pss_cons (ps_set (i := 3) scSide.nd rfl (Or.inl rfl) (pe_op op_mul (pv 1) (pe_ix ix_tup (pv 0) pe_int (fun _ _ => rfl))))
    (pss_one (ps_ret (pe_op op_sub (pe_callTy call_int1 (by rfl) mint (by decide +kernel) (pa_cons (pe_cmpR op_gt (pv 2) (pv 3) (nomark _)) pa_nil)) (pe_callTy call_int1 (by rfl) mint (by decide +kernel) (pa_cons (pe_cmpR op_lt (pv 2) (pv 3) (nomark _)) pa_nil)))))), ?_⟩
  have a0 := SqT.of (K := K) ha
  refine ⟨_, rfl, a, _, 0, _, rfl, rfl, a0, rfl, ?_⟩
  refine ⟨_, rfl, _, rfl, a, _, 1, _, rfl, rfl, a0, rfl, _, _, rfl, rfl, .inl (by omega), ?_⟩
  refine ⟨_, rfl, _, rfl, _, _, rfl, rfl, .inr ⟨_, rfl, ?_⟩⟩
  refine ⟨_, rfl, _, rfl, _, _, rfl, rfl, .inr ⟨_, rfl, ?_⟩⟩
  refine ⟨_, _, rfl, rfl, ?_⟩
  have e : ((if decide ((z : Int) * ((q.den : Nat) : Int) < q.num) = true then (1 : Int) else 0) - (if decide (q.num < (z : Int) * ((q.den : Nat) : Int)) = true then 1 else 0)) = Sf.sideOf q z := by
    unfold Sf.sideOf Sf.sg
    generalize (z : Int) * ((q.den : Nat) : Int) = m
    congr 1
    · by_cases c : m < q.num
      · rw [if_pos (decide_eq_true c), if_pos (by omega)]
      · rw [if_neg (by simpa using c), if_neg (by omega)]
    · by_cases c : q.num < m
      · rw [if_pos (decide_eq_true c), if_pos (by omega)]
      · rw [if_neg (by simpa using c), if_neg (by omega)]
  rw [← e] at k
  exact k
theorem scBetween : FnScope ["one", "number", "part", "parts", "top"] ["one", "number", "part", "parts"] (defScope (top 6)) := ⟨rfl, rfl, rfl, by decide +kernel, rfl, by decide +kernel, by decide +kernel⟩
theorem ok_between (D : Df K mg "between" (top 6)) (c1 : Cl P w K mg base CX0 2 "fraction" spFraction) : Cl P w K mg base CX0 3 "between" spBetween := by
  refine cl0 D scBetween (fun _ _ _ _ _ _ us hl => match us, hl with | [_, _, _, _], _ => rfl) (fun vs H Q E ⟨_, _, _, _, _, e, _⟩ => by rw [e]; rfl) fun f cdv A outer s H vs Q E hr h => ?_
  obtain ⟨a, q, n, k, p, rfl, ha, hk, hp, hn, kk⟩ := h
  refine ⟨_, pss_cons (ps_set (i := 4) scBetween.nd rfl (Or.inl rfl) (pe_op op_add (pe_op op_mul (pe_ix ix_tup (pv 0) pe_int (fun _ _ => rfl)) (pe_op op_sub (pv 3) (pv 2))) (pe_op op_mul (pe_op op_mul (pv 1) (pe_ix ix_tup (pv 0) pe_int (fun _ _ => rfl))) (pv 2))))
    (pss_one (ps_ret (pe_c c1 hr (pa_cons (pv 4) (pa_cons (pe_op op_mul (pe_ix ix_tup (pv 0) pe_int (fun _ _ => rfl)) (pv 3)) pa_nil))))), ?_⟩
  have a0 := SqT.of (K := K) ha
  refine ⟨_, rfl, a, _, 0, _, rfl, rfl, a0, rfl, _, rfl, _, rfl, _, _, rfl, rfl, _, _, rfl, rfl, .inr (by omega), ?_⟩
  refine ⟨_, rfl, _, rfl, a, _, 1, _, rfl, rfl, a0, rfl, _, _, rfl, rfl, .inl (by omega), _, rfl, _, _, rfl, rfl, .inr (by omega), ?_⟩
  refine ⟨_, _, rfl, rfl, ?_⟩
  refine ⟨_, rfl, _, rfl, a, _, 1, _, rfl, rfl, a0, rfl, _, rfl, _, _, rfl, rfl, .inr (by omega), ?_⟩
  have g := Sf.gcd_small q n k p hk hp
  refine ⟨_, q.den * p, ?_, ?_, g, fun r hr' => ?_⟩
  · rw [Int.natCast_mul]
    rfl
  · have := q.den_pos
    exact Nat.ne_of_gt (Nat.mul_pos this (by omega))
  · rw [Sf.between_eq q n k p hk]
    exact kk r hr'
theorem scRounded : FnScope ["top", "bottom"] ["top", "bottom"] (defScope (top 7)) := ⟨rfl, rfl, rfl, by decide +kernel, rfl, by decide +kernel, by decide +kernel⟩
theorem ok_rounded (D : Df K mg "rounded_up" (top 7)) : Cl P w K mg base CX0 1 "rounded_up" spRounded := by
  refine cl0 D scRounded (fun _ _ _ _ _ _ us hl => match us, hl with | [_, _], _ => rfl) (fun vs H Q E ⟨_, _, e, _⟩ => by rw [e]; rfl) fun f cdv A outer s H vs Q E hr h => ?_
  obtain ⟨t, b, rfl, hb, ht, k⟩ := h
  refine ⟨_, pss_one (ps_ret (pe_op op_sub pe_int (pe_op op_fdivQ (pe_op op_sub pe_int (pv 0)) (pv 1)))), ?_⟩
  exact ⟨_, rfl, _, _, rfl, rfl, _, rfl, _, _, rfl, rfl, ⟨hb, by omega⟩, _, _, rfl, rfl, k⟩
end
end Sw

namespace Sw
open PySem PySem.Spec PyProof.Rows L2
/-! ### what stays -/
/-- what may change where it stands: instances but fades, what is told, cues -/
def mu : HO → Bool
  | .ins _ _ [_, _, _, _] => false
  | .ins _ _ [_, _, _, _, _, _] => false
  | .ins _ _ _ => true
  | _ => false
/-- all but what may change at M stands -/
def Keep (M : Addr → Prop) (H H' : Hp) : Prop := ∀ b o, H b = some o → (mu o = true → ¬ M b) → H' b = some o
theorem Keep.refl {M : Addr → Prop} (H : Hp) : Keep M H H := fun _ _ h _ => h
theorem Keep.trans {M : Addr → Prop} {H H1 H2 : Hp} (a : Keep M H H1) (b : Keep M H1 H2) : Keep M H H2 := fun c o h n => b c o (a c o h n) n
theorem Keep.of {M : Addr → Prop} {H H' : Hp} (s : Same H H') : Keep M H H' := fun b o h _ => s b o h
theorem Keep.mono {M M' : Addr → Prop} {H H' : Hp} (k : Keep M H H') (h : ∀ b, M b → M' b) : Keep M' H H' := fun b o e n => k b o e fun m q => n m (h b q)
theorem Keep.same {H H' : Hp} (k : Keep (fun _ => False) H H') : Same H H' := fun b o h => k b o h fun _ q => q
theorem same_new {H : Hp} {p : Addr} {o : HO} (hp : H p = none) : Same H (upd H p o) := fun b u h => by rw [upd_ne (ne_of_none h hp)]; exact h
theorem keep_at {M : Addr → Prop} {H : Hp} {a : Addr} {o u : HO} (h : H a = some o) (hm : mu o = true) (ha : M a) : Keep M H (upd H a u) := fun b v e n => by
  by_cases q : b = a
  · subst q
    rw [h] at e
    cases e
    exact absurd ha (n hm)
  · rw [upd_ne q]; exact e
/-- a new instance, its dict beside it -/
def made (H : Hp) (dx x C : Addr) (fs : List (Str × V)) : Hp := upd (upd H dx (.own x)) x (.ins C dx fs)
theorem made_at {H : Hp} {dx x C : Addr} {fs : List (Str × V)} : made H dx x C fs x = some (.ins C dx fs) := upd_same
theorem made_same {H : Hp} {dx x C : Addr} {fs : List (Str × V)} (nx : H x = none) (nd : H dx = none) : Same H (made H dx x C fs) := fun b o h => by
  unfold made
  rw [upd_ne (ne_of_none h nx), upd_ne (ne_of_none h nd)]
  exact h
theorem made_upd {H : Hp} {dx x C : Addr} {fs gs : List (Str × V)} : upd (made H dx x C fs) x (.ins C dx gs) = made H dx x C gs := upd_upd
/-! ### attributes -/
theorem lk_here {k : Str} {v : V} {r : List (Str × V)} : List.lookup k ((k, v) :: r) = some v := by
  have e : (k == k) = true := beq_self_eq_true k
  simp only [List.lookup, e]
theorem lk_past {k g : Str} {v : V} {r : List (Str × V)} (h : (k == g) = false) : List.lookup k ((g, v) :: r) = List.lookup k r := by
  simp only [List.lookup, h]
theorem put_here {f : Str} {v x : V} {r : List (Str × V)} : putF f v ((f, x) :: r) = (f, v) :: r := if_pos rfl
theorem put_past {f g : Str} {v x : V} {r : List (Str × V)} (h : ¬ g = f) : putF f v ((g, x) :: r) = (g, x) :: putF f v r := if_neg h
theorem put_new (f : Str) (v : V) : ∀ fs : List (Str × V), f ∉ fs.map (·.1) → putF f v fs = fs ++ [(f, v)]
  | [], _ => rfl
  | (g, x) :: r, h => by
    rw [put_past (fun e => h (by rw [e]; exact List.mem_cons_self)), put_new f v r fun q => h (List.mem_cons_of_mem _ q)]
    rfl
def fF (a b c d : V) : List (Str × V) := [("begin", a), ("start", b), ("end", c), ("level", d)]
def fT (a b c d : V) : List (Str × V) := [("begin", a), ("level", b), ("up", c), ("down", d)]
def fC (a b : V) : List (Str × V) := [("fades", a), ("told", b)]
def fQ (a b c d e f : V) : List (Str × V) := [("number", a), ("up", b), ("down", c), ("delay", d), ("follow", e), ("moves", f)]
def fS (a b c d e : V) : List (Str × V) := [("cues", a), ("channels", b), ("last", c), ("went", d), ("leads", e)]
def fD (a : V) : List (Str × V) := [("stage", a)]
section
variable (a b c d e f y : V)
theorem fF_begin : (fF a b c d).lookup ("begin" : Str) = some a := lk_here
theorem fF_start : (fF a b c d).lookup ("start" : Str) = some b := (lk_past (by decide +kernel)).trans lk_here
theorem fF_end : (fF a b c d).lookup ("end" : Str) = some c := (lk_past (by decide +kernel)).trans ((lk_past (by decide +kernel)).trans lk_here)
theorem fF_level : (fF a b c d).lookup ("level" : Str) = some d := (lk_past (by decide +kernel)).trans ((lk_past (by decide +kernel)).trans ((lk_past (by decide +kernel)).trans lk_here))
theorem fT_begin : (fT a b c d).lookup ("begin" : Str) = some a := lk_here
theorem fT_level : (fT a b c d).lookup ("level" : Str) = some b := (lk_past (by decide +kernel)).trans lk_here
theorem fT_up : (fT a b c d).lookup ("up" : Str) = some c := (lk_past (by decide +kernel)).trans ((lk_past (by decide +kernel)).trans lk_here)
theorem fT_down : (fT a b c d).lookup ("down" : Str) = some d := (lk_past (by decide +kernel)).trans ((lk_past (by decide +kernel)).trans ((lk_past (by decide +kernel)).trans lk_here))
theorem fC_fades : (fC a b).lookup ("fades" : Str) = some a := lk_here
theorem fC_told : (fC a b).lookup ("told" : Str) = some b := (lk_past (by decide +kernel)).trans lk_here
theorem fC_copy : (fC a b).lookup ("copy" : Str) = none := (lk_past (by decide +kernel)).trans ((lk_past (by decide +kernel)).trans rfl)
theorem fC_putFades : putF "fades" y (fC a b) = fC y b := put_here
theorem fC_putTold : putF "told" y (fC a b) = fC a y := (put_past (by decide +kernel)).trans (congrArg _ put_here)
theorem fQ_number : (fQ a b c d e f).lookup ("number" : Str) = some a := lk_here
theorem fQ_up : (fQ a b c d e f).lookup ("up" : Str) = some b := (lk_past (by decide +kernel)).trans lk_here
theorem fQ_down : (fQ a b c d e f).lookup ("down" : Str) = some c := (lk_past (by decide +kernel)).trans ((lk_past (by decide +kernel)).trans lk_here)
theorem fQ_delay : (fQ a b c d e f).lookup ("delay" : Str) = some d := (lk_past (by decide +kernel)).trans ((lk_past (by decide +kernel)).trans ((lk_past (by decide +kernel)).trans lk_here))
theorem fQ_follow : (fQ a b c d e f).lookup ("follow" : Str) = some e := (lk_past (by decide +kernel)).trans ((lk_past (by decide +kernel)).trans ((lk_past (by decide +kernel)).trans ((lk_past (by decide +kernel)).trans lk_here)))
theorem fQ_moves : (fQ a b c d e f).lookup ("moves" : Str) = some f := (lk_past (by decide +kernel)).trans ((lk_past (by decide +kernel)).trans ((lk_past (by decide +kernel)).trans ((lk_past (by decide +kernel)).trans ((lk_past (by decide +kernel)).trans lk_here))))
theorem fS_cues : (fS a b c d e).lookup ("cues" : Str) = some a := lk_here
theorem fS_channels : (fS a b c d e).lookup ("channels" : Str) = some b := (lk_past (by decide +kernel)).trans lk_here
theorem fS_last : (fS a b c d e).lookup ("last" : Str) = some c := (lk_past (by decide +kernel)).trans ((lk_past (by decide +kernel)).trans lk_here)
theorem fS_went : (fS a b c d e).lookup ("went" : Str) = some d := (lk_past (by decide +kernel)).trans ((lk_past (by decide +kernel)).trans ((lk_past (by decide +kernel)).trans lk_here))
theorem fS_leads : (fS a b c d e).lookup ("leads" : Str) = some e := (lk_past (by decide +kernel)).trans ((lk_past (by decide +kernel)).trans ((lk_past (by decide +kernel)).trans ((lk_past (by decide +kernel)).trans lk_here)))
theorem fS_copy : (fS a b c d e).lookup ("copy" : Str) = none := (lk_past (by decide +kernel)).trans ((lk_past (by decide +kernel)).trans ((lk_past (by decide +kernel)).trans ((lk_past (by decide +kernel)).trans ((lk_past (by decide +kernel)).trans rfl))))
theorem fS_putChannels : putF "channels" y (fS a b c d e) = fS a y c d e := (put_past (by decide +kernel)).trans (congrArg _ put_here)
theorem fS_putLast : putF "last" y (fS a b c d e) = fS a b y d e := (put_past (by decide +kernel)).trans (congrArg _ ((put_past (by decide +kernel)).trans (congrArg _ put_here)))
theorem fS_putWent : putF "went" y (fS a b c d e) = fS a b c y e := (put_past (by decide +kernel)).trans (congrArg _ ((put_past (by decide +kernel)).trans (congrArg _ ((put_past (by decide +kernel)).trans (congrArg _ put_here)))))
theorem fS_putLeads : putF "leads" y (fS a b c d e) = fS a b c d y := (put_past (by decide +kernel)).trans (congrArg _ ((put_past (by decide +kernel)).trans (congrArg _ ((put_past (by decide +kernel)).trans (congrArg _ ((put_past (by decide +kernel)).trans (congrArg _ put_here)))))))
theorem fD_stage : (fD a).lookup ("stage" : Str) = some a := lk_here
theorem fD_put : putF "stage" y (fD a) = fD y := put_here
theorem fF_made : putF "level" d (putF "end" c (putF "start" b (putF "begin" a []))) = fF a b c d := by
  rw [put_new "begin" a [] (by decide +kernel), put_new "start" b _ (by show ("start" : Str) ∉ (["begin"] : List Str); decide +kernel)]
  rw [put_new "end" c _ (by show ("end" : Str) ∉ (["begin", "start"] : List Str); decide +kernel), put_new "level" d _ (by show ("level" : Str) ∉ (["begin", "start", "end"] : List Str); decide +kernel)]
  rfl
theorem fT_made : putF "down" d (putF "up" c (putF "level" b (putF "begin" a []))) = fT a b c d := by
  rw [put_new "begin" a [] (by decide +kernel), put_new "level" b _ (by show ("level" : Str) ∉ (["begin"] : List Str); decide +kernel)]
  rw [put_new "up" c _ (by show ("up" : Str) ∉ (["begin", "level"] : List Str); decide +kernel), put_new "down" d _ (by show ("down" : Str) ∉ (["begin", "level", "up"] : List Str); decide +kernel)]
  rfl
theorem fC_made : putF "told" b (putF "fades" a []) = fC a b := by
  rw [put_new "fades" a [] (by decide +kernel), put_new "told" b _ (by show ("told" : Str) ∉ (["fades"] : List Str); decide +kernel)]
  rfl
theorem fQ_made : putF "moves" f (putF "follow" e (putF "delay" d (putF "down" c (putF "up" b (putF "number" a []))))) = fQ a b c d e f := by
  rw [put_new "number" a [] (by decide +kernel), put_new "up" b _ (by show ("up" : Str) ∉ (["number"] : List Str); decide +kernel)]
  rw [put_new "down" c _ (by show ("down" : Str) ∉ (["number", "up"] : List Str); decide +kernel), put_new "delay" d _ (by show ("delay" : Str) ∉ (["number", "up", "down"] : List Str); decide +kernel)]
  rw [put_new "follow" e _ (by show ("follow" : Str) ∉ (["number", "up", "down", "delay"] : List Str); decide +kernel), put_new "moves" f _ (by show ("moves" : Str) ∉ (["number", "up", "down", "delay", "follow"] : List Str); decide +kernel)]
  rfl
theorem fS_made : putF "leads" e (putF "went" d (putF "last" c (putF "channels" b (putF "cues" a [])))) = fS a b c d e := by
  rw [put_new "cues" a [] (by decide +kernel), put_new "channels" b _ (by show ("channels" : Str) ∉ (["cues"] : List Str); decide +kernel)]
  rw [put_new "last" c _ (by show ("last" : Str) ∉ (["cues", "channels"] : List Str); decide +kernel), put_new "went" d _ (by show ("went" : Str) ∉ (["cues", "channels", "last"] : List Str); decide +kernel)]
  rw [put_new "leads" e _ (by show ("leads" : Str) ∉ (["cues", "channels", "last", "went"] : List Str); decide +kernel)]
  rfl
theorem fD_made : putF "stage" a [] = fD a := rfl
end
/-! ### the classes -/
/-- a class that is made by its name, with its __init__ -/
structure Mc (P : Program) (w : World) (K : PySem.W.Frag) (mg : Str → Option Value) (base : Heap) (k : Nat) (x : Str) (C : Addr) (sp : Sp) : Prop where
  ex : ∃ (f : Addr) (fd : FuncData) (ps : List Str), Mk K C f ∧ FnOk P w K mg base CX0 k f fd ps sp ∧ mg x = some (.ref C) ∧ Binds K fd ps []
section
variable {X : Cx} {k j : Nat} {x m : Str} {C : Addr} {sp : Sp} {p pos apos : Pos} {e o : Expr} {es : List Expr} {t : TA} {ta : TE}
theorem pe_mk (c : Mc X.prog X.w X.K X.mg X.base k x C sp) (hr : Room j X.A) (ha : PA X (e :: es) t) (hk : k + 1 ≤ j := by decide) (hg : Gl X x := by rfl)
    (hdb : (x == ("__debug__" : Str)) = false := by decide) (he : starEach (e :: es) X.env = (false, eval e X.env) :: starEach es X.env := by rfl) (hpl : (backTo pos (starEach es X.env)).any (·.1) = false := by rfl) :
    PE X (.Call (.Name x p) (e :: es) [] pos) (tMake C sp [] E0 t) := by
  obtain ⟨f, fd, ps, M, F, hm, b⟩ := c.ex
  exact pe_make M F (hr.mono hk) hg hm b .nil pass0 ha hdb he hpl
theorem pe_mk0 (c : Mc X.prog X.w X.K X.mg X.base k x C sp) (hr : Room j X.A) (hk : k + 1 ≤ j := by decide) (hg : Gl X x := by rfl)
    (hdb : (x == ("__debug__" : Str)) = false := by decide) : PE X (.Call (.Name x p) [] [] pos) (tMake C sp [] E0 tNil) := by
  obtain ⟨f, fd, ps, M, F, hm, b⟩ := c.ex
  exact pe_make0 M F (hr.mono hk) hg hm b .nil pass0 hdb
end
/-- a method without arguments beside self, of the class at C -/
structure Me (P : Program) (w : World) (K : PySem.W.Frag) (mg : Str → Option Value) (base : Heap) (k : Nat) (C : Addr) (m : Str) (sp : Sp) : Prop where
  ex : ∃ (f : Addr) (fd : FuncData) (ps : List Str), Cls K C ∧ Meth K C m f ∧ FnOk P w K mg base CX0 k f fd ps sp ∧ Binds K fd ps []
section
variable {X : Cx} {k j : Nat} {m : Str} {C : Addr} {sp : Sp} {pos apos : Pos} {o : Expr} {ta : TE}
theorem pe_me0 {pl : Sem Bool} (c : Me X.prog X.w X.K X.mg X.base k C m sp) (hr : Room j X.A) (he : PE X o ta) (hk : k ≤ j := by decide)
    (ht : eval (.Call (.Attribute o m apos) [] [] pos) X.env = (do
      let ov ← eval o X.env
      standAt apos.atName
      let (f, first) ← holding [ov] (getMethod ov m pl)
      callWith pos f first (backTo pos (starEach [] X.env)) (backToKw pos (keywordEach [] X.env))) := by rfl) :
    PE X (.Call (.Attribute o m apos) [] [] pos) (tMeth C m sp [] E0 ta tNil) := by
  obtain ⟨f, fd, ps, hc, hm, F, b⟩ := c.ex
  exact pe_meth0 (pl := pl) he hc hm F (hr.mono hk) b .nil pass0 ht
end
/-- what the head tells of a class with an __init__ -/
structure Kl (K : PySem.W.Frag) (mg : Str → Option Value) (x qual : Str) (C : Addr) (st : Stmt) : Prop where
  cl : Cls K C
  gC : mg x = some (.ref C)
  ini : ∃ (f : Addr) (fd : FuncData), Mk K C f ∧ Fun K "__init__" qual st f fd
structure Km (K : PySem.W.Frag) (C : Addr) (m qual : Str) (st : Stmt) : Prop where
  mt : ∃ (f : Addr) (fd : FuncData), Meth K C m f ∧ Fun K m qual st f fd
section
variable {P : Program} {w : World} {K : PySem.W.Frag} {mg : Str → Option Value} {base : Heap} {x qual m : Str} {st : Stmt} {N ps : List Str} {k : Nat} {sp : Sp} {C : Addr}
theorem mc0 (D : Kl K mg x qual C st) (S : FnScope N ps (defScope st))
    (hb : ∀ (kV doc pm : Value) (an : Option Addr) (cdv ct : Value) (us : List Value), us.length = ps.length → bindArgs (PySem.W.fnOf "__init__" qual (defArgs st) (defBody st) (defScope st) .none kV doc pm an cdv ct) ⟨us, []⟩ = pure (ps.zip us))
    (len : ∀ vs H Q E, sp vs H Q E → vs.length = ps.length)
    (hbody : ∀ (f : Addr) (cdv : Value) (A : Around) (outer : List Env) (s : Shared) (H : Hp) (vs : List V) (Q : VK) (E : XK), Room k (A.deeper (envOfC qual (defScope st) s.heap.objs.size f cdv)) → sp vs H Q E →
      ∃ t, PSs (cxOf CX0 P w K mg base N qual (defScope st) f cdv A outer s H E).nox (defBody st) t ∧ t { nx := fun _ H' => Q .non H', rt := Q } (start N vs) H) : Mc P w K mg base (k + 1) x C sp := by
  obtain ⟨f, fd, M, F⟩ := D.ini
  exact ⟨f, fd, ps, M, F.ok S len fun cdv A outer s H vs Q E hr h => hbody f cdv A outer s H vs Q E hr h, D.gC, F.binds hb⟩
theorem me0 (cl : Cls K C) (D : Km K C m qual st) (S : FnScope N ps (defScope st))
    (hb : ∀ (kV doc pm : Value) (an : Option Addr) (cdv ct : Value) (us : List Value), us.length = ps.length → bindArgs (PySem.W.fnOf m qual (defArgs st) (defBody st) (defScope st) .none kV doc pm an cdv ct) ⟨us, []⟩ = pure (ps.zip us))
    (len : ∀ vs H Q E, sp vs H Q E → vs.length = ps.length)
    (hbody : ∀ (f : Addr) (cdv : Value) (A : Around) (outer : List Env) (s : Shared) (H : Hp) (vs : List V) (Q : VK) (E : XK), Room k (A.deeper (envOfC qual (defScope st) s.heap.objs.size f cdv)) → sp vs H Q E →
      ∃ t, PSs (cxOf CX0 P w K mg base N qual (defScope st) f cdv A outer s H E).nox (defBody st) t ∧ t { nx := fun _ H' => Q .non H', rt := Q } (start N vs) H) : Me P w K mg base (k + 1) C m sp := by
  obtain ⟨f, fd, hm, F⟩ := D.mt
  exact ⟨f, fd, ps, cl, hm, F.ok S len fun cdv A outer s H vs Q E hr h => hbody f cdv A outer s H vs Q E hr h, F.binds hb⟩
end
/-! ### the promises of the plain __init__s -/
def spFade (C : Addr) : Sp := fun vs H Q _ => ∃ (p dx : Addr) (a b c d : V), vs = [.ref p, a, b, c, d] ∧ H p = some (.ins C dx []) ∧ Q .non (upd H p (.ins C dx (fF a b c d)))
def spTold (C : Addr) : Sp := fun vs H Q _ => ∃ (p dx : Addr) (a b c d : V), vs = [.ref p, a, b, c, d] ∧ H p = some (.ins C dx []) ∧ Q .non (upd H p (.ins C dx (fT a b c d)))
def spChan (C : Addr) : Sp := fun vs H Q _ => ∃ (p dx : Addr) (a b : V), vs = [.ref p, a, b] ∧ H p = some (.ins C dx []) ∧ Q .non (upd H p (.ins C dx (fC a b)))
def spCue (C : Addr) : Sp := fun vs H Q _ => ∃ (p dx : Addr) (a b c d e f : V), vs = [.ref p, a, b, c, d, e, f] ∧ H p = some (.ins C dx []) ∧ Q .non (upd H p (.ins C dx (fQ a b c d e f)))
abbrev sFade : Stmt := inClass (top 9) 0
abbrev sTold : Stmt := inClass (top 10) 0
abbrev sChan : Stmt := inClass (top 11) 0
abbrev sChanCopy : Stmt := inClass (top 11) 1
abbrev sCue : Stmt := inClass (top 24) 0
abbrev sStage : Stmt := inClass (top 25) 0
abbrev sStageCopy : Stmt := inClass (top 25) 1
abbrev sDesk : Stmt := inClass (top 43) 0
/-- the classes' addresses -/
structure Ad where
  F : Addr
  T : Addr
  C : Addr
  Q : Addr
  S : Addr
  D : Addr
  R : Addr
  rI : Addr
/-- no class of it has an attribute's name -/
structure Na (K : PySem.W.Frag) (ad : Ad) : Prop where
  Fb : NoAttr K ad.F "begin"
  Fs : NoAttr K ad.F "start"
  Fe : NoAttr K ad.F "end"
  Fl : NoAttr K ad.F "level"
  Tb : NoAttr K ad.T "begin"
  Tl : NoAttr K ad.T "level"
  Tu : NoAttr K ad.T "up"
  Td : NoAttr K ad.T "down"
  Cf : NoAttr K ad.C "fades"
  Ct : NoAttr K ad.C "told"
  Qn : NoAttr K ad.Q "number"
  Qu : NoAttr K ad.Q "up"
  Qd : NoAttr K ad.Q "down"
  Qw : NoAttr K ad.Q "delay"
  Qf : NoAttr K ad.Q "follow"
  Qm : NoAttr K ad.Q "moves"
  Sc : NoAttr K ad.S "cues"
  Sh : NoAttr K ad.S "channels"
  Sl : NoAttr K ad.S "last"
  Sw : NoAttr K ad.S "went"
  Sd : NoAttr K ad.S "leads"
  Ds : NoAttr K ad.D "stage"
  cF : Cls K ad.F
  cT : Cls K ad.T
  cC : Cls K ad.C
  cQ : Cls K ad.Q
  cS : Cls K ad.S
  cD : Cls K ad.D
theorem scFade : FnScope ["self", "begin", "start", "end", "level"] ["self", "begin", "start", "end", "level"] (defScope sFade) := ⟨rfl, rfl, rfl, by decide +kernel, rfl, by decide +kernel, by decide +kernel⟩
theorem scTold : FnScope ["self", "begin", "level", "up", "down"] ["self", "begin", "level", "up", "down"] (defScope sTold) := ⟨rfl, rfl, rfl, by decide +kernel, rfl, by decide +kernel, by decide +kernel⟩
theorem scChan : FnScope ["self", "fades", "told"] ["self", "fades", "told"] (defScope sChan) := ⟨rfl, rfl, rfl, by decide +kernel, rfl, by decide +kernel, by decide +kernel⟩
theorem scCue : FnScope ["self", "number", "up", "down", "delay", "follow", "moves"] ["self", "number", "up", "down", "delay", "follow", "moves"] (defScope sCue) := ⟨rfl, rfl, rfl, by decide +kernel, rfl, by decide +kernel, by decide +kernel⟩
section
variable {P : Program} {w : World} {K : PySem.W.Frag} {mg : Str → Option Value} {base : Heap} {ad : Ad}
theorem ok_Fade (D : Kl K mg "Fade" "Fade.__init__" ad.F sFade) (T : Na K ad) : Mc P w K mg base 1 "Fade" ad.F (spFade ad.F) := by
  refine mc0 D scFade (fun _ _ _ _ _ _ us hl => match us, hl with | [_, _, _, _, _], _ => rfl) (fun vs H Q E ⟨_, _, _, _, _, _, e, _⟩ => by rw [e]; rfl) fun f cdv A outer s H vs Q E hr h => ?_
  obtain ⟨p, dx, a, b, c, d, rfl, hp, k⟩ := h
  refine ⟨_, pss_cons (ps_fld (pv 0) (pv 1) rfl) (pss_cons (ps_fld (pv 0) (pv 2) rfl) (pss_cons (ps_fld (pv 0) (pv 3) rfl) (pss_one (ps_fld (pv 0) (pv 4) rfl)))), ?_⟩
  refine ⟨_, rfl, _, rfl, p, ad.F, dx, _, rfl, hp, T.cF, T.Fb, (by show 0 < 1000; decide), ?_⟩
  refine ⟨_, rfl, _, rfl, p, ad.F, dx, _, rfl, upd_same, T.cF, T.Fs, (by show 1 < 1000; decide), ?_⟩
  rw [upd_upd]
  refine ⟨_, rfl, _, rfl, p, ad.F, dx, _, rfl, upd_same, T.cF, T.Fe, Nat.lt_of_le_of_lt (length_putF _ _ _) (by show 2 < 1000; decide), ?_⟩
  rw [upd_upd]
  refine ⟨_, rfl, _, rfl, p, ad.F, dx, _, rfl, upd_same, T.cF, T.Fl, Nat.lt_of_le_of_lt (length_putF _ _ _) (Nat.lt_of_le_of_lt (Nat.succ_le_succ (length_putF _ _ _)) (by show 3 < 1000; decide)), ?_⟩
  rw [upd_upd]
  show Q .non (upd H p (.ins ad.F dx (putF "level" d (putF "end" c (putF "start" b (putF "begin" a []))))))
  rw [fF_made]
  exact k
end
end Sw

namespace Sw
open PySem PySem.Spec PyProof.Rows L2
section
variable {P : Program} {w : World} {K : PySem.W.Frag} {mg : Str → Option Value} {base : Heap} {ad : Ad}
theorem ok_Told (D : Kl K mg "Told" "Told.__init__" ad.T sTold) (T : Na K ad) : Mc P w K mg base 1 "Told" ad.T (spTold ad.T) := by
  refine mc0 D scTold (fun _ _ _ _ _ _ us hl => match us, hl with | [_, _, _, _, _], _ => rfl) (fun vs H Q E ⟨_, _, _, _, _, _, e, _⟩ => by rw [e]; rfl) fun f cdv A outer s H vs Q E hr h => ?_
  obtain ⟨p, dx, a, b, c, d, rfl, hp, k⟩ := h
  refine ⟨_, pss_cons (ps_fld (pv 0) (pv 1) rfl) (pss_cons (ps_fld (pv 0) (pv 2) rfl) (pss_cons (ps_fld (pv 0) (pv 3) rfl) (pss_one (ps_fld (pv 0) (pv 4) rfl)))), ?_⟩
  refine ⟨_, rfl, _, rfl, p, ad.T, dx, _, rfl, hp, T.cT, T.Tb, (by show 0 < 1000; decide), ?_⟩
  refine ⟨_, rfl, _, rfl, p, ad.T, dx, _, rfl, upd_same, T.cT, T.Tl, (by show 1 < 1000; decide), ?_⟩
  rw [upd_upd]
  refine ⟨_, rfl, _, rfl, p, ad.T, dx, _, rfl, upd_same, T.cT, T.Tu, Nat.lt_of_le_of_lt (length_putF _ _ _) (by show 2 < 1000; decide), ?_⟩
  rw [upd_upd]
  refine ⟨_, rfl, _, rfl, p, ad.T, dx, _, rfl, upd_same, T.cT, T.Td, Nat.lt_of_le_of_lt (length_putF _ _ _) (Nat.lt_of_le_of_lt (Nat.succ_le_succ (length_putF _ _ _)) (by show 3 < 1000; decide)), ?_⟩
  rw [upd_upd]
  show Q .non (upd H p (.ins ad.T dx (putF "down" d (putF "up" c (putF "level" b (putF "begin" a []))))))
  rw [fT_made]
  exact k
theorem ok_Chan (D : Kl K mg "Channel" "Channel.__init__" ad.C sChan) (T : Na K ad) : Mc P w K mg base 1 "Channel" ad.C (spChan ad.C) := by
  refine mc0 D scChan (fun _ _ _ _ _ _ us hl => match us, hl with | [_, _, _], _ => rfl) (fun vs H Q E ⟨_, _, _, _, e, _⟩ => by rw [e]; rfl) fun f cdv A outer s H vs Q E hr h => ?_
  obtain ⟨p, dx, a, b, rfl, hp, k⟩ := h
  refine ⟨_, pss_cons (ps_fld (pv 0) (pv 1) rfl) (pss_one (ps_fld (pv 0) (pv 2) rfl)), ?_⟩
  refine ⟨_, rfl, _, rfl, p, ad.C, dx, _, rfl, hp, T.cC, T.Cf, (by show 0 < 1000; decide), ?_⟩
  refine ⟨_, rfl, _, rfl, p, ad.C, dx, _, rfl, upd_same, T.cC, T.Ct, (by show 1 < 1000; decide), ?_⟩
  rw [upd_upd]
  show Q .non (upd H p (.ins ad.C dx (putF "told" b (putF "fades" a []))))
  rw [fC_made]
  exact k
theorem ok_Cue (D : Kl K mg "Cue" "Cue.__init__" ad.Q sCue) (T : Na K ad) : Mc P w K mg base 1 "Cue" ad.Q (spCue ad.Q) := by
  refine mc0 D scCue (fun _ _ _ _ _ _ us hl => match us, hl with | [_, _, _, _, _, _, _], _ => rfl) (fun vs H Q E ⟨_, _, _, _, _, _, _, _, e, _⟩ => by rw [e]; rfl) fun f cdv A outer s H vs Q E hr h => ?_
  obtain ⟨p, dx, a, b, c, d, e, g, rfl, hp, k⟩ := h
  refine ⟨_, pss_cons (ps_fld (pv 0) (pv 1) rfl) (pss_cons (ps_fld (pv 0) (pv 2) rfl) (pss_cons (ps_fld (pv 0) (pv 3) rfl) (pss_cons (ps_fld (pv 0) (pv 4) rfl) (pss_cons (ps_fld (pv 0) (pv 5) rfl) (pss_one (ps_fld (pv 0) (pv 6) rfl)))))), ?_⟩
  refine ⟨_, rfl, _, rfl, p, ad.Q, dx, _, rfl, hp, T.cQ, T.Qn, (by show 0 < 1000; decide), ?_⟩
  refine ⟨_, rfl, _, rfl, p, ad.Q, dx, _, rfl, upd_same, T.cQ, T.Qu, (by show 1 < 1000; decide), ?_⟩
  rw [upd_upd]
  have l2 : (putF "up" b (putF "number" a [])).length ≤ 2 := length_putF _ _ _
  refine ⟨_, rfl, _, rfl, p, ad.Q, dx, _, rfl, upd_same, T.cQ, T.Qd, Nat.lt_of_le_of_lt l2 (by decide), ?_⟩
  rw [upd_upd]
  have l3 : (putF "down" c (putF "up" b (putF "number" a []))).length ≤ 3 := Nat.le_trans (length_putF _ _ _) (Nat.succ_le_succ l2)
  refine ⟨_, rfl, _, rfl, p, ad.Q, dx, _, rfl, upd_same, T.cQ, T.Qw, Nat.lt_of_le_of_lt l3 (by decide), ?_⟩
  rw [upd_upd]
  have l4 : (putF "delay" d (putF "down" c (putF "up" b (putF "number" a [])))).length ≤ 4 := Nat.le_trans (length_putF _ _ _) (Nat.succ_le_succ l3)
  refine ⟨_, rfl, _, rfl, p, ad.Q, dx, _, rfl, upd_same, T.cQ, T.Qf, Nat.lt_of_le_of_lt l4 (by decide), ?_⟩
  rw [upd_upd]
  have l5 : (putF "follow" e (putF "delay" d (putF "down" c (putF "up" b (putF "number" a []))))).length ≤ 5 := Nat.le_trans (length_putF _ _ _) (Nat.succ_le_succ l4)
  refine ⟨_, rfl, _, rfl, p, ad.Q, dx, _, rfl, upd_same, T.cQ, T.Qm, Nat.lt_of_le_of_lt l5 (by decide), ?_⟩
  rw [upd_upd]
  show Q .non (upd H p (.ins ad.Q dx (putF "moves" g (putF "follow" e (putF "delay" d (putF "down" c (putF "up" b (putF "number" a []))))))))
  rw [fQ_made]
  exact k
end
/-! ### how the mirror lies in the heap -/
/-- item by item -/
def Each {α : Type} (R : Addr → α → Prop) (as : List Addr) (xs : List α) : Prop := as.length = xs.length ∧ ∀ (i : Nat) (x : α), xs[i]? = some x → ∃ a : Addr, as[i]? = some a ∧ R a x
theorem Each.imp {α : Type} {R R' : Addr → α → Prop} {as : List Addr} {xs : List α} (h : Each R as xs) (f : ∀ a x, R a x → R' a x) : Each R' as xs :=
  ⟨h.1, fun i x e => let ⟨a, h1, h2⟩ := h.2 i x e; ⟨a, h1, f a x h2⟩⟩
theorem Each.nil {α : Type} {R : Addr → α → Prop} : Each R [] [] := ⟨rfl, fun i x h => by simp at h⟩
theorem Each.snoc {α : Type} {R : Addr → α → Prop} {as : List Addr} {xs : List α} {a : Addr} {x : α} (h : Each R as xs) (r : R a x) : Each R (as ++ [a]) (xs ++ [x]) := by
  refine ⟨by rw [List.length_append, List.length_append, h.1]; rfl, fun i y e => ?_⟩
  by_cases hi : i < xs.length
  · rw [List.getElem?_append_left hi] at e
    obtain ⟨b, h1, h2⟩ := h.2 i y e
    exact ⟨b, by rw [List.getElem?_append_left (by rw [h.1]; exact hi)]; exact h1, h2⟩
  · rw [List.getElem?_append_right (by omega)] at e
    have hz : i - xs.length = 0 := by
      cases q : i - xs.length with
      | zero => rfl
      | succ n => rw [q] at e; simp at e
    rw [hz] at e
    have e' : x = y := Option.some.inj e
    subst e'
    refine ⟨a, ?_, r⟩
    rw [List.getElem?_append_right (by rw [h.1]; omega), h.1, hz]
    rfl
theorem Each.unsnoc {α : Type} {R : Addr → α → Prop} {as : List Addr} {xs : List α} {x : α} (h : Each R as (xs ++ [x])) : ∃ as' a, as = as' ++ [a] ∧ Each R as' xs ∧ R a x := by
  have hl : as.length = xs.length + 1 := by rw [h.1, List.length_append]; rfl
  have hne : as ≠ [] := fun z => by rw [z] at hl; cases hl
  obtain ⟨a, ha, hR⟩ := h.2 xs.length x (by rw [List.getElem?_append_right (Nat.le_refl _)]; simp)
  refine ⟨as.take xs.length, a, ?_, ⟨by rw [List.length_take]; omega, fun i y e => ?_⟩, hR⟩
  · have hd : as.drop xs.length = [a] := by
      obtain ⟨hlt, hv⟩ := List.getElem?_eq_some_iff.mp ha
      rw [List.drop_eq_getElem_cons hlt, hv, List.drop_eq_nil_of_le (by omega)]
    rw [← hd, List.take_append_drop]
  · have hi : i < xs.length := (List.getElem?_eq_some_iff.mp e).1
    obtain ⟨b, h1, h2⟩ := h.2 i y (by rw [List.getElem?_append_left hi]; exact e)
    exact ⟨b, by rw [List.getElem?_take_of_lt hi]; exact h1, h2⟩
theorem Each.one {α : Type} {R : Addr → α → Prop} {a : Addr} {x : α} (r : R a x) : Each R [a] [x] := Each.snoc (as := []) (xs := []) Each.nil r
theorem refs_get {as : List Addr} {i : Nat} {a : Addr} (h : as[i]? = some a) : (as.map V.ref)[i]? = some (V.ref a) := by rw [List.getElem?_map, h]; rfl
section
variable (ad : Ad) (H : Hp)
def FadeAt (a : Addr) (f : Sg.Fade) : Prop := ∃ dx q, H a = some (.ins ad.F dx (fF (.int (f.since : Int)) (.ref q) (.int ((f.since : Int) + (f.lasts : Int))) (.int (f.to : Int)))) ∧ H q = some (fr f.from_)
def ToldAt (a : Addr) (n : Sg.Coming) : Prop := ∃ dx, H a = some (.ins ad.T dx (fT (.int (n.at_ : Int)) (.int (n.level : Int)) (.int (n.up : Int)) (.int (n.down : Int))))
def ToldV (v : V) (o : Option Sg.Coming) : Prop := match o with
  | none => v = .non
  | some n => ∃ p, v = .ref p ∧ ToldAt ad H p n
def ChanAt (a : Addr) (c : Sf.Chan) : Prop := ∃ dx L tv fs, H a = some (.ins ad.C dx (fC (.ref L) tv)) ∧ H L = some (.lst (fs.map V.ref)) ∧ Each (FadeAt ad H) fs (c.pre ++ [c.cur]) ∧ ToldV ad H tv c.cur.next
end
section
variable {ad : Ad} {M : Addr → Prop} {H H' : Hp} {a : Addr}
theorem FadeAt.keep {f : Sg.Fade} (k : Keep M H H') (h : FadeAt ad H a f) : FadeAt ad H' a f := by
  obtain ⟨dx, q, h1, h2⟩ := h
  exact ⟨dx, q, k _ _ h1 (fun z => Bool.noConfusion (show false = true from z)), k _ _ h2 (fun z => Bool.noConfusion (show false = true from z))⟩
theorem ToldAt.keep {n : Sg.Coming} (k : Keep M H H') (h : ToldAt ad H a n) : ToldAt ad H' a n := by
  obtain ⟨dx, h1⟩ := h
  exact ⟨dx, k _ _ h1 (fun z => Bool.noConfusion (show false = true from z))⟩
theorem ToldV.keep {v : V} {o : Option Sg.Coming} (k : Keep M H H') (h : ToldV ad H v o) : ToldV ad H' v o := by
  cases o with
  | none => exact h
  | some n =>
    obtain ⟨p, e, h⟩ := h
    exact ⟨p, e, h.keep k⟩
theorem lst_keep {xs : List V} (k : Keep M H H') (h : H a = some (.lst xs)) : H' a = some (.lst xs) := k _ _ h (fun z => Bool.noConfusion (show false = true from z))
theorem fr_keep {q : Rat} (k : Keep M H H') (h : H a = some (fr q)) : H' a = some (fr q) := k _ _ h (fun z => Bool.noConfusion (show false = true from z))
theorem ChanAt.keep {c : Sf.Chan} (k : Keep M H H') (hn : ¬ M a) (h : ChanAt ad H a c) : ChanAt ad H' a c := by
  obtain ⟨dx, L, tv, fs, h1, h2, h3, h4⟩ := h
  exact ⟨dx, L, tv, fs, k _ _ h1 (fun _ => hn), lst_keep k h2, h3.imp fun b f q => q.keep k, h4.keep k⟩
theorem ChanAt.same {c : Sf.Chan} (k : Same H H') (h : ChanAt ad H a c) : ChanAt ad H' a c := h.keep (M := fun _ => False) (Keep.of k) (fun z => z)
end
/-! ### slices -/
theorem sIx_last (n : Nat) : HT.sIx (n + 1) 0 (some (-1)) = n := by
  show (if (-1 : Int) < 0 then ((-1 : Int) + ((n + 1 : Nat) : Int)).toNat else min ((-1 : Int).toNat) (n + 1)) = n
  rw [if_pos (by decide)]
  omega
theorem cut_last (xs : List V) (v : V) : cutV (xs ++ [v]) (some (-1)) none = [v] := by
  have hl : (xs ++ [v]).length = xs.length + 1 := by rw [List.length_append]; rfl
  unfold cutV
  rw [hl, sIx_last, HT.sIx_none, List.drop_left, show xs.length + 1 - xs.length = 1 by omega]
  rfl
theorem cut_tail (xs : List V) : cutV xs (some 1) none = xs.drop 1 := by
  unfold cutV
  have e : HT.sIx xs.length 0 (some 1) = min 1 xs.length := HT.sIx_nat _ _ 1
  rw [e, HT.sIx_none]
  by_cases h : 1 ≤ xs.length
  · rw [Nat.min_eq_left h, List.take_of_length_le (by rw [List.length_drop]; omega)]
  · have : xs = [] := List.eq_nil_of_length_eq_zero (by omega)
    rw [this]
    rfl
theorem cut_to (xs : List V) (k : Nat) : cutV xs none (some (k : Int)) = xs.take k := by
  unfold cutV
  rw [HT.sIx_none, HT.sIx_nat, List.drop_zero, Nat.sub_zero]
  by_cases h : k ≤ xs.length
  · rw [Nat.min_eq_left h]
  · rw [Nat.min_eq_right (by omega), List.take_of_length_le (Nat.le_refl _), List.take_of_length_le (by omega)]
theorem cut_mid (xs : List V) (i j : Nat) (h : i ≤ j) (hj : j ≤ xs.length) : cutV xs (some (i : Int)) (some (j : Int)) = (xs.drop i).take (j - i) := by
  unfold cutV
  rw [HT.sIx_nat, HT.sIx_nat, Nat.min_eq_left (show i ≤ xs.length by omega), Nat.min_eq_left hj]
/-! ### channels -/
def spChanCopy (ad : Ad) : Sp := fun vs H Q _ => ∃ (a : Addr) (c : Sf.Chan), vs = [.ref a] ∧ ChanAt ad H a c ∧ ∀ H' p, Same H H' → H p = none → ChanAt ad H' p ⟨[], c.cur⟩ → Q (.ref p) H'
def spNewChannel (ad : Ad) : Sp := fun vs H Q _ => vs = [] ∧ ∀ H' p, Same H H' → H p = none → ChanAt ad H' p Sf.dk → Q (.ref p) H'
def spFadeValue (ad : Ad) : Sp := fun vs H Q _ => ∃ (a : Addr) (f : Sg.Fade) (t : Nat), vs = [.ref a, .int (t : Int)] ∧ FadeAt ad H a f ∧ f.to ≤ 100 ∧ f.lasts ≤ 600 ∧ f.since ≤ t ∧ ∀ p, H p = none → Q (.ref p) (upd H p (fr (f.here t)))
def spBegin (ad : Ad) : Sp := fun vs H Q _ => ∃ (a : Addr) (c : Sf.Chan) (t now : Nat), vs = [.ref a, .int (t : Int)] ∧ ChanAt ad H a c ∧ Sf.ChWf c now ∧ c.pre.length ≤ 1000 ∧ ∀ H', ChanAt ad H' a (c.begin t) → Keep (· = a) H H' → Q .non H'
theorem scChanCopy : FnScope ["self"] ["self"] (defScope sChanCopy) := ⟨rfl, rfl, rfl, by decide +kernel, rfl, by decide +kernel, by decide +kernel⟩
theorem scNewChannel : FnScope [] [] (defScope (top 12)) := ⟨rfl, rfl, rfl, by decide +kernel, rfl, by decide +kernel, by decide +kernel⟩
theorem scFadeValue : FnScope ["fade", "time"] ["fade", "time"] (defScope (top 13)) := ⟨rfl, rfl, rfl, by decide +kernel, rfl, by decide +kernel, by decide +kernel⟩
theorem scBegin : FnScope ["channel", "time", "told", "start", "length"] ["channel", "time"] (defScope (top 14)) := ⟨rfl, rfl, rfl, by decide +kernel, rfl, by decide +kernel, by decide +kernel⟩
section
variable {P : Program} {w : World} {K : PySem.W.Frag} {mg : Str → Option Value} {base : Heap} {ad : Ad}
theorem ok_ChanCopy (D : Km K ad.C "copy" "Channel.copy" sChanCopy) (T : Na K ad) (c1 : Mc P w K mg base 1 "Channel" ad.C (spChan ad.C)) : Me P w K mg base 3 ad.C "copy" (spChanCopy ad) := by
  refine me0 T.cC D scChanCopy (fun _ _ _ _ _ _ us hl => match us, hl with | [_], _ => rfl) (fun vs H Q E ⟨_, _, e, _⟩ => by rw [e]; rfl) fun f cdv A outer s H vs Q E hr h => ?_
  obtain ⟨a, c, rfl, ⟨dx, L, tv, fs, h1, h2, h3, h4⟩, k⟩ := h
  refine ⟨_, pss_one (ps_ret (pe_mk c1 hr (pa_cons (pe_slice sl_list (pe_fld (pv 0) rfl) (po_some (pe_un un_neg pe_int)) po_none) (pa_cons (pe_fld (pv 0) rfl) pa_nil)))), ?_⟩
  obtain ⟨fs', z, rfl, h5, h6⟩ := h3.unsnoc
  refine ⟨_, rfl, a, ad.C, dx, _, _, rfl, h1, T.cC, T.Cf, fC_fades _ _, _, rfl, _, rfl, L, _, rfl, SqL.of h2, fun p hp => ?_⟩
  have hs := same_new (o := HO.lst (cutV ((fs' ++ [z]).map V.ref) (some (-1)) none)) hp
  refine ⟨_, rfl, a, ad.C, dx, _, _, rfl, hs _ _ h1, T.cC, T.Ct, fC_told _ _, fun x dx' nx nd ne => ?_⟩
  refine ⟨x, dx', _, _, rfl, upd_same, rfl, ?_⟩
  show Q (.ref x) (upd (made _ dx' x ad.C []) x (.ins ad.C dx' (fC (.ref p) tv)))
  rw [made_upd]
  have hm := made_same (C := ad.C) (fs := fC (.ref p) tv) nx nd
  have hall : Same H (made (upd H p (HO.lst (cutV ((fs' ++ [z]).map V.ref) (some (-1)) none))) dx' x ad.C (fC (.ref p) tv)) := hs.trans hm
  refine k _ x hall (hs.free nx) ⟨dx', p, tv, [z], made_at, ?_, Each.one (h6.keep (Keep.of (M := fun _ => False) hall)), h4.keep (Keep.of (M := fun _ => False) hall)⟩
  have e : cutV ((fs' ++ [z]).map V.ref) (some (-1)) none = [z].map V.ref := by
    rw [List.map_append]
    exact cut_last _ _
  rw [e] at hm ⊢
  exact hm _ _ upd_same
theorem ok_FadeValue (D : Df K mg "fade_value" (top 13)) (T : Na K ad) (c1 : Cl P w K mg base CX0 1 "whole" spWhole) (c2 : Cl P w K mg base CX0 3 "between" spBetween) : Cl P w K mg base CX0 4 "fade_value" (spFadeValue ad) := by
  refine cl0 D scFadeValue (fun _ _ _ _ _ _ us hl => match us, hl with | [_, _], _ => rfl) (fun vs H Q E ⟨_, _, _, e, _⟩ => by rw [e]; rfl) fun f cdv A outer s H vs Q E hr h => ?_
  obtain ⟨a, f, t, rfl, ⟨dx, q, h1, h2⟩, hto, hla, hsi, k⟩ := h
  refine ⟨_, pss_cons (ps_if (pt_cmpR op_ge (pv 1) (pe_fld (pv 0) rfl) (nomark _)) (pss_one (ps_ret (pe_c c1 hr (pa_cons (pe_fld (pv 0) rfl) pa_nil)))) pss_nil)
    (pss_one (ps_ret (pe_c c2 hr (pa_cons (pe_fld (pv 0) rfl) (pa_cons (pe_fld (pv 0) rfl) (pa_cons (pe_op op_sub (pv 1) (pe_fld (pv 0) rfl)) (pa_cons (pe_op op_sub (pe_fld (pv 0) rfl) (pe_fld (pv 0) rfl)) pa_nil))))))), ?_⟩
  refine ⟨_, rfl, _, rfl, a, ad.F, dx, _, _, rfl, h1, T.cF, T.Fe, fF_end _ _ _ _, _, _, rfl, rfl, _, rfl, ?_⟩
  by_cases c : f.since + f.lasts ≤ t
  · refine if_true_of (decide_eq_true (by omega)) ?_
    refine ⟨_, rfl, a, ad.F, dx, _, _, rfl, h1, T.cF, T.Fl, fF_level _ _ _ _, f.to, rfl, fun p hp => ?_⟩
    have := k p hp
    rw [Sf.here_end f t c] at this
    exact this
  · refine if_false_of (decide_eq_false (by omega)) ?_
    refine ⟨_, rfl, a, ad.F, dx, _, _, rfl, h1, T.cF, T.Fs, fF_start _ _ _ _, _, rfl, a, ad.F, dx, _, _, rfl, h1, T.cF, T.Fl, fF_level _ _ _ _, ?_⟩
    refine ⟨_, rfl, _, rfl, a, ad.F, dx, _, _, rfl, h1, T.cF, T.Fb, fF_begin _ _ _ _, _, _, rfl, rfl, ?_⟩
    refine ⟨_, rfl, a, ad.F, dx, _, _, rfl, h1, T.cF, T.Fe, fF_end _ _ _ _, _, rfl, a, ad.F, dx, _, _, rfl, h1, T.cF, T.Fb, fF_begin _ _ _ _, _, _, rfl, rfl, ?_⟩
    refine ⟨q, f.from_, f.to, t - f.since, f.lasts, ?_, h2, by omega, hla, hto, fun p hp => ?_⟩
    · have e1 : (t : Int) - (f.since : Int) = ((t - f.since : Nat) : Int) := by omega
      have e2 : (f.since : Int) + (f.lasts : Int) - (f.since : Int) = (f.lasts : Int) := by omega
      show [V.ref q, V.int (f.to : Int), V.int ((t : Int) - (f.since : Int)), V.int ((f.since : Int) + (f.lasts : Int) - (f.since : Int))] = _
      rw [e1, e2]
    · have e : f.here t = f.from_ + ((f.to : Rat) - f.from_) * ((t - f.since : Nat) : Rat) / (f.lasts : Rat) := by
        unfold Sg.Fade.here
        rw [if_neg c]
      have := k p hp
      rw [e] at this
      exact this
end
end Sw

namespace Sw
open PySem PySem.Spec PyProof.Rows L2
/-- a cue's numbers (its moves' dict at d) -/
def CueF (ad : Ad) (H : Hp) (a d : Addr) (c : Sg.Timed) : Prop := ∃ dx, H a = some (.ins ad.Q dx (fQ (.int (c.cue.number : Int)) (.int (c.up : Int)) (.int (c.down : Int)) (.int (c.delay : Int)) (.int (c.follow : Int)) (.ref d)))
theorem CueF.keep {ad : Ad} {M : Addr → Prop} {H H' : Hp} {a d : Addr} {c : Sg.Timed} (k : Keep M H H') (h : CueF ad H a d c) : CueF ad H' a d c := by
  obtain ⟨dx, h1⟩ := h
  exact ⟨dx, k _ _ h1 (fun z => Bool.noConfusion (show false = true from z))⟩
def spTell (ad : Ad) : Sp := fun vs H Q _ => ∃ (a cu d : Addr) (c : Sf.Chan) (t now l : Nat) (q : Sg.Timed), vs = [.ref a, .int (t : Int), .ref cu, .int (l : Int)] ∧ ChanAt ad H a c ∧ CueF ad H cu d q ∧ Sf.ChWf c now ∧ now ≤ t ∧ l ≤ 100 ∧ q.up ≤ 600 ∧ q.down ≤ 600 ∧ c.pre.length ≤ 900 ∧
  ∀ H', ChanAt ad H' a (c.tell t (Sf.comingOf q t l)) → Keep (· = a) H H' → Q .non H'
def spValueAt (ad : Ad) : Sp := fun vs H Q _ => ∃ (a : Addr) (c : Sf.Chan) (t now : Nat), vs = [.ref a, .int (t : Int)] ∧ ChanAt ad H a c ∧ Sf.ChWf c now ∧ now ≤ t ∧ c.pre.length ≤ 1000 ∧
  ∀ H' p, Keep (· = a) H H' → H' p = some (fr (c.cur.level t)) → Q (.ref p) H'
def spIsMet : Sp := fun vs H Q _ => ∃ (a : Addr) (q : Rat) (side : Int) (z : Nat), vs = [.int side, .ref a, .int (z : Int)] ∧ H a = some (fr q) ∧ z ≤ 100 ∧ (side = -1 ∨ side = 0 ∨ side = 1) ∧ Q (.bl (decide (Sf.isMet side q z))) H
def spMeeting (ad : Ad) : Sp := fun vs H Q _ => ∃ (a : Addr) (f : Sg.Fade) (low z : Nat) (side : Int), vs = [.ref a, .int (low : Int), .int side, .int (z : Int)] ∧ FadeAt ad H a f ∧ f.to ≤ 100 ∧ f.lasts ≤ 600 ∧ f.since ≤ low ∧ z ≤ 100 ∧ (side = -1 ∨ side = 0 ∨ side = 1) ∧
  ∀ H', Same H H' → Q (.int (Sf.meetI f low side z)) H'
theorem scTell : FnScope ["channel", "time", "cue", "level"] ["channel", "time", "cue", "level"] (defScope (top 15)) := ⟨rfl, rfl, rfl, by decide +kernel, rfl, by decide +kernel, by decide +kernel⟩
theorem scValueAt : FnScope ["channel", "time"] ["channel", "time"] (defScope (top 16)) := ⟨rfl, rfl, rfl, by decide +kernel, rfl, by decide +kernel, by decide +kernel⟩
theorem scIsMet : FnScope ["side", "value", "level"] ["side", "value", "level"] (defScope (top 19)) := ⟨rfl, rfl, rfl, by decide +kernel, rfl, by decide +kernel, by decide +kernel⟩
theorem scMeeting : FnScope ["fade", "low", "side", "level", "top", "bottom", "way"] ["fade", "low", "side", "level"] (defScope (top 20)) := ⟨rfl, rfl, rfl, by decide +kernel, rfl, by decide +kernel, by decide +kernel⟩
section
variable {P : Program} {w : World} {K : PySem.W.Frag} {mg : Str → Option Value} {base : Heap} {ad : Ad}
theorem ok_NewChannel (D : Df K mg "new_channel" (top 12)) (c0 : Cl P w K mg base CX0 1 "whole" spWhole) (c1 : Mc P w K mg base 1 "Fade" ad.F (spFade ad.F)) (c2 : Mc P w K mg base 1 "Channel" ad.C (spChan ad.C)) : Cl P w K mg base CX0 3 "new_channel" (spNewChannel ad) := by
  refine cl0 D scNewChannel (fun _ _ _ _ _ _ us hl => match us, hl with | [], _ => rfl) (fun vs H Q E ⟨e, _⟩ => by rw [e]; rfl) fun f cdv A outer s H vs Q E hr h => ?_
  obtain ⟨rfl, k⟩ := h
  refine ⟨_, pss_one (ps_ret (pe_mk c2 hr (pa_cons (pe_lst (pa_cons (pe_mk c1 hr (pa_cons pe_int (pa_cons (pe_c c0 hr (pa_cons pe_int pa_nil)) (pa_cons pe_int (pa_cons pe_int pa_nil))))) pa_nil)) (pa_cons pe_non pa_nil)))), ?_⟩
  refine ⟨0, rfl, fun q hq => ?_⟩
  intro x dx nx nd ne
  refine ⟨x, dx, _, _, _, _, rfl, upd_same, rfl, ?_⟩
  refine ⟨(by show 1 ≤ sizeLine; decide), fun L hL => ?_⟩
  intro y dy ny nyd nye
  refine ⟨y, dy, _, _, rfl, upd_same, rfl, ?_⟩
  show Q (.ref y) (upd (made _ dy y ad.C []) y (.ins ad.C dy (fC (.ref L) .non)))
  rw [made_upd]
  have s1 : Same H (upd H q (fr ((0 : Nat) : Rat))) := same_new hq
  have s2 : Same (upd H q (fr ((0 : Nat) : Rat))) (made (upd H q (fr ((0 : Nat) : Rat))) dx x ad.F (fF (.int 0) (.ref q) (.int 0) (.int 0))) := made_same nx nd
  have e2 : upd (upd (upd (upd H q (fr ((0 : Nat) : Rat))) dx (.own x)) x (.ins ad.F dx [])) x (.ins ad.F dx (fF (.int 0) (.ref q) (.int 0) (.int 0))) = made (upd H q (fr ((0 : Nat) : Rat))) dx x ad.F (fF (.int 0) (.ref q) (.int 0) (.int 0)) := made_upd
  rw [e2] at hL ny nyd ⊢
  have s3 := same_new (o := HO.lst [V.ref x]) hL
  have s4 := made_same (C := ad.C) (fs := fC (.ref L) .non) ny nyd
  refine k _ y (((s1.trans s2).trans s3).trans s4) (((s1.trans s2).trans s3).free ny) ⟨dy, L, .non, [x], made_at, s4 _ _ upd_same, Each.one ⟨dx, q, ?_, ?_⟩, rfl⟩
  · exact (s3.trans s4) _ _ made_at
  · exact ((s2.trans s3).trans s4) _ _ upd_same
theorem ok_Begin (D : Df K mg "begin_told" (top 14)) (T : Na K ad) (c0 : Cl P w K mg base CX0 1 "whole" spWhole) (c1 : Cl P w K mg base CX0 1 "is_above" spIsAbove) (c2 : Cl P w K mg base CX0 4 "fade_value" (spFadeValue ad)) (c3 : Mc P w K mg base 1 "Fade" ad.F (spFade ad.F)) :
    Cl P w K mg base CX0 5 "begin_told" (spBegin ad) := by
  refine cl0 D scBegin (fun _ _ _ _ _ _ us hl => match us, hl with | [_, _], _ => rfl) (fun vs H Q E ⟨_, _, _, _, e, _⟩ => by rw [e]; rfl) fun f cdv A outer s H vs Q E hr h => ?_
  obtain ⟨a, c, t, now, rfl, ⟨dx, L, tv, fs, h1, h2, h3, h4⟩, wf, hlen, k⟩ := h
  refine ⟨_, pss_cons (ps_set (i := 2) scBegin.nd rfl (Or.inl rfl) (pe_fld (pv 0) rfl))
    (pss_one (ps_if (PW.pt (pw_and (pt_cmp (pc_notN (pv 2))) (pw_and1 (pt_cmpR op_le (pe_fld (pv 2) rfl) (pv 1) (nomark _)))))
      (pss_cons (ps_set (i := 3) scBegin.nd rfl (Or.inl rfl) (pe_c c2 hr (pa_cons (pe_ix ix_list (pe_fld (pv 0) rfl) (pe_un un_neg pe_int) (fun _ _ => rfl)) (pa_cons (pe_fld (pv 2) rfl) pa_nil))))
      (pss_cons (ps_set (i := 4) scBegin.nd rfl (Or.inl rfl) (pe_fld (pv 2) rfl))
      (C8.pss_cut (ps_if (pt_val (pe_c c1 hr (pa_cons (pe_c c0 hr (pa_cons (pe_fld (pv 2) rfl) pa_nil)) (pa_cons (pv 3) pa_nil)))) (pss_one (ps_set (i := 4) scBegin.nd rfl (Or.inl rfl) (pe_fld (pv 2) rfl))) pss_nil)
      (pss_cons (ps_fld (pv 0) (pe_op op_cat (pe_fld (pv 0) rfl) (pe_lst (pa_cons (pe_mk c3 hr (pa_cons (pe_fld (pv 2) rfl) (pa_cons (pv 3) (pa_cons (pe_op op_add (pe_fld (pv 2) rfl) (pv 4)) (pa_cons (pe_fld (pv 2) rfl) pa_nil))))) pa_nil))) rfl)
      (pss_one (ps_fld (pv 0) pe_non rfl)))))) pss_nil)), ?_⟩
  refine ⟨_, rfl, a, ad.C, dx, _, _, rfl, h1, T.cC, T.Ct, fC_told _ _, ?_⟩
  cases hx : c.cur.next with
  | none =>
    have h4' : tv = .non := by rw [hx] at h4; exact h4
    subst h4'
    refine ⟨_, rfl, _, rfl, ?_⟩
    refine if_false_of (by simp) ?_
    refine if_false_of rfl ?_
    refine k H ?_ (Keep.refl H)
    rw [Sf.begin_none hx]
    exact ⟨dx, L, .non, fs, h1, h2, h3, by rw [hx]; rfl⟩
  | some n =>
    have h4' := h4
    rw [hx] at h4'
    obtain ⟨p, rfl, dt, hp⟩ := h4'
    refine ⟨_, rfl, _, rfl, ?_⟩
    refine if_true_of (by simp) ?_
    refine ⟨_, rfl, p, ad.T, dt, _, _, rfl, hp, T.cT, T.Tb, fT_begin _ _ _ _, _, rfl, _, _, rfl, rfl, _, rfl, ?_⟩
    by_cases ht : t < n.at_
    · refine if_false_of (decide_eq_false (by omega)) ?_
      refine k H ?_ (Keep.refl H)
      rw [Sf.begin_late hx ht]
      exact ⟨dx, L, _, fs, h1, h2, h3, h4⟩
    · refine if_true_of (decide_eq_true (by omega)) ?_
      obtain ⟨fs', z, rfl, h5, h6⟩ := h3.unsnoc
      have hsm := wf.sm c.cur (by simp)
      have hnsm := wf.nsm n hx
      -- start = fade_value(channel.fades[-1], told.begin)
      refine ⟨_, rfl, a, ad.C, dx, _, _, rfl, h1, T.cC, T.Cf, fC_fades _ _, _, rfl, L, (fs' ++ [z]).map V.ref, -1, .ref z, rfl, rfl, SqL.of h2, (by rw [List.map_append]; exact atI_last _ _), ?_⟩
      refine ⟨_, rfl, p, ad.T, dt, _, _, rfl, hp, T.cT, T.Tb, fT_begin _ _ _ _, ?_⟩
      refine ⟨z, c.cur, n.at_, rfl, h6, hsm.1, hsm.2, wf.nx n hx, fun q hq => ?_⟩
      have s1 : Same H (upd H q (fr (c.cur.here n.at_))) := same_new hq
      -- length = told.down
      refine ⟨_, rfl, p, ad.T, dt, _, _, rfl, s1 _ _ hp, T.cT, T.Td, fT_down _ _ _ _, ?_⟩
      -- is_above(whole(told.level), start)
      have s1' := s1
      refine ⟨fun σ' H' => Same (upd H q (fr (c.cur.here n.at_))) H' ∧ σ' = [some (.ref a), some (.int (t : Int)), some (.ref p), some (.ref q), some (.int ((if c.cur.here n.at_ < (n.level : Rat) then n.up else n.down : Nat) : Int))], ?_, ?_⟩
      · refine ⟨_, rfl, p, ad.T, dt, _, _, rfl, s1 _ _ hp, T.cT, T.Tl, fT_level _ _ _ _, n.level, rfl, fun u hu => ?_⟩
        have s2 : Same (upd H q (fr (c.cur.here n.at_))) (upd (upd H q (fr (c.cur.here n.at_))) u (fr (n.level : Rat))) := same_new hu
        refine ⟨_, rfl, u, q, n.level, c.cur.here n.at_, rfl, upd_same, s2 _ _ upd_same, hnsm.1, _, rfl, ?_⟩
        by_cases hab : c.cur.here n.at_ < (n.level : Rat)
        · refine if_true_of (decide_eq_true hab) ?_
          refine ⟨_, rfl, p, ad.T, dt, _, _, rfl, (s1.trans s2) _ _ hp, T.cT, T.Tu, fT_up _ _ _ _, s2, ?_⟩
          rw [if_pos hab]
          rfl
        · refine if_false_of (decide_eq_false hab) ⟨s2, ?_⟩
          rw [if_neg hab]
          rfl
      · rintro σ' H2 ⟨s2, rfl⟩
        have s12 := s1.trans s2
        have hq2 : H2 q = some (fr (c.cur.here n.at_)) := s2 _ _ upd_same
        generalize hlen2 : (if c.cur.here n.at_ < (n.level : Rat) then n.up else n.down) = len
        -- channel.fades = channel.fades + [Fade(..)]
        refine ⟨_, rfl, a, ad.C, dx, _, _, rfl, s12 _ _ h1, T.cC, T.Cf, fC_fades _ _, ?_⟩
        refine ⟨_, rfl, p, ad.T, dt, _, _, rfl, s12 _ _ hp, T.cT, T.Tb, fT_begin _ _ _ _, _, rfl, ?_⟩
        refine ⟨_, rfl, p, ad.T, dt, _, _, rfl, s12 _ _ hp, T.cT, T.Tb, fT_begin _ _ _ _, _, rfl, _, _, rfl, rfl, ?_⟩
        refine ⟨_, rfl, p, ad.T, dt, _, _, rfl, s12 _ _ hp, T.cT, T.Tl, fT_level _ _ _ _, ?_⟩
        intro y dy ny nyd nye
        refine ⟨y, dy, _, _, _, _, rfl, upd_same, rfl, ?_⟩
        have e3 : upd (upd (upd H2 dy (.own y)) y (.ins ad.F dy [])) y (.ins ad.F dy (fF (.int (n.at_ : Int)) (.ref q) (.int ((n.at_ : Int) + (len : Int))) (.int (n.level : Int)))) = made H2 dy y ad.F (fF (.int (n.at_ : Int)) (.ref q) (.int ((n.at_ : Int) + (len : Int))) (.int (n.level : Int))) := made_upd
        rw [e3]
        have s3 := made_same (C := ad.F) (fs := fF (.int (n.at_ : Int)) (.ref q) (.int ((n.at_ : Int) + (len : Int))) (.int (n.level : Int))) ny nyd
        refine ⟨(by show 1 ≤ sizeLine; decide), fun L2 hL2 => ?_⟩
        have s4 := same_new (o := HO.lst [V.ref y]) hL2
        have s34 := s3.trans s4
        have sall := s12.trans s34
        have hfl : ((fs' ++ [z]).map V.ref).length ≤ 1001 := by
          rw [List.length_map, h3.1, List.length_append]
          show c.pre.length + 1 ≤ 1001
          omega
        refine ⟨L, L2, _, _, rfl, rfl, sall _ _ h2, upd_same, Nat.le_trans (Nat.add_le_add_right hfl 1) (by show 1002 ≤ sizeLine; decide), fun L3 hL3 => ?_⟩
        have s5 := same_new (o := HO.lst ((fs' ++ [z]).map V.ref ++ [V.ref y])) hL3
        have sall5 := sall.trans s5
        refine ⟨_, rfl, a, ad.C, dx, _, rfl, sall5 _ _ h1, T.cC, T.Cf, (by show 2 < 1000; decide), ?_⟩
        rw [fC_putFades]
        -- channel.told = None
        refine ⟨_, rfl, a, ad.C, dx, _, rfl, upd_same, T.cC, T.Ct, (by show 2 < 1000; decide), ?_⟩
        rw [fC_putTold, upd_upd]
        have k6 : Keep (· = a) H (upd (upd (upd (made H2 dy y ad.F (fF (.int (n.at_ : Int)) (.ref q) (.int ((n.at_ : Int) + (len : Int))) (.int (n.level : Int)))) L2 (HO.lst [V.ref y])) L3 (HO.lst ((fs' ++ [z]).map V.ref ++ [V.ref y]))) a (.ins ad.C dx (fC (.ref L3) .non))) :=
          (Keep.of sall5).trans (keep_at (sall5 _ _ h1) rfl rfl)
        refine k _ ?_ k6
        rw [Sf.begin_some hx (by omega)]
        have k7 : Keep (· = a) (upd (upd (made H2 dy y ad.F (fF (.int (n.at_ : Int)) (.ref q) (.int ((n.at_ : Int) + (len : Int))) (.int (n.level : Int)))) L2 (HO.lst [V.ref y])) L3 (HO.lst ((fs' ++ [z]).map V.ref ++ [V.ref y]))) (upd (upd (upd (made H2 dy y ad.F (fF (.int (n.at_ : Int)) (.ref q) (.int ((n.at_ : Int) + (len : Int))) (.int (n.level : Int)))) L2 (HO.lst [V.ref y])) L3 (HO.lst ((fs' ++ [z]).map V.ref ++ [V.ref y]))) a (.ins ad.C dx (fC (.ref L3) .non))) := keep_at (sall5 _ _ h1) rfl rfl
        refine ⟨dx, L3, .non, fs' ++ [z] ++ [y], upd_same, ?_, Each.snoc (h3.imp fun b f q => q.keep k6) ?_, rfl⟩
        · have e := lst_keep k7 (upd_same (H := upd (made H2 dy y ad.F (fF (.int (n.at_ : Int)) (.ref q) (.int ((n.at_ : Int) + (len : Int))) (.int (n.level : Int)))) L2 (HO.lst [V.ref y])) (a := L3) (o := HO.lst ((fs' ++ [z]).map V.ref ++ [V.ref y])))
          rw [List.map_append (l₂ := [y])]
          exact e
        · have ey : FadeAt ad (made H2 dy y ad.F (fF (.int (n.at_ : Int)) (.ref q) (.int ((n.at_ : Int) + (len : Int))) (.int (n.level : Int)))) y (Sf.begun c.cur n) := by
            refine ⟨dy, q, ?_, s3 _ _ hq2⟩
            rw [made_at]
            unfold Sf.begun
            rw [hlen2]
          exact ey.keep ((Keep.of (s4.trans s5)).trans k7)
end
end Sw

namespace Sw
open PySem PySem.Spec PyProof.Rows L2
section
variable {P : Program} {w : World} {K : PySem.W.Frag} {mg : Str → Option Value} {base : Heap} {ad : Ad}
theorem ok_Tell (D : Df K mg "tell" (top 15)) (T : Na K ad) (c1 : Cl P w K mg base CX0 5 "begin_told" (spBegin ad)) (c2 : Mc P w K mg base 1 "Told" ad.T (spTold ad.T)) : Cl P w K mg base CX0 6 "tell" (spTell ad) := by
  refine cl0 D scTell (fun _ _ _ _ _ _ us hl => match us, hl with | [_, _, _, _], _ => rfl) (fun vs H Q E ⟨_, _, _, _, _, _, _, _, e, _⟩ => by rw [e]; rfl) fun f cdv A outer s H vs Q E hr h => ?_
  obtain ⟨a, cu, d, c, t, now, l, q, rfl, hc, ⟨dq, hq⟩, wf, hn, hl, hup, hdn, hlen, k⟩ := h
  refine ⟨_, pss_cons (ps_expr (pe_c c1 hr (pa_cons (pv 0) (pa_cons (pv 1) pa_nil))))
    (pss_cons (ps_fld (pv 0) (pe_mk c2 hr (pa_cons (pe_op op_add (pv 1) (pe_fld (pv 2) rfl)) (pa_cons (pv 3) (pa_cons (pe_fld (pv 2) rfl) (pa_cons (pe_fld (pv 2) rfl) pa_nil))))) rfl)
    (pss_one (ps_expr (pe_c c1 hr (pa_cons (pv 0) (pa_cons (pv 1) pa_nil)))))), ?_⟩
  refine ⟨_, rfl, _, rfl, a, c, t, now, rfl, hc, wf, by omega, fun H1 hc1 k1 => ?_⟩
  have hq1 : H1 cu = some (.ins ad.Q dq (fQ (.int (q.cue.number : Int)) (.int (q.up : Int)) (.int (q.down : Int)) (.int (q.delay : Int)) (.int (q.follow : Int)) (.ref d))) := k1 _ _ hq (fun z => Bool.noConfusion (show false = true from z))
  refine ⟨_, rfl, _, rfl, cu, ad.Q, dq, _, _, rfl, hq1, T.cQ, T.Qw, fQ_delay _ _ _ _ _ _, _, _, rfl, rfl, ?_⟩
  refine ⟨_, rfl, _, rfl, cu, ad.Q, dq, _, _, rfl, hq1, T.cQ, T.Qu, fQ_up _ _ _ _ _ _, ?_⟩
  refine ⟨_, rfl, cu, ad.Q, dq, _, _, rfl, hq1, T.cQ, T.Qd, fQ_down _ _ _ _ _ _, ?_⟩
  intro x dx nx nd ne
  refine ⟨x, dx, _, _, _, _, rfl, upd_same, rfl, ?_⟩
  have e2 : upd (upd (upd H1 dx (.own x)) x (.ins ad.T dx [])) x (.ins ad.T dx (fT (.int ((t : Int) + (q.delay : Int))) (.int (l : Int)) (.int (q.up : Int)) (.int (q.down : Int)))) = made H1 dx x ad.T (fT (.int ((t : Int) + (q.delay : Int))) (.int (l : Int)) (.int (q.up : Int)) (.int (q.down : Int))) := made_upd
  rw [e2]
  have s2 := made_same (C := ad.T) (fs := fT (.int ((t : Int) + (q.delay : Int))) (.int (l : Int)) (.int (q.up : Int)) (.int (q.down : Int))) nx nd
  obtain ⟨da, L, tv, fs, h1, h2, h3, h4⟩ := hc1
  refine ⟨_, rfl, a, ad.C, da, _, rfl, s2 _ _ h1, T.cC, T.Ct, (by show 2 < 1000; decide), ?_⟩
  rw [fC_putTold]
  have k3 : Keep (· = a) (made H1 dx x ad.T (fT (.int ((t : Int) + (q.delay : Int))) (.int (l : Int)) (.int (q.up : Int)) (.int (q.down : Int)))) (upd (made H1 dx x ad.T (fT (.int ((t : Int) + (q.delay : Int))) (.int (l : Int)) (.int (q.up : Int)) (.int (q.down : Int)))) a (.ins ad.C da (fC (.ref L) (.ref x)))) := keep_at (s2 _ _ h1) rfl rfl
  have k13 := (Keep.of (M := (· = a)) s2).trans k3
  have hc3 : ChanAt ad (upd (made H1 dx x ad.T (fT (.int ((t : Int) + (q.delay : Int))) (.int (l : Int)) (.int (q.up : Int)) (.int (q.down : Int)))) a (.ins ad.C da (fC (.ref L) (.ref x)))) a ((c.begin t).next (Sf.comingOf q t l)) := by
    refine ⟨da, L, .ref x, fs, upd_same, lst_keep k13 h2, ?_, x, rfl, ?_⟩
    · obtain ⟨fs', z, rfl, h5, h6⟩ := h3.unsnoc
      exact Each.snoc (h5.imp fun b f g => g.keep k13) (h6.keep k13)
    · have : ToldAt ad (made H1 dx x ad.T (fT (.int ((t : Int) + (q.delay : Int))) (.int (l : Int)) (.int (q.up : Int)) (.int (q.down : Int)))) x (Sf.comingOf q t l) := ⟨dx, made_at⟩
      exact this.keep k3
  have wf1 := Sf.wf_begin wf hn
  have hlen1 : (c.begin t).pre.length ≤ c.pre.length + 1 := by
    unfold Sf.Chan.begin
    split
    · omega
    · split
      · omega
      · rw [List.length_append]; exact Nat.le_refl _
  refine ⟨_, rfl, _, rfl, a, _, t, t, rfl, hc3, Sf.wf_next wf1 (by show t ≤ t + q.delay; omega) ⟨hl, hup, hdn⟩, ?_, fun H4 hc4 k4 => k H4 hc4 ((k1.trans k13).trans k4)⟩
  show (c.begin t).pre.length ≤ 1000
  omega
theorem ok_ValueAt (D : Df K mg "value_at" (top 16)) (T : Na K ad) (c1 : Cl P w K mg base CX0 5 "begin_told" (spBegin ad)) (c2 : Cl P w K mg base CX0 4 "fade_value" (spFadeValue ad)) : Cl P w K mg base CX0 6 "value_at" (spValueAt ad) := by
  refine cl0 D scValueAt (fun _ _ _ _ _ _ us hl => match us, hl with | [_, _], _ => rfl) (fun vs H Q E ⟨_, _, _, _, e, _⟩ => by rw [e]; rfl) fun f cdv A outer s H vs Q E hr h => ?_
  obtain ⟨a, c, t, now, rfl, hc, wf, hn, hlen, k⟩ := h
  refine ⟨_, pss_cons (ps_expr (pe_c c1 hr (pa_cons (pv 0) (pa_cons (pv 1) pa_nil))))
    (pss_one (ps_ret (pe_c c2 hr (pa_cons (pe_ix ix_list (pe_fld (pv 0) rfl) (pe_un un_neg pe_int) (fun _ _ => rfl)) (pa_cons (pv 1) pa_nil))))), ?_⟩
  refine ⟨_, rfl, _, rfl, a, c, t, now, rfl, hc, wf, hlen, fun H1 hc1 k1 => ?_⟩
  obtain ⟨da, L, tv, fs, h1, h2, h3, h4⟩ := hc1
  obtain ⟨fs', z, rfl, h5, h6⟩ := h3.unsnoc
  have wf1 := Sf.wf_begin wf hn
  have sm := wf1.sm (c.begin t).cur (by simp)
  refine ⟨_, rfl, a, ad.C, da, _, _, rfl, h1, T.cC, T.Cf, fC_fades _ _, _, rfl, L, (fs' ++ [z]).map V.ref, -1, .ref z, rfl, rfl, SqL.of h2, (by rw [List.map_append]; exact atI_last _ _), _, rfl, ?_⟩
  refine ⟨z, (c.begin t).cur, t, rfl, h6, sm.1, sm.2, wf1.cs, fun p hp => k _ p (k1.trans (Keep.of (same_new hp))) ?_⟩
  rw [upd_same, Sf.begin_cur]
  rfl
theorem ok_IsMet (D : Df K mg "is_met" (top 19)) (c1 : Cl P w K mg base CX0 1 "side_of" spSideOf) : Cl P w K mg base CX0 2 "is_met" spIsMet := by
  refine cl0 D scIsMet (fun _ _ _ _ _ _ us hl => match us, hl with | [_, _, _], _ => rfl) (fun vs H Q E ⟨_, _, _, _, e, _⟩ => by rw [e]; rfl) fun f cdv A outer s H vs Q E hr h => ?_
  obtain ⟨a, q, side, z, rfl, ha, hz, hs, k⟩ := h
  refine ⟨_, pss_one (ps_ret (pe_cmpR op_le (pe_op op_mul (pe_c c1 hr (pa_cons (pv 1) (pa_cons (pv 2) pa_nil))) (pv 0)) pe_int (nomark _))), ?_⟩
  refine ⟨_, rfl, _, rfl, a, q, z, rfl, ha, hz, ?_⟩
  refine ⟨_, rfl, _, _, rfl, rfl, .inr (by omega), _, _, rfl, rfl, ?_⟩
  exact k
theorem ok_Meeting (D : Df K mg "meeting_time" (top 20)) (T : Na K ad) (c0 : Cl P w K mg base CX0 1 "whole" spWhole) (c1 : Cl P w K mg base CX0 2 "is_met" spIsMet) (c2 : Cl P w K mg base CX0 4 "fade_value" (spFadeValue ad)) (c3 : Cl P w K mg base CX0 1 "rounded_up" spRounded) :
    Cl P w K mg base CX0 5 "meeting_time" (spMeeting ad) := by
  refine cl0 D scMeeting (fun _ _ _ _ _ _ us hl => match us, hl with | [_, _, _, _], _ => rfl) (fun vs H Q E ⟨_, _, _, _, _, e, _⟩ => by rw [e]; rfl) fun f cdv A outer s H vs Q E hr h => ?_
  obtain ⟨a, f, low, z, side, rfl, hfa, hto, hla, hsi, hz, hs, k⟩ := h
  obtain ⟨dx, q, h1, h2⟩ := id hfa
  refine ⟨_, pss_cons (ps_if (pt_val (pe_c c1 hr (pa_cons (pv 2) (pa_cons (pe_c c2 hr (pa_cons (pv 0) (pa_cons (pv 1) pa_nil))) (pa_cons (pv 3) pa_nil))))) (pss_one (ps_ret (pv 1))) pss_nil)
    (pss_cons (ps_if (pt_not (pt_val (pe_c c1 hr (pa_cons (pv 2) (pa_cons (pe_c c0 hr (pa_cons (pe_fld (pv 0) rfl) pa_nil)) (pa_cons (pv 3) pa_nil)))))) (pss_one (ps_ret (pe_un un_neg pe_int))) pss_nil)
    (pss_cons (ps_if (pt_cmpR op_eq (pe_fld (pv 0) rfl) (pe_fld (pv 0) rfl) (nomark _)) (pss_one (ps_ret (pv 1))) pss_nil)
    (pss_cons (ps_asg (pe_fld (pv 0) rfl) (pg_tup rfl (pgs_cons (pg_name (i := 4) scMeeting.nd rfl (Or.inl rfl)) (pgs_cons (pg_name (i := 5) scMeeting.nd rfl (Or.inl rfl)) pgs_nil))))
    (pss_cons (ps_set (i := 6) scMeeting.nd rfl (Or.inl rfl) (pe_op op_mul (pe_op op_sub (pe_op op_mul (pv 3) (pv 5)) (pv 4)) (pe_op op_sub (pe_fld (pv 0) rfl) (pe_fld (pv 0) rfl))))
    (pss_one (ps_ret (pe_op op_add (pe_fld (pv 0) rfl) (pe_c c3 hr (pa_cons (pv 6) (pa_cons (pe_op op_sub (pe_op op_mul (pe_fld (pv 0) rfl) (pv 5)) (pv 4)) pa_nil)))))))))), ?_⟩
  unfold Sf.meetI at k
  refine ⟨_, rfl, _, rfl, _, rfl, a, f, low, rfl, hfa, hto, hla, hsi, fun p hp => ?_⟩
  have s1 : Same H (upd H p (fr (f.here low))) := same_new hp
  refine ⟨_, rfl, p, f.here low, side, z, rfl, upd_same, hz, hs, _, rfl, ?_⟩
  by_cases m1 : Sf.isMet side (f.here low) z
  · refine if_true_of (decide_eq_true m1) ⟨_, rfl, ?_⟩
    rw [if_pos m1] at k
    exact k _ s1
  refine if_false_of (decide_eq_false m1) ?_
  rw [if_neg m1] at k
  refine ⟨_, rfl, _, rfl, a, ad.F, dx, _, _, rfl, s1 _ _ h1, T.cF, T.Fl, fF_level _ _ _ _, f.to, rfl, fun u hu => ?_⟩
  have s2 : Same (upd H p (fr (f.here low))) (upd (upd H p (fr (f.here low))) u (fr (f.to : Rat))) := same_new hu
  have s12 := s1.trans s2
  refine ⟨_, rfl, u, (f.to : Rat), side, z, rfl, upd_same, hz, hs, _, rfl, ?_⟩
  by_cases m2 : Sf.isMet side (f.to : Rat) z
  · rw [if_neg (fun z => z m2)] at k
    refine if_false_of (by rw [decide_eq_true m2]; rfl) ?_
    have ml := Sf.meet_last hs hsi m1 m2
    have hl0 : ¬ f.lasts = 0 := by omega
    rw [if_neg hl0] at k
    have h1' := s12 _ _ h1
    refine ⟨_, rfl, a, ad.F, dx, _, _, rfl, h1', T.cF, T.Fe, fF_end _ _ _ _, _, rfl, a, ad.F, dx, _, _, rfl, h1', T.cF, T.Fb, fF_begin _ _ _ _, rfl, _, rfl, ?_⟩
    refine if_false_of (by simp; omega) ?_
    refine ⟨_, rfl, a, ad.F, dx, _, _, rfl, h1', T.cF, T.Fs, fF_start _ _ _ _, q, _, rfl, SqT.of (s12 _ _ h2), rfl, _, _, rfl, _, _, rfl, rfl, ?_⟩
    refine ⟨_, rfl, _, rfl, _, _, rfl, rfl, .inl (by omega), _, rfl, _, _, rfl, rfl, ?_⟩
    refine ⟨_, rfl, a, ad.F, dx, _, _, rfl, h1', T.cF, T.Fe, fF_end _ _ _ _, _, rfl, a, ad.F, dx, _, _, rfl, h1', T.cF, T.Fb, fF_begin _ _ _ _, _, _, rfl, rfl, _, _, rfl, rfl, .inr (by omega), ?_⟩
    refine ⟨_, rfl, a, ad.F, dx, _, _, rfl, h1', T.cF, T.Fb, fF_begin _ _ _ _, ?_⟩
    refine ⟨_, rfl, _, rfl, a, ad.F, dx, _, _, rfl, h1', T.cF, T.Fl, fF_level _ _ _ _, _, rfl, _, _, rfl, rfl, .inl (by omega), _, rfl, _, _, rfl, rfl, ?_⟩
    have e1 : (f.since : Int) + (f.lasts : Int) - (f.since : Int) = (f.lasts : Int) := by omega
    rw [e1]
    refine ⟨Sf.wayOf f z, Sf.denOf f, rfl, by omega, Sf.way_small hs ml.2.1 ml.2.2.1 ml.2.2.2 hla, _, _, rfl, rfl, k _ s12⟩
  · rw [if_pos m2] at k
    refine if_true_of (by rw [decide_eq_false m2]; rfl) ?_
    refine ⟨_, rfl, k _ s12⟩
end
end Sw

namespace Sw
open PySem PySem.Spec PyProof.Rows L2
/-- the fades of a channel with when each one's next begins, as tuples in a list -/
structure FadesAt (ad : Ad) (H : Hp) (p : Addr) (l : List Sg.Fade) (ts : List Addr) : Prop where
  lst : H p = some (.lst (ts.map V.ref))
  len : ts.length = l.length
  item : ∀ (i : Nat) (t : Addr), ts[i]? = some t → ∃ (f : Sg.Fade) (u : Option Nat) (b : Addr), (Sf.withUntil l)[i]? = some (f, u) ∧ l[i]? = some f ∧ H t = some (.tup [.ref b, .int (Sf.untilI u)]) ∧ FadeAt ad H b f
def spAllFades (ad : Ad) : Sp := fun vs H Q _ => ∃ (a : Addr) (c : Sf.Chan) (now : Nat), vs = [.ref a] ∧ ChanAt ad H a c ∧ Sf.ChWf c now ∧ c.pre.length ≤ 990 ∧
  ∀ H' p ts, Keep (· = a) H H' → FadesAt ad H' p c.all ts → Q (.ref p) H'
theorem scAllFades : FnScope ["channel", "ends", "fade"] ["channel"] (defScope (top 17)) := ⟨rfl, rfl, rfl, by decide +kernel, rfl, by decide +kernel, by decide +kernel⟩
/-- the ends, as the program has them -/
def endsV (l : List Sg.Fade) : List V := (l.drop 1).map (fun f => V.int (f.since : Int)) ++ [V.int (-1)]
theorem ends_get (l : List Sg.Fade) (i : Nat) (f : Sg.Fade) (h : l[i]? = some f) {y : V} (hy : (endsV l)[i]? = some y) : y = V.int (Sf.untilI (l[i + 1]?.map (·.since))) := by
  have hi : i < l.length := (List.getElem?_eq_some_iff.mp h).1
  unfold endsV at hy
  by_cases c : i + 1 < l.length
  · rw [List.getElem?_append_left (by rw [List.length_map, List.length_drop]; omega), List.getElem?_map, List.getElem?_drop, Nat.add_comm 1 i] at hy
    rw [List.getElem?_eq_getElem c] at hy ⊢
    exact (Option.some.inj hy).symm
  · rw [List.getElem?_append_right (by rw [List.length_map, List.length_drop]; omega), List.length_map, List.length_drop] at hy
    have e : i - (l.length - 1) = 0 := by omega
    rw [e] at hy
    rw [List.getElem?_eq_none (by omega)]
    exact (Option.some.inj hy).symm
theorem ends_length (l : List Sg.Fade) (h : l ≠ []) : (endsV l).length = l.length := by
  unfold endsV
  rw [List.length_append, List.length_map, List.length_drop]
  have := List.length_pos_iff.mpr h
  show l.length - 1 + 1 = l.length
  omega
theorem all_ne (c : Sf.Chan) : c.all ≠ [] := by
  unfold Sf.Chan.all
  cases c.cur.next <;> simp
theorem all_length (c : Sf.Chan) : c.all.length ≤ c.pre.length + 2 := by
  unfold Sf.Chan.all
  cases c.cur.next with
  | none => show (c.pre ++ [c.cur]).length ≤ _; rw [List.length_append]; show c.pre.length + 1 ≤ _; omega
  | some n => show (c.pre ++ [c.cur, Sf.begun c.cur n]).length ≤ _; rw [List.length_append]; exact Nat.le_refl _
section
variable {P : Program} {w : World} {K : PySem.W.Frag} {mg : Str → Option Value} {base : Heap} {ad : Ad}
theorem ok_AllFades (D : Df K mg "all_fades" (top 17)) (T : Na K ad) (ml : mg "list" = none) (mz : mg "zip" = none) (c1 : Cl P w K mg base CX0 5 "begin_told" (spBegin ad)) : Cl P w K mg base CX0 6 "all_fades" (spAllFades ad) := by
  refine cl0 D scAllFades (fun _ _ _ _ _ _ us hl => match us, hl with | [_], _ => rfl) (fun vs H Q E ⟨_, _, _, e, _⟩ => by rw [e]; rfl) fun f cdv A outer s H vs Q E hr h => ?_
  obtain ⟨a, c, now, rfl, hc, wf, hlen, k⟩ := h
  refine ⟨_, C8.pss_cut (ps_if (pt_cmp (pc_notN (pe_fld (pv 0) rfl))) (pss_one (ps_expr (pe_c c1 hr (pa_cons (pv 0) (pa_cons (pe_fld (pe_fld (pv 0) rfl) rfl) pa_nil))))) pss_nil)
    (pss_cons (ps_set (i := 1) scAllFades.nd rfl (Or.inl rfl) (pe_op op_cat (pe_lc (own := [("fade", 2)]) (g := gName 2) (tt := tYes) (te := tFld K (tVar 2) "begin") rfl scAllFades.nd (pi_list (pe_slice sl_list (pe_fld (pv 0) rfl) (po_some pe_int) po_none))
        (blkOk_by (own := [("fade", 2)]) (N := ["channel", "ends", "fade"]) (sc := defScope (top 17)) (by decide +kernel)) (fun _ _ _ _ _ => pg_name (i := 2) scAllFades.nd rfl (Or.inl rfl)) (fun _ _ _ _ _ => pts_nil) (fun _ _ _ _ _ => by exact (pe_fld (pv 2) rfl)))
      (pe_lst (pa_cons (pe_un un_neg pe_int) pa_nil))))
    (pss_one (ps_ret (Zl.pe_listZip rfl ml mz (pa_cons (pe_fld (pv 0) rfl) (pa_cons (pv 1) pa_nil)))))), ?_⟩
  refine ⟨fun σ' H1 => σ' = [some (.ref a), none, none] ∧ Keep (· = a) H H1 ∧ ∃ dx L tv fs, H1 a = some (.ins ad.C dx (fC (.ref L) tv)) ∧ H1 L = some (.lst (fs.map V.ref)) ∧ Each (FadeAt ad H1) fs c.all, ?_, ?_⟩
  · obtain ⟨dx, L, tv, fs, h1, h2, h3, h4⟩ := id hc
    refine ⟨_, rfl, a, ad.C, dx, _, _, rfl, h1, T.cC, T.Ct, fC_told _ _, _, rfl, ?_⟩
    cases hx : c.cur.next with
    | none =>
      have h4' : tv = .non := by rw [hx] at h4; exact h4
      subst h4'
      refine if_false_of (by simp) ⟨rfl, Keep.refl H, dx, L, _, fs, h1, h2, ?_⟩
      have e : c.all = c.pre ++ [c.cur] := by unfold Sf.Chan.all; rw [hx]
      rw [e]
      exact h3
    | some n =>
      have h4' := h4
      rw [hx] at h4'
      obtain ⟨p, rfl, dt, hp⟩ := h4'
      refine if_true_of (by simp) ?_
      refine ⟨_, rfl, _, rfl, a, ad.C, dx, _, _, rfl, h1, T.cC, T.Ct, fC_told _ _, p, ad.T, dt, _, _, rfl, hp, T.cT, T.Tb, fT_begin _ _ _ _, ?_⟩
      refine ⟨a, c, n.at_, now, rfl, hc, wf, by omega, fun H1 hc1 k1 => ⟨rfl, k1, ?_⟩⟩
      obtain ⟨dx1, L1, tv1, fs1, g1, g2, g3, g4⟩ := hc1
      rw [Sf.begin_some hx (Nat.le_refl _)] at g3
      refine ⟨dx1, L1, tv1, fs1, g1, g2, ?_⟩
      have e : c.all = (c.pre ++ [c.cur]) ++ [Sf.begun c.cur n] := by unfold Sf.Chan.all; rw [hx]; simp
      rw [e]
      exact g3
  · rintro σ' H1 ⟨rfl, k1, dx, L, tv, fs, h1, h2, h3⟩
    have la := all_length c
    have ne := all_ne c
    have hfl : fs.length = c.all.length := h3.1
    refine ⟨_, rfl, a, ad.C, dx, _, _, rfl, h1, T.cC, T.Cf, fC_fades _ _, 1, rfl, L, _, rfl, SqL.of h2, fun p hp => ?_⟩
    have s1 := same_new (o := HO.lst (cutV (fs.map V.ref) (some 1) none)) hp
    have hcut : cutV (fs.map V.ref) (some 1) none = (fs.drop 1).map V.ref := by rw [cut_tail, List.map_drop]
    rw [hcut] at s1 ⊢
    refine ⟨p, rfl, ⟨_, SqL.of upd_same⟩, fun D hD => ?_⟩
    refine lc_list (K := K) (a := p) (xs := (fs.drop 1).map V.ref) (fun i H' => Same (upd H1 p (.lst ((fs.drop 1).map V.ref))) H' ∧ H' D = some (.lst (((c.all.drop 1).take i).map (fun f => V.int (f.since : Int))))) ?_ ?_ ?_ ?_
    · exact ⟨same_new hD, upd_same⟩
    · intro i H' _ ⟨s2, _⟩
      exact SqL.of (s2 _ _ upd_same)
    · intro i x H' hx ⟨s2, hD'⟩
      rw [List.getElem?_map, List.getElem?_drop] at hx
      cases hb : fs[1 + i]? with
      | none => rw [hb] at hx; cases hx
      | some b =>
        rw [hb] at hx
        cases hx
        have hlt : 1 + i < c.all.length := by rw [← hfl]; exact (List.getElem?_eq_some_iff.mp hb).1
        obtain ⟨b', e1, hf⟩ := h3.2 (1 + i) c.all[1 + i] (List.getElem?_eq_getElem hlt)
        rw [hb] at e1
        cases e1
        have hf' := hf.keep (Keep.of (M := fun _ => False) (s1.trans s2))
        obtain ⟨dxf, q, g1, g2⟩ := hf'
        refine ⟨rfl, ?_⟩
        refine ⟨_, rfl, b, ad.F, dxf, _, _, rfl, g1, T.cF, T.Fb, fF_begin _ _ _ _, _, hD', ?_, ?_, ?_⟩
        · rw [List.length_map, List.length_take, List.length_drop]
          exact small1000 (by omega)
        · intro u o hu
          by_cases e : u = D
          · rw [e] at hu
            rw [hD] at hu
            cases hu
          · rw [upd_ne e]
            exact s2 _ _ hu
        · rw [upd_same]
          have et : (c.all.drop 1)[i]? = some c.all[1 + i] := by rw [List.getElem?_drop]; exact List.getElem?_eq_getElem hlt
          rw [List.take_add_one, et]
          simp
    · rintro H2 ⟨s2, hD2⟩
      have hD3 : H2 D = some (.lst ((c.all.drop 1).map (fun f => V.int (f.since : Int)))) := by
        rw [hD2, List.take_of_length_le]
        rw [List.length_map, List.length_drop, List.length_drop, hfl]
        exact Nat.le_refl _
      refine ⟨1, rfl, (by show 1 ≤ sizeLine; decide), fun p2 hp2 => ?_⟩
      have s3 := same_new (o := HO.lst [V.int (-1)]) hp2
      refine ⟨D, p2, _, _, rfl, rfl, s3 _ _ hD3, upd_same, ?_, fun p3 hp3 => ?_⟩
      · rw [List.length_map, List.length_drop]
        refine Nat.le_trans (show _ ≤ 1000 from ?_) (by decide)
        show c.all.length - 1 + 1 ≤ 1000
        omega
      · have s4 := same_new (o := HO.lst ((c.all.drop 1).map (fun f => V.int (f.since : Int)) ++ [V.int (-1)])) hp3
        have s14 := ((s1.trans s2).trans s3).trans s4
        refine ⟨_, rfl, a, ad.C, dx, _, _, rfl, s14 _ _ h1, T.cC, T.Cf, fC_fades _ _, _, rfl, L, p3, fs.map V.ref, endsV c.all, rfl, SqL.of (s14 _ _ h2), SqL.of upd_same, ?_, ?_⟩
        · rw [List.length_map, hfl, ends_length _ ne]
        · intro H5 p5 ts s5 n5 hz
          have s15 := s14.trans s5
          refine k H5 p5 ts (k1.trans (Keep.of s15)) ⟨hz.lst, by rw [hz.len, List.length_map, hfl], fun i t ht => ?_⟩
          obtain ⟨x, y, e1, e2, e3⟩ := hz.item i t ht
          have hlt : i < c.all.length := by
            have := (List.getElem?_eq_some_iff.mp ht).1
            rw [hz.len, List.length_map, hfl] at this
            exact this
          have hci := List.getElem?_eq_getElem hlt
          obtain ⟨b, g1, g2⟩ := h3.2 i _ hci
          rw [List.getElem?_map, g1] at e1
          cases e1
          have ey := ends_get c.all i _ hci e2
          subst ey
          exact ⟨c.all[i], _, b, Sf.wu_get _ i _ hci, hci, e3, g2.keep (Keep.of (M := fun _ => False) s15)⟩
end
end Sw

namespace Sw
open PySem PySem.Spec PyProof.Rows L2
theorem shaped2 (a b : Int) : SeqAt.shaped (.tuple [.int a, .int b]) = true := by
  first
  | rfl
  | simp [SeqAt.shaped, PyData.canLay0, PyData.depth]
theorem dp_fr {K : PySem.W.Frag} {H : Hp} {a : Addr} {q : Rat} (h : H a = some (fr q)) : Dp K H (.ref a) (.tuple [.int q.num, .int ((q.den : Nat) : Int)]) := .tup (SqT.of h) (.cons (.int _) (.cons (.int _) .nil))
theorem eqv_fr (q r : Rat) : PyData.eqv (.tuple [.int q.num, .int ((q.den : Nat) : Int)]) (.tuple [.int r.num, .int ((r.den : Nat) : Int)]) = decide (q = r) := by
  have e : PyData.eqv (.tuple [.int q.num, .int ((q.den : Nat) : Int)]) (.tuple [.int r.num, .int ((r.den : Nat) : Int)]) = ((q.num == r.num) && ((((q.den : Nat) : Int) == ((r.den : Nat) : Int)) && true)) := by
    simp only [PyData.eqv, PyData.eqvAll]
  rw [e, Bool.and_true]
  by_cases c : q = r
  · rw [c, decide_eq_true rfl]
    simp
  · rw [decide_eq_false c, Bool.and_eq_false_iff]
    by_cases c1 : q.num = r.num
    · right
      by_cases c2 : q.den = r.den
      · exact absurd (Rat.ext c1 c2) c
      · simp only [beq_eq_false_iff_ne, ne_eq]
        omega
    · left
      simpa using c1
def spLastChange (ad : Ad) : Sp := fun vs H Q _ => ∃ (a : Addr) (c : Sf.Chan) (now : Nat), vs = [.ref a] ∧ ChanAt ad H a c ∧ Sf.ChWf c now ∧ c.pre.length ≤ 990 ∧ ∀ H', Keep (· = a) H H' → Q (.int (Sf.lastChange c.all : Int)) H'
def spWhenMet (ad : Ad) : Sp := fun vs H Q _ => ∃ (a : Addr) (c : Sf.Chan) (now t z : Nat), vs = [.ref a, .int (t : Int), .int (z : Int)] ∧ ChanAt ad H a c ∧ Sf.ChWf c now ∧ c.pre.length ≤ 990 ∧ z ≤ 100 ∧
  ∀ H', Keep (· = a) H H' → Q (.int (Sf.whenI (Sf.sideAt t z c.all) t z (Sf.withUntil c.all))) H'
theorem scLastChange : FnScope ["channel", "found", "fade", "until", "end"] ["channel"] (defScope (top 18)) := ⟨rfl, rfl, rfl, by decide +kernel, rfl, by decide +kernel, by decide +kernel⟩
theorem scWhenMet : FnScope ["channel", "time", "level", "fades", "side", "fade", "until", "low", "found"] ["channel", "time", "level"] (defScope (top 21)) := ⟨rfl, rfl, rfl, by decide +kernel, rfl, by decide +kernel, by decide +kernel⟩
/-- all fades are small -/
theorem all_small {c : Sf.Chan} {now : Nat} (w : Sf.ChWf c now) : ∀ f ∈ c.all, f.to ≤ 100 ∧ f.lasts ≤ 600 := by
  intro f hf
  unfold Sf.Chan.all at hf
  cases hx : c.cur.next with
  | none =>
    rw [hx] at hf
    exact w.sm f hf
  | some n =>
    rw [hx] at hf
    have hf' : f ∈ c.pre ++ [c.cur, Sf.begun c.cur n] := hf
    have e : c.pre ++ [c.cur, Sf.begun c.cur n] = (c.pre ++ [c.cur]) ++ [Sf.begun c.cur n] := by simp
    rw [e] at hf'
    rcases List.mem_append.mp hf' with x | x
    · exact w.sm f x
    · have nsm := w.nsm n hx
      rw [List.mem_singleton.mp x]
      refine ⟨nsm.1, ?_⟩
      show (if _ then n.up else n.down) ≤ 600
      split
      · exact nsm.2.1
      · exact nsm.2.2
theorem FadesAt.keep {ad : Ad} {M : Addr → Prop} {H H' : Hp} {p : Addr} {l : List Sg.Fade} {ts : List Addr} (k : Keep M H H') (h : FadesAt ad H p l ts) : FadesAt ad H' p l ts :=
  ⟨lst_keep k h.lst, h.len, fun i t e => let ⟨f, u, b, h1, h2, h3, h4⟩ := h.item i t e; ⟨f, u, b, h1, h2, k _ _ h3 (fun z => Bool.noConfusion (show false = true from z)), h4.keep k⟩⟩
theorem take_succ {α : Type} {l : List α} {i : Nat} {x : α} (h : l[i]? = some x) : l.take (i + 1) = l.take i ++ [x] := by
  rw [List.take_add_one, h]
  rfl
theorem refs_at {as : List Addr} {i : Nat} {x : V} (h : (as.map V.ref)[i]? = some x) : ∃ a, as[i]? = some a ∧ x = .ref a := by
  rw [List.getElem?_map] at h
  cases e : as[i]? with
  | none => rw [e] at h; cases h
  | some a =>
    rw [e] at h
    exact ⟨a, rfl, (Option.some.inj h).symm⟩
def endOf (f : Sg.Fade) (u : Option Nat) : Nat := match u with
  | none => f.since + f.lasts
  | some x => min (f.since + f.lasts) x
theorem contr_end (f : Sg.Fade) (u : Option Nat) : Sf.contr (f, u) = if f.from_ ≠ (f.to : Rat) ∧ (f.since < endOf f u ∨ f.lasts = 0) then endOf f u else 0 := by
  unfold Sf.contr endOf
  rfl
section
variable {P : Program} {w : World} {K : PySem.W.Frag} {mg : Str → Option Value} {base : Heap} {ad : Ad}
theorem ok_LastChange (D : Df K mg "last_change" (top 18)) (T : Na K ad) (mmin : mg "min" = none) (mmax : mg "max" = none) (c0 : Cl P w K mg base CX0 1 "whole" spWhole) (c1 : Cl P w K mg base CX0 6 "all_fades" (spAllFades ad)) : Cl P w K mg base CX0 7 "last_change" (spLastChange ad) := by
  refine cl0 D scLastChange (fun _ _ _ _ _ _ us hl => match us, hl with | [_], _ => rfl) (fun vs H Q E ⟨_, _, _, e, _⟩ => by rw [e]; rfl) fun f cdv A outer s H vs Q E hr h => ?_
  obtain ⟨a, c, now, rfl, hc, wf, hlen, k⟩ := h
  refine ⟨_, pss_cons (ps_set (i := 1) scLastChange.nd rfl (Or.inl rfl) pe_int)
    (pss_cons (ps_for PassesOwn.never rfl (pi_list (pe_c c1 hr (pa_cons (pv 0) pa_nil))) (pg_tup rfl (pgs_cons (pg_name (i := 2) scLastChange.nd rfl (Or.inl rfl)) (pgs_cons (pg_name (i := 3) scLastChange.nd rfl (Or.inl rfl)) pgs_nil)))
      (pss_cons (ps_set (i := 4) scLastChange.nd rfl (Or.inl rfl) (pe_fld (pv 2) rfl))
      (C8.pss_cut (ps_if (pt_cmpR op_ge (pv 3) pe_int (nomark _)) (pss_one (ps_set (i := 4) scLastChange.nd rfl (Or.inl rfl) (pe_callB (call_min2 rfl) (by rfl) mmin (by decide +kernel) (pa_cons (pv 4) (pa_cons (pv 3) pa_nil))))) pss_nil)
      (pss_one (ps_if (PW.pt (pw_and (pt_cmpR (op_neD hr.units) (pe_fld (pv 2) rfl) (pe_c c0 hr (pa_cons (pe_fld (pv 2) rfl) pa_nil)) (nomark _)) (pw_and1 (PW.pt (pw_or (pt_cmpR op_gt (pv 4) (pe_fld (pv 2) rfl) (nomark _)) (pw_or1 (pt_cmpR op_eq (pe_fld (pv 2) rfl) (pe_fld (pv 2) rfl) (nomark _))))))))
        (pss_one (ps_set (i := 1) scLastChange.nd rfl (Or.inl rfl) (pe_callB (call_max2 rfl) (by rfl) mmax (by decide +kernel) (pa_cons (pv 1) (pa_cons (pv 4) pa_nil))))) pss_nil)))))
    (pss_one (ps_ret (pv 1)))), ?_⟩
  refine ⟨_, rfl, a, c, now, rfl, hc, wf, hlen, fun H1 p ts k1 hts => ?_⟩
  refine ⟨p, rfl, ⟨_, SqL.of hts.lst⟩, for_list (K := K) (a := p) (xs := ts.map V.ref) (fun i σ H' => ∃ v2 v3 v4 : Option V, σ = [some (.ref a), some (.int ((((Sf.withUntil c.all).take i).foldl (fun m p => max m (Sf.contr p)) 0 : Nat) : Int)), v2, v3, v4] ∧ Same H1 H')
    ⟨none, none, none, rfl, Same.refl _⟩ (fun i σ H' _ ⟨_, _, _, _, s5⟩ => s5.seq (SqL.of hts.lst)) ?_ ?_⟩
  · rintro i y σ H' hi ⟨v2, v3, v4, rfl, s5⟩
    obtain ⟨t, ht, rfl⟩ := refs_at hi
    have hts' := hts.keep (Keep.of (M := fun _ => False) s5)
    obtain ⟨f, u, b, e1, e2, e3, dx, q, g1, g2⟩ := hts'.item i t ht
    have step : (((Sf.withUntil c.all).take (i + 1)).foldl (fun m p => max m (Sf.contr p)) 0) = max (((Sf.withUntil c.all).take i).foldl (fun m p => max m (Sf.contr p)) 0) (Sf.contr (f, u)) := by
      rw [take_succ e1, List.foldl_append]
      rfl
    generalize hm : (((Sf.withUntil c.all).take i).foldl (fun m p => max m (Sf.contr p)) 0) = m at *
    refine ⟨t, _, rfl, SqT.of e3, rfl, _, _, rfl, _, _, rfl, rfl, ?_⟩
    refine ⟨_, rfl, b, ad.F, dx, _, _, rfl, g1, T.cF, T.Fe, fF_end _ _ _ _, ?_⟩
    -- end = min(end, until)
    refine ⟨fun σ' H2 => H2 = H' ∧ σ' = [some (.ref a), some (.int (m : Int)), some (.ref b), some (.int (Sf.untilI u)), some (.int (endOf f u : Int))], ?_, ?_⟩
    · refine ⟨_, rfl, _, _, rfl, rfl, _, rfl, ?_⟩
      cases u with
      | none => exact if_false_of (by decide) ⟨rfl, rfl⟩
      | some x =>
        refine if_true_of (decide_eq_true (show (0 : Int) ≤ (x : Int) by omega)) ?_
        refine ⟨_, rfl, _, rfl, _, _, rfl, rfl, ?_⟩
        have e : (if (x : Int) < (f.since : Int) + (f.lasts : Int) then (x : Int) else (f.since : Int) + (f.lasts : Int)) = ((min (f.since + f.lasts) x : Nat) : Int) := by
          split <;> omega
        show [some (V.ref a), some (V.int (m : Int)), some (V.ref b), some (V.int (x : Int)), some (V.int (if (x : Int) < (f.since : Int) + (f.lasts : Int) then (x : Int) else (f.since : Int) + (f.lasts : Int)))] = _
        rw [e]
        rfl
    · rintro σ' H2 ⟨rfl, rfl⟩
      have hcon := contr_end f u
      generalize endOf f u = e at *
      refine ⟨_, rfl, b, ad.F, dx, _, _, rfl, g1, T.cF, T.Fs, fF_start _ _ _ _, _, rfl, b, ad.F, dx, _, _, rfl, g1, T.cF, T.Fl, fF_level _ _ _ _, f.to, rfl, fun x hx => ?_⟩
      have s6 : Same H2 (upd H2 x (fr (f.to : Rat))) := same_new hx
      refine ⟨_, _, dp_fr (s6 _ _ g2), dp_fr upd_same, shaped2 _ _, shaped2 _ _, _, rfl, ?_⟩
      rw [eqv_fr]
      have g1' := s6 _ _ g1
      by_cases cf : f.from_ = (f.to : Rat)
      · refine if_false_of (by rw [decide_eq_true cf]; rfl) ?_
        refine if_false_of rfl ?_
        refine ⟨some (.ref b), some (.int (Sf.untilI u)), some (.int (e : Int)), ?_, s5.trans s6⟩
        rw [step, hcon, if_neg (fun z => z.1 cf), Nat.max_zero]
      · refine if_true_of (by rw [decide_eq_false cf]; rfl) ?_
        refine ⟨_, rfl, _, rfl, b, ad.F, dx, _, _, rfl, g1', T.cF, T.Fb, fF_begin _ _ _ _, _, _, rfl, rfl, _, rfl, ?_⟩
        have e9 : (if (e : Int) > (m : Int) then (e : Int) else (m : Int)) = ((max m e : Nat) : Int) := by split <;> omega
        by_cases c1 : f.since < e
        · refine if_true_of (decide_eq_true (by omega)) ?_
          refine ⟨_, rfl, _, rfl, _, _, rfl, some (.ref b), some (.int (Sf.untilI u)), some (.int (e : Int)), ?_, s5.trans s6⟩
          have hcc : Sf.contr (f, u) = e := by rw [hcon, if_pos ⟨cf, .inl c1⟩]
          rw [step, hcc, ← e9]
          rfl
        · refine if_false_of (decide_eq_false (by omega)) ?_
          refine ⟨_, rfl, b, ad.F, dx, _, _, rfl, g1', T.cF, T.Fe, fF_end _ _ _ _, _, rfl, b, ad.F, dx, _, _, rfl, g1', T.cF, T.Fb, fF_begin _ _ _ _, rfl, _, rfl, ?_⟩
          by_cases c2 : f.lasts = 0
          · refine if_true_of (by simp; omega) ?_
            refine ⟨_, rfl, _, rfl, _, _, rfl, some (.ref b), some (.int (Sf.untilI u)), some (.int (e : Int)), ?_, s5.trans s6⟩
            have hcc : Sf.contr (f, u) = e := by rw [hcon, if_pos ⟨cf, .inr c2⟩]
            rw [step, hcc, ← e9]
            rfl
          · refine if_false_of (by simp; omega) ?_
            refine ⟨some (.ref b), some (.int (Sf.untilI u)), some (.int (e : Int)), ?_, s5.trans s6⟩
            rw [step, hcon, if_neg (fun z => z.2.elim c1 c2), Nat.max_zero]
  · rintro σ H' ⟨v2, v3, v4, rfl, s5⟩
    refine ⟨_, rfl, ?_⟩
    have e : (ts.map V.ref).length = (Sf.withUntil c.all).length := by rw [List.length_map, hts.len, Sf.wu_length]
    rw [e, List.take_length]
    exact k _ (k1.trans (Keep.of s5))
theorem when_step (side : Int) (t z : Nat) (f : Sg.Fade) (u : Option Nat) (r : List (Sg.Fade × Option Nat)) : Sf.whenI side t z ((f, u) :: r) =
    if Sf.untilI u < 0 ∨ ((max f.since t : Nat) : Int) < Sf.untilI u then
      (if 0 ≤ Sf.meetI f (max f.since t) side z ∧ (Sf.untilI u < 0 ∨ Sf.meetI f (max f.since t) side z < Sf.untilI u) then Sf.meetI f (max f.since t) side z else Sf.whenI side t z r)
    else Sf.whenI side t z r := by rw [Sf.whenI]
theorem ok_WhenMet (D : Df K mg "when_met" (top 21)) (T : Na K ad) (mmax : mg "max" = none) (c1 : Cl P w K mg base CX0 6 "all_fades" (spAllFades ad)) (c2 : Cl P w K mg base CX0 1 "side_of" spSideOf) (c3 : Cl P w K mg base CX0 4 "fade_value" (spFadeValue ad))
    (c4 : Cl P w K mg base CX0 5 "meeting_time" (spMeeting ad)) : Cl P w K mg base CX0 7 "when_met" (spWhenMet ad) := by
  refine cl0 D scWhenMet (fun _ _ _ _ _ _ us hl => match us, hl with | [_, _, _], _ => rfl) (fun vs H Q E ⟨_, _, _, _, _, e, _⟩ => by rw [e]; rfl) fun f cdv A outer s H vs Q E hr h => ?_
  obtain ⟨a, c, now, t, z, rfl, hc, wf, hlen, hz, k⟩ := h
  have nd := scWhenMet.nd
  refine ⟨_, pss_cons (ps_set (i := 3) nd rfl (Or.inl rfl) (pe_c c1 hr (pa_cons (pv 0) pa_nil)))
    (pss_cons (ps_set (i := 4) nd rfl (Or.inl rfl) pe_int)
    (pss_cons (ps_for PassesOwn.never rfl (pi_list (pv 3)) (pg_tup rfl (pgs_cons (pg_name (i := 5) nd rfl (Or.inl rfl)) (pgs_cons (pg_name (i := 6) nd rfl (Or.inl rfl)) pgs_nil)))
      (pss_one (ps_if (pt_cmpR op_le (pe_fld (pv 5) rfl) (pv 1) (nomark _)) (pss_one (ps_set (i := 4) nd rfl (Or.inl rfl) (pe_c c2 hr (pa_cons (pe_c c3 hr (pa_cons (pv 5) (pa_cons (pv 1) pa_nil))) (pa_cons (pv 2) pa_nil))))) pss_nil)))
    (pss_cons (ps_for PassesOwn.never rfl (pi_list (pv 3)) (pg_tup rfl (pgs_cons (pg_name (i := 5) nd rfl (Or.inl rfl)) (pgs_cons (pg_name (i := 6) nd rfl (Or.inl rfl)) pgs_nil)))
      (pss_cons (ps_set (i := 7) nd rfl (Or.inl rfl) (pe_callB (call_max2 rfl) (by rfl) mmax (by decide +kernel) (pa_cons (pe_fld (pv 5) rfl) (pa_cons (pv 1) pa_nil))))
      (pss_one (ps_if (PW.pt (pw_or (pt_cmpR op_lt (pv 6) pe_int (nomark _)) (pw_or1 (pt_cmpR op_gt (pv 6) (pv 7) (nomark _)))))
        (pss_cons (ps_set (i := 8) nd rfl (Or.inl rfl) (pe_c c4 hr (pa_cons (pv 5) (pa_cons (pv 7) (pa_cons (pv 4) (pa_cons (pv 2) pa_nil))))))
        (pss_one (ps_if (PW.pt (pw_and (pt_cmpR op_ge (pv 8) pe_int (nomark _)) (pw_and1 (PW.pt (pw_or (pt_cmpR op_lt (pv 6) pe_int (nomark _)) (pw_or1 (pt_cmpR op_lt (pv 8) (pv 6) (nomark _))))))))
          (pss_one (ps_ret (pv 8))) pss_nil))) pss_nil))))
    (pss_one (ps_ret (pe_un un_neg pe_int)))))), ?_⟩
  refine ⟨_, rfl, a, c, now, rfl, hc, wf, hlen, fun H1 p ts k1 hts => ?_⟩
  have sm := all_small wf
  -- the side
  refine ⟨_, rfl, p, rfl, ⟨_, SqL.of hts.lst⟩, for_list (K := K) (a := p) (xs := ts.map V.ref) (fun i σ H' => ∃ v5 v6 : Option V, σ = [some (.ref a), some (.int (t : Int)), some (.int (z : Int)), some (.ref p), some (.int (Sf.sideAt t z (c.all.take i))), v5, v6, none, none] ∧ Same H1 H')
    ⟨none, none, rfl, Same.refl _⟩ (fun i σ H' _ ⟨_, _, _, s5⟩ => s5.seq (SqL.of hts.lst)) ?_ ?_⟩
  · rintro i y σ H' hi ⟨v5, v6, rfl, s5⟩
    obtain ⟨b0, hb0, rfl⟩ := refs_at hi
    have hts' := hts.keep (Keep.of (M := fun _ => False) s5)
    obtain ⟨f, u, b, e1, e2, e3, hf⟩ := hts'.item i b0 hb0
    have smf := sm f (List.mem_of_getElem? e2)
    have step : Sf.sideAt t z (c.all.take (i + 1)) = if f.since ≤ t then Sf.sideOf (f.here t) z else Sf.sideAt t z (c.all.take i) := by
      rw [take_succ e2]
      unfold Sf.sideAt
      rw [List.foldl_append]
      rfl
    obtain ⟨dx, q, g1, g2⟩ := id hf
    refine ⟨b0, _, rfl, SqT.of e3, rfl, _, _, rfl, _, _, rfl, rfl, ?_⟩
    refine ⟨_, rfl, b, ad.F, dx, _, _, rfl, g1, T.cF, T.Fb, fF_begin _ _ _ _, _, rfl, _, _, rfl, rfl, _, rfl, ?_⟩
    by_cases cb : f.since ≤ t
    · refine if_true_of (decide_eq_true (by omega)) ?_
      refine ⟨_, rfl, _, rfl, b, f, t, rfl, hf, smf.1, smf.2, cb, fun x hx => ?_⟩
      have s6 : Same H' (upd H' x (fr (f.here t))) := same_new hx
      refine ⟨_, rfl, x, f.here t, z, rfl, upd_same, hz, some (.ref b), some (.int (Sf.untilI u)), ?_, s5.trans s6⟩
      rw [step, if_pos cb]
      rfl
    · refine if_false_of (decide_eq_false (by omega)) ⟨some (.ref b), some (.int (Sf.untilI u)), ?_, s5⟩
      rw [step, if_neg cb]
      rfl
  · rintro σ H' ⟨v5, v6, rfl, s5⟩
    have e : (ts.map V.ref).length = c.all.length := by rw [List.length_map, hts.len]
    rw [e, List.take_length]
    have three : Sf.sideAt t z c.all = -1 ∨ Sf.sideAt t z c.all = 0 ∨ Sf.sideAt t z c.all = 1 := by
      have gen : ∀ (l : List Sg.Fade) (s0 : Int), (s0 = -1 ∨ s0 = 0 ∨ s0 = 1) → (l.foldl (fun s f => if f.since ≤ t then Sf.sideOf (f.here t) z else s) s0 = -1 ∨ l.foldl (fun s f => if f.since ≤ t then Sf.sideOf (f.here t) z else s) s0 = 0 ∨ l.foldl (fun s f => if f.since ≤ t then Sf.sideOf (f.here t) z else s) s0 = 1) := by
        intro l
        induction l with
        | nil => exact fun s0 h => h
        | cons f r ih =>
          intro s0 h
          rw [List.foldl_cons]
          refine ih _ ?_
          split
          · exact Sf.side_three _ _
          · exact h
      exact gen _ 0 (.inr (.inl rfl))
    generalize Sf.sideAt t z c.all = side at *
    -- the search
    refine ⟨_, rfl, p, rfl, ⟨_, s5.seq (SqL.of hts.lst)⟩, for_list (K := K) (a := p) (xs := ts.map V.ref) (fun i σ H' => ∃ v5 v6 v7 v8 : Option V, σ = [some (.ref a), some (.int (t : Int)), some (.int (z : Int)), some (.ref p), some (.int side), v5, v6, v7, v8] ∧ Same H1 H' ∧
        Sf.whenI side t z (Sf.withUntil c.all) = Sf.whenI side t z ((Sf.withUntil c.all).drop i))
      ⟨_, _, none, none, rfl, s5, rfl⟩ (fun i σ H' _ ⟨_, _, _, _, _, s6, _⟩ => s6.seq (SqL.of hts.lst)) ?_ ?_⟩
    · rintro i y σ H2 hi ⟨v5, v6, v7, v8, rfl, s6, hw⟩
      obtain ⟨b0, hb0, rfl⟩ := refs_at hi
      have hts' := hts.keep (Keep.of (M := fun _ => False) s6)
      obtain ⟨f, u, b, e1, e2, e3, hf⟩ := hts'.item i b0 hb0
      have smf := sm f (List.mem_of_getElem? e2)
      have hd : (Sf.withUntil c.all).drop i = (f, u) :: (Sf.withUntil c.all).drop (i + 1) := by
        obtain ⟨hlt, hv⟩ := List.getElem?_eq_some_iff.mp e1
        rw [List.drop_eq_getElem_cons hlt, hv]
      rw [hd, when_step] at hw
      obtain ⟨dx, q, g1, g2⟩ := id hf
      refine ⟨b0, _, rfl, SqT.of e3, rfl, _, _, rfl, _, _, rfl, rfl, ?_⟩
      have elow : (if (t : Int) > (f.since : Int) then (t : Int) else (f.since : Int)) = ((max f.since t : Nat) : Int) := by split <;> omega
      refine ⟨_, rfl, b, ad.F, dx, _, _, rfl, g1, T.cF, T.Fb, fF_begin _ _ _ _, _, rfl, _, _, rfl, ?_⟩
      rw [elow]
      have hlow : f.since ≤ max f.since t := by omega
      generalize max f.since t = low at *
      refine ⟨_, rfl, _, _, rfl, rfl, _, rfl, ?_⟩
      have leave : ¬ (Sf.untilI u < 0 ∨ (low : Int) < Sf.untilI u) → Sf.whenI side t z (Sf.withUntil c.all) = Sf.whenI side t z ((Sf.withUntil c.all).drop (i + 1)) := fun hn => by rw [hw, if_neg hn]
      have meat : (Sf.untilI u < 0 ∨ (low : Int) < Sf.untilI u) → ∀ m, m = Sf.meetI f low side z → ((0 ≤ m ∧ (Sf.untilI u < 0 ∨ m < Sf.untilI u)) → Sf.whenI side t z (Sf.withUntil c.all) = m) ∧ (¬ (0 ≤ m ∧ (Sf.untilI u < 0 ∨ m < Sf.untilI u)) → Sf.whenI side t z (Sf.withUntil c.all) = Sf.whenI side t z ((Sf.withUntil c.all).drop (i + 1))) := by
        rintro hy m rfl
        rw [if_pos hy] at hw
        exact ⟨fun q => by rw [hw, if_pos q], fun q => by rw [hw, if_neg q]⟩
      by_cases c1 : Sf.untilI u < 0
      · refine if_true_of (decide_eq_true c1) ?_
        have meat := meat (.inl c1)
        refine ⟨_, rfl, _, rfl, _, rfl, _, rfl, b, f, low, z, side, rfl, hf, smf.1, smf.2, hlow, hz, three, fun H3 s7 => ?_⟩
        have meat := meat _ rfl
        generalize Sf.meetI f low side z = m at meat ⊢
        refine ⟨_, rfl, _, _, rfl, rfl, _, rfl, ?_⟩
        by_cases m0 : 0 ≤ m
        · refine if_true_of (decide_eq_true m0) ?_
          refine ⟨_, rfl, _, _, rfl, rfl, _, rfl, ?_⟩
          by_cases m1 : Sf.untilI u < 0
          · refine if_true_of (decide_eq_true m1) ⟨_, rfl, ?_⟩
            have := k H3 (k1.trans (Keep.of (s6.trans s7)))
            rw [meat.1 ⟨m0, .inl m1⟩] at this
            exact this
          · refine if_false_of (decide_eq_false m1) ⟨_, rfl, _, rfl, _, _, rfl, rfl, _, rfl, ?_⟩
            by_cases m2 : m < Sf.untilI u
            · refine if_true_of (decide_eq_true m2) ⟨_, rfl, ?_⟩
              have := k H3 (k1.trans (Keep.of (s6.trans s7)))
              rw [meat.1 ⟨m0, .inr m2⟩] at this
              exact this
            · refine if_false_of (decide_eq_false m2) ?_
              exact ⟨some (.ref b), some (.int (Sf.untilI u)), some (.int (low : Int)), some (.int m), rfl, s6.trans s7, meat.2 (fun q => q.2.elim m1 m2)⟩
        · refine if_false_of (decide_eq_false m0) ?_
          refine if_false_of rfl ?_
          exact ⟨some (.ref b), some (.int (Sf.untilI u)), some (.int (low : Int)), some (.int m), rfl, s6.trans s7, meat.2 (fun q => m0 q.1)⟩
      · refine if_false_of (decide_eq_false c1) ⟨_, rfl, _, rfl, _, _, rfl, rfl, _, rfl, ?_⟩
        by_cases c2 : (low : Int) < Sf.untilI u
        · refine if_true_of (decide_eq_true (by omega)) ?_
          have meat := meat (.inr c2)
          refine ⟨_, rfl, _, rfl, _, rfl, _, rfl, b, f, low, z, side, rfl, hf, smf.1, smf.2, hlow, hz, three, fun H3 s7 => ?_⟩
          have meat := meat _ rfl
          generalize Sf.meetI f low side z = m at meat ⊢
          refine ⟨_, rfl, _, _, rfl, rfl, _, rfl, ?_⟩
          by_cases m0 : 0 ≤ m
          · refine if_true_of (decide_eq_true m0) ?_
            refine ⟨_, rfl, _, _, rfl, rfl, _, rfl, ?_⟩
            by_cases m1 : Sf.untilI u < 0
            · refine if_true_of (decide_eq_true m1) ⟨_, rfl, ?_⟩
              have := k H3 (k1.trans (Keep.of (s6.trans s7)))
              rw [meat.1 ⟨m0, .inl m1⟩] at this
              exact this
            · refine if_false_of (decide_eq_false m1) ⟨_, rfl, _, rfl, _, _, rfl, rfl, _, rfl, ?_⟩
              by_cases m2 : m < Sf.untilI u
              · refine if_true_of (decide_eq_true m2) ⟨_, rfl, ?_⟩
                have := k H3 (k1.trans (Keep.of (s6.trans s7)))
                rw [meat.1 ⟨m0, .inr m2⟩] at this
                exact this
              · refine if_false_of (decide_eq_false m2) ?_
                exact ⟨some (.ref b), some (.int (Sf.untilI u)), some (.int (low : Int)), some (.int m), rfl, s6.trans s7, meat.2 (fun q => q.2.elim m1 m2)⟩
          · refine if_false_of (decide_eq_false m0) ?_
            refine if_false_of rfl ?_
            exact ⟨some (.ref b), some (.int (Sf.untilI u)), some (.int (low : Int)), some (.int m), rfl, s6.trans s7, meat.2 (fun q => m0 q.1)⟩
        · refine if_false_of (decide_eq_false (by omega)) ?_
          exact ⟨some (.ref b), some (.int (Sf.untilI u)), some (.int (low : Int)), v8, rfl, s6, leave (fun q => q.elim c1 c2)⟩
    · rintro σ H2 ⟨v5, v6, v7, v8, rfl, s6, hw⟩
      rw [e, ← Sf.wu_length c.all, List.drop_length] at hw
      refine ⟨1, rfl, ?_⟩
      have := k H2 (k1.trans (Keep.of s6))
      rw [hw] at this
      exact this
end
end Sw

namespace Sw
open PySem PySem.Spec PyProof.Rows L2
/-! ### the stage in the heap -/
def kvs (ms : List (Nat × Nat)) : List (Key × V) := ms.map fun m => ((Sum.inl (m.1 : Int) : Key), V.int (m.2 : Int))
def CueAt (ad : Ad) (H : Hp) (a : Addr) (c : Sg.Timed) : Prop := ∃ d, CueF ad H a d c ∧ H d = some (.dK (kvs c.cue.moves))
def CuesAt (ad : Ad) (H : Hp) (L : Addr) (cues : List Sg.Timed) : Prop := ∃ qs : List Addr, H L = some (.lst (qs.map V.ref)) ∧ Each (CueAt ad H) qs cues
structure StageAt (ad : Ad) (H : Hp) (p L : Addr) (cs : List Addr) (s : Sf.St) : Prop where
  own : ∃ dx Lc, H p = some (.ins ad.S dx (fS (.ref L) (.ref Lc) (.int ((s.gone : Int) - 1)) (.int (s.now : Int)) (.bl s.leads))) ∧ H Lc = some (.lst (cs.map V.ref))
  ch : Each (ChanAt ad H) cs s.chans
  nd : cs.Nodup
def PreLe (n : Nat) (s : Sf.St) : Prop := ∀ c ∈ s.chans, c.pre.length ≤ n
section
variable {ad : Ad} {M : Addr → Prop} {H H' : Hp} {p L a : Addr} {cs : List Addr} {s : Sf.St}
theorem CueAt.keep {c : Sg.Timed} (k : Keep M H H') (h : CueAt ad H a c) : CueAt ad H' a c := by
  obtain ⟨d, h1, h2⟩ := h
  exact ⟨d, h1.keep k, k _ _ h2 (fun z => Bool.noConfusion (show false = true from z))⟩
theorem CuesAt.keep {cues : List Sg.Timed} (k : Keep M H H') (h : CuesAt ad H L cues) : CuesAt ad H' L cues := by
  obtain ⟨qs, h1, h2⟩ := h
  exact ⟨qs, lst_keep k h1, h2.imp fun b c q => q.keep k⟩
theorem StageAt.keep (k : Keep M H H') (hp : ¬ M p) (hc : ∀ b ∈ cs, ¬ M b) (h : StageAt ad H p L cs s) : StageAt ad H' p L cs s := by
  obtain ⟨⟨dx, Lc, h1, h2⟩, h3, nd⟩ := h
  refine ⟨⟨dx, Lc, k _ _ h1 (fun _ => hp), lst_keep k h2⟩, ⟨h3.1, fun i c e => ?_⟩, nd⟩
  obtain ⟨b, g1, g2⟩ := h3.2 i c e
  exact ⟨b, g1, g2.keep k (hc b (List.mem_of_getElem? g1))⟩
theorem StageAt.same (k : Same H H') (h : StageAt ad H p L cs s) : StageAt ad H' p L cs s := h.keep (M := fun _ => False) (Keep.of k) (fun z => z) (fun _ _ z => z)
theorem CuesAt.same {cues : List Sg.Timed} (k : Same H H') (h : CuesAt ad H L cues) : CuesAt ad H' L cues := h.keep (Keep.of (M := fun _ => False) k)
/-- what changes fresh things alone changes nothing -/
theorem fresh_keep {H1 H2 : Hp} (k1 : Same H H1) (hM : ∀ b, M b → H b = none) (k2 : Keep M H1 H2) : Same H H2 := fun b o h => k2 b o (k1 b o h) fun _ m => by
  rw [hM b m] at h
  cases h
/-- a list of no fades may change -/
theorem ChanAt.list {c : Sf.Chan} {D : Addr} {xs ys : List V} (h : ChanAt ad H a c) (hD : H D = some (.lst xs)) (hx : ∀ b f, V.ref b ∈ xs → ¬ FadeAt ad H b f) : ChanAt ad (upd H D (.lst ys)) a c := by
  obtain ⟨dx, L, tv, fs, h1, h2, h3, h4⟩ := h
  have no : ∀ {b : Addr} {o : HO}, H b = some o → (∀ l, o ≠ .lst l) → upd H D (.lst ys) b = some o := fun {b o} e n => by
    rw [upd_ne (fun q => by rw [q, hD] at e; exact n _ (Option.some.inj e).symm)]
    exact e
  have hL : L ≠ D := fun q => by
    subst q
    rw [h2] at hD
    have e := (HO.lst.inj (Option.some.inj hD)).symm
    have hlen : 0 < fs.length := by rw [h3.1, List.length_append]; exact Nat.succ_pos _
    have hlt : 0 < (c.pre ++ [c.cur]).length := by rw [← h3.1]; exact hlen
    obtain ⟨b, g1, g2⟩ := h3.2 0 _ (List.getElem?_eq_getElem hlt)
    refine hx b _ ?_ g2
    rw [e]
    exact List.mem_map.mpr ⟨b, List.mem_of_getElem? g1, rfl⟩
  refine ⟨dx, L, tv, fs, no h1 (fun l z => nomatch z), by rw [upd_ne hL]; exact h2, h3.imp fun b f q => ?_, ?_⟩
  · obtain ⟨dx, q, g1, g2⟩ := q
    exact ⟨dx, q, no g1 (fun l z => nomatch z), no g2 (fun l z => by cases z)⟩
  · cases hn : c.cur.next with
    | none => rw [hn] at h4; exact h4
    | some n =>
      rw [hn] at h4
      obtain ⟨p, e, dt, g⟩ := h4
      exact ⟨p, e, dt, no g (fun l z => nomatch z)⟩
/-- a channel is no fade -/
theorem chan_no_fade {c : Sf.Chan} {f : Sg.Fade} (h : ChanAt ad H a c) : ¬ FadeAt ad H a f := by
  obtain ⟨dx, L, tv, fs, h1, _⟩ := h
  rintro ⟨dx', q, g1, _⟩
  rw [h1] at g1
  have e := (HO.ins.inj (Option.some.inj g1)).2.2
  exact absurd (congrArg List.length e) (by show ¬ 2 = 4; decide)
theorem cue_no_fade {c : Sg.Timed} {f : Sg.Fade} (h : CueAt ad H a c) : ¬ FadeAt ad H a f := by
  obtain ⟨d, ⟨dx, h1⟩, _⟩ := h
  rintro ⟨dx', q, g1, _⟩
  rw [h1] at g1
  have e := (HO.ins.inj (Option.some.inj g1)).2.2
  exact absurd (congrArg List.length e) (by show ¬ 6 = 4; decide)
/-- the stage is none of its channels -/
theorem StageAt.apart (h : StageAt ad H p L cs s) : ∀ b ∈ cs, b ≠ p := fun b hb e => by
  subst e
  obtain ⟨⟨dx, Lc, h1, _⟩, h3, _⟩ := h
  obtain ⟨i, hi⟩ := List.getElem?_of_mem hb
  have hlt : i < s.chans.length := by rw [← h3.1]; exact (List.getElem?_eq_some_iff.mp hi).1
  obtain ⟨b', g1, g2⟩ := h3.2 i _ (List.getElem?_eq_getElem hlt)
  rw [hi] at g1
  cases g1
  obtain ⟨dx', L', tv, fs, g3, _⟩ := g2
  rw [h1] at g3
  have e := (HO.ins.inj (Option.some.inj g3)).2.2
  exact absurd (congrArg List.length e) (by show ¬ 5 = 2; decide)
end
/-! ### promises -/
def spStage (ad : Ad) : Sp := fun vs H Q _ => ∃ (p dx L : Addr), vs = [.ref p, .ref L] ∧ H p = some (.ins ad.S dx []) ∧
  ∀ H' cs, (∀ b o, H b = some o → b ≠ p → H' b = some o) → (∀ cues, StageAt ad H' p L cs (Sf.newSt cues)) → (∀ b ∈ cs, H b = none) → Q .non H'
def spStageCopy (ad : Ad) : Sp := fun vs H Q _ => ∃ (p L : Addr) (cs : List Addr) (s : Sf.St), vs = [.ref p] ∧ StageAt ad H p L cs s ∧ s.chans.length = 64 ∧
  ∀ H' p' cs', Same H H' → StageAt ad H' p' L cs' s.copy → H p' = none → (∀ b ∈ cs', H b = none) → Q (.ref p') H'
def spIsTold (ad : Ad) : Sp := fun vs H Q _ => ∃ (p L : Addr) (cs : List Addr) (s : Sf.St), vs = [.ref p] ∧ StageAt ad H p L cs s ∧ CuesAt ad H L s.cues ∧
  ∀ H', Keep (· = p) H H' → StageAt ad H' p L cs s.told → Q .non H'
/-- when the next cue follows, -1 where none does -/
def dueI (s : Sf.St) : Int := match s.due with
  | none => -1
  | some d => (d : Int)
def spFollowing (ad : Ad) : Sp := fun vs H Q _ => ∃ (p L : Addr) (cs : List Addr) (s : Sf.St), vs = [.ref p] ∧ StageAt ad H p L cs s ∧ CuesAt ad H L s.cues ∧ s.gone ≤ s.cues.length ∧ Q (.int (dueI s)) H
theorem scStage : FnScope ["self", "cues", "channel"] ["self", "cues"] (defScope sStage) := ⟨rfl, rfl, rfl, by decide +kernel, rfl, by decide +kernel, by decide +kernel⟩
theorem scStageCopy : FnScope ["self", "found", "channel"] ["self"] (defScope sStageCopy) := ⟨rfl, rfl, rfl, by decide +kernel, rfl, by decide +kernel, by decide +kernel⟩
theorem scIsTold : FnScope ["stage"] ["stage"] (defScope (top 28)) := ⟨rfl, rfl, rfl, by decide +kernel, rfl, by decide +kernel, by decide +kernel⟩
theorem scFollowing : FnScope ["stage"] ["stage"] (defScope (top 30)) := ⟨rfl, rfl, rfl, by decide +kernel, rfl, by decide +kernel, by decide +kernel⟩
def Gc (mg : Str → Option Value) (x : Str) (n : Int) : Prop := ∃ u, mg x = some u ∧ RelV (.int n) u
section
variable {P : Program} {w : World} {K : PySem.W.Frag} {mg : Str → Option Value} {base : Heap} {ad : Ad}
theorem ok_IsTold (D : Df K mg "is_told" (top 28)) (T : Na K ad) (ml : mg "len" = none) : Cl P w K mg base CX0 1 "is_told" (spIsTold ad) := by
  refine cl0 D scIsTold (fun _ _ _ _ _ _ us hl => match us, hl with | [_], _ => rfl) (fun vs H Q E ⟨_, _, _, _, e, _⟩ => by rw [e]; rfl) fun f cdv A outer s H vs Q E hr h => ?_
  obtain ⟨p, L, cs, st, rfl, hs, hq, k⟩ := h
  refine ⟨_, pss_one (ps_fld (pv 0) (pe_cmpR op_lt (pe_op op_add (pe_fld (pv 0) rfl) pe_int) (pe_callB call_len_seq (by rfl) ml PySem.boot_len (pa_cons (pe_fld (pv 0) rfl) pa_nil)) (nomark _)) rfl), ?_⟩
  obtain ⟨⟨dx, Lc, h1, h2⟩, h3, nd⟩ := id hs
  obtain ⟨qs, g1, g2⟩ := id hq
  refine ⟨_, rfl, p, ad.S, dx, _, _, rfl, h1, T.cS, T.Sl, fS_last _ _ _ _ _, _, _, rfl, rfl, ?_⟩
  refine ⟨_, rfl, p, ad.S, dx, _, _, rfl, h1, T.cS, T.Sc, fS_cues _ _ _ _ _, L, _, rfl, .inl (SqL.of g1), ?_⟩
  refine ⟨_, _, rfl, rfl, _, rfl, p, ad.S, dx, _, rfl, h1, T.cS, T.Sd, (by show 5 < 1000; decide), ?_⟩
  rw [fS_putLeads]
  have e : decide (((st.gone : Int) - 1) + 1 < ((qs.map V.ref).length : Int)) = st.told.leads := by
    show _ = decide (st.gone < st.cues.length)
    rw [List.length_map, g2.1]
    congr 1
    exact propext ⟨fun z => by omega, fun z => by omega⟩
  have hk : Keep (· = p) H (upd H p (.ins ad.S dx (fS (.ref L) (.ref Lc) (.int ((st.gone : Int) - 1)) (.int (st.now : Int)) (.bl st.told.leads)))) := keep_at h1 rfl rfl
  have e2 : (V.bl (decide (((st.gone : Int) - 1) + 1 < ((qs.map V.ref).length : Int)))) = .bl st.told.leads := congrArg V.bl e
  show Q .non (upd H p (.ins ad.S dx (fS (.ref L) (.ref Lc) (.int ((st.gone : Int) - 1)) (.int (st.now : Int)) (.bl (decide (((st.gone : Int) - 1) + 1 < ((qs.map V.ref).length : Int)))))))
  rw [e2]
  refine k _ hk ⟨⟨dx, Lc, upd_same, lst_keep hk h2⟩, ⟨h3.1, fun i c e => ?_⟩, nd⟩
  obtain ⟨b, q1, q2⟩ := h3.2 i c e
  exact ⟨b, q1, q2.keep hk (hs.apart b (List.mem_of_getElem? q1))⟩
theorem ok_Following (D : Df K mg "following_time" (top 30)) (T : Na K ad) (ml : mg "len" = none) : Cl P w K mg base CX0 1 "following_time" (spFollowing ad) := by
  refine cl0 D scFollowing (fun _ _ _ _ _ _ us hl => match us, hl with | [_], _ => rfl) (fun vs H Q E ⟨_, _, _, _, e, _⟩ => by rw [e]; rfl) fun f cdv A outer s H vs Q E hr h => ?_
  obtain ⟨p, L, cs, st, rfl, hs, hq, hg, k⟩ := h
  refine ⟨_, pss_cons (ps_if (PW.pt (pw_or (pt_cmpR op_lt (pe_fld (pv 0) rfl) pe_int (nomark _)) (pw_or (pt_cmpR op_ge (pe_op op_add (pe_fld (pv 0) rfl) pe_int) (pe_callB call_len_seq (by rfl) ml PySem.boot_len (pa_cons (pe_fld (pv 0) rfl) pa_nil)) (nomark _))
      (pw_or1 (pt_cmpR op_eq (pe_fld (pe_ix ix_list (pe_fld (pv 0) rfl) (pe_fld (pv 0) rfl) (fun _ _ => rfl)) rfl) pe_int (nomark _)))))) (pss_one (ps_ret (pe_un un_neg pe_int))) pss_nil)
    (pss_cons (ps_if (pt_not (pt_val (pe_fld (pv 0) rfl))) (pss_one (ps_ret (pe_un un_neg pe_int))) pss_nil)
    (pss_one (ps_ret (pe_op op_add (pe_fld (pv 0) rfl) (pe_fld (pe_ix ix_list (pe_fld (pv 0) rfl) (pe_fld (pv 0) rfl) (fun _ _ => rfl)) rfl))))), ?_⟩
  obtain ⟨⟨dx, Lc, h1, h2⟩, h3, nd⟩ := id hs
  obtain ⟨qs, g1, g2⟩ := id hq
  have none_of : (st.gone = 0 ∨ st.cues.length ≤ st.gone ∨ st.follow = 0 ∨ st.leads = false) → Q (.int (-1)) H := fun h => by
    unfold dueI Sf.St.due at k
    rw [if_pos h] at k
    exact k
  refine ⟨_, rfl, p, ad.S, dx, _, _, rfl, h1, T.cS, T.Sl, fS_last _ _ _ _ _, _, _, rfl, rfl, _, rfl, ?_⟩
  by_cases c1 : st.gone = 0
  · exact if_true_of (decide_eq_true (by omega)) ⟨1, rfl, none_of (.inl c1)⟩
  refine if_false_of (decide_eq_false (by omega)) ?_
  refine ⟨_, rfl, p, ad.S, dx, _, _, rfl, h1, T.cS, T.Sl, fS_last _ _ _ _ _, _, _, rfl, rfl, ?_⟩
  refine ⟨_, rfl, p, ad.S, dx, _, _, rfl, h1, T.cS, T.Sc, fS_cues _ _ _ _ _, L, _, rfl, .inl (SqL.of g1), _, _, rfl, rfl, _, rfl, ?_⟩
  have hlen : ((qs.map V.ref).length : Int) = (st.cues.length : Int) := by rw [List.length_map, g2.1]
  rw [hlen]
  by_cases c2 : st.cues.length ≤ st.gone
  · exact if_true_of (decide_eq_true (by omega)) ⟨1, rfl, none_of (.inr (.inl c2))⟩
  refine if_false_of (decide_eq_false (by omega)) ?_
  have hlt : st.gone - 1 < st.cues.length := by omega
  obtain ⟨b, q1, d, ⟨dq, q2⟩, q3⟩ := g2.2 (st.gone - 1) _ (List.getElem?_eq_getElem hlt)
  have ei : (st.gone : Int) - 1 = ((st.gone - 1 : Nat) : Int) := by omega
  have at_ : atI (qs.map V.ref) ((st.gone : Int) - 1) = some (.ref b) := by
    rw [ei]
    exact atI_nat (refs_get q1)
  have ef : st.follow = st.cues[st.gone - 1].follow := by
    unfold Sf.St.follow
    rw [List.getElem?_eq_getElem hlt]
  refine ⟨_, rfl, p, ad.S, dx, _, _, rfl, h1, T.cS, T.Sc, fS_cues _ _ _ _ _, _, rfl, p, ad.S, dx, _, _, rfl, h1, T.cS, T.Sl, fS_last _ _ _ _ _, L, _, _, _, rfl, rfl, SqL.of g1, at_, ?_⟩
  refine ⟨b, ad.Q, dq, _, _, rfl, q2, T.cQ, T.Qf, fQ_follow _ _ _ _ _ _, rfl, _, rfl, ?_⟩
  by_cases c3 : st.follow = 0
  · refine if_true_of ?_ ⟨1, rfl, none_of (.inr (.inr (.inl c3)))⟩
    rw [← ef, c3]
    rfl
  refine if_false_of ?_ ?_
  · rw [← ef]
    simpa using c3
  refine ⟨_, rfl, p, ad.S, dx, _, _, rfl, h1, T.cS, T.Sd, fS_leads _ _ _ _ _, _, rfl, ?_⟩
  cases c4 : st.leads with
  | false => exact ⟨1, rfl, none_of (.inr (.inr (.inr c4)))⟩
  | true =>
    refine ⟨_, rfl, p, ad.S, dx, _, _, rfl, h1, T.cS, T.Sw, fS_went _ _ _ _ _, ?_⟩
    refine ⟨_, rfl, p, ad.S, dx, _, _, rfl, h1, T.cS, T.Sc, fS_cues _ _ _ _ _, _, rfl, p, ad.S, dx, _, _, rfl, h1, T.cS, T.Sl, fS_last _ _ _ _ _, L, _, _, _, rfl, rfl, SqL.of g1, at_, ?_⟩
    refine ⟨b, ad.Q, dq, _, _, rfl, q2, T.cQ, T.Qf, fQ_follow _ _ _ _ _ _, _, _, rfl, rfl, ?_⟩
    unfold dueI Sf.St.due at k
    rw [if_neg (by rw [c4]; rintro (z | z | z | z) <;> first | omega | cases z)] at k
    rw [ef] at k
    exact k
end
end Sw

namespace Sw
open PySem PySem.Spec PyProof.Rows L2
theorem rep_succ {α : Type} (n : Nat) (x : α) : List.replicate (n + 1) x = List.replicate n x ++ [x] := by
  rw [List.replicate_succ']
section
variable {P : Program} {w : World} {K : PySem.W.Frag} {mg : Str → Option Value} {base : Heap} {ad : Ad}
theorem ok_Stage (D : Kl K mg "Stage" "Stage.__init__" ad.S sStage) (T : Na K ad) (mr : mg "range" = none) (gn : Gc mg "CHANNELS" 64) (c1 : Cl P w K mg base CX0 3 "new_channel" (spNewChannel ad)) : Mc P w K mg base 4 "Stage" ad.S (spStage ad) := by
  refine mc0 D scStage (fun _ _ _ _ _ _ us hl => match us, hl with | [_, _], _ => rfl) (fun vs H Q E ⟨_, _, _, e, _⟩ => by rw [e]; rfl) fun f cdv A outer s H vs Q E hr h => ?_
  obtain ⟨p, dx, L, rfl, hp, k⟩ := h
  refine ⟨_, pss_cons (ps_fld (pv 0) (pv 1) rfl)
    (pss_cons (ps_fld (pv 0) (pe_lc (own := [("channel", 2)]) (g := gName 2) (tt := tYes) (te := tCall (spNewChannel ad) [] E0 tNil) rfl scStage.nd (pi_range1 rfl mr (pa_cons (C8.pe_gc rfl gn) pa_nil))
        (blkOk_by (own := [("channel", 2)]) (N := ["self", "cues", "channel"]) (sc := defScope sStage) (by decide +kernel)) (fun _ _ _ _ _ => pg_name (i := 2) scStage.nd rfl (Or.inl rfl)) (fun _ _ _ _ _ => pts_nil) (fun _ _ _ _ _ => by exact (pe_c0 c1 hr))) rfl)
    (pss_cons (ps_fld (pv 0) (pe_un un_neg pe_int) rfl) (pss_cons (ps_fld (pv 0) pe_int rfl) (pss_one (ps_fld (pv 0) pe_bl rfl))))), ?_⟩
  refine ⟨_, rfl, _, rfl, p, ad.S, dx, _, rfl, hp, T.cS, T.Sc, (by show 0 < 1000; decide), ?_⟩
  generalize hH1 : upd H p (.ins ad.S dx (putF "cues" (.ref L) [])) = H1
  have e1 : H1 p = some (.ins ad.S dx (putF "cues" (.ref L) [])) := by rw [← hH1]; exact upd_same
  refine ⟨64, rfl, by decide, by decide, fun D hD => ?_⟩
  refine lc_range (lo := 0) (n := 64) (fun i H' => ∃ cs : List Addr, Same (upd H1 D (.lst [])) (upd H' D (.lst [])) ∧ H' D = some (.lst (cs.map V.ref)) ∧ Each (ChanAt ad H') cs (List.replicate i Sf.dk) ∧ cs.Nodup ∧ ∀ b ∈ cs, H1 b = none) ?_ ?_ ?_
  · exact ⟨[], by rw [upd_upd]; exact Same.refl _, upd_same, Each.nil, .nil, fun b hb => by cases hb⟩
  · rintro i H' hi ⟨cs, s1, hD', hE, nd, fr1⟩
    refine ⟨rfl, ?_⟩
    refine ⟨rfl, fun H2 x s2 nx hx => ?_⟩
    have hD2 := s2 _ _ hD'
    have hE2 : Each (ChanAt ad H2) (cs ++ [x]) (List.replicate (i + 1) Sf.dk) := by
      rw [rep_succ]
      exact Each.snoc (hE.imp fun b c q => q.same s2) hx
    have nofade : ∀ b f, V.ref b ∈ cs.map V.ref → ¬ FadeAt ad H2 b f := by
      intro b f hb
      obtain ⟨b', hb', e⟩ := List.mem_map.mp hb
      cases e
      obtain ⟨j, hj⟩ := List.getElem?_of_mem hb'
      have hlt : j < (List.replicate i Sf.dk).length := by rw [← hE.1]; exact (List.getElem?_eq_some_iff.mp hj).1
      obtain ⟨b2, q1, q2⟩ := hE.2 j _ (List.getElem?_eq_getElem hlt)
      rw [hj] at q1
      cases q1
      exact chan_no_fade (q2.same s2)
    refine ⟨_, hD2, ?_, cs ++ [x], ?_, ?_, ?_, ?_, ?_⟩
    · rw [List.length_map, hE.1, List.length_replicate]
      exact small1000 (by omega)
    · rw [upd_upd]
      refine s1.trans fun b o hb => ?_
      by_cases q : b = D
      · subst q; rw [upd_same] at hb ⊢; exact hb
      · rw [upd_ne q] at hb ⊢; exact s2 _ _ hb
    · rw [upd_same, List.map_append]
      rfl
    · exact hE2.imp fun b c q => q.list hD2 nofade
    · rw [List.nodup_append]
      refine ⟨nd, by simp, fun a ha b hb => ?_⟩
      rw [List.mem_singleton.mp hb]
      rintro rfl
      obtain ⟨j, hj⟩ := List.getElem?_of_mem ha
      have hlt : j < (List.replicate i Sf.dk).length := by rw [← hE.1]; exact (List.getElem?_eq_some_iff.mp hj).1
      obtain ⟨b2, q1, dxx, _, _, _, q2, _⟩ := hE.2 j _ (List.getElem?_eq_getElem hlt)
      rw [hj] at q1
      cases q1
      rw [nx] at q2
      cases q2
    · intro b hb
      rcases List.mem_append.mp hb with q | q
      · exact fr1 b q
      · rw [List.mem_singleton.mp q]
        cases hb1 : H1 x with
        | none => rfl
        | some o =>
          have hxD : x ≠ D := fun z => by rw [z, hD'] at nx; cases nx
          have := s1 x o (by rw [upd_ne hxD]; exact hb1)
          rw [upd_ne hxD, nx] at this
          cases this
  · rintro H2 ⟨cs, s1, hD2, hE, nd, fr1⟩
    have hpD : p ≠ D := ne_of_none e1 hD
    have e2 : H2 p = some (.ins ad.S dx (putF "cues" (.ref L) [])) := by
      have := s1 p _ (by rw [upd_ne hpD]; exact e1)
      rw [upd_ne hpD] at this
      exact this
    refine ⟨_, rfl, p, ad.S, dx, _, rfl, e2, T.cS, T.Sh, Nat.lt_of_le_of_lt (length_putF _ _ _) (by show 1 < 1000; decide), ?_⟩
    refine ⟨1, rfl, _, rfl, p, ad.S, dx, _, rfl, upd_same, T.cS, T.Sl, ?_, ?_⟩
    · refine Nat.lt_of_le_of_lt (length_putF _ _ _) ?_
      refine Nat.lt_of_le_of_lt (Nat.succ_le_succ (length_putF _ _ _)) (by show 2 < 1000; decide)
    rw [upd_upd]
    refine ⟨_, rfl, p, ad.S, dx, _, rfl, upd_same, T.cS, T.Sw, ?_, ?_⟩
    · refine Nat.lt_of_le_of_lt (length_putF _ _ _) ?_
      refine Nat.lt_of_le_of_lt (Nat.succ_le_succ (length_putF _ _ _)) ?_
      refine Nat.lt_of_le_of_lt (Nat.succ_le_succ (Nat.succ_le_succ (length_putF _ _ _))) (by show 3 < 1000; decide)
    rw [upd_upd]
    refine ⟨_, rfl, p, ad.S, dx, _, rfl, upd_same, T.cS, T.Sd, ?_, ?_⟩
    · refine Nat.lt_of_le_of_lt (length_putF _ _ _) ?_
      refine Nat.lt_of_le_of_lt (Nat.succ_le_succ (length_putF _ _ _)) ?_
      refine Nat.lt_of_le_of_lt (Nat.succ_le_succ (Nat.succ_le_succ (length_putF _ _ _))) ?_
      refine Nat.lt_of_le_of_lt (Nat.succ_le_succ (Nat.succ_le_succ (Nat.succ_le_succ (length_putF _ _ _)))) (by show 4 < 1000; decide)
    rw [upd_upd, fS_made]
    have hk : Keep (· = p) H2 (upd H2 p (.ins ad.S dx (fS (.ref L) (.ref D) (.int (-1)) (.int 0) (.bl true)))) := keep_at e2 rfl rfl
    have fresh : ∀ b ∈ cs, H b = none := fun b hb => by
      have q := fr1 b hb
      rw [← hH1] at q
      by_cases z : b = p
      · rw [z, upd_same] at q; cases q
      · rw [upd_ne z] at q; exact q
    refine k _ cs ?_ (fun cues => ⟨⟨dx, D, upd_same, lst_keep hk hD2⟩, ⟨hE.1, fun i c e => ?_⟩, nd⟩) fresh
    · intro b o hb hne
      have hb1 : H1 b = some o := by rw [← hH1, upd_ne hne]; exact hb
      have hbD : b ≠ D := ne_of_none hb1 hD
      have := s1 b o (by rw [upd_ne hbD]; exact hb1)
      rw [upd_ne hbD] at this
      rw [upd_ne hne]
      exact this
    · obtain ⟨b, q1, q2⟩ := hE.2 i c e
      refine ⟨b, q1, q2.keep hk fun z => ?_⟩
      have := fresh b (List.mem_of_getElem? q1)
      rw [z, hp] at this
      cases this
end
end Sw

namespace Sw
open PySem PySem.Spec PyProof.Rows L2
theorem upd_self {H : Hp} {a : Addr} {o : HO} (h : H a = some o) : upd H a o = H := funext fun b => by
  by_cases q : b = a
  · rw [q, upd_same, h]
  · rw [upd_ne q]
/-- a list of channels' refs holds no fade -/
theorem chans_no_fade {ad : Ad} {H H2 : Hp} {cs : List Addr} {l : List Sf.Chan} (h : Each (ChanAt ad H) cs l) (s : Same H H2) : ∀ b f, V.ref b ∈ cs.map V.ref → ¬ FadeAt ad H2 b f := by
  intro b f hb
  obtain ⟨b', hb', e⟩ := List.mem_map.mp hb
  cases e
  obtain ⟨j, hj⟩ := List.getElem?_of_mem hb'
  have hlt : j < l.length := by rw [← h.1]; exact (List.getElem?_eq_some_iff.mp hj).1
  obtain ⟨b2, q1, q2⟩ := h.2 j _ (List.getElem?_eq_getElem hlt)
  rw [hj] at q1
  cases q1
  exact chan_no_fade (q2.same s)
theorem chans_some {ad : Ad} {H : Hp} {cs : List Addr} {l : List Sf.Chan} (h : Each (ChanAt ad H) cs l) : ∀ b ∈ cs, H b ≠ none := by
  intro b hb
  obtain ⟨j, hj⟩ := List.getElem?_of_mem hb
  have hlt : j < l.length := by rw [← h.1]; exact (List.getElem?_eq_some_iff.mp hj).1
  obtain ⟨b2, q1, dxx, _, _, _, q2, _⟩ := h.2 j _ (List.getElem?_eq_getElem hlt)
  rw [hj] at q1
  cases q1
  rw [q2]
  exact fun z => nomatch z
section
variable {P : Program} {w : World} {K : PySem.W.Frag} {mg : Str → Option Value} {base : Heap} {ad : Ad}
theorem ok_StageCopy (D : Km K ad.S "copy" "Stage.copy" sStageCopy) (T : Na K ad) (c1 : Mc P w K mg base 4 "Stage" ad.S (spStage ad)) (c2 : Me P w K mg base 3 ad.C "copy" (spChanCopy ad)) : Me P w K mg base 6 ad.S "copy" (spStageCopy ad) := by
  refine me0 T.cS D scStageCopy (fun _ _ _ _ _ _ us hl => match us, hl with | [_], _ => rfl) (fun vs H Q E ⟨_, _, _, _, e, _⟩ => by rw [e]; rfl) fun f cdv A outer s H vs Q E hr h => ?_
  obtain ⟨p, L, cs, st, rfl, hs, h64, k⟩ := h
  refine ⟨_, pss_cons (ps_set (i := 1) scStageCopy.nd rfl (Or.inl rfl) (pe_mk c1 hr (pa_cons (pe_fld (pv 0) rfl) pa_nil)))
    (pss_cons (ps_fld (pv 1) (pe_lc (own := [("channel", 2)]) (g := gName 2) (tt := tYes) (te := tMeth ad.C "copy" (spChanCopy ad) [] E0 (tVar 2) tNil) rfl scStageCopy.nd (pi_list (pe_fld (pv 0) rfl))
        (blkOk_by (own := [("channel", 2)]) (N := ["self", "found", "channel"]) (sc := defScope sStageCopy) (by decide +kernel)) (fun _ _ _ _ _ => pg_name (i := 2) scStageCopy.nd rfl (Or.inl rfl)) (fun _ _ _ _ _ => pts_nil) (fun _ _ _ _ _ => by exact (pe_me0 c2 hr (pv 2)))) rfl)
    (pss_cons (ps_fld (pv 1) (pe_fld (pv 0) rfl) rfl) (pss_cons (ps_fld (pv 1) (pe_fld (pv 0) rfl) rfl) (pss_cons (ps_fld (pv 1) (pe_fld (pv 0) rfl) rfl) (pss_one (ps_ret (pv 1))))))), ?_⟩
  obtain ⟨⟨dx, Lc, h1, h2⟩, h3, nd⟩ := id hs
  refine ⟨_, rfl, p, ad.S, dx, _, _, rfl, h1, T.cS, T.Sc, fS_cues _ _ _ _ _, ?_⟩
  intro x dy nx ny ne
  refine ⟨x, dy, L, rfl, upd_same, fun H1 cn s0 hst fr0 => ?_⟩
  have s1 : Same H H1 := fun b o hb => by
    refine s0 b o ?_ (ne_of_none hb nx)
    rw [upd_ne (ne_of_none hb nx), upd_ne (ne_of_none hb ny)]
    exact hb
  obtain ⟨⟨dz, Ln, g1, g2⟩, g3, _⟩ := hst []
  refine ⟨rfl, ?_⟩
  -- the channels' copies
  refine ⟨_, rfl, p, ad.S, dx, _, _, rfl, s1 _ _ h1, T.cS, T.Sh, fS_channels _ _ _ _ _, Lc, rfl, ⟨_, SqL.of (s1 _ _ h2)⟩, fun D hD => ?_⟩
  have hlen : cs.length = st.chans.length := h3.1
  refine lc_list (K := K) (a := Lc) (xs := cs.map V.ref) (fun i H' => ∃ c2 : List Addr, Same (upd H1 D (.lst [])) (upd H' D (.lst [])) ∧ H' D = some (.lst (c2.map V.ref)) ∧ Each (ChanAt ad H') c2 ((st.copy.chans).take i) ∧ c2.Nodup ∧ ∀ b ∈ c2, H1 b = none) ?_ ?_ ?_ ?_
  · exact ⟨[], by rw [upd_upd]; exact Same.refl _, upd_same, Each.nil, .nil, fun b hb => by cases hb⟩
  · rintro i H' _ ⟨c2, s2, _⟩
    have hne : Lc ≠ D := ne_of_none (s1 _ _ h2) hD
    have := s2 Lc _ (by rw [upd_ne hne]; exact s1 _ _ h2)
    rw [upd_ne hne] at this
    exact SqL.of this
  · rintro i y H' hi ⟨c2, s2, hD', hE, nd2, fr2⟩
    obtain ⟨a, ha, rfl⟩ := refs_at hi
    have hlt : i < st.chans.length := by rw [← hlen]; exact (List.getElem?_eq_some_iff.mp ha).1
    have hc64 : i < 64 := by rw [← h64]; exact hlt
    obtain ⟨a', q1, q2⟩ := h3.2 i _ (List.getElem?_eq_getElem hlt)
    rw [ha] at q1
    cases q1
    have q2' : ChanAt ad (upd H1 D (.lst [])) a st.chans[i] := q2.same (s1.trans (same_new hD))
    -- behind the turns before, the channel stands
    have q3 : ChanAt ad H' a st.chans[i] := by
      have t1 := q2'.same s2
      have := ChanAt.list (ys := c2.map V.ref) t1 upd_same (fun b f hb => by cases hb)
      rw [upd_upd, upd_self hD'] at this
      exact this
    refine ⟨rfl, ?_⟩
    obtain ⟨dc, Lf, tv, fs, q4, _⟩ := id q3
    refine ⟨_, rfl, a, dc, _, rfl, q4, fC_copy _ _, ?_⟩
    refine ⟨a, st.chans[i], rfl, q3, fun H2 x2 s3 nx2 hx2 => ?_⟩
    have hD2 := s3 _ _ hD'
    have et : (st.copy.chans)[i]? = some ⟨[], st.chans[i].cur⟩ := by
      show (st.chans.map fun c => (⟨[], c.cur⟩ : Sf.Chan))[i]? = _
      rw [List.getElem?_map, List.getElem?_eq_getElem hlt]
      rfl
    have hE2 : Each (ChanAt ad H2) (c2 ++ [x2]) ((st.copy.chans).take (i + 1)) := by
      rw [take_succ et]
      exact Each.snoc (hE.imp fun b c q => q.same s3) hx2
    have hx2n : x2 ∉ c2 := fun z => chans_some hE x2 z nx2
    refine ⟨_, hD2, ?_, c2 ++ [x2], ?_, ?_, ?_, ?_, ?_⟩
    · rw [List.length_map, hE.1, List.length_take]
      exact small1000 (by omega)
    · rw [upd_upd]
      refine s2.trans fun b o hb => ?_
      by_cases q : b = D
      · subst q; rw [upd_same] at hb ⊢; exact hb
      · rw [upd_ne q] at hb ⊢; exact s3 _ _ hb
    · rw [upd_same, List.map_append]
      rfl
    · exact hE2.imp fun b c q => q.list hD2 (chans_no_fade hE s3)
    · rw [List.nodup_append]
      refine ⟨nd2, by simp, fun a ha b hb => ?_⟩
      rw [List.mem_singleton.mp hb]
      rintro rfl
      exact hx2n ha
    · intro b hb
      rcases List.mem_append.mp hb with q | q
      · exact fr2 b q
      · rw [List.mem_singleton.mp q]
        cases hb1 : H1 x2 with
        | none => rfl
        | some o =>
          have hxD : x2 ≠ D := fun z => by rw [z, hD'] at nx2; cases nx2
          have := s2 x2 o (by rw [upd_ne hxD]; exact hb1)
          rw [upd_ne hxD, nx2] at this
          cases this
  · rintro H2 ⟨c2, s2, hD2, hE, nd2, fr2⟩
    have ecopy : (st.copy.chans).take (cs.map V.ref).length = st.copy.chans := by
      refine List.take_of_length_le ?_
      rw [List.length_map, hlen]
      show (st.chans.map fun c => (⟨[], c.cur⟩ : Sf.Chan)).length ≤ _
      rw [List.length_map]
      exact Nat.le_refl _
    rw [ecopy] at hE
    have s12 : Same H1 H2 := fun b o hb => by
      have hbD : b ≠ D := ne_of_none hb hD
      have := s2 b o (by rw [upd_ne hbD]; exact hb)
      rw [upd_ne hbD] at this
      exact this
    have s02 := s1.trans s12
    have hxp : p ≠ x := ne_of_none h1 nx
    have e2 := s12 _ _ g1
    have p2 := s02 _ _ h1
    refine ⟨_, rfl, x, ad.S, _, _, rfl, e2, T.cS, T.Sh, (by show 5 < 1000; decide), ?_⟩
    rw [fS_putChannels]
    have pp : ∀ {o : HO}, upd H2 x o p = some (.ins ad.S dx (fS (.ref L) (.ref Lc) (.int ((st.gone : Int) - 1)) (.int (st.now : Int)) (.bl st.leads))) := fun {o} => by rw [upd_ne hxp]; exact p2
    refine ⟨_, rfl, p, ad.S, dx, _, _, rfl, pp, T.cS, T.Sl, fS_last _ _ _ _ _, _, rfl, x, ad.S, _, _, rfl, upd_same, T.cS, T.Sl, (by show 5 < 1000; decide), ?_⟩
    rw [fS_putLast, upd_upd]
    refine ⟨_, rfl, p, ad.S, dx, _, _, rfl, pp, T.cS, T.Sw, fS_went _ _ _ _ _, _, rfl, x, ad.S, _, _, rfl, upd_same, T.cS, T.Sw, (by show 5 < 1000; decide), ?_⟩
    rw [fS_putWent, upd_upd]
    refine ⟨_, rfl, p, ad.S, dx, _, _, rfl, pp, T.cS, T.Sd, fS_leads _ _ _ _ _, _, rfl, x, ad.S, _, _, rfl, upd_same, T.cS, T.Sd, (by show 5 < 1000; decide), ?_⟩
    rw [fS_putLeads, upd_upd]
    refine ⟨_, rfl, ?_⟩
    have hk : Keep (· = x) H2 (upd H2 x (.ins ad.S dz (fS (.ref L) (.ref D) (.int ((st.gone : Int) - 1)) (.int (st.now : Int)) (.bl st.leads)))) := keep_at e2 rfl rfl
    have fresh : ∀ b ∈ c2, H b = none := fun b hb => by
      have q := fr2 b hb
      cases hb0 : H b with
      | none => rfl
      | some o => rw [s1 b o hb0] at q; cases q
    refine k _ x c2 (fresh_keep (M := (· = x)) s02 (fun b e => by rw [e]; exact nx) hk) ⟨⟨dz, D, upd_same, lst_keep hk hD2⟩, ⟨hE.1, fun i c e => ?_⟩, nd2⟩ nx fresh
    obtain ⟨b, q1, q2⟩ := hE.2 i c e
    refine ⟨b, q1, q2.keep hk fun z => ?_⟩
    have hb := fr2 b (List.mem_of_getElem? q1)
    rw [z, g1] at hb
    cases hb
end
end Sw

namespace Sw
open PySem PySem.Spec PyProof.Rows L2
/-! ### a dict that is locked -/
def lk : HO → Bool
  | .frz _ _ => true
  | .dK _ => true
  | _ => false
/-- all but dicts and what is locked stands -/
def Off (H H' : Hp) : Prop := ∀ b o, H b = some o → lk o = false → H' b = some o
theorem Off.trans {H H1 H2 : Hp} (a : Off H H1) (b : Off H1 H2) : Off H H2 := fun c o h n => b c o (a c o h n) n
section
variable {ad : Ad} {M : Addr → Prop} {H H' : Hp} {a d : Addr} {u : HO} {od : Obj}
theorem off_lock (h : H d = some u) (hu : lk u = true) (v : HO) : Off H (upd H d v) := fun b o e n => by
  by_cases q : b = d
  · subst q
    rw [h] at e
    cases e
    rw [hu] at n
    cases n
  · rw [upd_ne q]; exact e
theorem keep_lock (h : H d = some u) (k : Keep M (upd H d (.frz od u)) H') : Keep M H (upd H' d u) := fun b o e n => by
  by_cases q : b = d
  · subst q
    rw [h] at e
    cases e
    exact upd_same
  · rw [upd_ne q]
    exact k b o (by rw [upd_ne q]; exact e) n
theorem FadeAt.off {f : Sg.Fade} (k : Off H H') (h : FadeAt ad H a f) : FadeAt ad H' a f := by
  obtain ⟨dx, q, h1, h2⟩ := h
  exact ⟨dx, q, k _ _ h1 rfl, k _ _ h2 rfl⟩
theorem ChanAt.off {c : Sf.Chan} (k : Off H H') (h : ChanAt ad H a c) : ChanAt ad H' a c := by
  obtain ⟨dx, L, tv, fs, h1, h2, h3, h4⟩ := h
  refine ⟨dx, L, tv, fs, k _ _ h1 rfl, k _ _ h2 rfl, h3.imp fun b f q => q.off k, ?_⟩
  cases hn : c.cur.next with
  | none => rw [hn] at h4; exact h4
  | some n =>
    rw [hn] at h4
    obtain ⟨p, e, dt, g⟩ := h4
    exact ⟨p, e, dt, k _ _ g rfl⟩
theorem CueF.off {c : Sg.Timed} (k : Off H H') (h : CueF ad H a d c) : CueF ad H' a d c := by
  obtain ⟨dx, h1⟩ := h
  exact ⟨dx, k _ _ h1 rfl⟩
end
theorem ixN_at {n j : Nat} (hj : j < n) : ixN n (j : Int) = some j := by
  unfold ixN
  rw [if_pos (by omega), if_pos (by omega), Int.toNat_natCast]
/-! ### moves -/
theorem valV_kvs : ∀ {ms : List (Nat × Nat)} {i : Nat} {m : Nat × Nat}, ms.Pairwise (fun a b => a.1 < b.1) → ms[i]? = some m → valV (kvs ms) (Sum.inl (m.1 : Int)) = some (V.int (m.2 : Int))
  | [], i, m, _, h => by simp at h
  | x :: r, 0, m, _, h => by
    have e : x = m := by simpa using h
    subst e
    unfold valV kvs
    rw [List.map_cons, List.find?_cons_of_pos (by simp)]
    rfl
  | x :: r, i + 1, m, hp, h => by
    have hr : r[i]? = some m := by simpa using h
    have hp' := List.pairwise_cons.mp hp
    have lt := hp'.1 m (List.mem_of_getElem? hr)
    have ih := valV_kvs hp'.2 hr
    unfold valV kvs at ih ⊢
    rw [List.map_cons, List.find?_cons_of_neg]
    · exact ih
    · simp only [decide_eq_true_eq]
      intro z
      have := Sum.inl.inj z
      omega
theorem kvs_get {ms : List (Nat × Nat)} {i : Nat} {k : Key} {v : V} (h : (kvs ms)[i]? = some (k, v)) : ∃ m : Nat × Nat, ms[i]? = some m ∧ k = Sum.inl (m.1 : Int) ∧ v = V.int (m.2 : Int) := by
  unfold kvs at h
  rw [List.getElem?_map] at h
  cases e : ms[i]? with
  | none => rw [e] at h; cases h
  | some m =>
    rw [e] at h
    have := Option.some.inj h
    exact ⟨m, rfl, (Prod.ext_iff.mp this).1.symm, (Prod.ext_iff.mp this).2.symm⟩
/-! ### telling, plainly -/
theorem begin_pre (c : Sf.Chan) (t : Nat) : (c.begin t).pre.length ≤ c.pre.length + 1 := by
  cases h : c.cur.next with
  | none => rw [Sf.begin_none h]; omega
  | some n =>
    by_cases q : t < n.at_
    · rw [Sf.begin_late h q]; omega
    · rw [Sf.begin_some h (by omega)]
      show (c.pre ++ [c.cur]).length ≤ _
      rw [List.length_append]
      exact Nat.le_refl _
theorem tell_pre (c : Sf.Chan) (t : Nat) (n : Sg.Coming) : (c.tell t n).pre.length ≤ c.pre.length + 2 := by
  unfold Sf.Chan.tell
  have h1 := begin_pre ((c.begin t).next n) t
  have h2 : ((c.begin t).next n).pre.length = (c.begin t).pre.length := rfl
  have h3 := begin_pre c t
  omega
theorem pre_goes {n : Nat} {s : Sf.St} (h : PreLe n s) (i t : Nat) : PreLe (n + 2) (s.goes i t) := by
  unfold Sf.St.goes
  cases s.cues[i]? with
  | none => exact fun c hc => Nat.le_trans (h c hc) (by omega)
  | some q =>
    intro c hc
    obtain ⟨x, hx, e⟩ := List.mem_map.mp hc
    have hm := h x.1 (List.mem_of_getElem? (Sf.mem_zipIdx hx))
    subst e
    unfold Sf.goStep
    split
    · omega
    · exact Nat.le_trans (tell_pre _ _ _) (by omega)
theorem pre_copy (s : Sf.St) : PreLe 0 s.copy := by
  intro c hc
  obtain ⟨x, _, e⟩ := List.mem_map.mp hc
  subst e
  exact Nat.le_refl _
/-- told by its first moves: all is in order -/
theorem fold_ok {c : Sg.Timed} (w : Sf.CueOk c) {t n : Nat} : ∀ (ms : List (Nat × Nat)) (cs : List Sf.Chan), (∀ m ∈ ms, m.2 ≤ 100) → (∀ k ∈ cs, Sf.ChWf k t ∧ k.pre.length ≤ n) →
    ∀ k ∈ Sf.goFold c t ms cs, Sf.ChWf k t ∧ k.pre.length ≤ n + 2 * ms.length
  | [], cs, _, h => fun k hk => ⟨(h k hk).1, Nat.le_trans (h k hk).2 (by omega)⟩
  | m :: r, cs, hm, h => by
    intro k hk
    have hk' : k ∈ Sf.goFold c t r (cs.modify (m.1 - 1) (fun k => k.tell t (Sf.comingOf c t m.2))) := hk
    have := fold_ok w (n := n + 2) r (cs.modify (m.1 - 1) (fun k => k.tell t (Sf.comingOf c t m.2))) (fun x hx => hm x (List.mem_cons_of_mem _ hx)) (fun k hk => ?_) k hk'
    · refine ⟨this.1, ?_⟩
      have := this.2
      rw [List.length_cons]
      omega
    · obtain ⟨j, hj⟩ := List.getElem?_of_mem hk
      rw [List.getElem?_modify] at hj
      cases e : cs[j]? with
      | none => rw [e] at hj; cases hj
      | some x =>
        rw [e] at hj
        have hx := h x (List.mem_of_getElem? e)
        by_cases q : m.1 - 1 = j
        · have hj' : x.tell t (Sf.comingOf c t m.2) = k := by simpa [q] using hj
          rw [← hj']
          refine ⟨Sf.wf_tell hx.1 (Nat.le_refl _) (by show t ≤ t + c.delay; omega) ⟨hm m (by simp), w.times.1, w.times.2.1⟩, ?_⟩
          exact Nat.le_trans (tell_pre _ _ _) (by have := hx.2; omega)
        · have hj' : x = k := by simpa [q] using hj
          rw [← hj']
          exact ⟨hx.1, by have := hx.2; omega⟩
theorem fold_snoc (c : Sg.Timed) (t : Nat) (ms : List (Nat × Nat)) (m : Nat × Nat) (cs : List Sf.Chan) : Sf.goFold c t (ms ++ [m]) cs = (Sf.goFold c t ms cs).modify (m.1 - 1) (fun k => k.tell t (Sf.comingOf c t m.2)) := by
  unfold Sf.goFold
  rw [List.foldl_append]
  rfl
/-- one of them told -/
theorem each_modify {R R' : Addr → Sf.Chan → Prop} {cs : List Addr} {l : List Sf.Chan} {i : Nat} {a : Addr} {f : Sf.Chan → Sf.Chan} (h : Each R cs l) (nd : cs.Nodup) (ha : cs[i]? = some a) (hn : ∀ c, l[i]? = some c → R' a (f c)) (hk : ∀ b c, b ≠ a → R b c → R' b c) : Each R' cs (l.modify i f) := by
  refine ⟨by rw [List.length_modify]; exact h.1, fun j c e => ?_⟩
  rw [List.getElem?_modify] at e
  cases el : l[j]? with
  | none => rw [el] at e; cases e
  | some x =>
    rw [el] at e
    obtain ⟨b, g1, g2⟩ := h.2 j x el
    by_cases q : i = j
    · subst q
      rw [ha] at g1
      cases g1
      have e' : f x = c := by simpa using e
      rw [← e']
      exact ⟨a, ha, hn x el⟩
    · have e' : x = c := by simpa [q] using e
      rw [← e']
      refine ⟨b, g1, hk b x (fun z => ?_) g2⟩
      subst z
      obtain ⟨hi, hiv⟩ := List.getElem?_eq_some_iff.mp ha
      obtain ⟨hj, hjv⟩ := List.getElem?_eq_some_iff.mp g1
      have pw := List.pairwise_iff_getElem.mp nd
      rcases Nat.lt_trichotomy i j with z | z | z
      · exact pw i j hi hj z (hiv.trans hjv.symm)
      · exact q z
      · exact pw j i hj hi z (hjv.trans hiv.symm)
/-! ### promises -/
def spLook (ad : Ad) : Sp := fun vs H Q _ => ∃ (p L : Addr) (cs : List Addr) (s : Sf.St) (i : Nat), vs = [.ref p, .int (i : Int)] ∧ StageAt ad H p L cs s ∧ CuesAt ad H L s.cues ∧ (∀ c ∈ s.cues, Sf.CueOk c) ∧
  ∀ H' l, Same H H' → H' l = some (.lst ((Sf.lookM s.cues i).map fun (n : Nat) => V.int (n : Int))) → H l = none → Q (.ref l) H'
def spGoes (ad : Ad) : Sp := fun vs H Q _ => ∃ (p L : Addr) (cs : List Addr) (s : Sf.St) (i t : Nat), vs = [.ref p, .int (i : Int), .int (t : Int)] ∧ StageAt ad H p L cs s ∧ CuesAt ad H L s.cues ∧ Sf.StWf s ∧ i < s.cues.length ∧ s.now ≤ t ∧ PreLe 700 s ∧
  ∀ H', Keep (fun b => b = p ∨ b ∈ cs) H H' → StageAt ad H' p L cs (s.goes i t) → Q .non H'
def spGoesTo (ad : Ad) : Sp := fun vs H Q _ => ∃ (p L : Addr) (cs : List Addr) (s : Sf.St) (i t : Nat), vs = [.ref p, .int (i : Int), .int (t : Int)] ∧ StageAt ad H p L cs s ∧ CuesAt ad H L s.cues ∧ Sf.StWf s ∧ i < s.cues.length ∧ s.now ≤ t ∧ PreLe 700 s ∧
  ∀ H', Keep (fun b => b = p ∨ b ∈ cs) H H' → StageAt ad H' p L cs (s.goesTo i t) → Q .non H'
theorem scLook : FnScope ["stage", "place", "found", "cue", "channel"] ["stage", "place"] (defScope (top 26)) := ⟨rfl, rfl, rfl, by decide +kernel, rfl, by decide +kernel, by decide +kernel⟩
theorem scGoes : FnScope ["stage", "place", "time", "cue", "channel"] ["stage", "place", "time"] (defScope (top 27)) := ⟨rfl, rfl, rfl, by decide +kernel, rfl, by decide +kernel, by decide +kernel⟩
theorem scGoesTo : FnScope ["stage", "place", "time", "cue", "channel", "level"] ["stage", "place", "time"] (defScope (top 29)) := ⟨rfl, rfl, rfl, by decide +kernel, rfl, by decide +kernel, by decide +kernel⟩
section
variable {P : Program} {w : World} {K : PySem.W.Frag} {mg : Str → Option Value} {base : Heap} {ad : Ad}
theorem ok_Goes (D : Df K mg "cue_goes" (top 27)) (T : Na K ad) (c1 : Cl P w K mg base CX0 6 "tell" (spTell ad)) : Cl P w K mg base CX0 7 "cue_goes" (spGoes ad) := by
  refine cl0 D scGoes (fun _ _ _ _ _ _ us hl => match us, hl with | [_, _, _], _ => rfl) (fun vs H Q E ⟨_, _, _, _, _, _, e, _⟩ => by rw [e]; rfl) fun f cdv A outer s H vs Q E hr h => ?_
  obtain ⟨p, L, cs, st, i, t, rfl, hs, hq, wf, hi, ht, hpre, k⟩ := h
  have nd5 := scGoes.nd
  refine ⟨_, pss_cons (ps_set (i := 3) nd5 rfl (Or.inl rfl) (pe_ix ix_list (pe_fld (pv 0) rfl) (pv 1) (fun _ _ => rfl)))
    (pss_cons (ps_lock (ps_for PassesOwn.never rfl (pi_keys (pe_fld (pv 3) rfl)) (pg_name (i := 4) nd5 rfl (Or.inl rfl))
      (pss_one (ps_expr (pe_c c1 hr (pa_cons (pe_ix ix_list (pe_fld (pv 0) rfl) (pe_op op_sub (pv 4) pe_int) (fun _ _ => rfl)) (pa_cons (pv 2) (pa_cons (pv 3) (pa_cons (pe_dget (hu_of hr) (pe_fld (pv 3) rfl) (pv 4) (fun _ _ => rfl)) pa_nil)))))))))
    (pss_cons (ps_fld (pv 0) (pv 1) rfl) (pss_cons (ps_fld (pv 0) (pv 2) rfl) (pss_one (ps_fld (pv 0) pe_bl rfl))))), ?_⟩
  obtain ⟨⟨dx, Lc, h1, h2⟩, h3, nd⟩ := id hs
  obtain ⟨qs, g1, g2⟩ := id hq
  obtain ⟨cu, q1, d, ⟨dq, q2⟩, q3⟩ := g2.2 i _ (List.getElem?_eq_getElem hi)
  generalize hc : st.cues[i] = c at *
  have hci : st.cues[i]? = some c := by rw [List.getElem?_eq_getElem hi, hc]
  have ok := wf.cq c (List.mem_of_getElem? hci)
  refine ⟨_, rfl, p, ad.S, dx, _, _, rfl, h1, T.cS, T.Sc, fS_cues _ _ _ _ _, _, rfl, L, _, _, _, rfl, rfl, SqL.of g1, atI_nat (refs_get q1), ?_⟩
  refine ⟨d, _, q3, trivial, fun od => ?_⟩
  generalize hHl : upd H d (.frz od (.dK (kvs c.cue.moves))) = Hl
  have offl : Off H Hl := by rw [← hHl]; exact off_lock q3 rfl _
  refine ⟨_, rfl, cu, ad.Q, dq, _, _, rfl, offl _ _ q2 rfl, T.cQ, T.Qm, fQ_moves _ _ _ _ _ _, d, od, rfl, .inl ⟨kvs c.cue.moves, by rw [← hHl]; exact upd_same, ?_⟩⟩
  have mlen : c.cue.moves.length ≤ 64 := by
    have gen : ∀ (ms : List (Nat × Nat)) (b : Nat), ms.Pairwise (fun a b => a.1 < b.1) → (∀ m ∈ ms, b < m.1 ∧ m.1 ≤ 64) → b ≤ 64 → ms.length + b ≤ 64 := by
      intro ms
      induction ms with
      | nil => intro b _ _ hb; simpa using hb
      | cons m r ih =>
        intro b hp hm hb
        have hp' := List.pairwise_cons.mp hp
        have m0 := hm m (by simp)
        have := ih m.1 hp'.2 (fun x hx => ⟨hp'.1 x hx, (hm x (List.mem_cons_of_mem _ hx)).2⟩) m0.2
        rw [List.length_cons]
        omega
    have := gen c.cue.moves 0 ok.rise (fun m hm => ⟨(ok.move m hm).1, (ok.move m hm).2.1⟩) (by omega)
    omega
  refine for_it walk_keys (fun j σ H' => ∃ v4 : Option V, σ = [some (.ref p), some (.int (i : Int)), some (.int (t : Int)), some (.ref cu), v4] ∧ Keep (fun b => b ∈ cs) Hl H' ∧ Each (ChanAt ad H') cs (Sf.goFold c t (c.cue.moves.take j) st.chans))
    ⟨none, rfl, Keep.refl _, h3.imp fun b x q => q.off offl⟩ ?_ ?_ ?_
  · rintro j σ H' _ ⟨v4, _, k1, _⟩
    exact k1 d _ (by rw [← hHl]; exact upd_same) (fun z => Bool.noConfusion (show false = true from z))
  · rintro j x σ H' H2 hj ⟨v4, rfl, k1, hE⟩ ⟨rfl, kk, vv, hkv, rfl⟩
    obtain ⟨m, hm, rfl, rfl⟩ := kvs_get hkv
    have mok := ok.move m (List.mem_of_getElem? hm)
    have hmi : m.1 - 1 < st.chans.length := by rw [wf.n64]; omega
    have hmi2 : m.1 - 1 < cs.length := by rw [h3.1]; exact hmi
    have el := Sf.goFold_length c t (c.cue.moves.take j) st.chans
    have hmi3 : m.1 - 1 < (Sf.goFold c t (c.cue.moves.take j) st.chans).length := by rw [el]; exact hmi
    obtain ⟨a, a1, a2⟩ := hE.2 (m.1 - 1) _ (List.getElem?_eq_getElem hmi3)
    have fok := fold_ok ok (n := 700) (t := t) (c.cue.moves.take j) st.chans (fun m hm => (ok.move m (List.mem_of_mem_take hm)).2.2) (fun k hk => ⟨(wf.ch k hk).mono ht, hpre k hk⟩) _ (List.getElem_mem hmi3)
    have lj : (c.cue.moves.take j).length ≤ 64 := by rw [List.length_take]; omega
    have hap : ∀ b ∈ cs, b ≠ p := hs.apart
    have hp1 : H2 p = some _ := k1 p _ (offl _ _ h1 rfl) (fun _ z => hap p z rfl)
    have hLc : H2 Lc = some (.lst (cs.map V.ref)) := lst_keep k1 (offl _ _ h2 rfl)
    have hcu := k1 cu _ (offl _ _ q2 rfl) (fun z => Bool.noConfusion (show false = true from z))
    have hd' := k1 d _ (show Hl d = some (.frz od (.dK (kvs c.cue.moves))) by rw [← hHl]; exact upd_same) (fun z => Bool.noConfusion (show false = true from z))
    have e0 : (m.1 : Int) - 1 = ((m.1 - 1 : Nat) : Int) := by omega
    have at_ : atI (cs.map V.ref) ((m.1 : Int) - 1) = some (.ref a) := by
      rw [e0]
      exact atI_nat (refs_get a1)
    refine ⟨_, rfl, p, ad.S, dx, _, _, rfl, hp1, T.cS, T.Sh, fS_channels _ _ _ _ _, ?_⟩
    refine ⟨_, rfl, _, _, rfl, rfl, Lc, _, _, _, rfl, rfl, SqL.of hLc, at_, ?_⟩
    refine ⟨_, rfl, _, rfl, _, rfl, cu, ad.Q, dq, _, _, rfl, hcu, T.cQ, T.Qm, fQ_moves _ _ _ _ _ _, ?_⟩
    refine ⟨_, rfl, d, _, rfl, .inl ⟨kvs c.cue.moves, Sum.inl (m.1 : Int), .inr ⟨od, hd'⟩, rfl, (valV_kvs ok.rise hm).symm⟩, ?_⟩
    refine ⟨a, cu, d, _, t, t, m.2, c, rfl, a2, ⟨dq, hcu⟩, fok.1, Nat.le_refl _, mok.2.2, ok.times.1, ok.times.2.1, by have := fok.2; omega, fun H3 hn k3 => ?_⟩
    have ham : a ∈ cs := List.mem_of_getElem? a1
    refine ⟨some (.int (m.1 : Int)), rfl, k1.trans (k3.mono fun b e => by rw [e]; exact ham), ?_⟩
    have ets : c.cue.moves.take (j + 1) = c.cue.moves.take j ++ [m] := take_succ hm
    rw [ets, fold_snoc]
    refine each_modify hE nd a1 (fun x hx => ?_) fun b x hb q => q.keep k3 hb
    rw [List.getElem?_eq_getElem hmi3] at hx
    cases hx
    exact hn
  · rintro σ H' ⟨v4, rfl, k1, hE⟩
    have hlen : (kvs c.cue.moves).length = c.cue.moves.length := List.length_map ..
    rw [hlen, List.take_length, Sf.goFold_eq ok] at hE
    have hdl : Hl d = some (.frz od (.dK (kvs c.cue.moves))) := by rw [← hHl]; exact upd_same
    have hd' := k1 d _ hdl (fun z => Bool.noConfusion (show false = true from z))
    refine ⟨hd', ?_⟩
    have k2 : Keep (fun b => b ∈ cs) H (upd H' d (.dK (kvs c.cue.moves))) := keep_lock q3 (by rw [hHl]; exact k1)
    have offu : Off H' (upd H' d (.dK (kvs c.cue.moves))) := off_lock hd' rfl _
    have hE2 := hE.imp fun b x q => q.off offu
    generalize upd H' d (.dK (kvs c.cue.moves)) = H2 at k2 hE2 ⊢
    have hap : ∀ b ∈ cs, b ≠ p := hs.apart
    have hp2 : H2 p = some _ := k2 p _ h1 (fun _ z => hap p z rfl)
    have hLc2 := lst_keep k2 h2
    refine ⟨_, rfl, _, rfl, p, ad.S, dx, _, rfl, hp2, T.cS, T.Sl, (by show 5 < 1000; decide), ?_⟩
    rw [fS_putLast]
    refine ⟨_, rfl, _, rfl, p, ad.S, dx, _, rfl, upd_same, T.cS, T.Sw, (by show 5 < 1000; decide), ?_⟩
    rw [fS_putWent, upd_upd]
    refine ⟨_, rfl, p, ad.S, dx, _, rfl, upd_same, T.cS, T.Sd, (by show 5 < 1000; decide), ?_⟩
    rw [fS_putLeads, upd_upd]
    have hk : Keep (· = p) H2 (upd H2 p (.ins ad.S dx (fS (.ref L) (.ref Lc) (.int (i : Int)) (.int (t : Int)) (.bl true)))) := keep_at hp2 rfl rfl
    have eg : st.goes i t = ⟨st.cues, i + 1, st.chans.zipIdx.map (Sf.goStep c t), t, true⟩ := by
      unfold Sf.St.goes
      rw [hci]
    refine k _ ((k2.mono fun b e => .inr e).trans (hk.mono fun b e => .inl e)) ?_
    rw [eg]
    refine ⟨⟨dx, Lc, ?_, lst_keep hk hLc2⟩, ⟨hE2.1, fun j x e => ?_⟩, nd⟩
    · have e9 : ((i + 1 : Nat) : Int) - 1 = (i : Int) := by omega
      show _ = some (HO.ins ad.S dx (fS (.ref L) (.ref Lc) (.int (((i + 1 : Nat) : Int) - 1)) (.int (t : Int)) (.bl true)))
      rw [e9]
      exact upd_same
    · obtain ⟨b, r1, r2⟩ := hE2.2 j x e
      exact ⟨b, r1, r2.keep hk (hap b (List.mem_of_getElem? r1))⟩
end
end Sw

namespace Sw
open PySem PySem.Spec PyProof.Rows L2
def lkV (a : Sg.Look) : List V := List.map (fun (n : Nat) => V.int (n : Int)) a
theorem upd_swap {H : Hp} {a b : Addr} {x y : HO} (h : a ≠ b) : upd (upd H a x) b y = upd (upd H b y) a x := funext fun c => by
  by_cases q : c = a
  · subst q
    rw [upd_ne h, upd_same, upd_same]
  · by_cases r : c = b
    · subst r
      rw [upd_same, upd_ne q, upd_same]
    · rw [upd_ne r, upd_ne q, upd_ne q, upd_ne r]
def onFold (ms : List (Nat × Nat)) (a : Sg.Look) : Sg.Look := ms.foldl (fun (a : Sg.Look) (m : Nat × Nat) => List.set a (m.1 - 1) m.2) a
theorem onFold_snoc (ms : List (Nat × Nat)) (m : Nat × Nat) (a : Sg.Look) : onFold (ms ++ [m]) a = List.set (onFold ms a) (m.1 - 1) m.2 := by
  unfold onFold
  rw [List.foldl_append]
  rfl
theorem onFold_length : ∀ (ms : List (Nat × Nat)) (a : Sg.Look), List.length (onFold ms a) = List.length a
  | [], _ => rfl
  | m :: r, a => by
    show List.length (onFold r (List.set a (m.1 - 1) m.2)) = _
    rw [onFold_length r, List.length_set]
theorem onFold_on (c : Sg.Cue) (a : Sg.Look) : c.on a = onFold c.moves a := rfl
def lkFold (cues : List Sg.Timed) : Sg.Look := cues.foldl (fun a c => c.cue.on a) Sg.dark
theorem lkFold_length (cues : List Sg.Timed) : List.length (lkFold cues) = 64 := by
  unfold lkFold
  have gen : ∀ (l : List Sg.Timed) (a : Sg.Look), List.length (l.foldl (fun a c => c.cue.on a) a) = List.length a := by
    intro l
    induction l with
    | nil => exact fun _ => rfl
    | cons c r ih => intro a; rw [List.foldl_cons, ih, onFold_on, onFold_length]
  rw [gen]
  rfl
section
variable {P : Program} {w : World} {K : PySem.W.Frag} {mg : Str → Option Value} {base : Heap} {ad : Ad}
theorem ok_Look (D : Df K mg "look" (top 26)) (T : Na K ad) (gn : Gc mg "CHANNELS" 64) : Cl P w K mg base CX0 1 "look" (spLook ad) := by
  refine cl0 D scLook (fun _ _ _ _ _ _ us hl => match us, hl with | [_, _], _ => rfl) (fun vs H Q E ⟨_, _, _, _, _, e, _⟩ => by rw [e]; rfl) fun f cdv A outer s H vs Q E hr h => ?_
  obtain ⟨p, L, cs, st, i, rfl, hs, hq, hok, k⟩ := h
  have nd5 := scLook.nd
  refine ⟨_, pss_cons (ps_set (i := 2) nd5 rfl (Or.inl rfl) (pe_op op_rep (pe_lst (pa_cons pe_int pa_nil)) (C8.pe_gc rfl gn)))
    (pss_cons (ps_for PassesOwn.never rfl (pi_list (pe_slice sl_list (pe_fld (pv 0) rfl) po_none (po_some (pe_op op_add (pv 1) pe_int)))) (pg_name (i := 3) nd5 rfl (Or.inl rfl))
      (pss_one (ps_lock (ps_for PassesOwn.never rfl (pi_keys (pe_fld (pv 3) rfl)) (pg_name (i := 4) nd5 rfl (Or.inl rfl))
        (pss_one (ps_asg (pe_dget (hu_of hr) (pe_fld (pv 3) rfl) (pv 4) (fun _ _ => rfl)) (pg_sub (pv 2) (pe_op op_sub (pv 4) pe_int) set_list)))))))
    (pss_one (ps_ret (pv 2)))), ?_⟩
  obtain ⟨⟨dx, Lc, h1, h2⟩, h3, nd⟩ := id hs
  obtain ⟨qs, g1, g2⟩ := id hq
  refine ⟨(by show 1 ≤ sizeLine; decide), fun q hqn => ?_⟩
  refine ⟨q, 64, _, rfl, rfl, upd_same, by decide, by decide, (by show 1 * 64 ≤ sizeLine; decide), fun l hl => ?_⟩
  have e0 : (List.replicate (64 : Int).toNat [V.int 0]).flatten = lkV Sg.dark := by rfl
  rw [e0]
  have s1 := same_new (o := HO.lst [V.int 0]) hqn
  have nl : H l = none := s1.free hl
  generalize upd H q (.lst [V.int 0]) = H1 at s1 hl ⊢
  have s2 := same_new (o := HO.lst (lkV Sg.dark)) hl
  have s02 := s1.trans s2
  refine ⟨_, rfl, p, ad.S, dx, _, _, rfl, s02 _ _ h1, T.cS, T.Sc, fS_cues _ _ _ _ _, _, rfl, _, _, rfl, rfl, _, rfl, L, _, rfl, SqL.of (s02 _ _ g1), fun p2 hp2 => ?_⟩
  have hcut : cutV (qs.map V.ref) none (some ((i : Int) + 1)) = (qs.take (i + 1)).map V.ref := by
    have := cut_to (qs.map V.ref) (i + 1)
    rw [← List.map_take] at this
    exact this
  rw [hcut]
  have s3 := same_new (o := HO.lst ((qs.take (i + 1)).map V.ref)) hp2
  refine ⟨p2, rfl, ⟨_, SqL.of upd_same⟩, ?_⟩
  have hp2l : l ≠ p2 := ne_of_none (upd_same (H := H1) (a := l)) hp2
  refine for_list (K := K) (a := p2) (xs := (qs.take (i + 1)).map V.ref) (fun j σ H' => ∃ v3 v4 : Option V, σ = [some (.ref p), some (.int (i : Int)), some (.ref l), v3, v4] ∧ Same H H' ∧ H' l = some (.lst (lkV (lkFold (st.cues.take j)))) ∧ H' p2 = some (.lst ((qs.take (i + 1)).map V.ref)))
    ⟨none, none, rfl, s02.trans s3, by rw [upd_ne hp2l]; exact upd_same, upd_same⟩ (fun j σ H' _ ⟨_, _, _, _, _, h⟩ => SqL.of h) ?_ ?_
  · rintro j y σ H' hy ⟨v3, v4, rfl, s4, hl4, hp4⟩
    rw [List.map_take, List.getElem?_take] at hy
    split at hy
    · rename_i hji
      obtain ⟨b, hb, rfl⟩ := refs_at hy
      have hlt : j < st.cues.length := by rw [← g2.1]; exact (List.getElem?_eq_some_iff.mp hb).1
      obtain ⟨b', q1, d, ⟨dq, q2⟩, q3⟩ := g2.2 j _ (List.getElem?_eq_getElem hlt)
      rw [hb] at q1
      cases q1
      generalize hc : st.cues[j] = c at *
      have hcj : st.cues[j]? = some c := by rw [List.getElem?_eq_getElem hlt, hc]
      have ok := hok c (List.mem_of_getElem? hcj)
      have hd4 := s4 _ _ q3
      refine ⟨d, _, hd4, trivial, fun od => ?_⟩
      have hld : l ≠ d := fun z => by rw [z, hd4] at hl4; cases hl4
      have hbl : b ≠ l := ne_of_none q2 nl
      have hbd : b ≠ d := fun z => by rw [z, q3] at q2; cases q2
      refine ⟨_, rfl, b, ad.Q, dq, _, _, rfl, by rw [upd_ne hbd]; exact s4 _ _ q2, T.cQ, T.Qm, fQ_moves _ _ _ _ _ _, d, od, rfl, .inl ⟨kvs c.cue.moves, upd_same, ?_⟩⟩
      refine for_it walk_keys (fun n σ H2 => ∃ v4 : Option V, σ = [some (.ref p), some (.int (i : Int)), some (.ref l), some (.ref b), v4] ∧ H2 = upd (upd H' d (.frz od (.dK (kvs c.cue.moves)))) l (.lst (lkV (onFold (c.cue.moves.take n) (lkFold (st.cues.take j))))))
        ⟨v4, rfl, ?_⟩ ?_ ?_ ?_
      · exact (upd_self (by rw [upd_ne hld]; exact hl4)).symm
      · rintro n σ H2 _ ⟨_, _, rfl⟩
        rw [upd_ne hld.symm]
        exact upd_same
      · rintro n x σ H2 H3 hn ⟨v4, rfl, rfl⟩ ⟨rfl, kk, vv, hkv, rfl⟩
        obtain ⟨m, hm, rfl, rfl⟩ := kvs_get hkv
        have mok := ok.move m (List.mem_of_getElem? hm)
        refine ⟨_, rfl, b, ad.Q, dq, _, _, rfl, by rw [upd_ne hbl, upd_ne hbd]; exact s4 _ _ q2, T.cQ, T.Qm, fQ_moves _ _ _ _ _ _, ?_⟩
        refine ⟨_, rfl, d, _, rfl, .inl ⟨kvs c.cue.moves, Sum.inl (m.1 : Int), .inr ⟨od, by rw [upd_ne hld.symm]; exact upd_same⟩, rfl, (valV_kvs ok.rise hm).symm⟩, ?_⟩
        have e1 : (m.1 : Int) - 1 = ((m.1 - 1 : Nat) : Int) := by omega
        have hlen : (lkV (onFold (c.cue.moves.take n) (lkFold (st.cues.take j)))).length = 64 := by
          unfold lkV
          rw [List.length_map, onFold_length, lkFold_length]
        refine ⟨_, rfl, _, rfl, _, _, rfl, rfl, l, _, _, m.1 - 1, rfl, rfl, upd_same, ?_, ?_⟩
        · rw [e1, hlen]
          exact ixN_at (by omega)
        · refine ⟨some (.int (m.1 : Int)), rfl, ?_⟩
          rw [upd_upd, take_succ hm, onFold_snoc]
          unfold lkV
          rw [List.map_set]
      · rintro σ H2 ⟨v4, rfl, rfl⟩
        refine ⟨by rw [upd_ne hld.symm]; exact upd_same, some (.ref b), v4, rfl, ?_, ?_, ?_⟩
        · intro a o ha
          by_cases z1 : a = d
          · subst z1
            rw [q3] at ha
            cases ha
            exact upd_same
          · rw [upd_ne z1, upd_ne (ne_of_none ha nl), upd_ne z1]
            exact s4 _ _ ha
        · have hlen : (kvs c.cue.moves).length = c.cue.moves.length := List.length_map ..
          rw [upd_ne hld, upd_same, hlen, List.take_length, take_succ hcj]
          unfold lkFold
          rw [List.foldl_append]
          rfl
        · have z1 : p2 ≠ d := fun z => by rw [z, hd4] at hp4; cases hp4
          rw [upd_ne z1, upd_ne hp2l.symm, upd_ne z1]
          exact hp4
    · cases hy
  · rintro σ H' ⟨v3, v4, rfl, s4, hl4, hp4⟩
    refine ⟨_, rfl, k H' l s4 ?_ nl⟩
    rw [hl4]
    have e : st.cues.take ((qs.take (i + 1)).map V.ref).length = st.cues.take (i + 1) := by
      rw [List.length_map, List.length_take, g2.1, ← List.take_eq_take_min]
    rw [e]
    rfl
end
end Sw

namespace Sw
open PySem PySem.Spec PyProof.Rows L2
theorem pre_goesTo {n : Nat} {s : Sf.St} (h : PreLe n s) (i t : Nat) : PreLe (n + 2) (s.goesTo i t) := by
  unfold Sf.St.goesTo
  cases s.cues[i]? with
  | none => exact fun c hc => Nat.le_trans (h c hc) (by omega)
  | some q =>
    intro c hc
    obtain ⟨x, hx, e⟩ := List.mem_map.mp hc
    have hm := h x.1 (List.mem_of_getElem? (Sf.mem_zipIdx hx))
    subst e
    exact Nat.le_trans (tell_pre _ _ _) (by omega)
section
variable {P : Program} {w : World} {K : PySem.W.Frag} {mg : Str → Option Value} {base : Heap} {ad : Ad}
theorem ok_GoesTo (D : Df K mg "gone_to" (top 29)) (T : Na K ad) (mz : mg "zip" = none) (c1 : Cl P w K mg base CX0 6 "tell" (spTell ad)) (c2 : Cl P w K mg base CX0 1 "look" (spLook ad)) : Cl P w K mg base CX0 7 "gone_to" (spGoesTo ad) := by
  refine cl0 D scGoesTo (fun _ _ _ _ _ _ us hl => match us, hl with | [_, _, _], _ => rfl) (fun vs H Q E ⟨_, _, _, _, _, _, e, _⟩ => by rw [e]; rfl) fun f cdv A outer s H vs Q E hr h => ?_
  obtain ⟨p, L, cs, st, i, t, rfl, hs, hq, wf, hi, ht, hpre, k⟩ := h
  have nd5 := scGoesTo.nd
  refine ⟨_, pss_cons (ps_set (i := 3) nd5 rfl (Or.inl rfl) (pe_ix ix_list (pe_fld (pv 0) rfl) (pv 1) (fun _ _ => rfl)))
    (pss_cons (ps_for PassesOwn.never rfl (pi_zip (by rfl) mz (pa_cons (pe_fld (pv 0) rfl) (pa_cons (pe_c c2 hr (pa_cons (pv 0) (pa_cons (pv 1) pa_nil))) pa_nil)))
        (pg_tup rfl (pgs_cons (pg_name (i := 4) nd5 rfl (Or.inl rfl)) (pgs_cons (pg_name (i := 5) nd5 rfl (Or.inl rfl)) pgs_nil)))
      (pss_one (ps_expr (pe_c c1 hr (pa_cons (pv 4) (pa_cons (pv 2) (pa_cons (pv 3) (pa_cons (pv 5) pa_nil))))))))
    (pss_cons (ps_fld (pv 0) (pv 1) rfl) (pss_one (ps_fld (pv 0) (pv 2) rfl)))), ?_⟩
  obtain ⟨⟨dx, Lc, h1, h2⟩, h3, nd⟩ := id hs
  obtain ⟨qs, g1, g2⟩ := id hq
  obtain ⟨cu, q1, d, ⟨dq, q2⟩, q3⟩ := g2.2 i _ (List.getElem?_eq_getElem hi)
  generalize hc : st.cues[i] = c at *
  have hci : st.cues[i]? = some c := by rw [List.getElem?_eq_getElem hi, hc]
  have ok := wf.cq c (List.mem_of_getElem? hci)
  have lok := Sf.lookM_ok wf.cq i
  have hap : ∀ b ∈ cs, b ≠ p := hs.apart
  refine ⟨_, rfl, p, ad.S, dx, _, _, rfl, h1, T.cS, T.Sc, fS_cues _ _ _ _ _, _, rfl, L, _, _, _, rfl, rfl, SqL.of g1, atI_nat (refs_get q1), ?_⟩
  refine ⟨_, rfl, p, ad.S, dx, _, _, rfl, h1, T.cS, T.Sh, fS_channels _ _ _ _ _, _, rfl, _, rfl, ?_⟩
  refine ⟨p, L, cs, st, i, rfl, hs, hq, wf.cq, fun H1 l s1 hl nl => ?_⟩
  refine ⟨Lc, l, _, _, rfl, SqL.of (s1 _ _ h2), SqL.of hl, ?_⟩
  have hlen : (cs.map V.ref).length = ((Sf.lookM st.cues i).map fun (n : Nat) => V.int (n : Int)).length := by
    rw [List.length_map, List.length_map, h3.1, wf.n64, lok.1]
  have h3' : Each (ChanAt ad H1) cs st.chans := h3.imp fun b x q => q.same s1
  refine RZ.for_zipL hlen (fun j σ H' => ∃ v4 v5 : Option V, σ = [some (.ref p), some (.int (i : Int)), some (.int (t : Int)), some (.ref cu), v4, v5] ∧ Keep (fun b => b ∈ cs) H1 H' ∧
      ∀ n x, st.chans[n]? = some x → ∃ a, cs[n]? = some a ∧ ChanAt ad H' a (if n < j then Sf.toStep c (Sf.lookM st.cues i) t (x, n) else x))
    ⟨none, none, rfl, Keep.refl _, fun n x e => ?_⟩ ?_ ?_ ?_
  · obtain ⟨a, a1, a2⟩ := h3'.2 n x e
    exact ⟨a, a1, by rw [if_neg (by omega)]; exact a2⟩
  · rintro j σ H' ⟨v4, v5, _, k1, _⟩
    exact ⟨SqL.of (lst_keep k1 (s1 _ _ h2)), SqL.of (lst_keep k1 hl)⟩
  · rintro j x y T0 σ H' hx hy ⟨v4, v5, rfl, k1, hE⟩ hT
    obtain ⟨a, ha, rfl⟩ := refs_at hx
    rw [List.getElem?_map] at hy
    have hj : j < st.chans.length := by rw [← h3.1]; exact (List.getElem?_eq_some_iff.mp ha).1
    have hjl : j < (Sf.lookM st.cues i).length := by
      cases e : (Sf.lookM st.cues i)[j]? with
      | none => rw [e] at hy; cases hy
      | some n => exact (List.getElem?_eq_some_iff.mp e).1
    have ey : y = V.int (((Sf.lookM st.cues i).getD j 0 : Nat) : Int) := by
      rw [List.getD_eq_getElem?_getD, List.getElem?_eq_getElem hjl]
      rw [List.getElem?_eq_getElem hjl] at hy
      exact (Option.some.inj hy).symm
    subst ey
    obtain ⟨a', a1, a2⟩ := hE j _ (List.getElem?_eq_getElem hj)
    rw [ha] at a1
    cases a1
    rw [if_neg (by omega)] at a2
    have s4 := same_new (o := HO.tup [V.ref a, V.int (((Sf.lookM st.cues i).getD j 0 : Nat) : Int)]) hT
    have hcu := s4 _ _ (k1 cu _ (s1 _ _ q2) (fun z => Bool.noConfusion (show false = true from z)))
    refine ⟨T0, _, rfl, SqT.of upd_same, rfl, _, _, rfl, _, _, rfl, rfl, ?_⟩
    refine ⟨_, rfl, _, rfl, _, rfl, _, rfl, ?_⟩
    have hm := List.getElem_mem hj
    refine ⟨a, cu, d, _, t, st.now, _, c, rfl, a2.same s4, ⟨dq, hcu⟩, wf.ch _ hm, ht, Sf.getD_le lok.2 j, ok.times.1, ok.times.2.1, Nat.le_trans (hpre _ hm) (by omega), fun H3 hn k3 => ?_⟩
    have ham : a ∈ cs := List.mem_of_getElem? ha
    refine ⟨some (.ref a), some (.int (((Sf.lookM st.cues i).getD j 0 : Nat) : Int)), rfl, (k1.trans (Keep.of s4)).trans (k3.mono fun b e => by rw [e]; exact ham), fun n x e => ?_⟩
    by_cases q : n = j
    · subst q
      rw [List.getElem?_eq_getElem hj] at e
      cases e
      refine ⟨a, ha, ?_⟩
      rw [if_pos (by omega)]
      exact hn
    · obtain ⟨b, b1, b2⟩ := hE n x e
      have hba : b ≠ a := fun z => by
        subst z
        obtain ⟨hi1, hiv⟩ := List.getElem?_eq_some_iff.mp ha
        obtain ⟨hj1, hjv⟩ := List.getElem?_eq_some_iff.mp b1
        have pw := List.pairwise_iff_getElem.mp nd
        rcases Nat.lt_trichotomy n j with z | z | z
        · exact pw n j hj1 hi1 z (hjv.trans hiv.symm)
        · exact q z
        · exact pw j n hi1 hj1 z (hiv.trans hjv.symm)
      have e9 : (if n < j then Sf.toStep c (Sf.lookM st.cues i) t (x, n) else x) = (if n < j + 1 then Sf.toStep c (Sf.lookM st.cues i) t (x, n) else x) := by
        by_cases r : n < j
        · rw [if_pos r, if_pos (by omega)]
        · rw [if_neg r, if_neg (by omega)]
      rw [e9] at b2
      exact ⟨b, b1, (b2.same s4).keep k3 hba⟩
  · rintro σ H2 ⟨v4, v5, rfl, k1, hE⟩
    have k2 : Keep (fun b => b ∈ cs) H H2 := (Keep.of s1).trans k1
    have hp2 : H2 p = some _ := k2 p _ h1 (fun _ z => hap p z rfl)
    have hLc2 := lst_keep k2 h2
    refine ⟨_, rfl, _, rfl, p, ad.S, dx, _, rfl, hp2, T.cS, T.Sl, (by show 5 < 1000; decide), ?_⟩
    rw [fS_putLast]
    refine ⟨_, rfl, _, rfl, p, ad.S, dx, _, rfl, upd_same, T.cS, T.Sw, (by show 5 < 1000; decide), ?_⟩
    rw [fS_putWent, upd_upd]
    have hk : Keep (· = p) H2 (upd H2 p (.ins ad.S dx (fS (.ref L) (.ref Lc) (.int (i : Int)) (.int (t : Int)) (.bl st.leads)))) := keep_at hp2 rfl rfl
    refine k _ ((k2.mono fun b e => .inr e).trans (hk.mono fun b e => .inl e)) ?_
    rw [Sf.goesTo_eq wf hci]
    refine ⟨⟨dx, Lc, ?_, lst_keep hk hLc2⟩, ⟨?_, fun j x e => ?_⟩, nd⟩
    · have e9 : ((i + 1 : Nat) : Int) - 1 = (i : Int) := by omega
      show _ = some (HO.ins ad.S dx (fS (.ref L) (.ref Lc) (.int (((i + 1 : Nat) : Int) - 1)) (.int (t : Int)) (.bl st.leads)))
      rw [e9]
      exact upd_same
    · show cs.length = (st.chans.zipIdx.map (Sf.toStep c (Sf.lookM st.cues i) t)).length
      rw [List.length_map, List.length_zipIdx]
      exact h3.1
    · have e' : (st.chans.zipIdx.map (Sf.toStep c (Sf.lookM st.cues i) t))[j]? = some x := e
      rw [List.getElem?_map, List.getElem?_zipIdx] at e'
      cases hx : st.chans[j]? with
      | none => rw [hx] at e'; cases e'
      | some y =>
        rw [hx] at e'
        have e2 : Sf.toStep c (Sf.lookM st.cues i) t (y, 0 + j) = x := Option.some.inj e'
        rw [Nat.zero_add] at e2
        obtain ⟨b, r1, r2⟩ := hE j y hx
        have hjl : j < (cs.map V.ref).length := by
          rw [List.length_map]
          exact (List.getElem?_eq_some_iff.mp r1).1
        rw [if_pos hjl, e2] at r2
        exact ⟨b, r1, r2.keep hk (hap b (List.mem_of_getElem? r1))⟩
end
end Sw

namespace Sw
open PySem PySem.Spec PyProof.Rows L2
def spFollowTo (ad : Ad) : Sp := fun vs H Q _ => ∃ (p L : Addr) (cs : List Addr) (s : Sf.St) (t : Nat), vs = [.ref p, .int (t : Int)] ∧ StageAt ad H p L cs s ∧ CuesAt ad H L s.cues ∧ Sf.StWf s ∧ PreLe 600 s ∧
  ∀ H', Keep (fun b => b = p ∨ b ∈ cs) H H' → StageAt ad H' p L cs (s.passed (s.cues.length + 1) t) → PreLe 660 (s.passed (s.cues.length + 1) t) → Q .non H'
def spByTime (ad : Ad) : Sp := fun vs H Q _ => ∃ (p L : Addr) (cs : List Addr) (s : Sf.St) (t : Nat), vs = [.ref p, .int (t : Int)] ∧ StageAt ad H p L cs s ∧ CuesAt ad H L s.cues ∧ Sf.StWf s ∧
  ∀ H' p' cs', Same H H' → StageAt ad H' p' L cs' (s.upTo t) → PreLe 660 (s.upTo t) → H p' = none → (∀ b ∈ cs', H b = none) → Q (.ref p') H'
def spFollowAll (ad : Ad) : Sp := fun vs H Q _ => ∃ (p L : Addr) (cs : List Addr) (s : Sf.St), vs = [.ref p] ∧ StageAt ad H p L cs s ∧ CuesAt ad H L s.cues ∧ Sf.StWf s ∧
  ∀ H' p' cs', Same H H' → StageAt ad H' p' L cs' s.final → PreLe 660 s.final → H p' = none → (∀ b ∈ cs', H b = none) → Q (.ref p') H'
def spStill (ad : Ad) : Sp := fun vs H Q _ => ∃ (p L : Addr) (cs : List Addr) (s : Sf.St), vs = [.ref p] ∧ StageAt ad H p L cs s ∧ CuesAt ad H L s.cues ∧ Sf.StWf s ∧ ∀ H', Same H H' → Q (.int (s.stillM : Int)) H'
theorem scFollowTo : FnScope ["stage", "time", "following"] ["stage", "time"] (defScope (top 31)) := ⟨rfl, rfl, rfl, by decide +kernel, rfl, by decide +kernel, by decide +kernel⟩
theorem scByTime : FnScope ["stage", "time", "found"] ["stage", "time"] (defScope (top 32)) := ⟨rfl, rfl, rfl, by decide +kernel, rfl, by decide +kernel, by decide +kernel⟩
theorem scFollowAll : FnScope ["stage", "found", "following"] ["stage"] (defScope (top 33)) := ⟨rfl, rfl, rfl, by decide +kernel, rfl, by decide +kernel, by decide +kernel⟩
theorem scStill : FnScope ["stage", "found", "channel"] ["stage"] (defScope (top 34)) := ⟨rfl, rfl, rfl, by decide +kernel, rfl, by decide +kernel, by decide +kernel⟩
theorem passed_none {f : Nat} {s : Sf.St} {t : Nat} (h : s.due = none) : s.passed f t = s := by
  cases f with
  | zero => rfl
  | succ f => unfold Sf.St.passed; rw [h]
theorem passed_late {f : Nat} {s : Sf.St} {t d : Nat} (h : s.due = some d) (hd : t < d) : s.passed f t = s := by
  cases f with
  | zero => rfl
  | succ f => unfold Sf.St.passed; rw [h]; exact if_pos hd
theorem passed_go {f : Nat} {s : Sf.St} {t d : Nat} (h : s.due = some d) (hd : d ≤ t) : s.passed (f + 1) t = (s.goes s.gone d).passed f t := by
  rw [Sf.St.passed, h]
  exact if_neg (by omega)
theorem ended_none {f : Nat} {s : Sf.St} (h : s.due = none) : s.ended f = s := by
  cases f with
  | zero => rfl
  | succ f => unfold Sf.St.ended; rw [h]
theorem ended_go {f : Nat} {s : Sf.St} {d : Nat} (h : s.due = some d) : s.ended (f + 1) = (s.goes s.gone d).ended f := by
  rw [Sf.St.ended, h]
theorem PreLe.mono {a b : Nat} {s : Sf.St} (h : PreLe a s) (hab : a ≤ b) : PreLe b s := fun c hc => Nat.le_trans (h c hc) hab
section
variable {P : Program} {w : World} {K : PySem.W.Frag} {mg : Str → Option Value} {base : Heap} {ad : Ad}
theorem ok_FollowTo (D : Df K mg "follow_to" (top 31)) (T : Na K ad) (c1 : Cl P w K mg base CX0 1 "following_time" (spFollowing ad)) (c2 : Cl P w K mg base CX0 7 "cue_goes" (spGoes ad)) : Cl P w K mg base CX0 8 "follow_to" (spFollowTo ad) := by
  refine cl0 D scFollowTo (fun _ _ _ _ _ _ us hl => match us, hl with | [_, _], _ => rfl) (fun vs H Q E ⟨_, _, _, _, _, e, _⟩ => by rw [e]; rfl) fun f cdv A outer s H vs Q E hr h => ?_
  obtain ⟨p, L, cs, st, t, rfl, hs, hq, wf, hpre, k⟩ := h
  have nd := scFollowTo.nd
  refine ⟨_, pss_cons (ps_set (i := 2) nd rfl (Or.inl rfl) (pe_c c1 hr (pa_cons (pv 0) pa_nil)))
    (pss_one (ps_while PassesOwn.never (PW.pt (pw_and (pt_cmpR op_le pe_int (pv 2) (nomark _)) (pw_and1 (pt_cmpR op_le (pv 2) (pv 1) (nomark _)))))
      (pss_cons (ps_expr (pe_c c2 hr (pa_cons (pv 0) (pa_cons (pe_op op_add (pe_fld (pv 0) rfl) pe_int) (pa_cons (pv 2) pa_nil)))))
        (pss_one (ps_set (i := 2) nd rfl (Or.inl rfl) (pe_c c1 hr (pa_cons (pv 0) pa_nil))))))), ?_⟩
  refine ⟨_, rfl, p, L, cs, st, rfl, hs, hq, wf.gn, ?_⟩
  refine ⟨fun m σ H' => ∃ s' : Sf.St, σ = [some (.ref p), some (.int (t : Int)), some (.int (dueI s'))] ∧ Keep (fun b => b = p ∨ b ∈ cs) H H' ∧ StageAt ad H' p L cs s' ∧ Sf.StWf s' ∧ s'.cues = st.cues ∧ st.cues.length < m + s'.gone ∧
      m ≤ 25 ∧ PreLe (600 + 2 * (25 - m)) s' ∧ s'.passed m t = st.passed (st.cues.length + 1) t, ⟨st.cues.length + 1, st, rfl, Keep.refl _, hs, wf, rfl, by omega, by have := wf.nc; omega, hpre.mono (by omega), rfl⟩, ?_⟩
  rintro m σ H1 ⟨s', rfl, k1, hs1, wf1, hc1, hf, hm, hp1, he⟩
  have hq1 : CuesAt ad H1 L s'.cues := by rw [hc1]; exact hq.keep k1
  have leave : s'.passed m t = s' → Q .non H1 := fun e => by
    refine k H1 k1 ?_ ?_
    · rw [← he, e]; exact hs1
    · rw [← he, e]; exact hp1.mono (by omega)
  cases hd : s'.due with
  | none =>
    have ed : dueI s' = -1 := by unfold dueI; rw [hd]
    rw [ed]
    refine ⟨_, rfl, _, _, rfl, rfl, _, rfl, ?_⟩
    exact if_false_of (by decide) (if_false_of rfl (leave (passed_none hd)))
  | some d =>
    have ed : dueI s' = (d : Int) := by unfold dueI; rw [hd]
    rw [ed]
    have dg := Sf.due_ge hd
    refine ⟨_, rfl, _, _, rfl, rfl, _, rfl, ?_⟩
    refine if_true_of (decide_eq_true (by omega)) ?_
    refine ⟨_, rfl, _, rfl, _, _, rfl, rfl, _, rfl, ?_⟩
    by_cases hdt : d ≤ t
    · have hm1 : 0 < m := by rw [hc1] at dg; omega
      obtain ⟨m0, rfl⟩ : ∃ m0, m = m0 + 1 := ⟨m - 1, by omega⟩
      refine if_true_of (decide_eq_true (by omega)) ?_
      refine ⟨fun σ' H' => ∃ s2 : Sf.St, σ' = [some (.ref p), some (.int (t : Int)), some (.int (dueI s2))] ∧ Keep (fun b => b = p ∨ b ∈ cs) H H' ∧ StageAt ad H' p L cs s2 ∧ Sf.StWf s2 ∧ s2.cues = st.cues ∧ st.cues.length < m0 + s2.gone ∧
        m0 ≤ 25 ∧ PreLe (600 + 2 * (25 - m0)) s2 ∧ s2.passed m0 t = st.passed (st.cues.length + 1) t, fun σ' H' h => ⟨m0, by omega, h⟩, ?_⟩
      obtain ⟨⟨dx, Lc, h1, h2⟩, _, _⟩ := id hs1
      refine ⟨_, rfl, _, rfl, p, ad.S, dx, _, _, rfl, h1, T.cS, T.Sl, fS_last _ _ _ _ _, _, _, rfl, rfl, _, rfl, ?_⟩
      have e9 : (s'.gone : Int) - 1 + 1 = (s'.gone : Int) := by omega
      refine ⟨p, L, cs, s', s'.gone, d, congrArg (fun (z : Int) => [V.ref p, V.int z, V.int (d : Int)]) e9, hs1, hq1, wf1, dg.2.1, by omega, hp1.mono (by omega), fun H2 k2 hs2 => ?_⟩
      have gg := Sf.goes_gone (s := s') (t := d) dg.2.1
      have wf2 := Sf.wf_goes wf1 dg.2.1 (t := d) (by omega)
      refine ⟨_, rfl, p, L, cs, _, rfl, hs2, by rw [Sf.goes_cues]; exact hq1.keep k2, wf2.gn, ?_⟩
      refine ⟨s'.goes s'.gone d, rfl, k1.trans k2, hs2, wf2, by rw [Sf.goes_cues, hc1], by rw [gg.1]; omega, by omega, (pre_goes hp1 _ _).mono (by omega), ?_⟩
      rw [← he, passed_go hd hdt]
    · refine if_false_of (decide_eq_false (by omega)) ?_
      exact leave (passed_late hd (by omega))
theorem ok_ByTime (D : Df K mg "by_time" (top 32)) (T : Na K ad) (c1 : Me P w K mg base 6 ad.S "copy" (spStageCopy ad)) (c2 : Cl P w K mg base CX0 8 "follow_to" (spFollowTo ad)) : Cl P w K mg base CX0 9 "by_time" (spByTime ad) := by
  refine cl0 D scByTime (fun _ _ _ _ _ _ us hl => match us, hl with | [_, _], _ => rfl) (fun vs H Q E ⟨_, _, _, _, _, e, _⟩ => by rw [e]; rfl) fun f cdv A outer s H vs Q E hr h => ?_
  obtain ⟨p, L, cs, st, t, rfl, hs, hq, wf, k⟩ := h
  have nd := scByTime.nd
  refine ⟨_, pss_cons (ps_set (i := 2) nd rfl (Or.inl rfl) (pe_me0 c1 hr (pv 0)))
    (pss_cons (ps_expr (pe_c c2 hr (pa_cons (pv 2) (pa_cons (pv 1) pa_nil)))) (pss_one (ps_ret (pv 2)))), ?_⟩
  obtain ⟨⟨dx, Lc, h1, h2⟩, _, _⟩ := id hs
  refine ⟨_, rfl, p, dx, _, rfl, h1, fS_copy _ _ _ _ _, ?_⟩
  refine ⟨p, L, cs, st, rfl, hs, wf.n64, fun H1 p' cs' s1 hs1 np nc => ?_⟩
  refine ⟨_, rfl, _, rfl, p', L, cs', st.copy, t, rfl, hs1, hq.same s1, Sf.wf_copy wf, (pre_copy st).mono (by omega), fun H2 k2 hs2 hp2 => ?_⟩
  refine ⟨_, rfl, k H2 p' cs' (fresh_keep s1 ?_ k2) hs2 hp2 np nc⟩
  rintro b (e | e)
  · rw [e]; exact np
  · exact nc b e
theorem ok_FollowAll (D : Df K mg "follow_all" (top 33)) (T : Na K ad) (c0 : Me P w K mg base 6 ad.S "copy" (spStageCopy ad)) (c1 : Cl P w K mg base CX0 1 "following_time" (spFollowing ad)) (c2 : Cl P w K mg base CX0 7 "cue_goes" (spGoes ad)) : Cl P w K mg base CX0 8 "follow_all" (spFollowAll ad) := by
  refine cl0 D scFollowAll (fun _ _ _ _ _ _ us hl => match us, hl with | [_], _ => rfl) (fun vs H Q E ⟨_, _, _, _, e, _⟩ => by rw [e]; rfl) fun f cdv A outer s H vs Q E hr h => ?_
  obtain ⟨p0, L, cs0, st, rfl, hs0, hq, wf, k⟩ := h
  have nd := scFollowAll.nd
  refine ⟨_, pss_cons (ps_set (i := 1) nd rfl (Or.inl rfl) (pe_me0 c0 hr (pv 0)))
    (pss_cons (ps_set (i := 2) nd rfl (Or.inl rfl) (pe_c c1 hr (pa_cons (pv 1) pa_nil)))
    (pss_cons (ps_while PassesOwn.never (pt_cmpR op_ge (pv 2) pe_int (nomark _))
      (pss_cons (ps_expr (pe_c c2 hr (pa_cons (pv 1) (pa_cons (pe_op op_add (pe_fld (pv 1) rfl) pe_int) (pa_cons (pv 2) pa_nil)))))
        (pss_one (ps_set (i := 2) nd rfl (Or.inl rfl) (pe_c c1 hr (pa_cons (pv 1) pa_nil))))))
    (pss_one (ps_ret (pv 1))))), ?_⟩
  obtain ⟨⟨dx0, Lc0, h01, h02⟩, _, _⟩ := id hs0
  refine ⟨_, rfl, p0, dx0, _, rfl, h01, fS_copy _ _ _ _ _, ?_⟩
  refine ⟨p0, L, cs0, st, rfl, hs0, wf.n64, fun H0 p cs s1 hs np nc => ?_⟩
  have wfc := Sf.wf_copy wf
  refine ⟨_, rfl, p, L, cs, st.copy, rfl, hs, hq.same s1, wfc.gn, ?_⟩
  have hcc : st.copy.cues = st.cues := rfl
  refine ⟨fun m σ H' => ∃ s' : Sf.St, σ = [some (.ref p0), some (.ref p), some (.int (dueI s'))] ∧ Keep (fun b => b = p ∨ b ∈ cs) H0 H' ∧ StageAt ad H' p L cs s' ∧ Sf.StWf s' ∧ s'.cues = st.cues ∧ st.cues.length < m + s'.gone ∧
      m ≤ 25 ∧ PreLe (600 + 2 * (25 - m)) s' ∧ s'.ended m = st.final, ⟨st.cues.length + 1, st.copy, rfl, Keep.refl _, hs, wfc, rfl, by omega, by have := wf.nc; omega, (pre_copy st).mono (by omega), rfl⟩, ?_⟩
  rintro m σ H1 ⟨s', rfl, k1, hs1, wf1, hc1, hf, hm, hp1, he⟩
  have hq1 : CuesAt ad H1 L s'.cues := by rw [hc1]; exact (hq.same s1).keep k1
  cases hd : s'.due with
  | none =>
    have ed : dueI s' = -1 := by unfold dueI; rw [hd]
    rw [ed]
    refine ⟨_, rfl, _, _, rfl, rfl, _, rfl, ?_⟩
    refine if_false_of (by decide) ?_
    have e : s' = st.final := by rw [← he, ended_none hd]
    refine ⟨_, rfl, k H1 p cs (fresh_keep s1 ?_ k1) (by rw [← e]; exact hs1) (by rw [← e]; exact hp1.mono (by omega)) np nc⟩
    rintro b (e | e)
    · rw [e]; exact np
    · exact nc b e
  | some d =>
    have ed : dueI s' = (d : Int) := by unfold dueI; rw [hd]
    rw [ed]
    have dg := Sf.due_ge hd
    refine ⟨_, rfl, _, _, rfl, rfl, _, rfl, ?_⟩
    have hm1 : 0 < m := by rw [hc1] at dg; omega
    obtain ⟨m0, rfl⟩ : ∃ m0, m = m0 + 1 := ⟨m - 1, by omega⟩
    refine if_true_of (decide_eq_true (by omega)) ?_
    refine ⟨fun σ' H' => ∃ s2 : Sf.St, σ' = [some (.ref p0), some (.ref p), some (.int (dueI s2))] ∧ Keep (fun b => b = p ∨ b ∈ cs) H0 H' ∧ StageAt ad H' p L cs s2 ∧ Sf.StWf s2 ∧ s2.cues = st.cues ∧ st.cues.length < m0 + s2.gone ∧
      m0 ≤ 25 ∧ PreLe (600 + 2 * (25 - m0)) s2 ∧ s2.ended m0 = st.final, fun σ' H' h => ⟨m0, by omega, h⟩, ?_⟩
    obtain ⟨⟨dx, Lc, h1, h2⟩, _, _⟩ := id hs1
    refine ⟨_, rfl, _, rfl, p, ad.S, dx, _, _, rfl, h1, T.cS, T.Sl, fS_last _ _ _ _ _, _, _, rfl, rfl, _, rfl, ?_⟩
    have e9 : (s'.gone : Int) - 1 + 1 = (s'.gone : Int) := by omega
    refine ⟨p, L, cs, s', s'.gone, d, congrArg (fun (z : Int) => [V.ref p, V.int z, V.int (d : Int)]) e9, hs1, hq1, wf1, dg.2.1, by omega, hp1.mono (by omega), fun H2 k2 hs2 => ?_⟩
    have gg := Sf.goes_gone (s := s') (t := d) dg.2.1
    have wf2 := Sf.wf_goes wf1 dg.2.1 (t := d) (by omega)
    refine ⟨_, rfl, p, L, cs, _, rfl, hs2, by rw [Sf.goes_cues]; exact hq1.keep k2, wf2.gn, ?_⟩
    refine ⟨s'.goes s'.gone d, rfl, k1.trans k2, hs2, wf2, by rw [Sf.goes_cues, hc1], by rw [gg.1]; omega, by omega, (pre_goes hp1 _ _).mono (by omega), ?_⟩
    rw [← he, ended_go hd]
end
end Sw

namespace Sw
open PySem PySem.Spec PyProof.Rows L2
theorem fold_mem {α : Type} (g : α → Nat) : ∀ (l : List α) (m : Nat), l.foldl (fun m p => max m (g p)) m = m ∨ ∃ c ∈ l, l.foldl (fun m p => max m (g p)) m = g c
  | [], m => .inl rfl
  | x :: r, m => by
    rw [List.foldl_cons]
    rcases fold_mem g r (max m (g x)) with h | ⟨c, hc, h⟩
    · rw [h]
      by_cases q : m ≤ g x
      · exact .inr ⟨x, by simp, by omega⟩
      · exact .inl (by omega)
    · exact .inr ⟨c, List.mem_cons_of_mem _ hc, h⟩
/-- the greatest of two and of a list's is the fold -/
theorem max_is {α : Type} (g : α → Nat) (l : List α) (a b : Nat) (m : Int) (hm : m ∈ [(a : Int), (b : Int)] ++ l.map (fun c => ((g c : Nat) : Int))) (hle : ∀ y ∈ [(a : Int), (b : Int)] ++ l.map (fun c => ((g c : Nat) : Int)), y ≤ m) : m = ((l.foldl (fun m p => max m (g p)) (max a b) : Nat) : Int) := by
  have lf := Sf.le_fold g l (max a b)
  have fm := fold_mem g l (max a b)
  have fa := Nat.le_trans (Nat.le_max_left a b) lf.1
  have fb := Nat.le_trans (Nat.le_max_right a b) lf.1
  have fc := lf.2
  have fm2 : l.foldl (fun m p => max m (g p)) (max a b) = a ∨ l.foldl (fun m p => max m (g p)) (max a b) = b ∨ ∃ c ∈ l, l.foldl (fun m p => max m (g p)) (max a b) = g c := by
    rcases fm with e | e
    · rcases Nat.le_total a b with q | q
      · exact .inr (.inl (e.trans (Nat.max_eq_right q)))
      · exact .inl (e.trans (Nat.max_eq_left q))
    · exact .inr (.inr e)
  clear lf fm
  generalize l.foldl (fun m p => max m (g p)) (max a b) = F at *
  have up : m ≤ (F : Int) := by
    rcases List.mem_append.mp hm with h | h
    · have h' : m = a ∨ m = b := by simpa using h
      rcases h' with e | e
      · rw [e]; exact Int.ofNat_le.mpr fa
      · rw [e]; exact Int.ofNat_le.mpr fb
    · obtain ⟨c, hc, e⟩ := List.mem_map.mp h
      rw [← e]
      exact Int.ofNat_le.mpr (fc c hc)
  have lo : (F : Int) ≤ m := by
    rcases fm2 with e | e | ⟨c, hc, e⟩
    · rw [e]; exact hle (a : Int) (by simp)
    · rw [e]; exact hle (b : Int) (by simp)
    · rw [e]; exact hle ((g c : Nat) : Int) (List.mem_append.mpr (.inr (List.mem_map.mpr ⟨c, hc, rfl⟩)))
  exact Int.le_antisymm up lo
section
variable {P : Program} {w : World} {K : PySem.W.Frag} {mg : Str → Option Value} {base : Heap} {ad : Ad}
theorem ok_Still (D : Df K mg "still_time" (top 34)) (T : Na K ad) (mm : mg "max" = none) (c1 : Cl P w K mg base CX0 8 "follow_all" (spFollowAll ad)) (c2 : Cl P w K mg base CX0 7 "last_change" (spLastChange ad)) : Cl P w K mg base CX0 9 "still_time" (spStill ad) := by
  refine cl0 D scStill (fun _ _ _ _ _ _ us hl => match us, hl with | [_], _ => rfl) (fun vs H Q E ⟨_, _, _, _, e, _⟩ => by rw [e]; rfl) fun f cdv A outer s H vs Q E hr h => ?_
  obtain ⟨p0, L, cs0, st, rfl, hs0, hq, wf, k⟩ := h
  have nd3 := scStill.nd
  refine ⟨_, pss_cons (ps_set (i := 1) nd3 rfl (Or.inl rfl) (pe_c c1 hr (pa_cons (pv 0) pa_nil)))
    (pss_one (ps_ret (pe_callB (cr_max rfl) (by rfl) mm (by decide +kernel) (pa_cons (pe_op op_cat (pe_lst (pa_cons (pe_fld (pv 0) rfl) (pa_cons (pe_fld (pv 1) rfl) pa_nil)))
      (pe_lc (own := [("channel", 2)]) (g := gName 2) (tt := tYes) (te := tCall (spLastChange ad) [] E0 (tCons (tVar 2) tNil)) rfl nd3 (pi_list (pe_fld (pv 1) rfl))
        (blkOk_by (own := [("channel", 2)]) (N := ["stage", "found", "channel"]) (sc := defScope (top 34)) (by decide +kernel)) (fun _ _ _ _ _ => pg_name (i := 2) nd3 rfl (Or.inl rfl)) (fun _ _ _ _ _ => pts_nil) (fun _ _ _ _ _ => by exact (pe_c c2 hr (pa_cons (pv 2) pa_nil))))) pa_nil)))), ?_⟩
  refine ⟨_, rfl, p0, L, cs0, st, rfl, hs0, hq, wf, fun H1 p cs s1 hs hpl np nc => ?_⟩
  obtain ⟨⟨dx0, Lc0, a1, a2⟩, _, _⟩ := id hs0
  obtain ⟨⟨dx, Lc, h1, h2⟩, h3, nd⟩ := id hs
  have wfF := Sf.wf_final wf
  have hap : ∀ b ∈ cs, b ≠ p := hs.apart
  refine ⟨_, rfl, p0, ad.S, dx0, _, _, rfl, s1 _ _ a1, T.cS, T.Sw, fS_went _ _ _ _ _, _, rfl, p, ad.S, dx, _, _, rfl, h1, T.cS, T.Sw, fS_went _ _ _ _ _, (by show 2 ≤ sizeLine; decide), fun q hqn => ?_⟩
  have s2 := same_new (o := HO.lst [V.int (st.now : Int), V.int (st.final.now : Int)]) hqn
  refine ⟨_, rfl, p, ad.S, dx, _, _, rfl, s2 _ _ h1, T.cS, T.Sh, fS_channels _ _ _ _ _, Lc, rfl, ⟨_, SqL.of (s2 _ _ h2)⟩, fun D hD => ?_⟩
  have hE0 : Each (ChanAt ad (upd H1 q (.lst [V.int (st.now : Int), V.int (st.final.now : Int)]))) cs st.final.chans := h3.imp fun b x z => z.same s2
  have hq2 := upd_same (H := H1) (a := q) (o := HO.lst [V.int (st.now : Int), V.int (st.final.now : Int)])
  have h2' := s2 _ _ h2
  have s12 := s1.trans s2
  generalize upd H1 q (.lst [V.int (st.now : Int), V.int (st.final.now : Int)]) = H2 at hE0 hq2 h2' hD s12 ⊢
  have hcl : cs.length = 64 := by rw [h3.1, wfF.n64]
  refine lc_list (K := K) (a := Lc) (xs := cs.map V.ref) (fun i H' => Keep (fun b => b ∈ cs) (upd H2 D (.lst [])) (upd H' D (.lst [])) ∧ H' D = some (.lst ((st.final.chans.take i).map (fun c => V.int (Sf.lastChange c.all : Int)))) ∧
      ∀ j c, i ≤ j → st.final.chans[j]? = some c → ∃ b, cs[j]? = some b ∧ ChanAt ad H' b c) ?_ ?_ ?_ ?_
  · exact ⟨by rw [upd_upd]; exact Keep.refl _, upd_same, fun j c _ e => let ⟨b, b1, b2⟩ := hE0.2 j c e; ⟨b, b1, b2.same (same_new hD)⟩⟩
  · rintro i H' _ ⟨k1, _⟩
    have hne : Lc ≠ D := ne_of_none h2' hD
    have := lst_keep k1 (show upd H2 D (.lst []) Lc = _ by rw [upd_ne hne]; exact h2')
    rw [upd_ne hne] at this
    exact SqL.of this
  · rintro i y H' hi ⟨k1, hD', hE⟩
    obtain ⟨a, ha, rfl⟩ := refs_at hi
    have hlt : i < st.final.chans.length := by rw [← h3.1]; exact (List.getElem?_eq_some_iff.mp ha).1
    obtain ⟨a', q1, q2⟩ := hE i _ (Nat.le_refl _) (List.getElem?_eq_getElem hlt)
    rw [ha] at q1
    cases q1
    have hmem := List.getElem_mem hlt
    refine ⟨rfl, ?_⟩
    refine ⟨_, rfl, a, _, st.final.now, rfl, q2, wfF.ch _ hmem, Nat.le_trans (hpl _ hmem) (by omega), fun H3 k3 => ?_⟩
    have hD3 := lst_keep k3 hD'
    refine ⟨_, hD3, ?_, ?_, ?_, ?_⟩
    · have := wfF.n64
      rw [List.length_map, List.length_take, this]
      exact small1000 (by omega)
    · rw [upd_upd]
      refine k1.trans fun b o hb hn => ?_
      by_cases z : b = D
      · subst z; rw [upd_same] at hb ⊢; exact hb
      · rw [upd_ne z] at hb ⊢
        exact k3 b o hb fun m e => hn m (by rw [e]; exact List.mem_of_getElem? ha)
    · rw [upd_same, take_succ (List.getElem?_eq_getElem hlt), List.map_append]
      rfl
    · intro j c hj e
      obtain ⟨b, b1, b2⟩ := hE j c (by omega) e
      have hba : b ≠ a := fun z => by
        subst z
        obtain ⟨hi1, hiv⟩ := List.getElem?_eq_some_iff.mp ha
        obtain ⟨hj1, hjv⟩ := List.getElem?_eq_some_iff.mp b1
        exact List.pairwise_iff_getElem.mp nd i j hi1 hj1 (by omega) (hiv.trans hjv.symm)
      refine ⟨b, b1, (b2.keep k3 hba).list hD3 (fun b f hb => ?_)⟩
      obtain ⟨c, _, e⟩ := List.mem_map.mp hb
      cases e
  · rintro H3 ⟨k1, hD3, _⟩
    have e64 : (cs.map V.ref).length = st.final.chans.length := by rw [List.length_map, h3.1]
    rw [e64, List.take_length] at hD3
    have hqD : q ≠ D := ne_of_none hq2 hD
    have hq3 := lst_keep k1 (show upd H2 D (.lst []) q = _ by rw [upd_ne hqD]; exact hq2)
    rw [upd_ne hqD] at hq3
    have s3 : Same H H3 := fun b o hb => by
      have hb2 := s12 b o hb
      have hbD : b ≠ D := ne_of_none hb2 hD
      have := k1 b o (by rw [upd_ne hbD]; exact hb2) (fun _ z => by rw [nc b z] at hb; cases hb)
      rw [upd_ne hbD] at this
      exact this
    refine ⟨q, D, _, _, rfl, rfl, hq3, hD3, ?_, fun p3 hp3 => ?_⟩
    · rw [List.length_map, wfF.n64]
      refine Nat.le_trans (show _ ≤ 1000 from ?_) (by decide)
      show 2 + 64 ≤ 1000
      omega
    · refine ⟨p3, [(st.now : Int), (st.final.now : Int)] ++ st.final.chans.map (fun c => ((Sf.lastChange c.all : Nat) : Int)), rfl, ?_, ?_, ?_⟩
      · have e : ([(st.now : Int), (st.final.now : Int)] ++ st.final.chans.map (fun c => ((Sf.lastChange c.all : Nat) : Int))).map V.int = [V.int (st.now : Int), V.int (st.final.now : Int)] ++ st.final.chans.map (fun c => V.int (Sf.lastChange c.all : Int)) := by
          rw [List.map_append, List.map_map]
          rfl
        rw [e]
        exact SqL.of upd_same
      · rw [List.length_append]
        exact Nat.lt_of_lt_of_le (Nat.succ_pos 1) (Nat.le_add_right _ _)
      · intro m hm hle
        rw [max_is (fun c => Sf.lastChange c.all) st.final.chans st.now st.final.now m hm hle]
        exact k _ (s3.trans (same_new hp3))
end
end Sw

namespace Sw
open PySem PySem.Spec PyProof.Rows L2
def nV (ms : List Nat) : List V := ms.map fun (n : Nat) => V.int (n : Int)
def xN (n : Int) : HO := .xd [(("number" : Str), .int n)]
/-- a number is refused with: what was stands -/
def Rz (ad : Ad) (E : XK) (H : Hp) (n : Int) : Prop := ∀ H' d, Same H H' → H' d = some (xN n) → E (.ref ad.R) (some d) H'
theorem Rz.new {ad : Ad} {E : XK} {H : Hp} {n : Int} (h : Rz ad E H n) {d : Addr} (hd : H d = none) : E (.ref ad.R) (some d) (upd H d (xN n)) := h _ d (same_new hd) upd_same
theorem Rz.same {ad : Ad} {E : XK} {H H' : Hp} {n : Int} (h : Rz ad E H n) (s : Same H H') : Rz ad E H' n := fun H2 d s2 e => h H2 d (s.trans s2) e
def DeskAt (ad : Ad) (H : Hp) (dd p L : Addr) (cs : List Addr) (s : Sf.St) : Prop := (∃ dx, H dd = some (.ins ad.D dx (fD (.ref p)))) ∧ StageAt ad H p L cs s ∧ CuesAt ad H L s.cues
def spAsk (ad : Ad) : Sp := fun vs H Q E => ∃ (b : Bool) (n : Int), vs = [.bl b, .int n] ∧ (b = true → Q .non H) ∧ (b = false → Rz ad E H n)
def spAskMoves (ad : Ad) : Sp := fun vs H Q E => ∃ (a : Addr) (ms : List Nat), vs = [.ref a] ∧ H a = some (.lst (nV ms)) ∧ ms.length ≤ 200 ∧ (∀ m, Wqatdu.movesFrom 0 ms = some m → Q .non H) ∧ (Wqatdu.movesFrom 0 ms = none → Rz ad E H (-1))
def spAskTime (ad : Ad) : Sp := fun vs H Q E => ∃ (dd p L : Addr) (cs : List Addr) (s : Sf.St) (t : Nat), vs = [.ref dd, .int (t : Int)] ∧ DeskAt ad H dd p L cs s ∧ (s.now ≤ t ∧ t ≤ 1000000 → Q .non H) ∧ (¬ (s.now ≤ t ∧ t ≤ 1000000) → Rz ad E H (-1))
def spAskChannel (ad : Ad) : Sp := fun vs H Q E => ∃ (x : Nat), vs = [.int (x : Int)] ∧ (1 ≤ x ∧ x ≤ 64 → Q .non H) ∧ (¬ (1 ≤ x ∧ x ≤ 64) → Rz ad E H (-1))
theorem scAsk : FnScope ["holds", "number"] ["holds", "number"] (defScope (top 42)) := ⟨rfl, rfl, rfl, by decide +kernel, rfl, by decide +kernel, by decide +kernel⟩
theorem scAskMoves : FnScope ["moves", "last", "at"] ["moves"] (defScope (top 44)) := ⟨rfl, rfl, rfl, by decide +kernel, rfl, by decide +kernel, by decide +kernel⟩
theorem scAskTime : FnScope ["desk", "time"] ["desk", "time"] (defScope (top 46)) := ⟨rfl, rfl, rfl, by decide +kernel, rfl, by decide +kernel, by decide +kernel⟩
theorem scAskChannel : FnScope ["channel"] ["channel"] (defScope (top 49)) := ⟨rfl, rfl, rfl, by decide +kernel, rfl, by decide +kernel, by decide +kernel⟩
theorem rg_two {n : Nat} (h : n ≤ 1000) : RgC 0 ((2 * n : Nat) : Int) 2 n := by
  have e : Builtin.Range.rangeSize 0 ((2 * n : Nat) : Int) 2 = (n : Int) := by
    unfold Builtin.Range.rangeSize
    rw [if_pos (by decide)]
    split <;> omega
  refine ⟨by decide, by decide, ?_, e⟩
  have hs : ∀ k : Nat, k ≤ 3000 → Builtin.Range.rangeFitsLong (k : Int) = true := fun k hk => by
    unfold Builtin.Range.rangeFitsLong
    rw [Bool.and_eq_true, decide_eq_true_iff, decide_eq_true_iff]
    omega
  unfold Builtin.Range.small
  rw [e]
  have h5 : Builtin.Range.rangeFitsLong (((2 * n : Nat) : Int) + (2 - 1)) = true := by
    have e5 : ((2 * n : Nat) : Int) + (2 - 1) = ((2 * n + 1 : Nat) : Int) := by omega
    rw [e5]
    exact hs (2 * n + 1) (by clear e5 hs e; omega)
  rw [show Builtin.Range.rangeFitsLong 0 = true from hs 0 (by decide), hs (2 * n) (by omega), show Builtin.Range.rangeFitsLong 2 = true from hs 2 (by decide), hs n (by omega), if_pos (by decide), h5, Bool.or_true]
  rfl
theorem nV_get {ms : List Nat} {i x : Nat} (h : ms[i]? = some x) : (nV ms)[i]? = some (V.int (x : Int)) := by
  unfold nV
  rw [List.getElem?_map, h]
  rfl
section
variable {P : Program} {w : World} {K : PySem.W.Frag} {mg : Str → Option Value} {base : Heap} {ad : Ad}
theorem ok_Ask (D : Df K mg "ask" (top 42)) (R : PySem.RefX.RefTxt K mg ad.R ad.rI) : Cl P w K mg base (L2.CX P w) 3 "ask" (spAsk ad) := by
  refine clX D scAsk (fun _ _ _ _ _ _ us hl => match us, hl with | [_, _], _ => rfl) (fun vs H Q E ⟨_, _, e, _⟩ => by rw [e]; rfl) fun f cdv A outer s H vs Q E hr h => ?_
  obtain ⟨b, n, rfl, h1, h2⟩ := h
  refine ⟨_, pss_one (ps_if (pt_not (pt_val (pv 0))) (pss_one (ps_raiseRef rfl R hr (takes_of rfl rfl rfl rfl) (pa_cons (pv 1) pa_nil))) pss_nil), ?_⟩
  refine ⟨_, rfl, _, rfl, ?_⟩
  cases b with
  | true => exact h1 rfl
  | false => exact ⟨_, rfl, _, rfl, fun d hd => (h2 rfl).new hd⟩
theorem ok_AskMoves (D : Df K mg "ask_moves" (top 44)) (ml : mg "len" = none) (mr : mg "range" = none) (gn : Gc mg "CHANNELS" 64) (gl : Gc mg "MOST_LEVEL" 100) (c1 : Cl P w K mg base (L2.CX P w) 3 "ask" (spAsk ad)) : Cl P w K mg base (L2.CX P w) 4 "ask_moves" (spAskMoves ad) := by
  refine clX D scAskMoves (fun _ _ _ _ _ _ us hl => match us, hl with | [_], _ => rfl) (fun vs H Q E ⟨_, _, e, _⟩ => by rw [e]; rfl) fun f cdv A outer s H vs Q E hr h => ?_
  obtain ⟨a, ms, rfl, ha, hlen, h1, h2⟩ := h
  have nd := scAskMoves.nd
  refine ⟨_, pss_cons (ps_expr (pe_cX c1 hr (takes_of rfl rfl rfl rfl) (pa_cons (pe_cmpR op_eq (pe_op op_mod (pe_callB call_len_seq (by rfl) ml PySem.boot_len (pa_cons (pv 0) pa_nil)) pe_int) pe_int (nomark _)) (pa_cons (pe_un un_neg pe_int) pa_nil))))
    (pss_cons (ps_set (i := 1) nd rfl (Or.inl rfl) pe_int)
    (pss_one (ps_for (passes_of rfl) rfl (pi_range3 rfl mr (pa_cons pe_int (pa_cons (pe_callB call_len_seq (by rfl) ml PySem.boot_len (pa_cons (pv 0) pa_nil)) (pa_cons pe_int pa_nil)))) (pg_name (i := 2) nd rfl (Or.inl rfl))
      (pss_cons (ps_expr (pe_cX c1 hr (takes_of rfl rfl rfl rfl) (pa_cons (pe_and (pe_cmpR op_lt (pv 1) (pe_ix ix_list (pv 0) (pv 2) (fun _ _ => rfl)) (nomark _)) (pe_and (pe_cmpR op_le (pe_ix ix_list (pv 0) (pv 2) (fun _ _ => rfl)) (C8.pe_gc rfl gn) (nomark _))
          (pe_one (pe_cmpR op_le (pe_ix ix_list (pv 0) (pe_op op_add (pv 2) pe_int) (fun _ _ => rfl)) (C8.pe_gc rfl gl) (nomark _))))) (pa_cons (pe_un un_neg pe_int) pa_nil))))
        (pss_one (ps_set (i := 1) nd rfl (Or.inl rfl) (pe_ix ix_list (pv 0) (pv 2) (fun _ _ => rfl)))))))), ?_⟩
  have hl : (nV ms).length = ms.length := List.length_map ..
  refine ⟨_, rfl, a, _, rfl, .inl (SqL.of ha), _, _, rfl, rfl, (by show (0 : Int) < 2; decide), rfl, 1, rfl, ?_⟩
  refine ⟨_, _, rfl, fun e => ?_, fun e => ?_⟩
  · have even : ms.length % 2 = 0 := by
      have e' := of_decide_eq_true e
      have e2 := V.int.inj e'
      rw [hl] at e2
      omega
    obtain ⟨n, hn⟩ : ∃ n, ms.length = 2 * n := ⟨ms.length / 2, by omega⟩
    refine ⟨_, rfl, a, _, rfl, .inl (SqL.of ha), 0, ((2 * n : Nat) : Int), 2, n, ?_, rg_two (by omega), ?_⟩
    · rw [hl, hn]
    · refine for_rangeC (lo := 0) (c := 2) (n := n) (fun i σ H' => ∃ (la : Nat) (v2 : Option V), σ = [some (.ref a), some (.int (la : Int)), v2] ∧ H' = H ∧ (Wqatdu.movesFrom 0 ms = none ↔ Wqatdu.movesFrom la (ms.drop (2 * i)) = none)) ⟨0, none, rfl, rfl, Iff.rfl⟩ ?_ ?_
      · rintro i σ H' hi ⟨la, v2, rfl, rfl, hm⟩
        have i1 : 2 * i < ms.length := by omega
        have i2 : 2 * i + 1 < ms.length := by omega
        have gx : ms[2 * i]? = some ms[2 * i] := List.getElem?_eq_getElem i1
        have gy : ms[2 * i + 1]? = some ms[2 * i + 1] := List.getElem?_eq_getElem i2
        have hd : ms.drop (2 * i) = ms[2 * i] :: ms[2 * i + 1] :: ms.drop (2 * (i + 1)) := by
          rw [List.drop_eq_getElem_cons i1, List.drop_eq_getElem_cons i2]
          rfl
        generalize ms[2 * i] = x at gx hd
        generalize ms[2 * i + 1] = y at gy hd
        rw [hd] at hm
        have ex : (0 : Int) + (i : Nat) * 2 = ((2 * i : Nat) : Int) := by omega
        have ax : atI (nV ms) ((0 : Int) + (i : Nat) * 2) = some (.int (x : Int)) := by rw [ex]; exact atI_nat (nV_get gx)
        have ey : (0 : Int) + (i : Nat) * 2 + 1 = ((2 * i + 1 : Nat) : Int) := by omega
        have ay : atI (nV ms) ((0 : Int) + (i : Nat) * 2 + 1) = some (.int (y : Int)) := by rw [ey]; exact atI_nat (nV_get gy)
        have bad : ¬ (la < x ∧ x ≤ 64 ∧ y ≤ 100) → Rz ad E H' (-1) := fun hn => h2 (hm.mpr (by
          rw [Wqatdu.movesFrom]
          exact if_neg hn))
        refine ⟨_, rfl, _, rfl, _, rfl, a, _, _, _, rfl, rfl, SqL.of ha, ax, _, _, rfl, rfl, _, rfl, ?_⟩
        by_cases q1 : la < x
        · refine if_true_of (decide_eq_true (by omega)) ?_
          refine ⟨_, rfl, _, rfl, a, _, _, _, rfl, rfl, SqL.of ha, ax, _, _, rfl, rfl, _, rfl, ?_⟩
          by_cases q2 : x ≤ 64
          · refine if_true_of (decide_eq_true (by omega)) ?_
            refine ⟨_, rfl, _, rfl, _, _, rfl, rfl, a, _, _, _, rfl, rfl, SqL.of ha, ay, _, _, rfl, rfl, 1, rfl, ?_⟩
            refine ⟨_, _, rfl, fun e => ?_, fun e => bad fun z => ?_⟩
            · have q3 : y ≤ 100 := by
                have := of_decide_eq_true e
                omega
              refine ⟨_, rfl, _, rfl, a, _, _, _, rfl, rfl, SqL.of ha, ax, ?_⟩
              refine ⟨x, some (.int ((0 : Int) + (i : Nat) * 2)), rfl, rfl, hm.trans ?_⟩
              rw [Wqatdu.movesFrom, if_pos (show la < x ∧ x ≤ Sg.CHANNELS ∧ y ≤ Sg.FULL from ⟨q1, q2, q3⟩), Option.map_eq_none_iff]
            · have := of_decide_eq_false e
              omega
          · refine if_false_of (decide_eq_false (by omega)) ?_
            exact ⟨1, rfl, _, _, rfl, fun e => Bool.noConfusion e, fun _ => bad fun z => q2 z.2.1⟩
        · refine if_false_of (decide_eq_false (by omega)) ?_
          exact ⟨1, rfl, _, _, rfl, fun e => Bool.noConfusion e, fun _ => bad fun z => q1 z.1⟩
      · rintro σ H' ⟨la, v2, rfl, rfl, hm⟩
        have e0 : ms.drop (2 * n) = [] := List.drop_eq_nil_of_le (by omega)
        rw [e0] at hm
        cases hx : Wqatdu.movesFrom 0 ms with
        | none =>
          have := hm.mp hx
          cases this
        | some m => exact h1 m hx
  · refine h2 (Sf.moves_odd 0 ms ?_)
    have e' := of_decide_eq_false e
    by_cases z : ms.length % 2 = 1
    · exact z
    · refine absurd ?_ e'
      rw [hl]
      exact congrArg V.int (show ((ms.length : Nat) : Int) % 2 = 0 by omega)
theorem ok_AskTime (D : Df K mg "ask_time" (top 46)) (T : Na K ad) (gl : Gc mg "LATEST" 1000000) (c1 : Cl P w K mg base (L2.CX P w) 3 "ask" (spAsk ad)) : Cl P w K mg base (L2.CX P w) 4 "ask_time" (spAskTime ad) := by
  refine clX D scAskTime (fun _ _ _ _ _ _ us hl => match us, hl with | [_, _], _ => rfl) (fun vs H Q E ⟨_, _, _, _, _, _, e, _⟩ => by rw [e]; rfl) fun f cdv A outer s H vs Q E hr h => ?_
  obtain ⟨dd, p, L, cs, st, t, rfl, ⟨⟨dx, hd⟩, ⟨⟨dy, Lc, h1, _⟩, _, _⟩, _⟩, k1, k2⟩ := h
  refine ⟨_, pss_one (ps_expr (pe_cX c1 hr (takes_of rfl rfl rfl rfl) (pa_cons (pe_and (pe_cmpR op_le (pe_fld (pe_fld (pv 0) rfl) rfl) (pv 1) (nomark _)) (pe_one (pe_cmpR op_le (pv 1) (C8.pe_gc rfl gl) (nomark _)))) (pa_cons (pe_un un_neg pe_int) pa_nil)))), ?_⟩
  refine ⟨_, rfl, dd, ad.D, dx, _, _, rfl, hd, T.cD, T.Ds, fD_stage _, p, ad.S, dy, _, _, rfl, h1, T.cS, T.Sw, fS_went _ _ _ _ _, _, rfl, _, _, rfl, rfl, _, rfl, ?_⟩
  by_cases q1 : st.now ≤ t
  · refine if_true_of (decide_eq_true (by omega)) ?_
    refine ⟨_, rfl, _, _, rfl, rfl, 1, rfl, _, _, rfl, fun e => k1 ⟨q1, ?_⟩, fun e => k2 fun z => ?_⟩
    · have := of_decide_eq_true e; omega
    · have := of_decide_eq_false e; omega
  · refine if_false_of (decide_eq_false (by omega)) ?_
    exact ⟨1, rfl, _, _, rfl, fun e => Bool.noConfusion e, fun _ => k2 fun z => q1 z.1⟩
theorem ok_AskChannel (D : Df K mg "ask_channel" (top 49)) (gn : Gc mg "CHANNELS" 64) (c1 : Cl P w K mg base (L2.CX P w) 3 "ask" (spAsk ad)) : Cl P w K mg base (L2.CX P w) 4 "ask_channel" (spAskChannel ad) := by
  refine clX D scAskChannel (fun _ _ _ _ _ _ us hl => match us, hl with | [_], _ => rfl) (fun vs H Q E ⟨_, e, _⟩ => by rw [e]; rfl) fun f cdv A outer s H vs Q E hr h => ?_
  obtain ⟨x, rfl, k1, k2⟩ := h
  refine ⟨_, pss_one (ps_expr (pe_cX c1 hr (takes_of rfl rfl rfl rfl) (pa_cons (pe_and (pe_cmpR op_le pe_int (pv 0) (nomark _)) (pe_one (pe_cmpR op_le (pv 0) (C8.pe_gc rfl gn) (nomark _)))) (pa_cons (pe_un un_neg pe_int) pa_nil)))), ?_⟩
  refine ⟨_, rfl, _, _, rfl, rfl, _, rfl, ?_⟩
  by_cases q1 : 1 ≤ x
  · refine if_true_of (decide_eq_true (by omega)) ?_
    refine ⟨_, rfl, _, _, rfl, rfl, 1, rfl, _, _, rfl, fun e => k1 ⟨q1, ?_⟩, fun e => k2 fun z => ?_⟩
    · have := of_decide_eq_true e; omega
    · have := of_decide_eq_false e; omega
  · refine if_false_of (decide_eq_false (by omega)) ?_
    exact ⟨1, rfl, _, _, rfl, fun e => Bool.noConfusion e, fun _ => k2 fun z => q1 z.1⟩
end
end Sw

namespace Sw
open PySem PySem.Spec PyProof.Rows L2
/-! ### xs != [] -/
def rNeNil (K : PySem.W.Frag) : R2 := fun x y H Q => ∃ a b xs, x = .ref a ∧ y = .ref b ∧ SqL K H a xs ∧ SqL K H b [] ∧ Q (.bl (!xs.isEmpty)) H
theorem op_neNil {X : Cx} (hu : X.A.units + 64 < cLine) : OpR X (compareOp .NotEq) (rNeNil X.K) := by
  intro pins s σ H x y v u Q I rx ry h
  obtain ⟨a, b, xs, rfl, rfl, ha, hb, q⟩ := h
  cases rx
  cases ry
  obtain ⟨its, rv, p1, _⟩ := I.list ha
  obtain ⟨its2, rv2, p2, _⟩ := I.list hb
  cases rv2
  have hu' : X.A.units < cLine := by omega
  show wpAny (model X.prog X.w) X.A (richCompare .NotEq (.ref a) (.ref b)) _ _ s
  cases xs with
  | nil =>
    cases rv
    exact SeqAt.RcNeAt.lists (e := fun _ => true) p1.isList p2.isList rfl hu' (fun j h1 => absurd h1 (Nat.not_lt_zero _)) _ _ _ _ ⟨.bl _, H, I, rfl, q⟩
  | cons x r =>
    cases rv
    exact SeqAt.RcNeAt.lists_lengths p1.isList p2.isList rfl hu' _ _ _ _ ⟨.bl _, H, I, rfl, q⟩
theorem atI_last {α : Type} {xs : List α} {v : α} (h : xs.getLast? = some v) : atI xs (-1) = some v := by
  have hne : xs ≠ [] := fun z => by rw [z] at h; cases h
  have hl : 0 < xs.length := List.length_pos_iff.mpr hne
  unfold atI ixN
  rw [if_neg (by decide), if_pos (by omega)]
  have e : ((-1 : Int) + (xs.length : Int)).toNat = xs.length - 1 := by omega
  rw [e]
  show xs[xs.length - 1]? = _
  rw [← List.getLast?_eq_getElem?]
  exact h
/-! ### what a call leaves -/
def Stay (dd L : Addr) (H H' : Hp) : Prop := ∀ b o, H b = some o → b ≠ dd → b ≠ L → H' b = some o
theorem Stay.of {dd L : Addr} {H H' : Hp} (s : Same H H') : Stay dd L H H' := fun b o h _ _ => s b o h
theorem Stay.trans {dd L : Addr} {H H1 H2 : Hp} (a : Stay dd L H H1) (b : Stay dd L H1 H2) : Stay dd L H H2 := fun c o h n m => b c o (a c o h n m) n m
def Okz (ad : Ad) (Q : VK) (H : Hp) (dd L : Addr) (s' : Sf.St) (xs : List Int) : Prop := ∀ H' l p cs, Stay dd L H H' → DeskAt ad H' dd p L cs s' → H' l = some (.lst (xs.map V.int)) → H l = none → Q (.ref l) H'
def Outz (ad : Ad) (Q : VK) (E : XK) (H : Hp) (dd L : Addr) (o : Sf.Out) : Prop := match o with
  | .error r => Rz ad E H r
  | .ok y => Okz ad Q H dd L y.1 y.2
def spDesk (ad : Ad) : Sp := fun vs H Q _ => ∃ (p dx : Addr), vs = [.ref p] ∧ H p = some (.ins ad.D dx []) ∧
  ∀ H' q L cs, (∀ b o, H b = some o → b ≠ p → H' b = some o) → DeskAt ad H' p q L cs Sf.start → H L = none → Q .non H'
def spAdd (ad : Ad) : Sp := fun vs H Q E => ∃ (dd p L nu mo : Addr) (cs : List Addr) (s : Sf.St) (n u d w f : Nat) (ms : List Nat), vs = [.ref dd, .ref nu, .ref mo] ∧ DeskAt ad H dd p L cs s ∧ Sf.DkWf s ∧ H nu = some (.lst (nV [n, u, d, w, f])) ∧ H mo = some (.lst (nV ms)) ∧ ms.length ≤ 200 ∧ mo ≠ L ∧
  Outz ad Q E H dd L (Sf.addX s n u d w f ms)
theorem scDesk : FnScope ["self"] ["self"] (defScope sDesk) := ⟨rfl, rfl, rfl, by decide +kernel, rfl, by decide +kernel, by decide +kernel⟩
theorem scAdd : FnScope ["desk", "numbers", "moves", "cues", "last", "number", "up", "down", "delay", "follow", "levels", "at"] ["desk", "numbers", "moves"] (defScope (top 45)) := ⟨rfl, rfl, rfl, by decide +kernel, rfl, by decide +kernel, by decide +kernel⟩
section
variable {P : Program} {w : World} {K : PySem.W.Frag} {mg : Str → Option Value} {base : Heap} {ad : Ad}
theorem ok_Desk (D : Kl K mg "Desk" "Desk.__init__" ad.D sDesk) (T : Na K ad) (c1 : Mc P w K mg base 4 "Stage" ad.S (spStage ad)) : Mc P w K mg base 6 "Desk" ad.D (spDesk ad) := by
  refine mc0 D scDesk (fun _ _ _ _ _ _ us hl => match us, hl with | [_], _ => rfl) (fun vs H Q E ⟨_, _, e, _⟩ => by rw [e]; rfl) fun f cdv A outer s H vs Q E hr h => ?_
  obtain ⟨p, dx, rfl, hp, k⟩ := h
  refine ⟨_, pss_one (ps_fld (pv 0) (pe_mk c1 hr (pa_cons (pe_lst pa_nil) pa_nil)) rfl), ?_⟩
  refine ⟨(by show 0 ≤ sizeLine; decide), fun L hL => ?_⟩
  have s1 := same_new (o := HO.lst []) hL
  intro x dy nx ny ne
  refine ⟨x, dy, L, rfl, upd_same, fun H1 cs s0 hst fr0 => ?_⟩
  have s2 : ∀ b o, upd H L (.lst []) b = some o → H1 b = some o := fun b o hb => by
    refine s0 b o ?_ (ne_of_none hb nx)
    rw [upd_ne (ne_of_none hb nx), upd_ne (ne_of_none hb ny)]
    exact hb
  have hp1 := s2 _ _ (s1 _ _ hp)
  refine ⟨rfl, _, rfl, p, ad.D, dx, _, rfl, hp1, T.cD, T.Ds, (by show 0 < 1000; decide), ?_⟩
  have hk : Keep (· = p) H1 (upd H1 p (.ins ad.D dx (fD (.ref x)))) := keep_at hp1 rfl rfl
  have hL1 := s2 _ _ (upd_same (H := H) (a := L) (o := HO.lst []))
  have hst' := hst []
  obtain ⟨⟨dz, Ln, g1, g2⟩, g3, g4⟩ := id hst'
  refine k _ x L cs ?_ ⟨⟨dx, upd_same⟩, hst'.keep hk ?_ ?_, ⟨[], lst_keep hk hL1, Each.nil⟩⟩ hL
  · intro b o hb hne
    rw [upd_ne hne]
    exact s2 _ _ (s1 _ _ hb)
  · intro z
    rw [z, hp1] at g1
    exact absurd (congrArg List.length (HO.ins.inj (Option.some.inj g1)).2.2) (by show ¬ 0 = 5; decide)
  · intro b hb z
    have := fr0 b hb
    rw [z, upd_ne (ne_of_none (s1 _ _ hp) nx), upd_ne (ne_of_none (s1 _ _ hp) ny), s1 _ _ hp] at this
    cases this
end
end Sw

namespace Sw
open PySem PySem.Spec PyProof.Rows L2
theorem CueAt.list {ad : Ad} {H : Hp} {a D : Addr} {c : Sg.Timed} {xs ys : List V} (h : CueAt ad H a c) (hD : H D = some (.lst xs)) : CueAt ad (upd H D (.lst ys)) a c := by
  obtain ⟨d, ⟨dx, h1⟩, h2⟩ := h
  refine ⟨d, ⟨dx, ?_⟩, ?_⟩
  · rw [upd_ne (fun q => by rw [q, hD] at h1; cases h1)]; exact h1
  · rw [upd_ne (fun q => by rw [q, hD] at h2; cases h2)]; exact h2
theorem StageAt.list {ad : Ad} {H : Hp} {p L D : Addr} {cs : List Addr} {s : Sf.St} {xs ys : List V} (h : StageAt ad H p L cs s) (hD : H D = some (.lst xs)) (hx : ∀ b f, V.ref b ∈ xs → ¬ FadeAt ad H b f) (hc : xs ≠ cs.map V.ref) : StageAt ad (upd H D (.lst ys)) p L cs s := by
  obtain ⟨⟨dx, Lc, h1, h2⟩, h3, nd⟩ := h
  refine ⟨⟨dx, Lc, ?_, ?_⟩, h3.imp fun b c q => q.list hD hx, nd⟩
  · rw [upd_ne (fun q => by rw [q, hD] at h1; cases h1)]; exact h1
  · rw [upd_ne (fun q => by rw [q, hD] at h2; exact hc (HO.lst.inj (Option.some.inj h2)))]; exact h2
/-- cues' refs are no channels' -/
theorem cues_no_chans {ad : Ad} {H : Hp} {qs cs : List Addr} {l : List Sg.Timed} {k : List Sf.Chan} (hq : Each (CueAt ad H) qs l) (hc : Each (ChanAt ad H) cs k) (hk : 0 < k.length) : qs.map V.ref ≠ cs.map V.ref := fun e => by
  obtain ⟨b, b1, dx, _, _, _, b2, _⟩ := hc.2 0 _ (List.getElem?_eq_getElem hk)
  have e0 : (qs.map V.ref)[0]? = some (V.ref b) := by rw [e]; exact refs_get b1
  obtain ⟨b', b3, e1⟩ := refs_at e0
  cases e1
  have hl : 0 < l.length := by rw [← hq.1]; exact (List.getElem?_eq_some_iff.mp b3).1
  obtain ⟨b4, b5, d, ⟨dq, b6⟩, _⟩ := hq.2 0 _ (List.getElem?_eq_getElem hl)
  rw [b3] at b5
  cases b5
  rw [b2] at b6
  exact absurd (congrArg List.length (HO.ins.inj (Option.some.inj b6)).2.2) (by show ¬ 2 = 6; decide)
theorem cues_no_fade {ad : Ad} {H : Hp} {qs : List Addr} {l : List Sg.Timed} (hq : Each (CueAt ad H) qs l) : ∀ b f, V.ref b ∈ qs.map V.ref → ¬ FadeAt ad H b f := by
  intro b f hb
  obtain ⟨b', hb', e⟩ := List.mem_map.mp hb
  cases e
  obtain ⟨j, hj⟩ := List.getElem?_of_mem hb'
  have hlt : j < l.length := by rw [← hq.1]; exact (List.getElem?_eq_some_iff.mp hj).1
  obtain ⟨b2, q1, q2⟩ := hq.2 j _ (List.getElem?_eq_getElem hlt)
  rw [hj] at q1
  cases q1
  exact cue_no_fade q2
theorem merge_kvs : ∀ (ms : List (Nat × Nat)) (acc : List (Nat × Nat)), (acc ++ ms).Pairwise (fun a b => a.1 < b.1) → mergeK (kvs acc) (kvs ms) = kvs (acc ++ ms)
  | [], acc, _ => by rw [List.append_nil]; rfl
  | m :: r, acc, hp => by
    have hp2 := List.pairwise_append.mp hp
    have e1 : putK (kvs acc) (Sum.inl (m.1 : Int) : Key) (V.int (m.2 : Int)) = kvs (acc ++ [m]) := by
      unfold putK
      rw [if_neg]
      · unfold kvs
        rw [List.map_append]
        rfl
      · rw [List.any_eq_true]
        rintro ⟨x, hx, e⟩
        obtain ⟨y, hy, rfl⟩ := List.mem_map.mp hx
        have := hp2.2.2 y hy m (by simp)
        have e' : (Sum.inl (y.1 : Int) : Key) = Sum.inl (m.1 : Int) := of_decide_eq_true e
        have := Sum.inl.inj e'
        omega
    show mergeK (putK (kvs acc) (Sum.inl (m.1 : Int) : Key) (V.int (m.2 : Int))) (kvs r) = _
    rw [e1]
    have e2 : acc ++ m :: r = (acc ++ [m]) ++ r := by simp
    rw [e2] at hp ⊢
    exact merge_kvs r (acc ++ [m]) hp
section
variable {P : Program} {w : World} {K : PySem.W.Frag} {mg : Str → Option Value} {base : Heap} {ad : Ad}
theorem ok_Add (D : Df K mg "add_cue" (top 45)) (T : Na K ad) (ml : mg "len" = none) (mr : mg "range" = none) (mm : mg "max" = none) (md : mg "dict" = none) (gnum : Gc mg "MOST_NUMBER" 9999) (glen : Gc mg "MOST_LENGTH" 600) (gcues : Gc mg "MOST_CUES" 24)
    (c1 : Cl P w K mg base (L2.CX P w) 3 "ask" (spAsk ad)) (c2 : Cl P w K mg base (L2.CX P w) 4 "ask_moves" (spAskMoves ad)) (c3 : Mc P w K mg base 1 "Cue" ad.Q (spCue ad.Q)) : Cl P w K mg base (L2.CX P w) 5 "add_cue" (spAdd ad) := by
  refine clX D scAdd (fun _ _ _ _ _ _ us hl => match us, hl with | [_, _, _], _ => rfl) (fun vs H Q E ⟨_, _, _, _, _, _, _, _, _, _, _, _, _, e, _⟩ => by rw [e]; rfl) fun f0 cdv A outer s H vs Q E hr h => ?_
  obtain ⟨dd, p, L, nu, mo, cs, st, n, u, d, wt, f, ms, rfl, ⟨⟨dx, hd⟩, hst, hq⟩, wf, hnu, hmo, hml, hmL, hO⟩ := h
  have nd := scAdd.nd
  refine ⟨_, pss_cons (ps_set (i := 3) nd rfl (Or.inl rfl) (pe_fld (pe_fld (pv 0) rfl) rfl))
    (pss_cons (ps_set (i := 4) nd rfl (Or.inl rfl) pe_int)
    (C8.pss_cut (ps_if (pt_cmpR (op_neNil hr.units) (pv 3) (pe_lst pa_nil) (nomark _)) (pss_one (ps_set (i := 4) nd rfl (Or.inl rfl) (pe_fld (pe_ix ix_list (pv 3) (pe_un un_neg pe_int) (fun _ _ => rfl)) rfl))) pss_nil)
    (pss_cons (ps_expr (pe_cX c1 hr (takes_of rfl rfl rfl rfl) (pa_cons (pe_and (pe_cmpR op_lt (pv 4) (pe_ix ix_list (pv 1) pe_int (fun _ _ => rfl)) (nomark _)) (pe_and (pe_cmpR op_le (pe_ix ix_list (pv 1) pe_int (fun _ _ => rfl)) (C8.pe_gc rfl gnum) (nomark _))
        (pe_one (pe_cmpR op_le (pe_callB (cr_max rfl) (by rfl) mm (by decide +kernel) (pa_cons (pe_slice sl_list (pv 1) (po_some pe_int) po_none) pa_nil)) (C8.pe_gc rfl glen) (nomark _))))) (pa_cons (pe_un un_neg pe_int) pa_nil))))
    (pss_cons (ps_expr (pe_cX c2 hr (takes_of rfl rfl rfl rfl) (pa_cons (pv 2) pa_nil)))
    (pss_cons (ps_expr (pe_cX c1 hr (takes_of rfl rfl rfl rfl) (pa_cons (pe_cmpR op_lt (pe_callB call_len_seq (by rfl) ml PySem.boot_len (pa_cons (pv 3) pa_nil)) (C8.pe_gc rfl gcues) (nomark _)) (pa_cons (pe_un un_neg pe_int) pa_nil))))
    (pss_cons (ps_asg (pv 1) (pg_lst rfl (pgs_cons (pg_name (i := 5) nd rfl (Or.inl rfl)) (pgs_cons (pg_name (i := 6) nd rfl (Or.inl rfl)) (pgs_cons (pg_name (i := 7) nd rfl (Or.inl rfl)) (pgs_cons (pg_name (i := 8) nd rfl (Or.inl rfl)) (pgs_cons (pg_name (i := 9) nd rfl (Or.inl rfl)) pgs_nil)))))))
    (pss_cons (ps_set (i := 10) nd rfl (Or.inl rfl) (pe_callTy (call_dictP rfl) (by rfl) md (by decide +kernel) (pa_cons
      (pe_lc (own := [("at", 11)]) (g := gName 11) (tt := tYes) (te := tTup (tCons (tOp (rIxL K) (tVar 2) (tVar 11)) (tCons (tOp (rIxL K) (tVar 2) (tOp (rI0 fun i j => .int (i + j)) (tVar 11) (tC (.int 1)))) tNil))) rfl nd
        (pi_range3 rfl mr (pa_cons pe_int (pa_cons (pe_callB call_len_seq (by rfl) ml PySem.boot_len (pa_cons (pv 2) pa_nil)) (pa_cons pe_int pa_nil))))
        (blkOk_by (own := [("at", 11)]) (N := ["desk", "numbers", "moves", "cues", "last", "number", "up", "down", "delay", "follow", "levels", "at"]) (sc := defScope (top 45)) (by decide +kernel)) (fun _ _ _ _ _ => pg_name (i := 11) nd rfl (Or.inl rfl)) (fun _ _ _ _ _ => pts_nil)
        (fun _ _ _ _ _ => by exact (pe_tup (pa_cons (pe_ix ix_list (pv 2) (pv 11) (fun _ _ => rfl)) (pa_cons (pe_ix ix_list (pv 2) (pe_op op_add (pv 11) pe_int) (fun _ _ => rfl)) pa_nil))))) pa_nil)))
    (pss_cons (ps_expr (pe_bm PySem.F.plainAttrs_list PySem.F.slot_list_append PySem.F.type_list_append mt_append (pv 3) (pa_cons (pe_mk c3 hr (pa_cons (pv 5) (pa_cons (pv 6) (pa_cons (pv 7) (pa_cons (pv 8) (pa_cons (pv 9) (pa_cons (pv 10) pa_nil))))))) pa_nil)))
    (pss_one (ps_ret (pe_lst (pa_cons (pe_callB call_len_seq (by rfl) ml PySem.boot_len (pa_cons (pv 3) pa_nil)) pa_nil)))))))))))), ?_⟩
  obtain ⟨⟨dy, Lc, h1, h2⟩, h3, ndc⟩ := id hst
  obtain ⟨qs, g1, g2⟩ := id hq
  refine ⟨_, rfl, dd, ad.D, dx, _, _, rfl, hd, T.cD, T.Ds, fD_stage _, p, ad.S, dy, _, _, rfl, h1, T.cS, T.Sc, fS_cues _ _ _ _ _, ?_⟩
  refine ⟨fun σ' H' => Same H H' ∧ σ' = [some (.ref dd), some (.ref nu), some (.ref mo), some (.ref L), some (.int (st.lastNum : Int)), none, none, none, none, none, none, none], ?_, ?_⟩
  · refine ⟨_, rfl, (by show 0 ≤ sizeLine; decide), fun l hl => ?_⟩
    have s1 := same_new (o := HO.lst []) hl
    refine ⟨L, l, _, rfl, rfl, SqL.of (s1 _ _ g1), SqL.of upd_same, _, rfl, ?_⟩
    cases hlast : st.cues.getLast? with
    | none =>
      have e0 := List.getLast?_eq_none_iff.mp hlast
      have eq0 : qs = [] := List.eq_nil_of_length_eq_zero (by rw [g2.1, e0]; rfl)
      have eln : st.lastNum = 0 := by unfold Sf.St.lastNum; rw [hlast]
      subst eq0
      refine if_false_of rfl ⟨s1, ?_⟩
      rw [eln]
      rfl
    | some c =>
      have eln : st.lastNum = c.cue.number := by unfold Sf.St.lastNum; rw [hlast]
      have hne : st.cues ≠ [] := fun z => by rw [z] at hlast; cases hlast
      have hl0 : 0 < st.cues.length := List.length_pos_iff.mpr hne
      have hget : st.cues[st.cues.length - 1]? = some c := by rw [← List.getLast?_eq_getElem?]; exact hlast
      obtain ⟨b, b1, dq, ⟨dxq, b2⟩, b3⟩ := g2.2 _ _ hget
      have hql : (qs.map V.ref).getLast? = some (.ref b) := by
        rw [List.getLast?_eq_getElem?, List.length_map, g2.1]
        exact refs_get b1
      refine if_true_of ?_ ?_
      · cases qs with
        | nil => rw [← g2.1] at hl0; exact absurd hl0 (Nat.lt_irrefl 0)
        | cons _ _ => rfl
      · refine ⟨_, rfl, 1, rfl, L, _, _, _, rfl, rfl, SqL.of (s1 _ _ g1), atI_last hql, b, ad.Q, dxq, _, _, rfl, s1 _ _ b2, T.cQ, T.Qn, fQ_number _ _ _ _ _ _, s1, ?_⟩
        rw [eln]
        rfl
  · rintro σ' H1 ⟨s1, rfl⟩
    have hnu1 := s1 _ _ hnu
    have bad : ¬ (st.lastNum < n ∧ n ≤ 9999 ∧ (u ≤ 600 ∧ d ≤ 600 ∧ wt ≤ 600 ∧ f ≤ 600)) → Rz ad E H1 (-1) := fun hn => by
      unfold Sf.addX at hO
      rw [if_neg hn] at hO
      exact Rz.same hO s1
    refine ⟨_, rfl, _, rfl, nu, _, _, _, rfl, rfl, SqL.of hnu1, (rfl : atI (nV [n, u, d, wt, f]) 0 = some (V.int (n : Int))), _, _, rfl, rfl, _, rfl, ?_⟩
    by_cases q1 : st.lastNum < n
    rotate_left
    · refine if_false_of (decide_eq_false (by omega)) ?_
      exact ⟨1, rfl, _, _, rfl, fun e => Bool.noConfusion e, fun _ => bad fun z => q1 z.1⟩
    refine if_true_of (decide_eq_true (by omega)) ?_
    refine ⟨_, rfl, nu, _, _, _, rfl, rfl, SqL.of hnu1, (rfl : atI (nV [n, u, d, wt, f]) 0 = some (V.int (n : Int))), _, _, rfl, rfl, _, rfl, ?_⟩
    by_cases q2 : n ≤ 9999
    rotate_left
    · refine if_false_of (decide_eq_false (by omega)) ?_
      exact ⟨1, rfl, _, _, rfl, fun e => Bool.noConfusion e, fun _ => bad fun z => q2 z.2.1⟩
    refine if_true_of (decide_eq_true (by omega)) ?_
    refine ⟨_, rfl, 1, rfl, nu, _, rfl, SqL.of hnu1, fun q hqn => ?_⟩
    rw [cut_tail]
    have s2 : Same H1 (upd H1 q (.lst ((nV [n, u, d, wt, f]).drop 1))) := same_new hqn
    refine ⟨q, [(u : Int), (d : Int), (wt : Int), (f : Int)], rfl, SqL.of upd_same, (by decide : 0 < 4), fun m hm hle => ?_⟩
    refine ⟨_, _, rfl, rfl, 1, rfl, _, _, rfl, fun e => ?_, fun e => ?_⟩
    rotate_left
    · refine (bad fun z => ?_).same s2
      have e' := of_decide_eq_false e
      have hm' : m = (u : Int) ∨ m = (d : Int) ∨ m = (wt : Int) ∨ m = (f : Int) := by simpa using hm
      omega
    have q3 : u ≤ 600 ∧ d ≤ 600 ∧ wt ≤ 600 ∧ f ≤ 600 := by
      have e' := of_decide_eq_true e
      have a1 := hle (u : Int) (by simp)
      have a2 := hle (d : Int) (by simp)
      have a3 := hle (wt : Int) (by simp)
      have a4 := hle (f : Int) (by simp)
      omega
    unfold Sf.addX at hO
    rw [if_pos ⟨q1, q2, q3⟩] at hO
    have s02 := s1.trans s2
    generalize upd H1 q (.lst ((nV [n, u, d, wt, f]).drop 1)) = H2 at s02 ⊢
    refine ⟨_, rfl, mo, ms, rfl, s02 _ _ hmo, hml, fun mv hmv => ?_, fun hmv => ?_⟩
    rotate_left
    · rw [hmv] at hO
      exact Rz.same hO s02
    rw [hmv] at hO
    have hlen : ((qs.map V.ref).length : Int) = (st.cues.length : Int) := by rw [List.length_map, g2.1]
    refine ⟨_, rfl, L, _, rfl, .inl (SqL.of (s02 _ _ g1)), _, _, rfl, rfl, 5, rfl, _, _, rfl, fun e => ?_, fun e => ?_⟩
    rotate_left
    · have e' := of_decide_eq_false e
      rw [hlen] at e'
      have hn : ¬ st.cues.length < 24 := by omega
      have hO' : Outz ad Q E H dd L (if st.cues.length < 24 then .ok (Sf.addSt st ⟨⟨n, false, mv⟩, u, d, wt, f⟩, [((st.cues.length + 1 : Nat) : Int)]) else .error (-5)) := hO
      rw [if_neg hn] at hO'
      exact Rz.same hO' s02
    have q4 : st.cues.length < 24 := by
      have e' := of_decide_eq_true e
      rw [hlen] at e'
      omega
    have hO' : Outz ad Q E H dd L (if st.cues.length < 24 then .ok (Sf.addSt st ⟨⟨n, false, mv⟩, u, d, wt, f⟩, [((st.cues.length + 1 : Nat) : Int)]) else .error (-5)) := hO
    rw [if_pos q4] at hO'
    clear hO bad e
    refine ⟨_, rfl, nu, _, rfl, SqL.of (s02 _ _ hnu), rfl, _, _, rfl, _, _, rfl, _, _, rfl, _, _, rfl, _, _, rfl, rfl, ?_⟩
    -- the moves' dict
    obtain ⟨ml2, mget, mrise, mok⟩ := Sf.moves_some 0 ms mv hmv
    have hl : (nV ms).length = ms.length := List.length_map ..
    refine ⟨_, rfl, mo, _, rfl, .inl (SqL.of (s02 _ _ hmo)), 0, ((2 * mv.length : Nat) : Int), 2, mv.length, ?_, rg_two (by omega), fun D hD => ?_⟩
    · rw [hl, ml2]
    have hmoD : mo ≠ D := ne_of_none (s02 _ _ hmo) hD
    refine lc_it (walk_rangeC (lo := 0) (c := 2) (n := mv.length)) (fun i H' => ∃ ps : List Addr, Same (upd H2 D (.lst [])) (upd H' D (.lst [])) ∧ H' D = some (.lst (ps.map V.ref)) ∧ Paired (fun p kv => H' p = some (.tup [kV kv.1, kv.2])) ps (kvs (mv.take i))) ?_ (fun _ _ _ _ => trivial) ?_ ?_
    · exact ⟨[], by rw [upd_upd]; exact Same.refl _, upd_same, Paired.nil⟩
    · rintro i x H' H'' hi ⟨ps, s3, hD', hP⟩ ⟨rfl, rfl⟩
      have hmi : mv[i]? = some mv[i] := List.getElem?_eq_getElem hi
      generalize mv[i] = pr at hmi
      obtain ⟨x, y⟩ := pr
      obtain ⟨gx, gy⟩ := mget i x y hmi
      have hmo2 : H'' mo = some (.lst (nV ms)) := by
        have := s3 mo _ (by rw [upd_ne hmoD]; exact s02 _ _ hmo)
        rw [upd_ne hmoD] at this
        exact this
      have ex : (0 : Int) + (i : Nat) * 2 = ((2 * i : Nat) : Int) := by omega
      have ax : atI (nV ms) ((0 : Int) + (i : Nat) * 2) = some (.int (x : Int)) := by rw [ex]; exact atI_nat (nV_get gx)
      have ey : (0 : Int) + (i : Nat) * 2 + 1 = ((2 * i + 1 : Nat) : Int) := by omega
      have ay : atI (nV ms) ((0 : Int) + (i : Nat) * 2 + 1) = some (.int (y : Int)) := by rw [ey]; exact atI_nat (nV_get gy)
      refine ⟨rfl, ?_⟩
      refine ⟨_, rfl, _, rfl, mo, _, _, _, rfl, rfl, SqL.of hmo2, ax, ?_⟩
      refine ⟨_, rfl, _, rfl, _, _, rfl, rfl, mo, _, _, _, rfl, rfl, SqL.of hmo2, ay, (by show 2 ≤ sizeLine; decide), fun t ht => ?_⟩
      have s4 := same_new (o := HO.tup [V.int (x : Int), V.int (y : Int)]) ht
      have hpl : ps.length = i := by
        rw [hP.length]
        unfold kvs
        rw [List.length_map, List.length_take]
        omega
      refine ⟨_, s4 _ _ hD', ?_, ps ++ [t], ?_, ?_, ?_⟩
      · rw [List.length_map, hpl]
        exact small1000 (by omega)
      · rw [upd_upd]
        refine s3.trans fun b o hb => ?_
        by_cases z : b = D
        · subst z; rw [upd_same] at hb ⊢; exact hb
        · rw [upd_ne z] at hb ⊢; exact s4 _ _ hb
      · rw [upd_same, List.map_append]
        rfl
      · have ek : kvs (mv.take (i + 1)) = kvs (mv.take i) ++ [((Sum.inl (x : Int) : Key), V.int (y : Int))] := by
          rw [take_succ hmi]
          unfold kvs
          rw [List.map_append]
          rfl
        rw [ek]
        have up : ∀ {p : Addr} {vs : List V}, upd H'' t (.tup [V.int (x : Int), V.int (y : Int)]) p = some (.tup vs) → ∀ l, upd (upd H'' t (.tup [V.int (x : Int), V.int (y : Int)])) D (.lst l) p = some (.tup vs) := fun {p vs} h l => by
          rw [upd_ne]
          · exact h
          · intro z
            rw [z, s4 _ _ hD'] at h
            cases h
        refine Paired.snoc ?_ (up upd_same _)
        have gen : ∀ {a : List Addr} {b : List (Key × V)}, Paired (fun p kv => H'' p = some (.tup [kV kv.1, kv.2])) a b → ∀ l, Paired (fun p kv => upd (upd H'' t (.tup [V.int (x : Int), V.int (y : Int)])) D (.lst l) p = some (.tup [kV kv.1, kv.2])) a b := by
          intro a b h l
          induction h with
          | nil => exact .nil
          | cons h _ ih => exact .cons (up (s4 _ _ h) l) ih
        exact gen hP _
    · rintro H3 ⟨ps, s3, hD3, hP⟩
      rw [List.take_length] at hP
      have s23 : Same H2 H3 := fun b o hb => by
        have hbD : b ≠ D := ne_of_none hb hD
        have := s3 b o (by rw [upd_ne hbD]; exact hb)
        rw [upd_ne hbD] at this
        exact this
      have s03 := s02.trans s23
      have hP2 : Paired (fun p kv => SqT K H3 p [kV kv.1, kv.2]) ps (kvs mv) := by
        have gen : ∀ {a : List Addr} {b : List (Key × V)}, Paired (fun p kv => H3 p = some (.tup [kV kv.1, kv.2])) a b → Paired (fun p kv => SqT K H3 p [kV kv.1, kv.2]) a b := by
          intro a b h
          induction h with
          | nil => exact .nil
          | cons h _ ih => exact .cons (SqT.of h) ih
        exact gen hP
      refine ⟨D, ps, kvs mv, rfl, SqL.of hD3, hP2, fun dt hdt => ?_⟩
      have em : mergeK [] (kvs mv) = kvs mv := merge_kvs mv [] mrise
      rw [em]
      have s4 := same_new (o := HO.dK (kvs mv)) hdt
      have hdt2 := upd_same (H := H3) (a := dt) (o := HO.dK (kvs mv))
      have s04 := s03.trans s4
      generalize upd H3 dt (.dK (kvs mv)) = H4 at s04 hdt2 ⊢
      refine ⟨_, rfl, .inl ⟨rfl, _, SqL.of (s04 _ _ g1)⟩, ?_⟩
      refine ⟨_, rfl, _, rfl, _, rfl, _, rfl, _, rfl, _, rfl, ?_⟩
      intro x dxn nx ndn ne
      refine ⟨x, dxn, _, _, _, _, _, _, rfl, upd_same, rfl, ?_⟩
      have e2 : upd (upd (upd H4 dxn (.own x)) x (.ins ad.Q dxn [])) x (.ins ad.Q dxn (fQ (.int (n : Int)) (.int (u : Int)) (.int (d : Int)) (.int (wt : Int)) (.int (f : Int)) (.ref dt))) = made H4 dxn x ad.Q (fQ (.int (n : Int)) (.int (u : Int)) (.int (d : Int)) (.int (wt : Int)) (.int (f : Int)) (.ref dt)) := made_upd
      have s5 := made_same (C := ad.Q) (fs := fQ (.int (n : Int)) (.int (u : Int)) (.int (d : Int)) (.int (wt : Int)) (.int (f : Int)) (.ref dt)) nx ndn
      have hx := made_at (H := H4) (dx := dxn) (x := x) (C := ad.Q) (fs := fQ (.int (n : Int)) (.int (u : Int)) (.int (d : Int)) (.int (wt : Int)) (.int (f : Int)) (.ref dt))
      have hdt3 := s5 _ _ hdt2
      have s05 := s04.trans s5
      have hxn : H x = none := s04.free nx
      generalize made H4 dxn x ad.Q (fQ (.int (n : Int)) (.int (u : Int)) (.int (d : Int)) (.int (wt : Int)) (.int (f : Int)) (.ref dt)) = H5 at e2 s05 hx hdt3
      refine ⟨L, _, _, rfl, rfl, (congrFun e2 L).trans (s05 _ _ g1), ?_, ?_⟩
      · rw [List.length_map, g2.1]
        exact small1000 (by omega)
      refine ⟨_, rfl, L, _, rfl, .inl (SqL.of upd_same), (by show 1 ≤ sizeLine; decide), fun l hl2 => ?_⟩
      have eqs : qs.map V.ref ++ [V.ref x] = (qs ++ [x]).map V.ref := by rw [List.map_append]; rfl
      have ecue : CueAt ad H5 x ⟨⟨n, false, mv⟩, u, d, wt, f⟩ := ⟨dt, ⟨dxn, hx⟩, hdt3⟩
      have hq5 : Each (CueAt ad H5) (qs ++ [x]) (st.cues ++ [⟨⟨n, false, mv⟩, u, d, wt, f⟩]) := Each.snoc (g2.imp fun b c q => q.keep (Keep.of (M := fun _ => False) s05)) ecue
      have hst5 := hst.same s05
      have hq50 : Each (CueAt ad H5) qs st.cues := g2.imp fun b c q => q.keep (Keep.of (M := fun _ => False) s05)
      have hch5 := hst5.ch
      have hL5 := s05 _ _ g1
      have hd5 := s05 _ _ hd
      have hst6 : StageAt ad (upd H5 L (.lst (qs.map V.ref ++ [V.ref x]))) p L cs st := hst5.list hL5 (cues_no_fade hq50) (cues_no_chans hq50 hch5 (by rw [wf.n64]; decide))
      have hq6 : Each (CueAt ad (upd H5 L (.lst (qs.map V.ref ++ [V.ref x])))) (qs ++ [x]) (st.cues ++ [⟨⟨n, false, mv⟩, u, d, wt, f⟩]) := hq5.imp fun b c q => q.list hL5
      have hd6 : upd H5 L (.lst (qs.map V.ref ++ [V.ref x])) dd = some (.ins ad.D dx (fD (.ref p))) := by
        rw [upd_ne (fun z => by rw [z, hL5] at hd5; cases hd5)]
        exact hd5
      have hL6 := upd_same (H := H5) (a := L) (o := HO.lst (qs.map V.ref ++ [V.ref x]))
      have stay6 : Stay dd L H (upd H5 L (.lst (qs.map V.ref ++ [V.ref x]))) := fun b o hb _ hbL => by
        rw [upd_ne hbL]
        exact s05 _ _ hb
      have ell : ((qs.map V.ref ++ [V.ref x]).length : Int) = ((st.cues.length + 1 : Nat) : Int) := by rw [List.length_append, List.length_map, g2.1]; rfl
      have hl3 : upd H5 L (.lst (qs.map V.ref ++ [V.ref x])) l = none := by rw [← e2]; exact hl2
      have fin := fun (hh : Hp) (eh : hh = upd H5 L (.lst (qs.map V.ref ++ [V.ref x]))) => hO' (upd hh l (.lst [V.int (((qs.map V.ref ++ [V.ref x]).length : Nat) : Int)])) l p cs
      have key := fin _ (congrArg (fun h => upd h L (.lst (qs.map V.ref ++ [V.ref x]))) e2)
      have s7 := same_new (o := HO.lst [V.int (((qs.map V.ref ++ [V.ref x]).length : Nat) : Int)]) hl3
      refine key ?_ ?_ ?_ ?_
      · rw [e2]
        exact stay6.trans (Stay.of s7)
      · rw [e2]
        refine ⟨⟨dx, s7 _ _ hd6⟩, ?_, ⟨qs ++ [x], ?_, ?_⟩⟩
        · obtain ⟨z1, z2, z3⟩ := hst6.same s7
          exact ⟨z1, z2, z3⟩
        · rw [← eqs]
          exact s7 _ _ hL6
        · exact hq6.imp fun b c q => q.keep (Keep.of (M := fun _ => False) s7)
      · rw [upd_same, ell]
        rfl
      · have : upd H5 L (.lst (qs.map V.ref ++ [V.ref x])) l = none := hl3
        by_cases z : l = L
        · rw [z, upd_same] at this
          cases this
        · rw [upd_ne z] at this
          exact s05.free this
end
end Sw

namespace Sw
open PySem PySem.Spec PyProof.Rows L2
def spDk1 (ad : Ad) (o : Sf.St → Nat → Sf.Out) : Sp := fun vs H Q E => ∃ (dd p L : Addr) (cs : List Addr) (s : Sf.St) (t : Nat), vs = [.ref dd, .int (t : Int)] ∧ DeskAt ad H dd p L cs s ∧ Sf.DkWf s ∧ Outz ad Q E H dd L (o s t)
def spDk2 (ad : Ad) (o : Sf.St → Nat → Nat → Sf.Out) : Sp := fun vs H Q E => ∃ (dd p L : Addr) (cs : List Addr) (s : Sf.St) (t x : Nat), vs = [.ref dd, .int (t : Int), .int (x : Int)] ∧ DeskAt ad H dd p L cs s ∧ Sf.DkWf s ∧ Outz ad Q E H dd L (o s t x)
def spDk3 (ad : Ad) (o : Sf.St → Nat → Nat → Nat → Sf.Out) : Sp := fun vs H Q E => ∃ (dd p L : Addr) (cs : List Addr) (s : Sf.St) (t x z : Nat), vs = [.ref dd, .int (t : Int), .int (x : Int), .int (z : Int)] ∧ DeskAt ad H dd p L cs s ∧ Sf.DkWf s ∧ Outz ad Q E H dd L (o s t x z)
def spReset (ad : Ad) : Sp := fun vs H Q _ => ∃ (dd p L : Addr) (cs : List Addr) (s : Sf.St), vs = [.ref dd] ∧ DeskAt ad H dd p L cs s ∧ Okz ad Q H dd L (Sf.newSt s.cues) [0]
theorem scGo : FnScope ["desk", "time", "stage", "place"] ["desk", "time"] (defScope (top 47)) := ⟨rfl, rfl, rfl, by decide +kernel, rfl, by decide +kernel, by decide +kernel⟩
theorem scAtTold : FnScope ["desk", "time", "channel"] ["desk", "time", "channel"] (defScope (top 50)) := ⟨rfl, rfl, rfl, by decide +kernel, rfl, by decide +kernel, by decide +kernel⟩
theorem scStand : FnScope ["desk", "time", "stage", "number", "following"] ["desk", "time"] (defScope (top 51)) := ⟨rfl, rfl, rfl, by decide +kernel, rfl, by decide +kernel, by decide +kernel⟩
theorem scWhen : FnScope ["desk", "time", "channel", "level", "found"] ["desk", "time", "channel", "level"] (defScope (top 52)) := ⟨rfl, rfl, rfl, by decide +kernel, rfl, by decide +kernel, by decide +kernel⟩
theorem scReset : FnScope ["desk"] ["desk"] (defScope (top 53)) := ⟨rfl, rfl, rfl, by decide +kernel, rfl, by decide +kernel, by decide +kernel⟩
/-- within time, or refused -/
theorem Outz.timed {ad : Ad} {Q : VK} {E : XK} {H : Hp} {dd L : Addr} {s : Sf.St} {t : Nat} {o : Sf.Out} (h : Outz ad Q E H dd L (Sf.timed s t o)) : (s.now ≤ t ∧ t ≤ 1000000 → Outz ad Q E H dd L o) ∧ (¬ (s.now ≤ t ∧ t ≤ 1000000) → Rz ad E H (-1)) := by
  unfold Sf.timed at h
  exact ⟨fun c => by rw [if_pos c] at h; exact h, fun c => by rw [if_neg c] at h; exact h⟩
/-- the desk is given a new stage -/
theorem DeskAt.given {ad : Ad} {H H3 : Hp} {dd p p' L : Addr} {cs cs' : List Addr} {s s' : Sf.St} (h : DeskAt ad H dd p L cs s) (s3 : Same H H3) (hs : StageAt ad H3 p' L cs' s') (hq : CuesAt ad H3 L s'.cues) (np : H p' = none) (nc : ∀ b ∈ cs', H b = none) :
    ∃ dx, H3 dd = some (.ins ad.D dx (fD (.ref p))) ∧ DeskAt ad (upd H3 dd (.ins ad.D dx (fD (.ref p')))) dd p' L cs' s' ∧ Stay dd L H (upd H3 dd (.ins ad.D dx (fD (.ref p')))) := by
  obtain ⟨⟨dx, hd⟩, _, _⟩ := h
  have hd3 := s3 _ _ hd
  have hk : Keep (· = dd) H3 (upd H3 dd (.ins ad.D dx (fD (.ref p')))) := keep_at hd3 rfl rfl
  refine ⟨dx, hd3, ⟨⟨dx, upd_same⟩, hs.keep hk (fun z => ?_) (fun b hb z => ?_), hq.keep hk⟩, fun b o hb hbd _ => ?_⟩
  · rw [z, hd] at np; cases np
  · have := nc b hb
    rw [z, hd] at this
    cases this
  · rw [upd_ne hbd]
    exact s3 _ _ hb
/-- nothing of the desk is touched -/
theorem DeskAt.same {ad : Ad} {H H' : Hp} {dd p L : Addr} {cs : List Addr} {s : Sf.St} (h : DeskAt ad H dd p L cs s) (k : Same H H') : DeskAt ad H' dd p L cs s := by
  obtain ⟨⟨dx, hd⟩, h2, h3⟩ := h
  exact ⟨⟨dx, k _ _ hd⟩, h2.same k, h3.same k⟩
section
variable {P : Program} {w : World} {K : PySem.W.Frag} {mg : Str → Option Value} {base : Heap} {ad : Ad}
theorem ok_Go (D : Df K mg "go" (top 47)) (T : Na K ad) (ml : mg "len" = none) (c0 : Cl P w K mg base (L2.CX P w) 3 "ask" (spAsk ad)) (c1 : Cl P w K mg base (L2.CX P w) 4 "ask_time" (spAskTime ad)) (c2 : Cl P w K mg base CX0 9 "by_time" (spByTime ad))
    (c3 : Cl P w K mg base CX0 7 "cue_goes" (spGoes ad)) (c4 : Cl P w K mg base CX0 1 "is_told" (spIsTold ad)) : Cl P w K mg base (L2.CX P w) 10 "go" (spDk1 ad Sf.goX) := by
  refine clX D scGo (fun _ _ _ _ _ _ us hl => match us, hl with | [_, _], _ => rfl) (fun vs H Q E ⟨_, _, _, _, _, _, e, _⟩ => by rw [e]; rfl) fun f cdv A outer s H vs Q E hr h => ?_
  obtain ⟨dd, p, L, cs, st, t, rfl, hdk, wf, hO⟩ := h
  have nd := scGo.nd
  refine ⟨_, pss_cons (ps_expr (pe_cX c1 hr (takes_of rfl rfl rfl rfl) (pa_cons (pv 0) (pa_cons (pv 1) pa_nil))))
    (pss_cons (ps_set (i := 2) nd rfl (Or.inl rfl) (pe_c c2 hr (pa_cons (pe_fld (pv 0) rfl) (pa_cons (pv 1) pa_nil))))
    (pss_cons (ps_set (i := 3) nd rfl (Or.inl rfl) (pe_op op_add (pe_fld (pv 2) rfl) pe_int))
    (pss_cons (ps_expr (pe_cX c0 hr (takes_of rfl rfl rfl rfl) (pa_cons (pe_cmpR op_lt (pv 3) (pe_callB call_len_seq (by rfl) ml PySem.boot_len (pa_cons (pe_fld (pv 2) rfl) pa_nil)) (nomark _)) (pa_cons (pe_un un_neg pe_int) pa_nil))))
    (pss_cons (ps_expr (pe_c c3 hr (pa_cons (pv 2) (pa_cons (pv 3) (pa_cons (pv 1) pa_nil)))))
    (pss_cons (ps_expr (pe_c c4 hr (pa_cons (pv 2) pa_nil)))
    (pss_cons (ps_fld (pv 0) (pv 2) rfl)
    (pss_one (ps_ret (pe_lst (pa_cons (pe_fld (pe_ix ix_list (pe_fld (pv 2) rfl) (pv 3) (fun _ _ => rfl)) rfl) pa_nil)))))))))), ?_⟩
  have hO1 := hO.timed
  refine ⟨_, rfl, _, rfl, dd, p, L, cs, st, t, rfl, hdk, fun ht => ?_, hO1.2⟩
  have hO := hO1.1 ht
  obtain ⟨⟨dx, hd⟩, hs, hq⟩ := id hdk
  refine ⟨_, rfl, dd, ad.D, dx, _, _, rfl, hd, T.cD, T.Ds, fD_stage _, _, rfl, p, L, cs, st, t, rfl, hs, hq, wf.toStWf, fun H1 p' cs' s1 hs1 hp1 np nc => ?_⟩
  have hc1 : (st.upTo t).cues = st.cues := Sf.upTo_cues st t
  have hq1 : CuesAt ad H1 L (st.upTo t).cues := by rw [hc1]; exact hq.same s1
  have wfu := Sf.wf_upTo wf.toStWf t
  have hnow := (Sf.upTo_now ht.1).1
  generalize hu : st.upTo t = u at *
  obtain ⟨⟨dy, Lc, h1, h2⟩, _, _⟩ := id hs1
  obtain ⟨qs, g1, g2⟩ := id hq1
  refine ⟨_, rfl, p', ad.S, dy, _, _, rfl, h1, T.cS, T.Sl, fS_last _ _ _ _ _, _, _, rfl, rfl, ?_⟩
  refine ⟨_, rfl, _, rfl, p', ad.S, dy, _, _, rfl, h1, T.cS, T.Sc, fS_cues _ _ _ _ _, L, _, rfl, .inl (SqL.of g1), _, _, rfl, rfl, 3, rfl, _, _, rfl, fun e => ?_, fun e => ?_⟩
  rotate_left
  · have e' := of_decide_eq_false e
    rw [List.length_map, g2.1, hc1] at e'
    have hn : ¬ u.gone < st.cues.length := by omega
    rw [if_neg hn] at hO
    exact Rz.same hO s1
  have hlt : u.gone < u.cues.length := by
    have e' := of_decide_eq_true e
    rw [List.length_map, g2.1] at e'
    omega
  have hO2 := hO
  rw [if_pos (by rw [← hc1]; exact hlt)] at hO2
  have e9 : (u.gone : Int) - 1 + 1 = (u.gone : Int) := by omega
  refine ⟨_, rfl, _, rfl, _, rfl, p', L, cs', u, u.gone, t, congrArg (fun (z : Int) => [V.ref p', V.int z, V.int (t : Int)]) e9, hs1, hq1, wfu, hlt, hnow, hp1.mono (by omega), fun H2 k2 hs2 => ?_⟩
  have hq2 := hq1.keep k2
  have hcg : (u.goes u.gone t).cues = u.cues := Sf.goes_cues _ _ _
  refine ⟨_, rfl, p', L, cs', _, rfl, hs2, by rw [hcg]; exact hq2, fun H3 k3 hs3 => ?_⟩
  have k13 : Keep (fun b => b = p' ∨ b ∈ cs') H1 H3 := k2.trans (k3.mono fun b e => .inl e)
  have s3 : Same H H3 := fresh_keep s1 (fun b hb => hb.elim (fun e => by rw [e]; exact np) (nc b)) k13
  have hq3 : CuesAt ad H3 L (u.goes u.gone t).told.cues := by
    show CuesAt ad H3 L (u.goes u.gone t).cues
    rw [hcg]
    exact hq2.keep k3
  obtain ⟨dx', hd3, hdk3, stay3⟩ := hdk.given s3 hs3 hq3 np nc
  rw [s3 _ _ hd] at hd3
  have edx := (HO.ins.inj (Option.some.inj hd3)).2.1
  subst edx
  refine ⟨_, rfl, _, rfl, dd, ad.D, dx, _, rfl, s3 _ _ hd, T.cD, T.Ds, (by show 1 < 1000; decide), ?_⟩
  rw [fD_put]
  obtain ⟨hdd, hst4, qs4, g41, g42⟩ := id hdk3
  obtain ⟨⟨dz, Lz, h41, _⟩, _, _⟩ := id hst4
  have hc4 : (u.goes u.gone t).told.cues = u.cues := hcg
  rw [hc4] at g42
  obtain ⟨b, b1, dq, ⟨dxq, b2⟩, _⟩ := g42.2 u.gone _ (List.getElem?_eq_getElem hlt)
  have at_ : atI (qs4.map V.ref) ((u.gone : Int) - 1 + 1) = some (.ref b) := by
    rw [e9]
    exact atI_nat (refs_get b1)
  refine ⟨_, rfl, p', ad.S, dz, _, _, rfl, h41, T.cS, T.Sc, fS_cues _ _ _ _ _, _, rfl, L, _, _, _, rfl, rfl, SqL.of g41, at_, b, ad.Q, dxq, _, _, rfl, b2, T.cQ, T.Qn, fQ_number _ _ _ _ _ _, (by show 1 ≤ sizeLine; decide), fun l hl => ?_⟩
  have en : Sf.numAt st.cues u.gone = u.cues[u.gone].cue.number := by
    unfold Sf.numAt
    rw [← hc1, List.getElem?_eq_getElem hlt]
  have s5 := same_new (o := HO.lst [V.int (u.cues[u.gone].cue.number : Int)]) hl
  refine hO2 _ l p' cs' (stay3.trans (Stay.of s5)) (hdk3.same s5) ?_ ?_
  · rw [upd_same, en]
    rfl
  · by_cases z : l = dd
    · rw [z, upd_same] at hl; cases hl
    · rw [upd_ne z] at hl
      exact s3.free hl
end
end Sw

namespace Sw
open PySem PySem.Spec PyProof.Rows L2
section
variable {P : Program} {w : World} {K : PySem.W.Frag} {mg : Str → Option Value} {base : Heap} {ad : Ad}
theorem ok_AtTold (D : Df K mg "at_told" (top 50)) (T : Na K ad) (mli : mg "list" = none) (c1 : Cl P w K mg base (L2.CX P w) 4 "ask_time" (spAskTime ad)) (c2 : Cl P w K mg base (L2.CX P w) 4 "ask_channel" (spAskChannel ad)) (c3 : Cl P w K mg base CX0 9 "by_time" (spByTime ad))
    (c4 : Cl P w K mg base CX0 6 "value_at" (spValueAt ad)) : Cl P w K mg base (L2.CX P w) 10 "at_told" (spDk2 ad Sf.atX) := by
  refine clX D scAtTold (fun _ _ _ _ _ _ us hl => match us, hl with | [_, _, _], _ => rfl) (fun vs H Q E ⟨_, _, _, _, _, _, _, e, _⟩ => by rw [e]; rfl) fun f cdv A outer s H vs Q E hr h => ?_
  obtain ⟨dd, p, L, cs, st, t, x, rfl, hdk, wf, hO⟩ := h
  refine ⟨_, pss_cons (ps_expr (pe_cX c1 hr (takes_of rfl rfl rfl rfl) (pa_cons (pv 0) (pa_cons (pv 1) pa_nil))))
    (pss_cons (ps_expr (pe_cX c2 hr (takes_of rfl rfl rfl rfl) (pa_cons (pv 2) pa_nil)))
    (pss_one (ps_ret (pe_callTy call_list_of (by rfl) mli (by decide +kernel) (pa_cons (pe_c c4 hr (pa_cons (pe_ix ix_list (pe_fld (pe_c c3 hr (pa_cons (pe_fld (pv 0) rfl) (pa_cons (pv 1) pa_nil))) rfl) (pe_op op_sub (pv 2) pe_int) (fun _ _ => rfl)) (pa_cons (pv 1) pa_nil))) pa_nil))))), ?_⟩
  have hO1 := hO.timed
  refine ⟨_, rfl, _, rfl, dd, p, L, cs, st, t, rfl, hdk, fun ht => ?_, hO1.2⟩
  have hO := hO1.1 ht
  refine ⟨_, rfl, x, rfl, fun hx => ?_, fun hx => by rw [if_neg hx] at hO; exact hO⟩
  rw [if_pos hx] at hO
  obtain ⟨⟨dx, hd⟩, hs, hq⟩ := id hdk
  refine ⟨_, rfl, dd, ad.D, dx, _, _, rfl, hd, T.cD, T.Ds, fD_stage _, _, rfl, p, L, cs, st, t, rfl, hs, hq, wf.toStWf, fun H1 p' cs' s1 hs1 hp1 np nc => ?_⟩
  have wfu := Sf.wf_upTo wf.toStWf t
  have hnow := (Sf.upTo_now ht.1).1
  obtain ⟨⟨dy, Lc, h1, h2⟩, h3, _⟩ := id hs1
  have cm := Sf.ch_mem wfu hx
  obtain ⟨a, a1, a2⟩ := h3.2 _ _ cm.2
  have e0 : (x : Int) - 1 = ((x - 1 : Nat) : Int) := by omega
  have at_ : atI (cs'.map V.ref) ((x : Int) - 1) = some (.ref a) := by
    rw [e0]
    exact atI_nat (refs_get a1)
  refine ⟨p', ad.S, dy, _, _, rfl, h1, T.cS, T.Sh, fS_channels _ _ _ _ _, _, rfl, _, _, rfl, rfl, Lc, _, _, _, rfl, rfl, SqL.of h2, at_, _, rfl, ?_⟩
  refine ⟨a, _, t, (st.upTo t).now, rfl, a2, wfu.ch _ cm.1, hnow, Nat.le_trans (hp1 _ cm.1) (by omega), fun H2 q k2 hq2 => ?_⟩
  refine ⟨q, _, rfl, .inr (SqT.of hq2), fun l hl => ?_⟩
  have s2 : Same H H2 := fresh_keep s1 (fun b hb => by rw [hb]; exact nc a (List.mem_of_getElem? a1)) k2
  have s3 := s2.trans (same_new (o := HO.lst [V.int (((st.upTo t).ch x).cur.level t).num, V.int ((((st.upTo t).ch x).cur.level t).den : Int)]) hl)
  exact hO _ l p cs (Stay.of s3) (hdk.same s3) upd_same (s2.free hl)
theorem ok_Stand (D : Df K mg "stand" (top 51)) (T : Na K ad) (c1 : Cl P w K mg base (L2.CX P w) 4 "ask_time" (spAskTime ad)) (c3 : Cl P w K mg base CX0 9 "by_time" (spByTime ad))
    (c4 : Cl P w K mg base CX0 1 "following_time" (spFollowing ad)) : Cl P w K mg base (L2.CX P w) 10 "stand" (spDk1 ad Sf.standX) := by
  refine clX D scStand (fun _ _ _ _ _ _ us hl => match us, hl with | [_, _], _ => rfl) (fun vs H Q E ⟨_, _, _, _, _, _, e, _⟩ => by rw [e]; rfl) fun f cdv A outer s H vs Q E hr h => ?_
  obtain ⟨dd, p, L, cs, st, t, rfl, hdk, wf, hO⟩ := h
  have nd := scStand.nd
  refine ⟨_, pss_cons (ps_expr (pe_cX c1 hr (takes_of rfl rfl rfl rfl) (pa_cons (pv 0) (pa_cons (pv 1) pa_nil))))
    (pss_cons (ps_set (i := 2) nd rfl (Or.inl rfl) (pe_c c3 hr (pa_cons (pe_fld (pv 0) rfl) (pa_cons (pv 1) pa_nil))))
    (pss_cons (ps_set (i := 3) nd rfl (Or.inl rfl) pe_int)
    (C8.pss_cut (ps_if (pt_cmpR op_ge (pe_fld (pv 2) rfl) pe_int (nomark _)) (pss_one (ps_set (i := 3) nd rfl (Or.inl rfl) (pe_fld (pe_ix ix_list (pe_fld (pv 2) rfl) (pe_fld (pv 2) rfl) (fun _ _ => rfl)) rfl))) pss_nil)
    (pss_cons (ps_set (i := 4) nd rfl (Or.inl rfl) (pe_c c4 hr (pa_cons (pv 2) pa_nil)))
    (pss_cons (ps_if (pt_cmpR op_lt (pv 4) pe_int (nomark _)) (pss_one (ps_ret (pe_lst (pa_cons (pv 3) (pa_cons pe_int pa_nil))))) pss_nil)
    (pss_one (ps_ret (pe_lst (pa_cons (pv 3) (pa_cons pe_int (pa_cons (pv 4) pa_nil))))))))))), ?_⟩
  have hO1 := hO.timed
  refine ⟨_, rfl, _, rfl, dd, p, L, cs, st, t, rfl, hdk, fun ht => ?_, hO1.2⟩
  have hO := hO1.1 ht
  obtain ⟨⟨dx, hd⟩, hs, hq⟩ := id hdk
  refine ⟨_, rfl, dd, ad.D, dx, _, _, rfl, hd, T.cD, T.Ds, fD_stage _, _, rfl, p, L, cs, st, t, rfl, hs, hq, wf.toStWf, fun H1 p' cs' s1 hs1 hp1 np nc => ?_⟩
  have hc1 : (st.upTo t).cues = st.cues := Sf.upTo_cues st t
  have hq1 : CuesAt ad H1 L (st.upTo t).cues := by rw [hc1]; exact hq.same s1
  have wfu := Sf.wf_upTo wf.toStWf t
  generalize hu : st.upTo t = u at *
  obtain ⟨⟨dy, Lc, h1, h2⟩, _, _⟩ := id hs1
  obtain ⟨qs, g1, g2⟩ := id hq1
  refine ⟨fun σ' H' => H' = H1 ∧ σ' = [some (.ref dd), some (.int (t : Int)), some (.ref p'), some (.int (u.goneNum : Int)), none], ?_, ?_⟩
  · refine ⟨_, rfl, p', ad.S, dy, _, _, rfl, h1, T.cS, T.Sl, fS_last _ _ _ _ _, _, _, rfl, rfl, _, rfl, ?_⟩
    by_cases c : u.gone = 0
    · refine if_false_of (decide_eq_false (by omega)) ⟨rfl, ?_⟩
      have e : u.goneNum = 0 := by unfold Sf.St.goneNum; rw [if_pos c]
      rw [e]
      rfl
    · refine if_true_of (decide_eq_true (by omega)) ?_
      have hlt : u.gone - 1 < u.cues.length := by have := wfu.gn; omega
      obtain ⟨b, b1, dq, ⟨dxq, b2⟩, _⟩ := g2.2 _ _ (List.getElem?_eq_getElem hlt)
      have e0 : (u.gone : Int) - 1 = ((u.gone - 1 : Nat) : Int) := by omega
      have at_ : atI (qs.map V.ref) ((u.gone : Int) - 1) = some (.ref b) := by
        rw [e0]
        exact atI_nat (refs_get b1)
      refine ⟨_, rfl, p', ad.S, dy, _, _, rfl, h1, T.cS, T.Sc, fS_cues _ _ _ _ _, _, rfl, p', ad.S, dy, _, _, rfl, h1, T.cS, T.Sl, fS_last _ _ _ _ _, L, _, _, _, rfl, rfl, SqL.of g1, at_, b, ad.Q, dxq, _, _, rfl, b2, T.cQ, T.Qn, fQ_number _ _ _ _ _ _, rfl, ?_⟩
      have e : u.goneNum = u.cues[u.gone - 1].cue.number := by
        unfold Sf.St.goneNum Sf.numAt
        rw [if_neg c, List.getElem?_eq_getElem hlt]
      rw [e]
      rfl
  · rintro σ' H' ⟨rfl, rfl⟩
    refine ⟨_, rfl, p', L, cs', u, rfl, hs1, hq1, wfu.gn, ?_⟩
    refine ⟨_, rfl, _, _, rfl, rfl, _, rfl, ?_⟩
    cases hdue : u.due with
    | none =>
      have ed : dueI u = -1 := by unfold dueI; rw [hdue]
      have hO' : Okz ad Q H dd L st [(u.goneNum : Int), 0] := by
        have hO2 : Okz ad Q H dd L st ((u.goneNum : Int) :: (match u.due with | none => [0] | some d => [1, (d : Int)])) := hO
        rw [hdue] at hO2
        exact hO2
      refine if_true_of (decide_eq_true (by rw [ed]; decide)) ?_
      refine ⟨_, rfl, (by show 2 ≤ sizeLine; decide), fun l hl => ?_⟩
      have s3 := s1.trans (same_new (o := HO.lst [V.int (u.goneNum : Int), V.int 0]) hl)
      exact hO' _ l p cs (Stay.of s3) (hdk.same s3) upd_same (s1.free hl)
    | some d =>
      have ed : dueI u = (d : Int) := by unfold dueI; rw [hdue]
      have hO' : Okz ad Q H dd L st [(u.goneNum : Int), 1, (d : Int)] := by
        have hO2 : Okz ad Q H dd L st ((u.goneNum : Int) :: (match u.due with | none => [0] | some d => [1, (d : Int)])) := hO
        rw [hdue] at hO2
        exact hO2
      refine if_false_of (decide_eq_false (by rw [ed]; omega)) ?_
      refine ⟨_, rfl, _, rfl, (by show 3 ≤ sizeLine; decide), fun l hl => ?_⟩
      have s3 := s1.trans (same_new (o := HO.lst [V.int (u.goneNum : Int), V.int 1, V.int (dueI u)]) hl)
      exact hO' _ l p cs (Stay.of s3) (hdk.same s3) (by rw [upd_same, ed]; rfl) (s1.free hl)
theorem ok_When (D : Df K mg "when" (top 52)) (T : Na K ad) (gl : Gc mg "MOST_LEVEL" 100) (c0 : Cl P w K mg base (L2.CX P w) 3 "ask" (spAsk ad)) (c1 : Cl P w K mg base (L2.CX P w) 4 "ask_time" (spAskTime ad)) (c2 : Cl P w K mg base (L2.CX P w) 4 "ask_channel" (spAskChannel ad))
    (c3 : Cl P w K mg base CX0 8 "follow_all" (spFollowAll ad)) (c4 : Cl P w K mg base CX0 7 "when_met" (spWhenMet ad)) : Cl P w K mg base (L2.CX P w) 10 "when" (spDk3 ad Sf.whenX) := by
  refine clX D scWhen (fun _ _ _ _ _ _ us hl => match us, hl with | [_, _, _, _], _ => rfl) (fun vs H Q E ⟨_, _, _, _, _, _, _, _, e, _⟩ => by rw [e]; rfl) fun f cdv A outer s H vs Q E hr h => ?_
  obtain ⟨dd, p, L, cs, st, t, x, z, rfl, hdk, wf, hO⟩ := h
  have nd := scWhen.nd
  refine ⟨_, pss_cons (ps_expr (pe_cX c1 hr (takes_of rfl rfl rfl rfl) (pa_cons (pv 0) (pa_cons (pv 1) pa_nil))))
    (pss_cons (ps_expr (pe_cX c2 hr (takes_of rfl rfl rfl rfl) (pa_cons (pv 2) pa_nil)))
    (pss_cons (ps_expr (pe_cX c0 hr (takes_of rfl rfl rfl rfl) (pa_cons (pe_cmpR op_le (pv 3) (C8.pe_gc rfl gl) (nomark _)) (pa_cons (pe_un un_neg pe_int) pa_nil))))
    (pss_cons (ps_set (i := 4) nd rfl (Or.inl rfl) (pe_c c4 hr (pa_cons (pe_ix ix_list (pe_fld (pe_c c3 hr (pa_cons (pe_fld (pv 0) rfl) pa_nil)) rfl) (pe_op op_sub (pv 2) pe_int) (fun _ _ => rfl)) (pa_cons (pv 1) (pa_cons (pv 3) pa_nil)))))
    (pss_cons (ps_expr (pe_cX c0 hr (takes_of rfl rfl rfl rfl) (pa_cons (pe_cmpR op_ge (pv 4) pe_int (nomark _)) (pa_cons (pe_un un_neg pe_int) pa_nil))))
    (pss_one (ps_ret (pe_lst (pa_cons (pv 4) pa_nil)))))))), ?_⟩
  have hO1 := hO.timed
  refine ⟨_, rfl, _, rfl, dd, p, L, cs, st, t, rfl, hdk, fun ht => ?_, hO1.2⟩
  have hO := hO1.1 ht
  refine ⟨_, rfl, x, rfl, fun hx => ?_, fun hx => by rw [if_neg hx] at hO; exact hO⟩
  rw [if_pos hx] at hO
  refine ⟨_, rfl, _, _, rfl, rfl, 1, rfl, _, _, rfl, fun e => ?_, fun e => ?_⟩
  rotate_left
  · have e' := of_decide_eq_false e
    rw [if_neg (by omega)] at hO
    exact hO
  have hz : z ≤ 100 := by
    have e' := of_decide_eq_true e
    omega
  rw [if_pos hz] at hO
  obtain ⟨⟨dx, hd⟩, hs, hq⟩ := id hdk
  refine ⟨_, rfl, dd, ad.D, dx, _, _, rfl, hd, T.cD, T.Ds, fD_stage _, p, L, cs, st, rfl, hs, hq, wf.toStWf, fun H1 p' cs' s1 hs1 hp1 np nc => ?_⟩
  have wfu := Sf.wf_final wf.toStWf
  obtain ⟨⟨dy, Lc, h1, h2⟩, h3, _⟩ := id hs1
  have cm := Sf.ch_mem wfu hx
  obtain ⟨a, a1, a2⟩ := h3.2 _ _ cm.2
  have e0 : (x : Int) - 1 = ((x - 1 : Nat) : Int) := by omega
  have at_ : atI (cs'.map V.ref) ((x : Int) - 1) = some (.ref a) := by
    rw [e0]
    exact atI_nat (refs_get a1)
  refine ⟨p', ad.S, dy, _, _, rfl, h1, T.cS, T.Sh, fS_channels _ _ _ _ _, _, rfl, _, _, rfl, rfl, Lc, _, _, _, rfl, rfl, SqL.of h2, at_, _, rfl, _, rfl, ?_⟩
  refine ⟨a, _, st.final.now, t, z, rfl, a2, wfu.ch _ cm.1, Nat.le_trans (hp1 _ cm.1) (by omega), hz, fun H2 k2 => ?_⟩
  have s2 : Same H H2 := fresh_keep s1 (fun b hb => by rw [hb]; exact nc a (List.mem_of_getElem? a1)) k2
  have ew : Sf.whenI (Sf.sideAt t z (st.final.ch x).all) t z (Sf.withUntil (st.final.ch x).all) = st.whenM x t z := rfl
  rw [ew]
  generalize st.whenM x t z = m at hO ⊢
  refine ⟨_, rfl, _, _, rfl, rfl, 3, rfl, _, _, rfl, fun e => ?_, fun e => ?_⟩
  rotate_left
  · have e' := of_decide_eq_false e
    rw [if_neg (by omega)] at hO
    exact Rz.same hO s2
  have e' := of_decide_eq_true e
  rw [if_pos (by omega)] at hO
  refine ⟨_, rfl, (by show 1 ≤ sizeLine; decide), fun l hl => ?_⟩
  have s3 := s2.trans (same_new (o := HO.lst [V.int m]) hl)
  exact hO _ l p cs (Stay.of s3) (hdk.same s3) upd_same (s2.free hl)
theorem ok_Reset (D : Df K mg "reset" (top 53)) (T : Na K ad) (c1 : Mc P w K mg base 4 "Stage" ad.S (spStage ad)) : Cl P w K mg base CX0 6 "reset" (spReset ad) := by
  refine cl0 D scReset (fun _ _ _ _ _ _ us hl => match us, hl with | [_], _ => rfl) (fun vs H Q E ⟨_, _, _, _, _, e, _⟩ => by rw [e]; rfl) fun f cdv A outer s H vs Q E hr h => ?_
  obtain ⟨dd, p, L, cs, st, rfl, hdk, hO⟩ := h
  refine ⟨_, pss_cons (ps_fld (pv 0) (pe_mk c1 hr (pa_cons (pe_fld (pe_fld (pv 0) rfl) rfl) pa_nil)) rfl) (pss_one (ps_ret (pe_lst (pa_cons pe_int pa_nil)))), ?_⟩
  obtain ⟨⟨dx, hd⟩, hs, hq⟩ := id hdk
  obtain ⟨⟨dy, Lc, h1, h2⟩, _, _⟩ := id hs
  refine ⟨_, rfl, dd, ad.D, dx, _, _, rfl, hd, T.cD, T.Ds, fD_stage _, p, ad.S, dy, _, _, rfl, h1, T.cS, T.Sc, fS_cues _ _ _ _ _, ?_⟩
  intro x dz nx nz ne
  refine ⟨x, dz, L, rfl, upd_same, fun H1 cn s0 hst fr0 => ?_⟩
  have s1 : Same H H1 := fun b o hb => by
    refine s0 b o ?_ (ne_of_none hb nx)
    rw [upd_ne (ne_of_none hb nx), upd_ne (ne_of_none hb nz)]
    exact hb
  have nc : ∀ b ∈ cn, H b = none := fun b hb => by
    have := fr0 b hb
    by_cases z1 : b = x
    · rw [z1]; exact nx
    · by_cases z2 : b = dz
      · rw [z2]; exact nz
      · rw [upd_ne z1, upd_ne z2] at this; exact this
  obtain ⟨dx', hd3, hdk3, stay3⟩ := hdk.given s1 (hst st.cues) (hq.same s1) nx nc
  rw [s1 _ _ hd] at hd3
  have edx := (HO.ins.inj (Option.some.inj hd3)).2.1
  subst edx
  refine ⟨rfl, _, rfl, dd, ad.D, dx, _, rfl, s1 _ _ hd, T.cD, T.Ds, (by show 1 < 1000; decide), ?_⟩
  rw [fD_put]
  refine ⟨(by show 1 ≤ sizeLine; decide), fun l hl => ?_⟩
  have s5 := same_new (o := HO.lst [V.int 0]) hl
  refine hO _ l x cn (stay3.trans (Stay.of s5)) (hdk3.same s5) upd_same ?_
  by_cases z : l = dd
  · rw [z, upd_same] at hl; cases hl
  · rw [upd_ne z] at hl
    exact s1.free hl
end
end Sw

namespace Sw
open PySem PySem.Spec PyProof.Rows L2
def hitsP (cues : List Sg.Timed) (n i : Nat) : Bool := Sf.numAt cues i == n
def hits (cues : List Sg.Timed) (n k : Nat) : List Nat := (List.range k).filter (hitsP cues n)
theorem hits_succ (cues : List Sg.Timed) (n k : Nat) : hits cues n (k + 1) = if hitsP cues n k = true then hits cues n k ++ [k] else hits cues n k := by
  unfold hits
  rw [List.range_succ, List.filter_append]
  by_cases h : hitsP cues n k = true
  · rw [if_pos h, List.filter_cons_of_pos h]
    rfl
  · rw [if_neg h, List.filter_cons_of_neg h]
    simp
theorem hits_len (cues : List Sg.Timed) (n k : Nat) : (hits cues n k).length ≤ k := by
  unfold hits
  exact Nat.le_trans (List.length_filter_le _ _) (Nat.le_of_eq List.length_range)
theorem hits_find {cues : List Sg.Timed} {n : Nat} : (hits cues n cues.length).head? = cues.findIdx? (fun (c : Sg.Timed) => c.cue.number == n) := by
  unfold hits
  rw [List.head?_filter]
  have fr := Sf.find_range (p := hitsP cues n) (n := cues.length)
  have num : ∀ i (h : i < cues.length), hitsP cues n i = (cues[i].cue.number == n) := fun i h => by
    unfold hitsP Sf.numAt
    rw [List.getElem?_eq_getElem h]
  cases hf : (List.range cues.length).find? (hitsP cues n) with
  | some i =>
    obtain ⟨h1, h2, h3⟩ := fr.1 i hf
    symm
    rw [List.findIdx?_eq_some_iff_getElem]
    refine ⟨h1, by rw [← num i h1]; exact h2, fun j hj => ?_⟩
    rw [← num j (by omega), h3 j hj]
    exact Bool.false_ne_true
  | none =>
    symm
    rw [List.findIdx?_eq_none_iff]
    intro c hc
    obtain ⟨i, hi, e⟩ := List.getElem_of_mem hc
    rw [← e, ← num i hi]
    exact fr.2 hf i hi
def spGoTo (ad : Ad) : Sp := fun vs H Q E => ∃ (dd p L : Addr) (cs : List Addr) (s : Sf.St) (n t : Nat), vs = [.ref dd, .int (n : Int), .int (t : Int)] ∧ DeskAt ad H dd p L cs s ∧ Sf.DkWf s ∧ Outz ad Q E H dd L (Sf.gotoX s n t)
theorem scGoTo2 : FnScope ["desk", "number", "time", "places", "stage", "place", "cue"] ["desk", "number", "time"] (defScope (top 48)) := ⟨rfl, rfl, rfl, by decide +kernel, rfl, by decide +kernel, by decide +kernel⟩
section
variable {P : Program} {w : World} {K : PySem.W.Frag} {mg : Str → Option Value} {base : Heap} {ad : Ad}
theorem ok_GoTo (D : Df K mg "go_to" (top 48)) (T : Na K ad) (me : mg "enumerate" = none) (c0 : Cl P w K mg base (L2.CX P w) 3 "ask" (spAsk ad)) (c1 : Cl P w K mg base (L2.CX P w) 4 "ask_time" (spAskTime ad)) (c2 : Cl P w K mg base CX0 9 "by_time" (spByTime ad))
    (c3 : Cl P w K mg base CX0 7 "gone_to" (spGoesTo ad)) (c4 : Cl P w K mg base CX0 1 "is_told" (spIsTold ad)) : Cl P w K mg base (L2.CX P w) 10 "go_to" (spGoTo ad) := by
  refine clX D scGoTo2 (fun _ _ _ _ _ _ us hl => match us, hl with | [_, _, _], _ => rfl) (fun vs H Q E ⟨_, _, _, _, _, _, _, e, _⟩ => by rw [e]; rfl) fun f cdv A outer s H vs Q E hr h => ?_
  obtain ⟨dd, p, L, cs, st, n, t, rfl, hdk, wf, hO⟩ := h
  have nd := scGoTo2.nd
  refine ⟨_, pss_cons (ps_expr (pe_cX c1 hr (takes_of rfl rfl rfl rfl) (pa_cons (pv 0) (pa_cons (pv 2) pa_nil))))
    (pss_cons (ps_setLc (i := 3) (own := [("place", 5), ("cue", 6)]) (g := gTup K 2 (gCons (gName 5) (gCons (gName 6) gNil))) (tt := tTest (tOp rEq (tFld K (tVar 6) "number") (tVar 1))) (te := tVar 5) rfl nd rfl rfl (sw_true rfl rfl rfl (by decide +kernel))
        (pi_enum (by rfl) me (pa_cons (pe_fld (pe_fld (pv 0) rfl) rfl) pa_nil))
        (blkOk_by (own := [("place", 5), ("cue", 6)]) (N := ["desk", "number", "time", "places", "stage", "place", "cue"]) (sc := defScope (top 48)) (by decide +kernel))
        (fun _ _ _ _ _ => pg_tup rfl (pgs_cons (pg_name (i := 5) nd rfl (Or.inl rfl)) (pgs_cons (pg_name (i := 6) nd rfl (Or.inl rfl)) pgs_nil)))
        (fun _ _ _ _ _ => by exact (pts_one (pt_cmpR op_eq (pe_fld (pv 6) rfl) (pv 1) (nomark _)))) (fun _ _ _ _ _ => by exact (pv 5)))
    (pss_cons (ps_expr (pe_cX c0 hr (takes_of rfl rfl rfl rfl) (pa_cons (pe_cmpR (op_neNil hr.units) (pv 3) (pe_lst pa_nil) (nomark _)) (pa_cons (pe_un un_neg pe_int) pa_nil))))
    (pss_cons (ps_set (i := 4) nd rfl (Or.inl rfl) (pe_c c2 hr (pa_cons (pe_fld (pv 0) rfl) (pa_cons (pv 2) pa_nil))))
    (pss_cons (ps_expr (pe_c c3 hr (pa_cons (pv 4) (pa_cons (pe_ix ix_list (pv 3) pe_int (fun _ _ => rfl)) (pa_cons (pv 2) pa_nil)))))
    (pss_cons (ps_expr (pe_c c4 hr (pa_cons (pv 4) pa_nil)))
    (pss_cons (ps_fld (pv 0) (pv 4) rfl)
    (pss_one (ps_ret (pe_lst (pa_cons (pv 1) pa_nil)))))))))), ?_⟩
  have hO1 := hO.timed
  refine ⟨_, rfl, _, rfl, dd, p, L, cs, st, t, rfl, hdk, fun ht => ?_, hO1.2⟩
  have hO := hO1.1 ht
  obtain ⟨⟨dx, hd⟩, hs, hq⟩ := id hdk
  obtain ⟨⟨dy, Lc, h1, h2⟩, _, _⟩ := id hs
  obtain ⟨qs, g1, g2⟩ := id hq
  refine ⟨_, rfl, dd, ad.D, dx, _, _, rfl, hd, T.cD, T.Ds, fD_stage _, p, ad.S, dy, _, _, rfl, h1, T.cS, T.Sc, fS_cues _ _ _ _ _, L, _, rfl, SqL.of g1, fun D hD => ?_⟩
  have hLD : L ≠ D := ne_of_none g1 hD
  refine lc_it (walk_enum (K := K) (a := L) (xs := qs.map V.ref)) (fun i H' => Same (upd H D (.lst [])) (upd H' D (.lst [])) ∧ H' D = some (.lst ((hits st.cues n i).map fun (j : Nat) => V.int (j : Int)))) ?_ ?_ ?_ ?_
  · exact ⟨by rw [upd_upd]; exact Same.refl _, upd_same⟩
  · rintro i H' _ ⟨s2, _⟩
    have := s2 L _ (by rw [upd_ne hLD]; exact g1)
    rw [upd_ne hLD] at this
    exact SqL.of this
  · rintro i x H' H2 hi ⟨s2, hD'⟩ ⟨T0, x', y', rfl, hT, rfl, ex, ey⟩
    have ex' := Option.some.inj ex
    subst ex'
    obtain ⟨b, hb, rfl⟩ := refs_at ey
    have hlt : i < st.cues.length := by rw [← g2.1]; exact (List.getElem?_eq_some_iff.mp hb).1
    obtain ⟨b', q1, dq, ⟨dxq, q2⟩, _⟩ := g2.2 i _ (List.getElem?_eq_getElem hlt)
    rw [hb] at q1
    cases q1
    have hbD : b ≠ D := ne_of_none q2 hD
    have q2' : upd H D (.lst []) b = H b := upd_ne hbD
    have q3 := s2 b _ (q2'.trans q2)
    rw [upd_ne hbD] at q3
    have s3 := same_new (o := HO.tup [V.int (i : Int), V.ref b]) hT
    have s23 : Same (upd H D (.lst [])) (upd (upd H' T0 (.tup [V.int (i : Int), V.ref b])) D (.lst [])) := s2.trans fun c o hc => by
      by_cases z : c = D
      · subst z; rw [upd_same] at hc ⊢; exact hc
      · rw [upd_ne z] at hc ⊢; exact s3 _ _ hc
    have hnum : hitsP st.cues n i = (st.cues[i].cue.number == n) := by
      unfold hitsP Sf.numAt
      rw [List.getElem?_eq_getElem hlt]
    refine ⟨T0, _, rfl, SqT.of upd_same, rfl, _, _, rfl, _, _, rfl, rfl, rfl, ?_⟩
    refine ⟨_, rfl, b, ad.Q, dxq, _, _, rfl, s3 _ _ q3, T.cQ, T.Qn, fQ_number _ _ _ _ _ _, _, rfl, rfl, _, rfl, ?_⟩
    by_cases hn : st.cues[i].cue.number = n
    · refine if_true_of (by rw [hn]; exact decide_eq_true rfl) ?_
      have hh : hitsP st.cues n i = true := by rw [hnum, hn]; exact beq_self_eq_true n
      refine ⟨_, rfl, _, s3 _ _ hD', ?_, by rw [upd_upd]; exact s23, ?_⟩
      · rw [List.length_map]
        have := hits_len st.cues n i
        have := wf.nc
        exact small1000 (by omega)
      · rw [upd_same, hits_succ, if_pos hh, List.map_append]
        rfl
    · have hh : ¬ hitsP st.cues n i = true := by
        rw [hnum]
        simpa using hn
      refine if_false_of (decide_eq_false fun z => hn ?_) ⟨s23, ?_⟩
      · have := V.int.inj z
        omega
      · rw [hits_succ, if_neg hh]
        exact s3 _ _ hD'
  · rintro H2 ⟨s2, hD2⟩
    have s12 : Same H H2 := fun b o hb => by
      have hbD : b ≠ D := ne_of_none hb hD
      have := s2 b o (by rw [upd_ne hbD]; exact hb)
      rw [upd_ne hbD] at this
      exact this
    have elen : (qs.map V.ref).length = st.cues.length := by rw [List.length_map, g2.1]
    rw [elen] at hD2
    have hfind := hits_find (cues := st.cues) (n := n)
    generalize hits st.cues n st.cues.length = js at hD2 hfind
    refine ⟨_, rfl, (by show 0 ≤ sizeLine; decide), fun l0 hl0 => ?_⟩
    have s3 := same_new (o := HO.lst []) hl0
    refine ⟨D, l0, _, rfl, rfl, SqL.of (s3 _ _ hD2), SqL.of upd_same, 4, rfl, _, _, rfl, fun e => ?_, fun e => ?_⟩
    rotate_left
    · cases js with
      | cons j r => cases e
      | nil =>
        have hO2 : Outz ad Q E H dd L (match st.cues.findIdx? (fun (c : Sg.Timed) => c.cue.number == n) with | none => .error (-4) | some i => .ok (((st.upTo t).goesTo i t).told, [(n : Int)])) := hO
        rw [← hfind] at hO2
        exact Rz.same hO2 (s12.trans s3)
    cases js with
    | nil => cases e
    | cons j r =>
      have hO2 : Outz ad Q E H dd L (match st.cues.findIdx? (fun (c : Sg.Timed) => c.cue.number == n) with | none => .error (-4) | some i => .ok (((st.upTo t).goesTo i t).told, [(n : Int)])) := hO
      rw [← hfind] at hO2
      have hO3 : Okz ad Q H dd L ((st.upTo t).goesTo j t).told [(n : Int)] := hO2
      have hjl : j < st.cues.length := by
        obtain ⟨h, _⟩ := List.findIdx?_eq_some_iff_getElem.mp hfind.symm
        exact h
      have s13 := s12.trans s3
      have hD3 := s3 _ _ hD2
      generalize upd H2 l0 (.lst []) = H3 at s13 hD3 ⊢
      refine ⟨_, rfl, dd, ad.D, dx, _, _, rfl, s13 _ _ hd, T.cD, T.Ds, fD_stage _, _, rfl, p, L, cs, st, t, rfl, hs.same s13, hq.same s13, wf.toStWf, fun H1 p' cs' s4 hs1 hp1 np nc => ?_⟩
      have s14 := s13.trans s4
      have np0 := s13.free np
      have nc0 : ∀ b ∈ cs', H b = none := fun b hb => s13.free (nc b hb)
      have hc1 : (st.upTo t).cues = st.cues := Sf.upTo_cues st t
      have hq1 : CuesAt ad H1 L (st.upTo t).cues := by rw [hc1]; exact hq.same s14
      have wfu := Sf.wf_upTo wf.toStWf t
      have hnow := (Sf.upTo_now ht.1).1
      generalize hu : st.upTo t = u at *
      refine ⟨_, rfl, _, rfl, D, _, _, _, rfl, rfl, SqL.of (s4 _ _ hD3), (atI_nat (j := 0) (show (((j :: r : List Nat)).map fun (j : Nat) => V.int (j : Int))[0]? = some (V.int (j : Int)) from rfl)), _, rfl, ?_⟩
      refine ⟨p', L, cs', u, j, t, rfl, hs1, hq1, wfu, by rw [hc1]; exact hjl, hnow, hp1.mono (by omega), fun H4 k2 hs2 => ?_⟩
      have hq2 := hq1.keep k2
      have hcg : (u.goesTo j t).cues = u.cues := by
        unfold Sf.St.goesTo
        cases u.cues[j]? <;> rfl
      refine ⟨_, rfl, p', L, cs', _, rfl, hs2, by rw [hcg]; exact hq2, fun H5 k3 hs3 => ?_⟩
      have k13 : Keep (fun b => b = p' ∨ b ∈ cs') H1 H5 := k2.trans (k3.mono fun b e => .inl e)
      have s5 : Same H H5 := fresh_keep s14 (fun b hb => hb.elim (fun e => by rw [e]; exact np0) (nc0 b)) k13
      have hq3 : CuesAt ad H5 L (u.goesTo j t).told.cues := by
        show CuesAt ad H5 L (u.goesTo j t).cues
        rw [hcg]
        exact hq2.keep k3
      obtain ⟨dx', hd3, hdk3, stay3⟩ := hdk.given s5 hs3 hq3 np0 nc0
      rw [s5 _ _ hd] at hd3
      have edx := (HO.ins.inj (Option.some.inj hd3)).2.1
      subst edx
      refine ⟨_, rfl, _, rfl, dd, ad.D, dx, _, rfl, s5 _ _ hd, T.cD, T.Ds, (by show 1 < 1000; decide), ?_⟩
      rw [fD_put]
      refine ⟨_, rfl, (by show 1 ≤ sizeLine; decide), fun l hl => ?_⟩
      have s6 := same_new (o := HO.lst [V.int (n : Int)]) hl
      refine hO3 _ l p' cs' (stay3.trans (Stay.of s6)) (hdk3.same s6) upd_same ?_
      by_cases z : l = dd
      · rw [z, upd_same] at hl; cases hl
      · rw [upd_ne z] at hl
        exact s5.free hl
end
end Sw

namespace Sw
open PySem PySem.Spec PyProof.Rows L2
open Wqatdu (Call)
def sortOf : Call → Int
  | .cue .. => 0
  | .go _ => 1
  | .goto_ .. => 2
  | .at_ .. => 3
  | .stand _ => 4
  | .still => 5
  | .when_ .. => 6
  | .reset => 7
def numsOf : Call → List Nat
  | .cue n u d w f _ => [n, u, d, w, f]
  | .go t => [t]
  | .goto_ n t => [n, t]
  | .at_ t x => [t, x]
  | .stand t => [t]
  | .still => []
  | .when_ t x l => [t, x, l]
  | .reset => []
def RowsAt (H : Hp) (ro L : Addr) : Call → Prop
  | .cue _ _ _ _ _ ms => ∃ mo, H ro = some (.lst [.ref mo]) ∧ H mo = some (.lst (nV ms)) ∧ ms.length ≤ 200 ∧ mo ≠ L
  | _ => True
def spAsked (ad : Ad) : Sp := fun vs H Q E => ∃ (dd p L nu ro : Addr) (cs : List Addr) (s : Sf.St) (c : Call), vs = [.ref dd, .int (sortOf c), .ref nu, .ref ro] ∧ DeskAt ad H dd p L cs s ∧ Sf.DkWf s ∧ H nu = some (.lst (nV (numsOf c))) ∧ RowsAt H ro L c ∧
  Outz ad Q E H dd L (Sf.stepX s c)
def spAnswer (ad : Ad) : Sp := fun vs H Q _ => ∃ (dd p L nu ro : Addr) (cs : List Addr) (s : Sf.St) (c : Call), vs = [.ref dd, .int (sortOf c), .ref nu, .ref ro] ∧ DeskAt ad H dd p L cs s ∧ Sf.DkWf s ∧ H nu = some (.lst (nV (numsOf c))) ∧ RowsAt H ro L c ∧
  Okz ad Q H dd L (Sf.stepM s c).1 (Sf.stepM s c).2
theorem scAsked : FnScope ["desk", "sort", "numbers", "rows"] ["desk", "sort", "numbers", "rows"] (defScope (top 54)) := ⟨rfl, rfl, rfl, by decide +kernel, rfl, by decide +kernel, by decide +kernel⟩
theorem scAnswer : FnScope ["desk", "sort", "numbers", "rows", "refused"] ["desk", "sort", "numbers", "rows"] (defScope (top 55)) := ⟨rfl, rfl, rfl, by decide +kernel, rfl, by decide +kernel, by decide +kernel⟩
theorem ne_int {a b : Int} (h : a ≠ b) : decide (V.int a = V.int b) = false := decide_eq_false fun z => h (V.int.inj z)
section
variable {P : Program} {w : World} {K : PySem.W.Frag} {mg : Str → Option Value} {base : Heap} {ad : Ad}
theorem ok_Asked (D : Df K mg "asked" (top 54)) (T : Na K ad) (a0 : Cl P w K mg base (L2.CX P w) 5 "add_cue" (spAdd ad)) (a1 : Cl P w K mg base (L2.CX P w) 10 "go" (spDk1 ad Sf.goX)) (a2 : Cl P w K mg base (L2.CX P w) 10 "go_to" (spGoTo ad)) (a3 : Cl P w K mg base (L2.CX P w) 10 "at_told" (spDk2 ad Sf.atX))
    (a4 : Cl P w K mg base (L2.CX P w) 10 "stand" (spDk1 ad Sf.standX)) (a5 : Cl P w K mg base CX0 9 "still_time" (spStill ad)) (a6 : Cl P w K mg base (L2.CX P w) 10 "when" (spDk3 ad Sf.whenX)) (a7 : Cl P w K mg base CX0 6 "reset" (spReset ad)) : Cl P w K mg base (L2.CX P w) 11 "asked" (spAsked ad) := by
  refine clX D scAsked (fun _ _ _ _ _ _ us hl => match us, hl with | [_, _, _, _], _ => rfl) (fun vs H Q E ⟨_, _, _, _, _, _, _, _, e, _⟩ => by rw [e]; rfl) fun f cdv A outer s H vs Q E hr h => ?_
  obtain ⟨dd, p, L, nu, ro, cs, st, c, rfl, hdk, wf, hnu, hro, hO⟩ := h
  refine ⟨_, pss_cons (ps_if (pt_cmpR op_eq (pv 1) pe_int (nomark _)) (pss_one (ps_ret (pe_cX a0 hr (takes_of rfl rfl rfl rfl) (pa_cons (pv 0) (pa_cons (pv 2) (pa_cons (pe_ix ix_list (pv 3) pe_int (fun _ _ => rfl)) pa_nil)))))) pss_nil)
    (pss_cons (ps_if (pt_cmpR op_eq (pv 1) pe_int (nomark _)) (pss_one (ps_ret (pe_cX a1 hr (takes_of rfl rfl rfl rfl) (pa_cons (pv 0) (pa_cons (pe_ix ix_list (pv 2) pe_int (fun _ _ => rfl)) pa_nil))))) pss_nil)
    (pss_cons (ps_if (pt_cmpR op_eq (pv 1) pe_int (nomark _)) (pss_one (ps_ret (pe_cX a2 hr (takes_of rfl rfl rfl rfl) (pa_cons (pv 0) (pa_cons (pe_ix ix_list (pv 2) pe_int (fun _ _ => rfl)) (pa_cons (pe_ix ix_list (pv 2) pe_int (fun _ _ => rfl)) pa_nil)))))) pss_nil)
    (pss_cons (ps_if (pt_cmpR op_eq (pv 1) pe_int (nomark _)) (pss_one (ps_ret (pe_cX a3 hr (takes_of rfl rfl rfl rfl) (pa_cons (pv 0) (pa_cons (pe_ix ix_list (pv 2) pe_int (fun _ _ => rfl)) (pa_cons (pe_ix ix_list (pv 2) pe_int (fun _ _ => rfl)) pa_nil)))))) pss_nil)
    (pss_cons (ps_if (pt_cmpR op_eq (pv 1) pe_int (nomark _)) (pss_one (ps_ret (pe_cX a4 hr (takes_of rfl rfl rfl rfl) (pa_cons (pv 0) (pa_cons (pe_ix ix_list (pv 2) pe_int (fun _ _ => rfl)) pa_nil))))) pss_nil)
    (pss_cons (ps_if (pt_cmpR op_eq (pv 1) pe_int (nomark _)) (pss_one (ps_ret (pe_lst (pa_cons (pe_c a5 hr (pa_cons (pe_fld (pv 0) rfl) pa_nil)) pa_nil)))) pss_nil)
    (pss_cons (ps_if (pt_cmpR op_eq (pv 1) pe_int (nomark _)) (pss_one (ps_ret (pe_cX a6 hr (takes_of rfl rfl rfl rfl) (pa_cons (pv 0) (pa_cons (pe_ix ix_list (pv 2) pe_int (fun _ _ => rfl)) (pa_cons (pe_ix ix_list (pv 2) pe_int (fun _ _ => rfl)) (pa_cons (pe_ix ix_list (pv 2) pe_int (fun _ _ => rfl)) pa_nil))))))) pss_nil)
    (pss_one (ps_ret (pe_c a7 hr (pa_cons (pv 0) pa_nil)))))))))), ?_⟩
  cases c with
  | cue n u d wt f ms =>
    obtain ⟨mo, r1, r2, r3, r4⟩ := hro
    refine ⟨_, rfl, rfl, _, rfl, if_true_of (decide_eq_true rfl) ?_⟩
    exact ⟨_, rfl, _, rfl, _, rfl, ro, _, _, _, rfl, rfl, SqL.of r1, (rfl : atI [V.ref mo] 0 = some (V.ref mo)), dd, p, L, nu, mo, cs, st, n, u, d, wt, f, ms, rfl, hdk, wf, hnu, r2, r3, r4, hO⟩
  | go t =>
    refine ⟨_, rfl, rfl, _, rfl, if_false_of (ne_int (by simp [sortOf])) ?_⟩
    refine ⟨_, rfl, rfl, _, rfl, if_true_of (decide_eq_true rfl) ?_⟩
    exact ⟨_, rfl, _, rfl, nu, _, _, _, rfl, rfl, SqL.of hnu, (rfl : atI (nV [t]) 0 = some (V.int (t : Int))), dd, p, L, cs, st, t, rfl, hdk, wf, hO⟩
  | goto_ n t =>
    refine ⟨_, rfl, rfl, _, rfl, if_false_of (ne_int (by simp [sortOf])) ?_⟩
    refine ⟨_, rfl, rfl, _, rfl, if_false_of (ne_int (by simp [sortOf])) ?_⟩
    refine ⟨_, rfl, rfl, _, rfl, if_true_of (decide_eq_true rfl) ?_⟩
    exact ⟨_, rfl, _, rfl, nu, _, _, _, rfl, rfl, SqL.of hnu, (rfl : atI (nV [n, t]) 0 = some (V.int (n : Int))), _, rfl, nu, _, _, _, rfl, rfl, SqL.of hnu, (rfl : atI (nV [n, t]) 1 = some (V.int (t : Int))), dd, p, L, cs, st, n, t, rfl, hdk, wf, hO⟩
  | at_ t x =>
    refine ⟨_, rfl, rfl, _, rfl, if_false_of (ne_int (by simp [sortOf])) ?_⟩
    refine ⟨_, rfl, rfl, _, rfl, if_false_of (ne_int (by simp [sortOf])) ?_⟩
    refine ⟨_, rfl, rfl, _, rfl, if_false_of (ne_int (by simp [sortOf])) ?_⟩
    refine ⟨_, rfl, rfl, _, rfl, if_true_of (decide_eq_true rfl) ?_⟩
    exact ⟨_, rfl, _, rfl, nu, _, _, _, rfl, rfl, SqL.of hnu, (rfl : atI (nV [t, x]) 0 = some (V.int (t : Int))), _, rfl, nu, _, _, _, rfl, rfl, SqL.of hnu, (rfl : atI (nV [t, x]) 1 = some (V.int (x : Int))), dd, p, L, cs, st, t, x, rfl, hdk, wf, hO⟩
  | stand t =>
    refine ⟨_, rfl, rfl, _, rfl, if_false_of (ne_int (by simp [sortOf])) ?_⟩
    refine ⟨_, rfl, rfl, _, rfl, if_false_of (ne_int (by simp [sortOf])) ?_⟩
    refine ⟨_, rfl, rfl, _, rfl, if_false_of (ne_int (by simp [sortOf])) ?_⟩
    refine ⟨_, rfl, rfl, _, rfl, if_false_of (ne_int (by simp [sortOf])) ?_⟩
    refine ⟨_, rfl, rfl, _, rfl, if_true_of (decide_eq_true rfl) ?_⟩
    exact ⟨_, rfl, _, rfl, nu, _, _, _, rfl, rfl, SqL.of hnu, (rfl : atI (nV [t]) 0 = some (V.int (t : Int))), dd, p, L, cs, st, t, rfl, hdk, wf, hO⟩
  | still =>
    refine ⟨_, rfl, rfl, _, rfl, if_false_of (ne_int (by simp [sortOf])) ?_⟩
    refine ⟨_, rfl, rfl, _, rfl, if_false_of (ne_int (by simp [sortOf])) ?_⟩
    refine ⟨_, rfl, rfl, _, rfl, if_false_of (ne_int (by simp [sortOf])) ?_⟩
    refine ⟨_, rfl, rfl, _, rfl, if_false_of (ne_int (by simp [sortOf])) ?_⟩
    refine ⟨_, rfl, rfl, _, rfl, if_false_of (ne_int (by simp [sortOf])) ?_⟩
    refine ⟨_, rfl, rfl, _, rfl, if_true_of (decide_eq_true rfl) ?_⟩
    obtain ⟨⟨dx, hd⟩, hs, hq⟩ := id hdk
    refine ⟨_, rfl, dd, ad.D, dx, _, _, rfl, hd, T.cD, T.Ds, fD_stage _, p, L, cs, st, rfl, hs, hq, wf.toStWf, fun H1 s1 => ?_⟩
    refine ⟨(by show 1 ≤ sizeLine; decide), fun l hl => ?_⟩
    have s3 := s1.trans (same_new (o := HO.lst [V.int (st.stillM : Int)]) hl)
    have hO' : Okz ad Q H dd L st [(st.stillM : Int)] := hO
    exact hO' _ l p cs (Stay.of s3) (hdk.same s3) upd_same (s1.free hl)
  | when_ t x l =>
    refine ⟨_, rfl, rfl, _, rfl, if_false_of (ne_int (by simp [sortOf])) ?_⟩
    refine ⟨_, rfl, rfl, _, rfl, if_false_of (ne_int (by simp [sortOf])) ?_⟩
    refine ⟨_, rfl, rfl, _, rfl, if_false_of (ne_int (by simp [sortOf])) ?_⟩
    refine ⟨_, rfl, rfl, _, rfl, if_false_of (ne_int (by simp [sortOf])) ?_⟩
    refine ⟨_, rfl, rfl, _, rfl, if_false_of (ne_int (by simp [sortOf])) ?_⟩
    refine ⟨_, rfl, rfl, _, rfl, if_false_of (ne_int (by simp [sortOf])) ?_⟩
    refine ⟨_, rfl, rfl, _, rfl, if_true_of (decide_eq_true rfl) ?_⟩
    exact ⟨_, rfl, _, rfl, nu, _, _, _, rfl, rfl, SqL.of hnu, (rfl : atI (nV [t, x, l]) 0 = some (V.int (t : Int))), _, rfl, nu, _, _, _, rfl, rfl, SqL.of hnu, (rfl : atI (nV [t, x, l]) 1 = some (V.int (x : Int))),
      _, rfl, nu, _, _, _, rfl, rfl, SqL.of hnu, (rfl : atI (nV [t, x, l]) 2 = some (V.int (l : Int))), dd, p, L, cs, st, t, x, l, rfl, hdk, wf, hO⟩
  | reset =>
    refine ⟨_, rfl, rfl, _, rfl, if_false_of (ne_int (by simp [sortOf])) ?_⟩
    refine ⟨_, rfl, rfl, _, rfl, if_false_of (ne_int (by simp [sortOf])) ?_⟩
    refine ⟨_, rfl, rfl, _, rfl, if_false_of (ne_int (by simp [sortOf])) ?_⟩
    refine ⟨_, rfl, rfl, _, rfl, if_false_of (ne_int (by simp [sortOf])) ?_⟩
    refine ⟨_, rfl, rfl, _, rfl, if_false_of (ne_int (by simp [sortOf])) ?_⟩
    refine ⟨_, rfl, rfl, _, rfl, if_false_of (ne_int (by simp [sortOf])) ?_⟩
    refine ⟨_, rfl, rfl, _, rfl, if_false_of (ne_int (by simp [sortOf])) ?_⟩
    exact ⟨_, rfl, dd, p, L, cs, st, rfl, hdk, hO⟩
def tSuite (ad : Ad) (a : Addr) (cls : Value) (d : Option Addr) : TS := tRet (tLst (tCons (tByRef ad.R a cls d (tVar 4)) tNil))
theorem ok_Answer (D : Df K mg "answer" (top 55)) (R : PySem.RefX.RefTxt K mg ad.R ad.rI) (c1 : Cl P w K mg base (L2.CX P w) 11 "asked" (spAsked ad)) : Cl P w K mg base CX0 12 "answer" (spAnswer ad) := by
  obtain ⟨fA, fdA, psA, FA, hmA, kpA, bA⟩ := c1.ex
  refine cl0 D scAnswer (fun _ _ _ _ _ _ us hl => match us, hl with | [_, _, _, _], _ => rfl) (fun vs H Q E ⟨_, _, _, _, _, _, _, _, e, _⟩ => by rw [e]; rfl) fun f cdv A outer s H vs Q E hr h => ?_
  obtain ⟨dd, p, L, nu, ro, cs, st, c, rfl, hdk, wf, hnu, hro, hO⟩ := h
  have nd := scAnswer.nd
  have hr1 : Room 11 _ := hr.mono (by decide)
  refine ⟨_, pss_one (ps_try_as (i := 4) (tb := fun W => tRet (tCallS (spAsked ad) (WE W) (tCons (tVar 0) (tCons (tVar 1) (tCons (tVar 2) (tCons (tVar 3) tNil)))))) (ts := fun a cls d => tSuite ad a cls d) (Wout := fun _ _ _ _ => False) rfl rfl nd rfl rfl ⟨rfl, by decide, Or.inl R.gC⟩ takes0
      (fun W pn xe tk _ => pss_one (ps_ret (by exact (pe_callS FA hr1 rfl hmA kpA bA (fun σ => passAt tk σ) (by exact (pa_cons (pv 0) (pa_cons (pv 1) (pa_cons (pv 2) (pa_cons (pv 3) pa_nil)))))))))
      (fun a oe cls d pn hz hf => pss_one (ps_ret (pe_lst (pa_cons (by exact (pe_byRef R hz hf (pv 4))) pa_nil))))), ?_⟩
  refine ⟨_, rfl, _, rfl, _, rfl, _, rfl, dd, p, L, nu, ro, cs, st, c, rfl, hdk, wf, hnu, hro, ?_⟩
  unfold Sf.stepM at hO
  cases hx : Sf.stepX st c with
  | ok y =>
    rw [hx] at hO
    exact hO
  | error r =>
    rw [hx] at hO
    intro H1 d s1 hd
    refine ⟨true, R.te, fun _ a0 _ => ?_, fun q => Bool.noConfusion q⟩
    refine ⟨_, rfl, rfl, rfl, d, _, rfl, hd, (by show 1 ≤ sizeLine; decide), fun l hl => ?_⟩
    have s3 := s1.trans (same_new (o := HO.lst [V.int r]) hl)
    exact hO _ l p cs (Stay.of s3) (hdk.same s3) upd_same (s1.free hl)
end
end Sw

namespace Sw
open PySem PySem.Spec PyProof.Rows L2
open Wqatdu (Call)
/-! ### the calls as they lie in the list -/
def wrTail : Call → List Int
  | .cue _ _ _ _ _ ms => (ms.length : Int) :: Sf.asInts ms
  | _ => []
theorem wr_eq (c : Call) : Sf.wr c = sortOf c :: (Sf.asInts (numsOf c) ++ wrTail c) := by
  cases c <;> rfl
theorem ints_nV (l : List Nat) : (Sf.asInts l).map V.int = nV l := by
  unfold Sf.asInts nV
  rw [List.map_map]
  rfl
theorem ints_len (l : List Nat) : (Sf.asInts l).length = l.length := List.length_map ..
theorem cut_part {α : Type} (a b c : List α) (k : Nat) (h : k = a.length) (n : Nat) (hn : n = b.length) : ((a ++ (b ++ c)).drop k).take n = b := by
  subst h hn
  rw [List.drop_left, List.take_left]
/-- from xs's place i on, n of them -/
theorem cut_is (xs a b c : List V) (e : xs = a ++ (b ++ c)) (i j : Int) (hi : i = (a.length : Int)) (hj : j = ((a.length + b.length : Nat) : Int)) : cutV xs (some i) (some j) = b := by
  subst hi hj
  rw [cut_mid xs a.length (a.length + b.length) (by omega) (by rw [e]; simp only [List.length_append]; omega), e]
  exact cut_part a b c _ rfl _ (by omega)
theorem at_is (xs a c : List V) (v : V) (e : xs = a ++ (v :: c)) (i : Int) (hi : i = (a.length : Int)) : atI xs i = some v := by
  subst hi
  refine atI_nat ?_
  rw [e, List.getElem?_append_right (Nat.le_refl _), Nat.sub_self]
  rfl
/-- the part of the list that is read already -/
def doneL (xs : List Call) (k : Nat) : List Int := ((xs.take k).map Sf.wr).flatten
theorem done_split {xs : List Call} {k : Nat} {c : Call} (h : xs[k]? = some c) : (xs.map Sf.wr).flatten = doneL xs k ++ (Sf.wr c ++ ((xs.drop (k + 1)).map Sf.wr).flatten) := by
  have e : xs = xs.take k ++ c :: xs.drop (k + 1) := by
    obtain ⟨hlt, hv⟩ := List.getElem?_eq_some_iff.mp h
    rw [← hv, ← List.drop_eq_getElem_cons hlt, List.take_append_drop]
  have e2 : (xs.map Sf.wr).flatten = ((xs.take k ++ c :: xs.drop (k + 1)).map Sf.wr).flatten := by rw [← e]
  rw [e2, List.map_append, List.flatten_append, List.map_cons, List.flatten_cons]
  rfl
theorem done_snoc {xs : List Call} {k : Nat} {c : Call} (h : xs[k]? = some c) : doneL xs (k + 1) = doneL xs k ++ Sf.wr c := by
  unfold doneL
  rw [take_succ h, List.map_append, List.flatten_append]
  simp
theorem done_all (xs : List Call) : doneL xs xs.length = (xs.map Sf.wr).flatten := by
  unfold doneL
  rw [List.take_length]
/-! ### a list of numbers beside the desk -/
theorem DeskAt.list {ad : Ad} {H : Hp} {dd p L D : Addr} {cs : List Addr} {s : Sf.St} {is : List Int} {ys : List V} (h : DeskAt ad H dd p L cs s) (w : Sf.StWf s) (hD : H D = some (.lst (is.map V.int))) (hL : D ≠ L) : DeskAt ad (upd H D (.lst ys)) dd p L cs s := by
  obtain ⟨⟨dx, hd⟩, h2, qs, h3, h4⟩ := h
  refine ⟨⟨dx, ?_⟩, h2.list hD (fun b f hb => ?_) (fun e => ?_), qs, ?_, h4.imp fun b c q => q.list hD⟩
  · rw [upd_ne (fun z => by rw [z, hD] at hd; cases hd)]
    exact hd
  · obtain ⟨x, _, e⟩ := List.mem_map.mp hb
    cases e
  · have hc : cs.length = 64 := by rw [h2.ch.1, w.n64]
    cases cs with
    | nil => cases hc
    | cons b r =>
      cases is with
      | nil => cases e
      | cons i t => cases e
  · rw [upd_ne (Ne.symm hL)]
    exact h3
theorem SqL.stay {K : PySem.W.Frag} {ad : Ad} {H H' : Hp} {dd L a : Addr} {xs : List V} (h : SqL K H a xs) (k : ∀ b o, H b = some o → b ≠ dd → b ≠ L → H' b = some o) (hd : ∀ u, H a = some u → a ≠ dd) (hL : ∀ u, H a = some u → a ≠ L) : SqL K H' a xs := by
  rcases h with h | h
  · rcases h with h | ⟨o, h⟩
    · exact .inl (.inl (k _ _ h (hd _ h) (hL _ h)))
    · exact .inl (.inr ⟨o, k _ _ h (hd _ h) (hL _ h)⟩)
  · exact .inr h
def spAns (K : PySem.W.Frag) : Sp := fun vs H Q _ => ∃ (a : Addr) (ns : List Int), vs = [.ref a] ∧ SqL K H a (ns.map V.int) ∧ PyWqatdu.answers_asked ns = true ∧
  ∀ (H' : Hp) (p : Addr), H' p = some (.lst ((PyWqatdu.answers ns).map V.int)) → Q (.ref p) H'
def Tn (K : PySem.W.Frag) (mg : Str → Option Value) : Prop := ∃ nt : Addr, (∃ u, mg "NUMBERS" = some u ∧ RelV (.ref nt) u) ∧ ∀ H, SqT K H nt [.int 5, .int 1, .int 2, .int 2, .int 1, .int 0, .int 3, .int 0]
theorem numbers_at (c : Call) : atI [V.int 5, V.int 1, V.int 2, V.int 2, V.int 1, V.int 0, V.int 3, V.int 0] (sortOf c) = some (.int ((numsOf c).length : Int)) := by
  cases c <;> rfl
theorem scAns : FnScope ["calls", "desk", "found", "at", "sort", "behind", "numbers", "rows", "one"] ["calls"] (defScope (top 59)) := ⟨rfl, rfl, rfl, by decide +kernel, rfl, by decide +kernel, by decide +kernel⟩
section
variable {P : Program} {w : World} {K : PySem.W.Frag} {mg : Str → Option Value} {base : Heap} {ad : Ad}
theorem ok_Ans {f0 : Addr} {fd0 : FuncData} (D : Fun K "answers" "answers" (top 59) f0 fd0) (T : Na K ad) (ml : mg "len" = none) (hn : Tn K mg) (gc : Gc mg "CUE" 0) (c1 : Mc P w K mg base 6 "Desk" ad.D (spDesk ad)) (c2 : Cl P w K mg base CX0 12 "answer" (spAnswer ad)) : FnOk P w K mg base CX0 13 f0 fd0 ["calls"] (spAns K) := by
  refine D.ok scAns (fun vs H Q E ⟨_, _, e, _⟩ => by rw [e]; rfl) fun cdv A outer s H vs Q E hr h => ?_
  obtain ⟨a, l, rfl, hl, hask, k⟩ := h
  obtain ⟨nt, hnt, hns⟩ := hn
  have nd := scAns.nd
  refine ⟨_, pss_cons (ps_set (i := 1) nd rfl (Or.inl rfl) (pe_mk0 c1 hr))
    (pss_cons (ps_set (i := 2) nd rfl (Or.inl rfl) (pe_lst pa_nil))
    (pss_cons (ps_set (i := 3) nd rfl (Or.inl rfl) pe_int)
    (pss_cons (ps_while PassesOwn.never (pt_cmpR op_lt (pv 3) (pe_callB call_len_seq (by rfl) ml PySem.boot_len (pa_cons (pv 0) pa_nil)) (nomark _))
      (pss_cons (ps_set (i := 4) nd rfl (Or.inl rfl) (pe_ix ix_list (pv 0) (pv 3) (fun _ _ => rfl)))
      (pss_cons (ps_set (i := 5) nd rfl (Or.inl rfl) (pe_op op_add (pe_op op_add (pv 3) pe_int) (pe_ix ix_tup (C8.pe_gc rfl hnt) (pv 4) (fun _ _ => rfl))))
      (pss_cons (ps_set (i := 6) nd rfl (Or.inl rfl) (pe_slice sl_list (pv 0) (po_some (pe_op op_add (pv 3) pe_int)) (po_some (pv 5))))
      (pss_cons (ps_set (i := 7) nd rfl (Or.inl rfl) (pe_lst pa_nil))
      (C8.pss_cut (ps_if (pt_cmpR op_eq (pv 4) (C8.pe_gc rfl gc) (nomark _))
          (pss_cons (ps_set (i := 7) nd rfl (Or.inl rfl) (pe_lst (pa_cons (pe_slice sl_list (pv 0) (po_some (pe_op op_add (pv 5) pe_int)) (po_some (pe_op op_add (pe_op op_add (pv 5) pe_int) (pe_ix ix_list (pv 0) (pv 5) (fun _ _ => rfl))))) pa_nil)))
          (pss_one (ps_aug (i := 5) nd rfl (.inl rfl) (pe_op op_add pe_int (pe_ix ix_list (pv 0) (pv 5) (fun _ _ => rfl))) ip_add))) pss_nil)
      (pss_cons (ps_set (i := 8) nd rfl (Or.inl rfl) (pe_c c2 hr (pa_cons (pv 1) (pa_cons (pv 4) (pa_cons (pv 6) (pa_cons (pv 7) pa_nil))))))
      (pss_cons (ps_expr (pe_bm PySem.F.plainAttrs_list PySem.F.slot_list_append PySem.F.type_list_append mt_append (pv 2) (pa_cons (pe_callB call_len_seq (by rfl) ml PySem.boot_len (pa_cons (pv 8) pa_nil)) pa_nil)))
      (pss_cons (ps_expr (pe_bm PySem.F.plainAttrs_list PySem.F.slot_list_extend PySem.F.type_list_extend mt_extend (pv 2) (pa_cons (pv 8) pa_nil)))
      (pss_one (ps_set (i := 3) nd rfl (Or.inl rfl) (pv 5))))))))))))
    (pss_one (ps_ret (pv 2)))))), ?_⟩
  obtain ⟨xs, rfl, hx400, hrow, hans⟩ := Sf.plain_law hask
  intro dd dx nx nd2 ne
  refine ⟨dd, dx, rfl, upd_same, fun H1 q L cs s0 hdk nL => ?_⟩
  have s1 : ∀ b o, H b = some o → H1 b = some o := fun b o hb => by
    refine s0 b o ?_ (ne_of_none hb nx)
    rw [upd_ne (ne_of_none hb nx), upd_ne (ne_of_none hb nd2)]
    exact hb
  have nL0 : H L = none := by
    by_cases z1 : L = dd
    · rw [z1]; exact nx
    · rw [upd_ne z1] at nL
      by_cases z2 : L = dx
      · rw [z2]; exact nd2
      · rw [upd_ne z2] at nL; exact nL
  have hdL : ∀ u, H a = some u → a ≠ dd := fun u hu z => by rw [z, nx] at hu; cases hu
  have haL : ∀ u, H a = some u → a ≠ L := fun u hu z => by rw [z, nL0] at hu; cases hu
  refine ⟨rfl, (by show 0 ≤ sizeLine; decide), fun fo hfo => ?_⟩
  have s2 := same_new (o := HO.lst []) hfo
  obtain ⟨⟨dxd, hdd1⟩, _, _, hL1, _⟩ := id hdk
  have hfd : fo ≠ dd := fun z => by rw [z, hdd1] at hfo; cases hfo
  have hfL : fo ≠ L := fun z => by rw [z, hL1] at hfo; cases hfo
  have hdL2 : dd ≠ L := fun z => by rw [z, hL1] at hdd1; cases hdd1
  have hfa : ∀ u, H a = some u → a ≠ fo := fun u hu z => by rw [z] at hu; rw [s1 _ _ hu] at hfo; cases hfo
  refine ⟨fun m σ H' => ∃ (i : Nat) (p : Addr) (cs : List Addr) (v4 v5 v6 v7 v8 : Option V), i + m = xs.length ∧ σ = [some (.ref a), some (.ref dd), some (.ref fo), some (.int ((doneL xs i).length : Int)), v4, v5, v6, v7, v8] ∧
      (∀ b o, H b = some o → H' b = some o) ∧ DeskAt ad H' dd p L cs (Sf.stAfter Sf.start (xs.take i)) ∧ H' fo = some (.lst ((Sf.outM Sf.start (xs.take i)).map V.int)),
    ⟨xs.length, 0, q, cs, none, none, none, none, none, by omega, rfl, fun b o hb => s2 _ _ (s1 b o hb), hdk.same s2, upd_same⟩, ?_⟩
  rintro m σ H2 ⟨i, p, cs2, v4, v5, v6, v7, v8, him, rfl, s12, hdk2, hfo2⟩
  have hl2 : SqL K H2 a ((xs.map Sf.wr).flatten.map V.int) := SqL.stay (ad := ad) (dd := dd) (L := L) hl (fun b o hb _ _ => s12 b o hb) hdL haL
  refine ⟨_, rfl, _, rfl, a, _, rfl, .inl hl2, _, _, rfl, rfl, _, rfl, ?_⟩
  rw [List.length_map]
  cases m with
  | zero =>
    have ei : i = xs.length := by omega
    subst ei
    refine if_false_of (decide_eq_false ?_) ?_
    · rw [done_all]
      omega
    refine ⟨_, rfl, k H2 fo ?_⟩
    rw [hfo2, List.take_length, hans]
  | succ m =>
    have hlt : i < xs.length := by omega
    have hc : xs[i]? = some xs[i] := List.getElem?_eq_getElem hlt
    generalize xs[i] = c at hc
    have hsp := done_split hc
    have hwr := wr_eq c
    have wfD := Sf.wf_after (xs.take i) Sf.wf_start
    have hlen : (xs.map Sf.wr).flatten.length = (doneL xs i).length + ((Sf.wr c).length + (((xs.drop (i + 1)).map Sf.wr).flatten).length) := by rw [hsp, List.length_append, List.length_append]
    have hwl : (Sf.wr c).length = 1 + ((numsOf c).length + (wrTail c).length) := by rw [hwr, List.length_cons, List.length_append, ints_len]; omega
    have hlV : (xs.map Sf.wr).flatten.map V.int = (doneL xs i).map V.int ++ (V.int (sortOf c) :: (nV (numsOf c) ++ ((wrTail c).map V.int ++ (((xs.drop (i + 1)).map Sf.wr).flatten).map V.int))) := by
      rw [hsp, hwr, List.map_append, List.map_append, List.map_cons, List.map_append, ints_nV, List.cons_append, List.append_assoc]
    generalize (((xs.drop (i + 1)).map Sf.wr).flatten).map V.int = post at hlV
    have hdl : ((doneL xs i).map V.int).length = (doneL xs i).length := List.length_map ..
    have hnl : (nV (numsOf c)).length = (numsOf c).length := List.length_map ..
    refine if_true_of (decide_eq_true (by omega)) ?_
    refine ⟨_, fun σ' H' h => ⟨m, Nat.lt_succ_self m, h⟩, ?_⟩
    refine ⟨_, rfl, _, rfl, a, _, _, _, rfl, rfl, hl2, at_is _ _ _ _ hlV _ (by rw [hdl]), ?_⟩
    refine ⟨_, rfl, _, _, rfl, rfl, _, rfl, nt, _, _, _, rfl, rfl, hns _, numbers_at c, _, _, rfl, rfl, ?_⟩
    refine ⟨_, rfl, _, rfl, _, _, rfl, rfl, _, rfl, _, rfl, _, rfl, a, _, rfl, hl2, fun nu hnu => ?_⟩
    have ecut : cutV ((xs.map Sf.wr).flatten.map V.int) (some (((doneL xs i).length : Int) + 1)) (some (((doneL xs i).length : Int) + 1 + ((numsOf c).length : Int))) = nV (numsOf c) := by
      refine cut_is _ ((doneL xs i).map V.int ++ [V.int (sortOf c)]) _ _ (hlV.trans (by rw [List.append_assoc]; rfl)) _ _ ?_ ?_
      · rw [List.length_append, hdl]; rfl
      · rw [List.length_append, hdl, hnl]
        show _ = (((doneL xs i).length + 1 + (numsOf c).length : Nat) : Int)
        omega
    rw [ecut]
    have s3 := same_new (o := HO.lst (nV (numsOf c))) hnu
    have hnu3 := upd_same (H := H2) (a := nu) (o := HO.lst (nV (numsOf c)))
    generalize upd H2 nu (.lst (nV (numsOf c))) = H3 at s3 hnu3 ⊢
    refine ⟨(by show 0 ≤ sizeLine; decide), fun ro hro => ?_⟩
    have s4 := same_new (o := HO.lst []) hro
    generalize upd H3 ro (.lst []) = H4 at s4 ⊢
    have s24 := s3.trans s4
    have hnu4 := s4 _ _ hnu3
    have hl4 : SqL K H4 a ((xs.map Sf.wr).flatten.map V.int) := s24.seq hl2
    refine ⟨fun σ' H' => ∃ ro' : Addr, σ' = [some (.ref a), some (.ref dd), some (.ref fo), some (.int ((doneL xs i).length : Int)), some (.int (sortOf c)), some (.int (((doneL xs i).length + (Sf.wr c).length : Nat) : Int)), some (.ref nu), some (.ref ro'), v8] ∧ Same H4 H' ∧ RowsAt H' ro' L c, ?_, ?_⟩
    · refine ⟨_, rfl, rfl, _, rfl, ?_⟩
      by_cases hs : sortOf c = 0
      · refine if_true_of (by rw [hs]; exact decide_eq_true rfl) ?_
        cases c with
        | cue n u d wt f ms =>
          have hlV2 : (xs.map Sf.wr).flatten.map V.int = ((doneL xs i).map V.int ++ (V.int 0 :: nV [n, u, d, wt, f])) ++ (V.int (ms.length : Int) :: (nV ms ++ post)) := by
            rw [hlV, List.append_assoc]
            show _ = (doneL xs i).map V.int ++ (V.int 0 :: (nV [n, u, d, wt, f] ++ (V.int (ms.length : Int) :: (nV ms ++ post))))
            have : (wrTail (Call.cue n u d wt f ms)).map V.int = V.int (ms.length : Int) :: nV ms := by
              show V.int (ms.length : Int) :: (Sf.asInts ms).map V.int = _
              rw [ints_nV]
            rw [this]
            rfl
          have hpl : ((doneL xs i).map V.int ++ (V.int 0 :: nV [n, u, d, wt, f])).length = (doneL xs i).length + 6 := by
            rw [List.length_append, hdl]
            rfl
          have hat : atI ((xs.map Sf.wr).flatten.map V.int) (((doneL xs i).length : Int) + 1 + ((numsOf (Call.cue n u d wt f ms)).length : Int)) = some (.int (ms.length : Int)) := by
            refine at_is _ _ _ _ hlV2 _ ?_
            rw [hpl]
            show ((doneL xs i).length : Int) + 1 + 5 = (((doneL xs i).length + 6 : Nat) : Int)
            omega
          have hml : (nV ms).length = ms.length := List.length_map ..
          have ecut2 : cutV ((xs.map Sf.wr).flatten.map V.int) (some (((doneL xs i).length : Int) + 1 + ((numsOf (Call.cue n u d wt f ms)).length : Int) + 1)) (some (((doneL xs i).length : Int) + 1 + ((numsOf (Call.cue n u d wt f ms)).length : Int) + 1 + (ms.length : Int))) = nV ms := by
            refine cut_is _ (((doneL xs i).map V.int ++ (V.int 0 :: nV [n, u, d, wt, f])) ++ [V.int (ms.length : Int)]) (nV ms) post (hlV2.trans (by simp only [List.append_assoc, List.cons_append, List.nil_append])) _ _ ?_ ?_
            · rw [List.length_append, hpl]
              show ((doneL xs i).length : Int) + 1 + 5 + 1 = (((doneL xs i).length + 6 + 1 : Nat) : Int)
              omega
            · rw [List.length_append, hpl, hml]
              show ((doneL xs i).length : Int) + 1 + 5 + 1 + (ms.length : Int) = (((doneL xs i).length + 6 + 1 + ms.length : Nat) : Int)
              omega
          refine ⟨_, rfl, _, rfl, _, _, rfl, rfl, _, rfl, _, rfl, _, _, rfl, rfl, _, rfl, _, rfl, a, _, _, _, rfl, rfl, hl4, hat, _, _, rfl, rfl, _, rfl, a, _, rfl, hl4, fun mo hmo => ?_⟩
          rw [ecut2]
          have s5 := same_new (o := HO.lst (nV ms)) hmo
          refine ⟨(by show 1 ≤ sizeLine; decide), fun ro2 hro2 => ?_⟩
          have s6 := same_new (o := HO.lst [V.ref mo]) hro2
          have s46 := s5.trans s6
          refine ⟨_, rfl, _, rfl, _, rfl, a, _, _, _, rfl, rfl, s46.seq hl4, hat, _, _, rfl, rfl, _, _, rfl, rfl, ?_⟩
          refine ⟨ro2, ?_, s46, mo, upd_same, s6 _ _ upd_same, hrow _ (List.mem_of_getElem? hc), ?_⟩
          · have e : ((doneL xs i).length : Int) + 1 + ((numsOf (Call.cue n u d wt f ms)).length : Int) + (1 + (ms.length : Int)) = (((doneL xs i).length + (Sf.wr (Call.cue n u d wt f ms)).length : Nat) : Int) := by
              rw [hwl]
              have : (wrTail (Call.cue n u d wt f ms)).length = ms.length + 1 := by
                show ((ms.length : Int) :: Sf.asInts ms).length = _
                rw [List.length_cons, ints_len]
              rw [this]
              omega
            show [some (.ref a), some (.ref dd), some (.ref fo), some (.int ((doneL xs i).length : Int)), some (.int (sortOf (Call.cue n u d wt f ms))), some (V.int (((doneL xs i).length : Int) + 1 + ((numsOf (Call.cue n u d wt f ms)).length : Int) + (1 + (ms.length : Int)))), some (.ref nu), some (.ref ro2), v8] = _
            rw [e]
          · intro z
            obtain ⟨_, _, qs, hL2, _⟩ := id hdk2
            rw [z, s24 _ _ hL2] at hmo
            cases hmo
        | _ => exact absurd hs (by simp [sortOf])
      · refine if_false_of (ne_int hs) ⟨ro, ?_, Same.refl _, ?_⟩
        · have e : ((doneL xs i).length : Int) + 1 + ((numsOf c).length : Int) = (((doneL xs i).length + (Sf.wr c).length : Nat) : Int) := by
            have ht : (wrTail c).length = 0 := by
              cases c with
              | cue n u d wt f ms => exact absurd rfl hs
              | _ => rfl
            rw [hwl, ht]
            omega
          show [some (.ref a), some (.ref dd), some (.ref fo), some (.int ((doneL xs i).length : Int)), some (.int (sortOf c)), some (V.int (((doneL xs i).length : Int) + 1 + ((numsOf c).length : Int))), some (.ref nu), some (.ref ro), v8] = _
          rw [e]
        · cases c with
          | cue n u d wt f ms => exact absurd rfl hs
          | _ => trivial
    · rintro σ' H5 ⟨ro', rfl, s45, hrows⟩
      have s25 := s24.trans s45
      have hst := Sf.stAfter_snoc (xs.take i) Sf.start c
      have hou := Sf.outM_snoc (xs.take i) Sf.start c
      rw [← take_succ hc] at hst hou
      refine ⟨_, rfl, _, rfl, _, rfl, _, rfl, dd, p, L, nu, ro', cs2, _, c, rfl, hdk2.same s25, wfD, s45 _ _ hnu4, hrows, fun H6 l6 p6 cs6 st6 hdk6 hl6 nl6 => ?_⟩
      have hfo5 := s25 _ _ hfo2
      have hfo6 := st6 _ _ hfo5 hfd hfL
      have hlf : l6 ≠ fo := fun z => by rw [z, hfo5] at nl6; cases nl6
      have ol := Sf.out_length (xs.take i) Sf.start Sf.ans_length
      have al := Sf.ans_length (Sf.stAfter Sf.start (xs.take i)) c
      rw [List.length_take] at ol
      refine ⟨_, rfl, .inl ⟨rfl, _, SqL.of hfo6⟩, _, rfl, l6, _, rfl, .inl (SqL.of hl6), fo, _, _, rfl, rfl, hfo6, ?_, ?_⟩
      · rw [List.length_map]
        exact Nat.lt_of_le_of_lt (show _ ≤ 2000 by omega) (by decide)
      have hl7 : ∀ o, upd H6 fo o l6 = some (.lst ((Sf.stepM (Sf.stAfter Sf.start (xs.take i)) c).2.map V.int)) := fun o => by rw [upd_ne hlf]; exact hl6
      refine ⟨_, rfl, .inl ⟨rfl, _, SqL.of upd_same⟩, _, rfl, fo, l6, _, _, rfl, rfl, upd_same, hl7 _, ?_, ?_⟩
      · rw [List.length_append, List.length_map, List.length_map]
        refine Nat.le_trans (show _ ≤ 2000 from ?_) (by decide)
        show (Sf.outM Sf.start (xs.take i)).length + 1 + _ ≤ 2000
        omega
      rw [upd_upd]
      refine ⟨_, rfl, i + 1, p6, cs6, some (.int (sortOf c)), some (.int (((doneL xs i).length + (Sf.wr c).length : Nat) : Int)), some (.ref nu), some (.ref ro'), some (.ref l6), by omega, ?_, ?_, ?_, ?_⟩
      · rw [done_snoc hc, List.length_append]
        rfl
      · intro b o hb
        have hbf : b ≠ fo := fun z => by
          rw [z] at hb
          rw [s1 _ _ hb] at hfo
          cases hfo
        rw [upd_ne hbf]
        exact st6 _ _ (s25 _ _ (s12 _ _ hb)) (fun z => by rw [z, nx] at hb; cases hb) (fun z => by rw [z, nL0] at hb; cases hb)
      · rw [hst]
        exact hdk6.list (Sf.step_good wfD c).2.2.toStWf hfo6 hfL
      · rw [upd_same, hou]
        unfold Sf.outOne
        rw [List.map_append, List.map_cons, List.length_map, List.append_assoc]
        rfl
end
end Sw

namespace Sw
open PySem PySem.Spec PyProof.Rows L2
theorem all_ok {P : Program} {w : World} {K : PySem.W.Frag} {mg : Str → Option Value} {base : Heap} {ad : Ad} {f0 : Addr} {fd0 : FuncData}
    (d_common : Df K mg "common" (top 1))
    (d_fraction : Df K mg "fraction" (top 2))
    (b_abs : mg "abs" = none)
    (d_whole : Df K mg "whole" (top 3))
    (d_is_above : Df K mg "is_above" (top 4))
    (d_side_of : Df K mg "side_of" (top 5))
    (b_int : mg "int" = none)
    (d_between : Df K mg "between" (top 6))
    (d_rounded_up : Df K mg "rounded_up" (top 7))
    (k_Fade : Kl K mg "Fade" "Fade.__init__" ad.F sFade)
    (T : Na K ad)
    (k_Told : Kl K mg "Told" "Told.__init__" ad.T sTold)
    (k_Channel : Kl K mg "Channel" "Channel.__init__" ad.C sChan)
    (k_Cue : Kl K mg "Cue" "Cue.__init__" ad.Q sCue)
    (m_C : Km K ad.C "copy" "Channel.copy" sChanCopy)
    (d_fade_value : Df K mg "fade_value" (top 13))
    (d_new_channel : Df K mg "new_channel" (top 12))
    (d_begin_told : Df K mg "begin_told" (top 14))
    (d_tell : Df K mg "tell" (top 15))
    (d_value_at : Df K mg "value_at" (top 16))
    (d_is_met : Df K mg "is_met" (top 19))
    (d_meeting_time : Df K mg "meeting_time" (top 20))
    (d_all_fades : Df K mg "all_fades" (top 17))
    (b_list : mg "list" = none)
    (b_zip : mg "zip" = none)
    (d_last_change : Df K mg "last_change" (top 18))
    (b_min : mg "min" = none)
    (b_max : mg "max" = none)
    (d_when_met : Df K mg "when_met" (top 21))
    (d_is_told : Df K mg "is_told" (top 28))
    (b_len : mg "len" = none)
    (d_following_time : Df K mg "following_time" (top 30))
    (k_Stage : Kl K mg "Stage" "Stage.__init__" ad.S sStage)
    (b_range : mg "range" = none)
    (g_CHANNELS : Gc mg "CHANNELS" 64)
    (m_S : Km K ad.S "copy" "Stage.copy" sStageCopy)
    (d_cue_goes : Df K mg "cue_goes" (top 27))
    (d_look : Df K mg "look" (top 26))
    (d_gone_to : Df K mg "gone_to" (top 29))
    (d_follow_to : Df K mg "follow_to" (top 31))
    (d_by_time : Df K mg "by_time" (top 32))
    (d_follow_all : Df K mg "follow_all" (top 33))
    (d_still_time : Df K mg "still_time" (top 34))
    (d_ask : Df K mg "ask" (top 42))
    (R : PySem.RefX.RefTxt K mg ad.R ad.rI)
    (d_ask_moves : Df K mg "ask_moves" (top 44))
    (g_MOST_LEVEL : Gc mg "MOST_LEVEL" 100)
    (d_ask_time : Df K mg "ask_time" (top 46))
    (g_LATEST : Gc mg "LATEST" 1000000)
    (d_ask_channel : Df K mg "ask_channel" (top 49))
    (k_Desk : Kl K mg "Desk" "Desk.__init__" ad.D sDesk)
    (d_add_cue : Df K mg "add_cue" (top 45))
    (b_dict : mg "dict" = none)
    (g_MOST_NUMBER : Gc mg "MOST_NUMBER" 9999)
    (g_MOST_LENGTH : Gc mg "MOST_LENGTH" 600)
    (g_MOST_CUES : Gc mg "MOST_CUES" 24)
    (d_go : Df K mg "go" (top 47))
    (d_at_told : Df K mg "at_told" (top 50))
    (d_stand : Df K mg "stand" (top 51))
    (d_when : Df K mg "when" (top 52))
    (d_reset : Df K mg "reset" (top 53))
    (d_go_to : Df K mg "go_to" (top 48))
    (b_enumerate : mg "enumerate" = none)
    (d_asked : Df K mg "asked" (top 54))
    (d_answer : Df K mg "answer" (top 55))
    (FA : Fun K "answers" "answers" (top 59) f0 fd0)
    (tn : Tn K mg)
    (g_CUE : Gc mg "CUE" 0)
    : FnOk P w K mg base CX0 13 f0 fd0 ["calls"] (spAns K) := by
  have r_common : Cl P w K mg base CX0 1 "common" spCommon := ok_common d_common
  have r_fraction : Cl P w K mg base CX0 2 "fraction" spFraction := ok_fraction d_fraction b_abs r_common
  have r_whole : Cl P w K mg base CX0 1 "whole" spWhole := ok_whole d_whole
  have r_is_above : Cl P w K mg base CX0 1 "is_above" spIsAbove := ok_above d_is_above
  have r_side_of : Cl P w K mg base CX0 1 "side_of" spSideOf := ok_side d_side_of b_int
  have r_between : Cl P w K mg base CX0 3 "between" spBetween := ok_between d_between r_fraction
  have r_rounded_up : Cl P w K mg base CX0 1 "rounded_up" spRounded := ok_rounded d_rounded_up
  have r_Fade : Mc P w K mg base 1 "Fade" ad.F (spFade ad.F) := ok_Fade k_Fade T
  have r_Told : Mc P w K mg base 1 "Told" ad.T (spTold ad.T) := ok_Told k_Told T
  have r_Channel : Mc P w K mg base 1 "Channel" ad.C (spChan ad.C) := ok_Chan k_Channel T
  have r_Cue : Mc P w K mg base 1 "Cue" ad.Q (spCue ad.Q) := ok_Cue k_Cue T
  have r_copyC : Me P w K mg base 3 ad.C "copy" (spChanCopy ad) := ok_ChanCopy m_C T r_Channel
  have r_fade_value : Cl P w K mg base CX0 4 "fade_value" (spFadeValue ad) := ok_FadeValue d_fade_value T r_whole r_between
  have r_new_channel : Cl P w K mg base CX0 3 "new_channel" (spNewChannel ad) := ok_NewChannel d_new_channel r_whole r_Fade r_Channel
  have r_begin_told : Cl P w K mg base CX0 5 "begin_told" (spBegin ad) := ok_Begin d_begin_told T r_whole r_is_above r_fade_value r_Fade
  have r_tell : Cl P w K mg base CX0 6 "tell" (spTell ad) := ok_Tell d_tell T r_begin_told r_Told
  have r_value_at : Cl P w K mg base CX0 6 "value_at" (spValueAt ad) := ok_ValueAt d_value_at T r_begin_told r_fade_value
  have r_is_met : Cl P w K mg base CX0 2 "is_met" spIsMet := ok_IsMet d_is_met r_side_of
  have r_meeting_time : Cl P w K mg base CX0 5 "meeting_time" (spMeeting ad) := ok_Meeting d_meeting_time T r_whole r_is_met r_fade_value r_rounded_up
  have r_all_fades : Cl P w K mg base CX0 6 "all_fades" (spAllFades ad) := ok_AllFades d_all_fades T b_list b_zip r_begin_told
  have r_last_change : Cl P w K mg base CX0 7 "last_change" (spLastChange ad) := ok_LastChange d_last_change T b_min b_max r_whole r_all_fades
  have r_when_met : Cl P w K mg base CX0 7 "when_met" (spWhenMet ad) := ok_WhenMet d_when_met T b_max r_all_fades r_side_of r_fade_value r_meeting_time
  have r_is_told : Cl P w K mg base CX0 1 "is_told" (spIsTold ad) := ok_IsTold d_is_told T b_len
  have r_following_time : Cl P w K mg base CX0 1 "following_time" (spFollowing ad) := ok_Following d_following_time T b_len
  have r_Stage : Mc P w K mg base 4 "Stage" ad.S (spStage ad) := ok_Stage k_Stage T b_range g_CHANNELS r_new_channel
  have r_copyS : Me P w K mg base 6 ad.S "copy" (spStageCopy ad) := ok_StageCopy m_S T r_Stage r_copyC
  have r_cue_goes : Cl P w K mg base CX0 7 "cue_goes" (spGoes ad) := ok_Goes d_cue_goes T r_tell
  have r_look : Cl P w K mg base CX0 1 "look" (spLook ad) := ok_Look d_look T g_CHANNELS
  have r_gone_to : Cl P w K mg base CX0 7 "gone_to" (spGoesTo ad) := ok_GoesTo d_gone_to T b_zip r_tell r_look
  have r_follow_to : Cl P w K mg base CX0 8 "follow_to" (spFollowTo ad) := ok_FollowTo d_follow_to T r_following_time r_cue_goes
  have r_by_time : Cl P w K mg base CX0 9 "by_time" (spByTime ad) := ok_ByTime d_by_time T r_copyS r_follow_to
  have r_follow_all : Cl P w K mg base CX0 8 "follow_all" (spFollowAll ad) := ok_FollowAll d_follow_all T r_copyS r_following_time r_cue_goes
  have r_still_time : Cl P w K mg base CX0 9 "still_time" (spStill ad) := ok_Still d_still_time T b_max r_follow_all r_last_change
  have r_ask : Cl P w K mg base (L2.CX P w) 3 "ask" (spAsk ad) := ok_Ask d_ask R
  have r_ask_moves : Cl P w K mg base (L2.CX P w) 4 "ask_moves" (spAskMoves ad) := ok_AskMoves d_ask_moves b_len b_range g_CHANNELS g_MOST_LEVEL r_ask
  have r_ask_time : Cl P w K mg base (L2.CX P w) 4 "ask_time" (spAskTime ad) := ok_AskTime d_ask_time T g_LATEST r_ask
  have r_ask_channel : Cl P w K mg base (L2.CX P w) 4 "ask_channel" (spAskChannel ad) := ok_AskChannel d_ask_channel g_CHANNELS r_ask
  have r_Desk : Mc P w K mg base 6 "Desk" ad.D (spDesk ad) := ok_Desk k_Desk T r_Stage
  have r_add_cue : Cl P w K mg base (L2.CX P w) 5 "add_cue" (spAdd ad) := ok_Add d_add_cue T b_len b_range b_max b_dict g_MOST_NUMBER g_MOST_LENGTH g_MOST_CUES r_ask r_ask_moves r_Cue
  have r_go : Cl P w K mg base (L2.CX P w) 10 "go" (spDk1 ad Sf.goX) := ok_Go d_go T b_len r_ask r_ask_time r_by_time r_cue_goes r_is_told
  have r_at_told : Cl P w K mg base (L2.CX P w) 10 "at_told" (spDk2 ad Sf.atX) := ok_AtTold d_at_told T b_list r_ask_time r_ask_channel r_by_time r_value_at
  have r_stand : Cl P w K mg base (L2.CX P w) 10 "stand" (spDk1 ad Sf.standX) := ok_Stand d_stand T r_ask_time r_by_time r_following_time
  have r_when : Cl P w K mg base (L2.CX P w) 10 "when" (spDk3 ad Sf.whenX) := ok_When d_when T g_MOST_LEVEL r_ask r_ask_time r_ask_channel r_follow_all r_when_met
  have r_reset : Cl P w K mg base CX0 6 "reset" (spReset ad) := ok_Reset d_reset T r_Stage
  have r_go_to : Cl P w K mg base (L2.CX P w) 10 "go_to" (spGoTo ad) := ok_GoTo d_go_to T b_enumerate r_ask r_ask_time r_by_time r_gone_to r_is_told
  have r_asked : Cl P w K mg base (L2.CX P w) 11 "asked" (spAsked ad) := ok_Asked d_asked T r_add_cue r_go r_go_to r_at_told r_stand r_still_time r_when r_reset
  have r_answer : Cl P w K mg base CX0 12 "answer" (spAnswer ad) := ok_Answer d_answer R r_asked
  exact ok_Ans FA T b_len tn g_CUE r_Desk r_answer
end Sw

namespace Sw
open PySem PySem.Spec PyProof.Rows L2
section
variable {K : PySem.W.Frag} {h : Heap} {mg : Str → Option Value}
theorem df_mk {x : Str} {st : Stmt} {f : Addr} {oc : Value} {od an : Option Addr} {osl : Array (Option Value)} {kV doc pm cdv ct : Value} (X : K.In h) (G : h.Ns mainGlobals mg) (a : PySem.W.nsIn K mainGlobals x = some (some (.ref f)))
    (l : K.lookup f = some ⟨oc, od, .func (PySem.W.fnOf x x (defArgs st) (defBody st) (defScope st) .none kV doc pm an cdv ct), osl⟩) (c : PySem.W.codeIn K cdv x = true) (k : PySem.W.keepIn K (.ref f) = true) : Df K mg x st := ⟨f, _, fun_mk l c k, PySem.W.mg_of X G a⟩
theorem kl_mk {x qual : Str} {C : Addr} {st : Stmt} {f : Addr} {oc : Value} {od an : Option Addr} {osl : Array (Option Value)} {kV doc pm cdv ct : Value} (X : K.In h) (G : h.Ns mainGlobals mg) (aC : PySem.W.nsIn K mainGlobals x = some (some (.ref C)))
    (a1 : PySem.W.findIn K (.ref C) "__init__" = some (some (.ref f))) (i1 : PySem.W.isFn K (.ref f) = true)
    (l1 : K.lookup f = some ⟨oc, od, .func (PySem.W.fnOf "__init__" qual (defArgs st) (defBody st) (defScope st) .none kV doc pm an cdv ct), osl⟩) (c1 : PySem.W.codeIn K cdv qual = true) (k1 : PySem.W.keepIn K (.ref f) = true)
    (pg : PySem.W.plainGet K C Str.empty = true) (hd : PySem.W.hasDictIn K C = true) (po : PySem.W.plainOver K C = true) (sa : PySem.W.findIn K (.ref C) "__setattr__" = some (some (.builtin "object.__setattr__")))
    (mk : PySem.W.makesIn K C = true) (kc : PySem.W.keepIn K (.ref C) = true) : Kl K mg x qual C st :=
  ⟨⟨pg, hd, po, sa⟩, PySem.W.mg_of X G aC, f, _, ⟨mk, a1, i1, kc⟩, fun_mk l1 c1 k1⟩
theorem km_mk {m qual : Str} {C : Addr} {st : Stmt} {f : Addr} {oc : Value} {od an : Option Addr} {osl : Array (Option Value)} {kV doc pm cdv ct : Value}
    (a1 : PySem.W.findIn K (.ref C) m = some (some (.ref f))) (i1 : PySem.W.isFn K (.ref f) = true)
    (l1 : K.lookup f = some ⟨oc, od, .func (PySem.W.fnOf m qual (defArgs st) (defBody st) (defScope st) .none kV doc pm an cdv ct), osl⟩) (c1 : PySem.W.codeIn K cdv qual = true) (k1 : PySem.W.keepIn K (.ref f) = true) : Km K C m qual st :=
  ⟨f, _, ⟨a1, i1, k1⟩, fun_mk l1 c1 k1⟩
/-- an error of the class at S is what «except S» names -/
theorem exm_self {S : Addr} (h1 : PySem.W.subIn K (.ref S) (.type "BaseException") = some true) (h2 : PySem.W.isClsIn K S = true) (h3 : PySem.W.typeIn K (.ref S) = some (.type "type")) (h4 : PySem.W.subIn K (.ref S) (.ref S) = some true) :
    PySem.W.exmOne K (.ref S) (.ref S) = some true := by
  have e1 : (PySem.W.subIn K (.ref S) (.type "BaseException") == some true) = true := by rw [h1] <;> rfl
  have e2 : ((PySem.W.clsIn K S).isSome && PySem.W.typeIn K (.ref S) == some (.type "type")) = true := by
    have h2' : (PySem.W.clsIn K S).isSome = true := h2
    rw [h2', h3] <;> rfl
  show (if (PySem.W.subIn K (.ref S) (.type "BaseException") == some true) = true then (if ((PySem.W.clsIn K S).isSome && PySem.W.typeIn K (.ref S) == some (.type "type")) = true then PySem.W.subIn K (.ref S) (.ref S) else none) else none) = some true
  rw [if_pos e1, if_pos e2]
  exact h4
theorem ref_mk {C f1 : Addr} (X : K.In h) (G : h.Ns mainGlobals mg)
    {nm q : Str} {N : Addr} {bs : List Value} {sn : List Str} {sub : List Value} {ab : Bool} {col : Option Bool} {dd : Option Addr} {m0 m1 m2 m3 m5 : Option Value}
    {od1 an1 : Option Addr} {sl1 : Array (Option Value)} {oc1 dc1 pm1 cd1 ct1 : Value}
    (aC : PySem.W.nsIn K mainGlobals "Refused" = some (some (.ref C)))
    (xL : K.lookup C = some (excClassObj nm q C N bs [.type "ValueError", .type "Exception", .type "BaseException", .type "object"] true sn sub ab col dd m0 m1 m2 m3 m5 "ValueError.__new__"))
    (sa : PySem.W.findIn K (.ref C) "__setattr__" = some (some (.builtin "object.__setattr__"))) (ga : PySem.W.findIn K (.ref C) "__getattribute__" = some (some (.builtin "BaseException.__getattribute__"))) (gg : PySem.W.findIn K (.ref C) "__getattr__" = some none) (nb : PySem.W.findIn K (.ref C) "number" = some none)
    (a1 : PySem.W.findIn K (.ref C) "__init__" = some (some (.ref f1))) (t1 : PySem.W.typeIn K (.ref f1) = some (.type "function"))
    (l1 : K.lookup f1 = some ⟨oc1, od1, .func (PySem.W.fnOf "__init__" "Refused.__init__" (PySem.RefX.iA ⟨187, 17, 187, 21⟩ ⟨187, 23, 187, 29⟩) (PySem.RefX.iB ⟨188, 8, 188, 12⟩ ⟨188, 8, 188, 19⟩ ⟨188, 22, 188, 28⟩ ⟨188, 8, 188, 28⟩) PySem.RefX.iS .none .none dc1 pm1 an1 cd1 ct1), sl1⟩) (c1 : PySem.W.codeIn K cd1 "Refused.__init__" = true)
    (kC : PySem.W.keepIn K (.ref C) = true) (eC : PySem.W.subIn K (.ref C) (.type "BaseException") = some true) (tC : PySem.W.typeIn K (.ref C) = some (.type "type")) (hC : PySem.W.hasDictIn K C = true) (iC : PySem.W.isClsIn K C = true) (sC : PySem.W.subIn K (.ref C) (.ref C) = some true) :
    PySem.RefX.RefTxt K mg C f1 :=
  { gC := PySem.W.mg_of X G aC, cls := ⟨nm, q, N, bs, _, sn, sub, ab, col, dd, m0, m1, m2, m3, m5, xL, by decide +kernel⟩, sa := sa, ga := ga, gg := gg, noN := nb, iC := a1, tC := t1, kC := kC, exC := eC, tyC := tC, hdC := hC, te := exm_self eC iC tC sC,
    fn := ⟨_, _, _, _, _, _, _, _, _, _, _, _, _, _, l1, c1⟩ }
theorem gc_mk {x : Str} {n : Int} {t : Tok} (X : K.In h) (G : h.Ns mainGlobals mg) (a : PySem.W.nsIn K mainGlobals x = some (some (.int n t))) : Gc mg x n := ⟨_, PySem.W.mg_of X G a, t, rfl⟩
theorem tn_mk {nt : Addr} {od : Option Addr} {osl : Array (Option Value)} {n : Nat} {t0 t1 t2 t3 t4 t5 t6 t7 : Tok} (X : K.In h) (G : h.Ns mainGlobals mg) (a : PySem.W.nsIn K mainGlobals "NUMBERS" = some (some (.ref nt)))
    (l : K.lookup nt = some ⟨.type "tuple", od, .seq #[.int 5 t0, .int 1 t1, .int 2 t2, .int 2 t3, .int 1 t4, .int 0 t5, .int 3 t6, .int 0 t7] n, osl⟩) : Tn K mg :=
  ⟨nt, ⟨_, PySem.W.mg_of X G a, rfl⟩, fun H => .inr ⟨_, _, n, l, rfl, rfl, (by show 8 ≤ sizeLine; decide), .cons ⟨_, rfl⟩ (.cons ⟨_, rfl⟩ (.cons ⟨_, rfl⟩ (.cons ⟨_, rfl⟩ (.cons ⟨_, rfl⟩ (.cons ⟨_, rfl⟩ (.cons ⟨_, rfl⟩ (.cons ⟨_, rfl⟩ .nil)))))))⟩⟩
theorem use {p q : Prop} (h : p) (k : p → q) : q := k h
theorem na_mk {x qual f : Str} {C : Addr} {st : Stmt} (_ : Kl K mg x qual C st) (n : PySem.W.findIn K (.ref C) f = some none) : NoAttr K C f := n
theorem km_mk2 {x qual0 m qual : Str} {C : Addr} {st0 st : Stmt} {f : Addr} {oc : Value} {od an : Option Addr} {osl : Array (Option Value)} {kV doc pm cdv ct : Value} (_ : Kl K mg x qual0 C st0)
    (a1 : PySem.W.findIn K (.ref C) m = some (some (.ref f))) (i1 : PySem.W.isFn K (.ref f) = true)
    (l1 : K.lookup f = some ⟨oc, od, .func (PySem.W.fnOf m qual (defArgs st) (defBody st) (defScope st) .none kV doc pm an cdv ct), osl⟩) (c1 : PySem.W.codeIn K cdv qual = true) (k1 : PySem.W.keepIn K (.ref f) = true) : Km K C m qual st :=
  km_mk a1 i1 l1 c1 k1
theorem bn_mk {x : Str} (X : K.In h) (G : h.Ns mainGlobals mg) (a : PySem.W.nsIn K mainGlobals x = some none) : mg x = none := PySem.W.mg_none_of X G a
end
section
variable {P : Program} {w : World} {K : PySem.W.Frag} {h : Heap} {mg : Str → Option Value}
theorem end_mk {cF cT cC cQ cS cD cR rI fa f0 : Addr} {oc : Value} {od an : Option Addr} {osl : Array (Option Value)} {kV doc pm cdv ct : Value} (X : K.In h) (G : h.Ns mainGlobals mg) (hfa : mg "answers" = some (.ref fa))
    (aA : PySem.W.nsIn K mainGlobals "answers" = some (some (.ref f0))) (lA : K.lookup f0 = some ⟨oc, od, .func (PySem.W.fnOf "answers" "answers" (defArgs (top 59)) (defBody (top 59)) (defScope (top 59)) .none kV doc pm an cdv ct), osl⟩) (cA : PySem.W.codeIn K cdv "answers" = true) (kA : PySem.W.keepIn K (.ref f0) = true)
    (d_common : Df K mg "common" (top 1))
    (d_fraction : Df K mg "fraction" (top 2))
    (b_abs : mg "abs" = none)
    (d_whole : Df K mg "whole" (top 3))
    (d_is_above : Df K mg "is_above" (top 4))
    (d_side_of : Df K mg "side_of" (top 5))
    (b_int : mg "int" = none)
    (d_between : Df K mg "between" (top 6))
    (d_rounded_up : Df K mg "rounded_up" (top 7))
    (k_Fade : Kl K mg "Fade" "Fade.__init__" cF sFade)
    (nF_begin : NoAttr K cF "begin")
    (nF_start : NoAttr K cF "start")
    (nF_end : NoAttr K cF "end")
    (nF_level : NoAttr K cF "level")
    (nT_begin : NoAttr K cT "begin")
    (nT_level : NoAttr K cT "level")
    (nT_up : NoAttr K cT "up")
    (nT_down : NoAttr K cT "down")
    (nC_fades : NoAttr K cC "fades")
    (nC_told : NoAttr K cC "told")
    (nQ_number : NoAttr K cQ "number")
    (nQ_up : NoAttr K cQ "up")
    (nQ_down : NoAttr K cQ "down")
    (nQ_delay : NoAttr K cQ "delay")
    (nQ_follow : NoAttr K cQ "follow")
    (nQ_moves : NoAttr K cQ "moves")
    (nS_cues : NoAttr K cS "cues")
    (nS_channels : NoAttr K cS "channels")
    (nS_last : NoAttr K cS "last")
    (nS_went : NoAttr K cS "went")
    (nS_leads : NoAttr K cS "leads")
    (nD_stage : NoAttr K cD "stage")
    (k_Told : Kl K mg "Told" "Told.__init__" cT sTold)
    (k_Channel : Kl K mg "Channel" "Channel.__init__" cC sChan)
    (k_Cue : Kl K mg "Cue" "Cue.__init__" cQ sCue)
    (m_C : Km K cC "copy" "Channel.copy" sChanCopy)
    (d_fade_value : Df K mg "fade_value" (top 13))
    (d_new_channel : Df K mg "new_channel" (top 12))
    (d_begin_told : Df K mg "begin_told" (top 14))
    (d_tell : Df K mg "tell" (top 15))
    (d_value_at : Df K mg "value_at" (top 16))
    (d_is_met : Df K mg "is_met" (top 19))
    (d_meeting_time : Df K mg "meeting_time" (top 20))
    (d_all_fades : Df K mg "all_fades" (top 17))
    (b_list : mg "list" = none)
    (b_zip : mg "zip" = none)
    (d_last_change : Df K mg "last_change" (top 18))
    (b_min : mg "min" = none)
    (b_max : mg "max" = none)
    (d_when_met : Df K mg "when_met" (top 21))
    (d_is_told : Df K mg "is_told" (top 28))
    (b_len : mg "len" = none)
    (d_following_time : Df K mg "following_time" (top 30))
    (k_Stage : Kl K mg "Stage" "Stage.__init__" cS sStage)
    (b_range : mg "range" = none)
    (g_CHANNELS : Gc mg "CHANNELS" 64)
    (m_S : Km K cS "copy" "Stage.copy" sStageCopy)
    (d_cue_goes : Df K mg "cue_goes" (top 27))
    (d_look : Df K mg "look" (top 26))
    (d_gone_to : Df K mg "gone_to" (top 29))
    (d_follow_to : Df K mg "follow_to" (top 31))
    (d_by_time : Df K mg "by_time" (top 32))
    (d_follow_all : Df K mg "follow_all" (top 33))
    (d_still_time : Df K mg "still_time" (top 34))
    (d_ask : Df K mg "ask" (top 42))
    (R : PySem.RefX.RefTxt K mg cR rI)
    (d_ask_moves : Df K mg "ask_moves" (top 44))
    (g_MOST_LEVEL : Gc mg "MOST_LEVEL" 100)
    (d_ask_time : Df K mg "ask_time" (top 46))
    (g_LATEST : Gc mg "LATEST" 1000000)
    (d_ask_channel : Df K mg "ask_channel" (top 49))
    (k_Desk : Kl K mg "Desk" "Desk.__init__" cD sDesk)
    (d_add_cue : Df K mg "add_cue" (top 45))
    (b_dict : mg "dict" = none)
    (g_MOST_NUMBER : Gc mg "MOST_NUMBER" 9999)
    (g_MOST_LENGTH : Gc mg "MOST_LENGTH" 600)
    (g_MOST_CUES : Gc mg "MOST_CUES" 24)
    (d_go : Df K mg "go" (top 47))
    (d_at_told : Df K mg "at_told" (top 50))
    (d_stand : Df K mg "stand" (top 51))
    (d_when : Df K mg "when" (top 52))
    (d_reset : Df K mg "reset" (top 53))
    (d_go_to : Df K mg "go_to" (top 48))
    (b_enumerate : mg "enumerate" = none)
    (d_asked : Df K mg "asked" (top 54))
    (d_answer : Df K mg "answer" (top 55))
    (tn : Tn K mg)
    (g_CUE : Gc mg "CUE" 0)
    : ∃ fd : FuncData, (∀ (s : Shared) (us : List Value), us.length = (["calls"] : List Str).length → BindsTo s fd ⟨us, []⟩ ((["calls"] : List Str).zip us)) ∧ ∀ base : Heap, K.In base → base.Ns mainGlobals mg → FnOk P w K mg base CX0 13 fa fd ["calls"] (spAns K) := by
  have e := hfa.symm.trans (PySem.W.mg_of X G aA)
  cases e
  have T : Na K ⟨cF, cT, cC, cQ, cS, cD, cR, rI⟩ := ⟨nF_begin, nF_start, nF_end, nF_level, nT_begin, nT_level, nT_up, nT_down, nC_fades, nC_told, nQ_number, nQ_up, nQ_down, nQ_delay, nQ_follow, nQ_moves, nS_cues, nS_channels, nS_last, nS_went, nS_leads, nD_stage, k_Fade.cl, k_Told.cl, k_Channel.cl, k_Cue.cl, k_Stage.cl, k_Desk.cl⟩
  have FA := fun_mk (st := top 59) lA cA kA
  exact ⟨_, fun s us hu => match us, hu with | [_], _ => .of_eq rfl, fun base _ _ => all_ok (ad := ⟨cF, cT, cC, cQ, cS, cD, cR, rI⟩) d_common d_fraction b_abs d_whole d_is_above d_side_of b_int d_between d_rounded_up k_Fade T k_Told k_Channel k_Cue m_C d_fade_value d_new_channel d_begin_told d_tell d_value_at d_is_met d_meeting_time d_all_fades b_list b_zip d_last_change b_min b_max d_when_met d_is_told b_len d_following_time k_Stage b_range g_CHANNELS m_S d_cue_goes d_look d_gone_to d_follow_to d_by_time d_follow_all d_still_time d_ask R d_ask_moves g_MOST_LEVEL d_ask_time g_LATEST d_ask_channel k_Desk d_add_cue b_dict g_MOST_NUMBER g_MOST_LENGTH g_MOST_CUES d_go d_at_told d_stand d_when d_reset d_go_to b_enumerate d_asked d_answer FA tn g_CUE⟩
end
end Sw

open PySem PySem.W PyProof.Rows
set_option maxRecDepth 100000 in
set_option maxHeartbeats 8000000 in
theorem PySem.Challenge.cw_stagefades_s01_answers_holds : PySem.Challenge.rw_stagefades_s01_answers.Holds := by
  w_on; k_headS; (case hw => exact ⟨[.list [.int 5]], by decide +kernel, by decide +kernel⟩)
  k_fillS
  refine L2.walk_specK (r := PySem.Challenge.rw_stagefades_s01_answers) (k := 13) (CX := L2.CX0) (ps := ["calls"]) (sp := Sw.spAns) (by decide +kernel) rfl rfl ⟨rfl, by decide, by decide⟩ (fun w h Y => PySem.W.kIn_of Y) ?F ?S (fun _ _ _ _ z => z)
  case F =>
    intro w mg fa h Y KX G hmg
    refine' Sw.use (Sw.kl_mk (x := "Fade") (qual := "Fade.__init__") (st := Sw.sFade) KX G ?aC ?a1 ?i1 ?l1 ?c1 ?k1 ?pg ?hd ?po ?sa ?mk ?kc) fun k_Fade => ?r1
    (case aC => k_is)
    (case a1 => k_is)
    (case i1 => k_is)
    (case l1 => k_is)
    (case c1 => k_is)
    (case k1 => k_is)
    (case pg => k_is)
    (case hd => k_is)
    (case po => k_is)
    (case sa => k_is)
    (case mk => k_is)
    (case kc => k_is)
    refine' Sw.use (Sw.na_mk (f := "begin") k_Fade ?n) fun nF_begin => ?r2
    (case n => k_is)
    refine' Sw.use (Sw.na_mk (f := "start") k_Fade ?n) fun nF_start => ?r3
    (case n => k_is)
    refine' Sw.use (Sw.na_mk (f := "end") k_Fade ?n) fun nF_end => ?r4
    (case n => k_is)
    refine' Sw.use (Sw.na_mk (f := "level") k_Fade ?n) fun nF_level => ?r5
    (case n => k_is)
    refine' Sw.use (Sw.kl_mk (x := "Told") (qual := "Told.__init__") (st := Sw.sTold) KX G ?aC ?a1 ?i1 ?l1 ?c1 ?k1 ?pg ?hd ?po ?sa ?mk ?kc) fun k_Told => ?r6
    (case aC => k_is)
    (case a1 => k_is)
    (case i1 => k_is)
    (case l1 => k_is)
    (case c1 => k_is)
    (case k1 => k_is)
    (case pg => k_is)
    (case hd => k_is)
    (case po => k_is)
    (case sa => k_is)
    (case mk => k_is)
    (case kc => k_is)
    refine' Sw.use (Sw.na_mk (f := "begin") k_Told ?n) fun nT_begin => ?r7
    (case n => k_is)
    refine' Sw.use (Sw.na_mk (f := "level") k_Told ?n) fun nT_level => ?r8
    (case n => k_is)
    refine' Sw.use (Sw.na_mk (f := "up") k_Told ?n) fun nT_up => ?r9
    (case n => k_is)
    refine' Sw.use (Sw.na_mk (f := "down") k_Told ?n) fun nT_down => ?r10
    (case n => k_is)
    refine' Sw.use (Sw.kl_mk (x := "Channel") (qual := "Channel.__init__") (st := Sw.sChan) KX G ?aC ?a1 ?i1 ?l1 ?c1 ?k1 ?pg ?hd ?po ?sa ?mk ?kc) fun k_Channel => ?r11
    (case aC => k_is)
    (case a1 => k_is)
    (case i1 => k_is)
    (case l1 => k_is)
    (case c1 => k_is)
    (case k1 => k_is)
    (case pg => k_is)
    (case hd => k_is)
    (case po => k_is)
    (case sa => k_is)
    (case mk => k_is)
    (case kc => k_is)
    refine' Sw.use (Sw.km_mk2 (m := "copy") (qual := "Channel.copy") (st := Sw.sChanCopy) k_Channel ?a1 ?i1 ?l1 ?c1 ?k1) fun m_C => ?r12
    (case a1 => k_is)
    (case i1 => k_is)
    (case l1 => k_is)
    (case c1 => k_is)
    (case k1 => k_is)
    refine' Sw.use (Sw.na_mk (f := "fades") k_Channel ?n) fun nC_fades => ?r13
    (case n => k_is)
    refine' Sw.use (Sw.na_mk (f := "told") k_Channel ?n) fun nC_told => ?r14
    (case n => k_is)
    refine' Sw.use (Sw.kl_mk (x := "Cue") (qual := "Cue.__init__") (st := Sw.sCue) KX G ?aC ?a1 ?i1 ?l1 ?c1 ?k1 ?pg ?hd ?po ?sa ?mk ?kc) fun k_Cue => ?r15
    (case aC => k_is)
    (case a1 => k_is)
    (case i1 => k_is)
    (case l1 => k_is)
    (case c1 => k_is)
    (case k1 => k_is)
    (case pg => k_is)
    (case hd => k_is)
    (case po => k_is)
    (case sa => k_is)
    (case mk => k_is)
    (case kc => k_is)
    refine' Sw.use (Sw.na_mk (f := "number") k_Cue ?n) fun nQ_number => ?r16
    (case n => k_is)
    refine' Sw.use (Sw.na_mk (f := "up") k_Cue ?n) fun nQ_up => ?r17
    (case n => k_is)
    refine' Sw.use (Sw.na_mk (f := "down") k_Cue ?n) fun nQ_down => ?r18
    (case n => k_is)
    refine' Sw.use (Sw.na_mk (f := "delay") k_Cue ?n) fun nQ_delay => ?r19
    (case n => k_is)
    refine' Sw.use (Sw.na_mk (f := "follow") k_Cue ?n) fun nQ_follow => ?r20
    (case n => k_is)
    refine' Sw.use (Sw.na_mk (f := "moves") k_Cue ?n) fun nQ_moves => ?r21
    (case n => k_is)
    refine' Sw.use (Sw.kl_mk (x := "Stage") (qual := "Stage.__init__") (st := Sw.sStage) KX G ?aC ?a1 ?i1 ?l1 ?c1 ?k1 ?pg ?hd ?po ?sa ?mk ?kc) fun k_Stage => ?r22
    (case aC => k_is)
    (case a1 => k_is)
    (case i1 => k_is)
    (case l1 => k_is)
    (case c1 => k_is)
    (case k1 => k_is)
    (case pg => k_is)
    (case hd => k_is)
    (case po => k_is)
    (case sa => k_is)
    (case mk => k_is)
    (case kc => k_is)
    refine' Sw.use (Sw.km_mk2 (m := "copy") (qual := "Stage.copy") (st := Sw.sStageCopy) k_Stage ?a1 ?i1 ?l1 ?c1 ?k1) fun m_S => ?r23
    (case a1 => k_is)
    (case i1 => k_is)
    (case l1 => k_is)
    (case c1 => k_is)
    (case k1 => k_is)
    refine' Sw.use (Sw.na_mk (f := "cues") k_Stage ?n) fun nS_cues => ?r24
    (case n => k_is)
    refine' Sw.use (Sw.na_mk (f := "channels") k_Stage ?n) fun nS_channels => ?r25
    (case n => k_is)
    refine' Sw.use (Sw.na_mk (f := "last") k_Stage ?n) fun nS_last => ?r26
    (case n => k_is)
    refine' Sw.use (Sw.na_mk (f := "went") k_Stage ?n) fun nS_went => ?r27
    (case n => k_is)
    refine' Sw.use (Sw.na_mk (f := "leads") k_Stage ?n) fun nS_leads => ?r28
    (case n => k_is)
    refine' Sw.use (Sw.kl_mk (x := "Desk") (qual := "Desk.__init__") (st := Sw.sDesk) KX G ?aC ?a1 ?i1 ?l1 ?c1 ?k1 ?pg ?hd ?po ?sa ?mk ?kc) fun k_Desk => ?r29
    (case aC => k_is)
    (case a1 => k_is)
    (case i1 => k_is)
    (case l1 => k_is)
    (case c1 => k_is)
    (case k1 => k_is)
    (case pg => k_is)
    (case hd => k_is)
    (case po => k_is)
    (case sa => k_is)
    (case mk => k_is)
    (case kc => k_is)
    refine' Sw.use (Sw.na_mk (f := "stage") k_Desk ?n) fun nD_stage => ?r30
    (case n => k_is)
    refine' Sw.use (Sw.ref_mk KX G ?aC ?xL ?sa ?ga ?gg ?nb ?a1 ?t1 ?l1 ?c1 ?kC ?eC ?tC ?hC ?iC ?sC) fun R => ?r31
    (case aC => k_is)
    (case xL => k_is)
    (case sa => k_is)
    (case ga => k_is)
    (case gg => k_is)
    (case nb => k_is)
    (case a1 => k_is)
    (case t1 => k_is)
    (case l1 => k_is)
    (case c1 => k_is)
    (case kC => k_is)
    (case eC => k_is)
    (case tC => k_is)
    (case hC => k_is)
    (case iC => k_is)
    (case sC => first | rfl | k_is)
    refine' Sw.use (Sw.df_mk (x := "common") (st := Sw.top 1) KX G ?a ?l ?c ?k) fun d_common => ?r32
    (case a => k_is)
    (case l => k_is)
    (case c => k_is)
    (case k => k_is)
    refine' Sw.use (Sw.df_mk (x := "fraction") (st := Sw.top 2) KX G ?a ?l ?c ?k) fun d_fraction => ?r33
    (case a => k_is)
    (case l => k_is)
    (case c => k_is)
    (case k => k_is)
    refine' Sw.use (Sw.bn_mk (x := "abs") KX G ?a) fun b_abs => ?r34
    (case a => k_is)
    refine' Sw.use (Sw.df_mk (x := "whole") (st := Sw.top 3) KX G ?a ?l ?c ?k) fun d_whole => ?r35
    (case a => k_is)
    (case l => k_is)
    (case c => k_is)
    (case k => k_is)
    refine' Sw.use (Sw.df_mk (x := "is_above") (st := Sw.top 4) KX G ?a ?l ?c ?k) fun d_is_above => ?r36
    (case a => k_is)
    (case l => k_is)
    (case c => k_is)
    (case k => k_is)
    refine' Sw.use (Sw.df_mk (x := "side_of") (st := Sw.top 5) KX G ?a ?l ?c ?k) fun d_side_of => ?r37
    (case a => k_is)
    (case l => k_is)
    (case c => k_is)
    (case k => k_is)
    refine' Sw.use (Sw.bn_mk (x := "int") KX G ?a) fun b_int => ?r38
    (case a => k_is)
    refine' Sw.use (Sw.df_mk (x := "between") (st := Sw.top 6) KX G ?a ?l ?c ?k) fun d_between => ?r39
    (case a => k_is)
    (case l => k_is)
    (case c => k_is)
    (case k => k_is)
    refine' Sw.use (Sw.df_mk (x := "rounded_up") (st := Sw.top 7) KX G ?a ?l ?c ?k) fun d_rounded_up => ?r40
    (case a => k_is)
    (case l => k_is)
    (case c => k_is)
    (case k => k_is)
    refine' Sw.use (Sw.df_mk (x := "fade_value") (st := Sw.top 13) KX G ?a ?l ?c ?k) fun d_fade_value => ?r41
    (case a => k_is)
    (case l => k_is)
    (case c => k_is)
    (case k => k_is)
    refine' Sw.use (Sw.df_mk (x := "new_channel") (st := Sw.top 12) KX G ?a ?l ?c ?k) fun d_new_channel => ?r42
    (case a => k_is)
    (case l => k_is)
    (case c => k_is)
    (case k => k_is)
    refine' Sw.use (Sw.df_mk (x := "begin_told") (st := Sw.top 14) KX G ?a ?l ?c ?k) fun d_begin_told => ?r43
    (case a => k_is)
    (case l => k_is)
    (case c => k_is)
    (case k => k_is)
    refine' Sw.use (Sw.df_mk (x := "tell") (st := Sw.top 15) KX G ?a ?l ?c ?k) fun d_tell => ?r44
    (case a => k_is)
    (case l => k_is)
    (case c => k_is)
    (case k => k_is)
    refine' Sw.use (Sw.df_mk (x := "value_at") (st := Sw.top 16) KX G ?a ?l ?c ?k) fun d_value_at => ?r45
    (case a => k_is)
    (case l => k_is)
    (case c => k_is)
    (case k => k_is)
    refine' Sw.use (Sw.df_mk (x := "is_met") (st := Sw.top 19) KX G ?a ?l ?c ?k) fun d_is_met => ?r46
    (case a => k_is)
    (case l => k_is)
    (case c => k_is)
    (case k => k_is)
    refine' Sw.use (Sw.df_mk (x := "meeting_time") (st := Sw.top 20) KX G ?a ?l ?c ?k) fun d_meeting_time => ?r47
    (case a => k_is)
    (case l => k_is)
    (case c => k_is)
    (case k => k_is)
    refine' Sw.use (Sw.df_mk (x := "all_fades") (st := Sw.top 17) KX G ?a ?l ?c ?k) fun d_all_fades => ?r48
    (case a => k_is)
    (case l => k_is)
    (case c => k_is)
    (case k => k_is)
    refine' Sw.use (Sw.bn_mk (x := "list") KX G ?a) fun b_list => ?r49
    (case a => k_is)
    refine' Sw.use (Sw.bn_mk (x := "zip") KX G ?a) fun b_zip => ?r50
    (case a => k_is)
    refine' Sw.use (Sw.df_mk (x := "last_change") (st := Sw.top 18) KX G ?a ?l ?c ?k) fun d_last_change => ?r51
    (case a => k_is)
    (case l => k_is)
    (case c => k_is)
    (case k => k_is)
    refine' Sw.use (Sw.bn_mk (x := "min") KX G ?a) fun b_min => ?r52
    (case a => k_is)
    refine' Sw.use (Sw.bn_mk (x := "max") KX G ?a) fun b_max => ?r53
    (case a => k_is)
    refine' Sw.use (Sw.df_mk (x := "when_met") (st := Sw.top 21) KX G ?a ?l ?c ?k) fun d_when_met => ?r54
    (case a => k_is)
    (case l => k_is)
    (case c => k_is)
    (case k => k_is)
    refine' Sw.use (Sw.df_mk (x := "is_told") (st := Sw.top 28) KX G ?a ?l ?c ?k) fun d_is_told => ?r55
    (case a => k_is)
    (case l => k_is)
    (case c => k_is)
    (case k => k_is)
    refine' Sw.use (Sw.bn_mk (x := "len") KX G ?a) fun b_len => ?r56
    (case a => k_is)
    refine' Sw.use (Sw.df_mk (x := "following_time") (st := Sw.top 30) KX G ?a ?l ?c ?k) fun d_following_time => ?r57
    (case a => k_is)
    (case l => k_is)
    (case c => k_is)
    (case k => k_is)
    refine' Sw.use (Sw.bn_mk (x := "range") KX G ?a) fun b_range => ?r58
    (case a => k_is)
    refine' Sw.use (Sw.gc_mk (x := "CHANNELS") (n := 64) KX G ?a) fun g_CHANNELS => ?r59
    (case a => k_is)
    refine' Sw.use (Sw.df_mk (x := "cue_goes") (st := Sw.top 27) KX G ?a ?l ?c ?k) fun d_cue_goes => ?r60
    (case a => k_is)
    (case l => k_is)
    (case c => k_is)
    (case k => k_is)
    refine' Sw.use (Sw.df_mk (x := "look") (st := Sw.top 26) KX G ?a ?l ?c ?k) fun d_look => ?r61
    (case a => k_is)
    (case l => k_is)
    (case c => k_is)
    (case k => k_is)
    refine' Sw.use (Sw.df_mk (x := "gone_to") (st := Sw.top 29) KX G ?a ?l ?c ?k) fun d_gone_to => ?r62
    (case a => k_is)
    (case l => k_is)
    (case c => k_is)
    (case k => k_is)
    refine' Sw.use (Sw.df_mk (x := "follow_to") (st := Sw.top 31) KX G ?a ?l ?c ?k) fun d_follow_to => ?r63
    (case a => k_is)
    (case l => k_is)
    (case c => k_is)
    (case k => k_is)
    refine' Sw.use (Sw.df_mk (x := "by_time") (st := Sw.top 32) KX G ?a ?l ?c ?k) fun d_by_time => ?r64
    (case a => k_is)
    (case l => k_is)
    (case c => k_is)
    (case k => k_is)
    refine' Sw.use (Sw.df_mk (x := "follow_all") (st := Sw.top 33) KX G ?a ?l ?c ?k) fun d_follow_all => ?r65
    (case a => k_is)
    (case l => k_is)
    (case c => k_is)
    (case k => k_is)
    refine' Sw.use (Sw.df_mk (x := "still_time") (st := Sw.top 34) KX G ?a ?l ?c ?k) fun d_still_time => ?r66
    (case a => k_is)
    (case l => k_is)
    (case c => k_is)
    (case k => k_is)
    refine' Sw.use (Sw.df_mk (x := "ask") (st := Sw.top 42) KX G ?a ?l ?c ?k) fun d_ask => ?r67
    (case a => k_is)
    (case l => k_is)
    (case c => k_is)
    (case k => k_is)
    refine' Sw.use (Sw.df_mk (x := "ask_moves") (st := Sw.top 44) KX G ?a ?l ?c ?k) fun d_ask_moves => ?r68
    (case a => k_is)
    (case l => k_is)
    (case c => k_is)
    (case k => k_is)
    refine' Sw.use (Sw.gc_mk (x := "MOST_LEVEL") (n := 100) KX G ?a) fun g_MOST_LEVEL => ?r69
    (case a => k_is)
    refine' Sw.use (Sw.df_mk (x := "ask_time") (st := Sw.top 46) KX G ?a ?l ?c ?k) fun d_ask_time => ?r70
    (case a => k_is)
    (case l => k_is)
    (case c => k_is)
    (case k => k_is)
    refine' Sw.use (Sw.gc_mk (x := "LATEST") (n := 1000000) KX G ?a) fun g_LATEST => ?r71
    (case a => k_is)
    refine' Sw.use (Sw.df_mk (x := "ask_channel") (st := Sw.top 49) KX G ?a ?l ?c ?k) fun d_ask_channel => ?r72
    (case a => k_is)
    (case l => k_is)
    (case c => k_is)
    (case k => k_is)
    refine' Sw.use (Sw.df_mk (x := "add_cue") (st := Sw.top 45) KX G ?a ?l ?c ?k) fun d_add_cue => ?r73
    (case a => k_is)
    (case l => k_is)
    (case c => k_is)
    (case k => k_is)
    refine' Sw.use (Sw.bn_mk (x := "dict") KX G ?a) fun b_dict => ?r74
    (case a => k_is)
    refine' Sw.use (Sw.gc_mk (x := "MOST_NUMBER") (n := 9999) KX G ?a) fun g_MOST_NUMBER => ?r75
    (case a => k_is)
    refine' Sw.use (Sw.gc_mk (x := "MOST_LENGTH") (n := 600) KX G ?a) fun g_MOST_LENGTH => ?r76
    (case a => k_is)
    refine' Sw.use (Sw.gc_mk (x := "MOST_CUES") (n := 24) KX G ?a) fun g_MOST_CUES => ?r77
    (case a => k_is)
    refine' Sw.use (Sw.df_mk (x := "go") (st := Sw.top 47) KX G ?a ?l ?c ?k) fun d_go => ?r78
    (case a => k_is)
    (case l => k_is)
    (case c => k_is)
    (case k => k_is)
    refine' Sw.use (Sw.df_mk (x := "at_told") (st := Sw.top 50) KX G ?a ?l ?c ?k) fun d_at_told => ?r79
    (case a => k_is)
    (case l => k_is)
    (case c => k_is)
    (case k => k_is)
    refine' Sw.use (Sw.df_mk (x := "stand") (st := Sw.top 51) KX G ?a ?l ?c ?k) fun d_stand => ?r80
    (case a => k_is)
    (case l => k_is)
    (case c => k_is)
    (case k => k_is)
    refine' Sw.use (Sw.df_mk (x := "when") (st := Sw.top 52) KX G ?a ?l ?c ?k) fun d_when => ?r81
    (case a => k_is)
    (case l => k_is)
    (case c => k_is)
    (case k => k_is)
    refine' Sw.use (Sw.df_mk (x := "reset") (st := Sw.top 53) KX G ?a ?l ?c ?k) fun d_reset => ?r82
    (case a => k_is)
    (case l => k_is)
    (case c => k_is)
    (case k => k_is)
    refine' Sw.use (Sw.df_mk (x := "go_to") (st := Sw.top 48) KX G ?a ?l ?c ?k) fun d_go_to => ?r83
    (case a => k_is)
    (case l => k_is)
    (case c => k_is)
    (case k => k_is)
    refine' Sw.use (Sw.bn_mk (x := "enumerate") KX G ?a) fun b_enumerate => ?r84
    (case a => k_is)
    refine' Sw.use (Sw.df_mk (x := "asked") (st := Sw.top 54) KX G ?a ?l ?c ?k) fun d_asked => ?r85
    (case a => k_is)
    (case l => k_is)
    (case c => k_is)
    (case k => k_is)
    refine' Sw.use (Sw.df_mk (x := "answer") (st := Sw.top 55) KX G ?a ?l ?c ?k) fun d_answer => ?r86
    (case a => k_is)
    (case l => k_is)
    (case c => k_is)
    (case k => k_is)
    refine' Sw.use (Sw.tn_mk KX G ?a ?l) fun tn => ?r87
    (case a => k_is)
    (case l => k_is)
    refine' Sw.use (Sw.gc_mk (x := "CUE") (n := 0) KX G ?a) fun g_CUE => ?r88
    (case a => k_is)
    refine' Sw.end_mk KX G hmg ?a ?l ?c ?k d_common d_fraction b_abs d_whole d_is_above d_side_of b_int d_between d_rounded_up k_Fade nF_begin nF_start nF_end nF_level nT_begin nT_level nT_up nT_down nC_fades nC_told nQ_number nQ_up nQ_down nQ_delay nQ_follow nQ_moves nS_cues nS_channels nS_last nS_went nS_leads nD_stage k_Told k_Channel k_Cue m_C d_fade_value d_new_channel d_begin_told d_tell d_value_at d_is_met d_meeting_time d_all_fades b_list b_zip d_last_change b_min b_max d_when_met d_is_told b_len d_following_time k_Stage b_range g_CHANNELS m_S d_cue_goes d_look d_gone_to d_follow_to d_by_time d_follow_all d_still_time d_ask R d_ask_moves g_MOST_LEVEL d_ask_time g_LATEST d_ask_channel k_Desk d_add_cue b_dict g_MOST_NUMBER g_MOST_LENGTH g_MOST_CUES d_go d_at_told d_stand d_when d_reset d_go_to b_enumerate d_asked d_answer tn g_CUE
    (case a => k_is)
    (case l => k_is)
    (case c => k_is)
    (case k => k_is)
  case S =>
    intro K H xs a hO hwi hask hx
    cases hx with
    | cons h1 h2 =>
      cases h2
      cases h1 with
      | lst hs ha =>
        have e := L2.ints_dw a.1 _ ha
        subst e
        exact ⟨_, a.1, rfl, hs, hask, fun H' p hp => .lst (L2.SqL.of hp) (L2.dw_ints _)⟩

