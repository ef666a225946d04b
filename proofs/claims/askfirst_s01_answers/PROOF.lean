import PyProof.Rows.All
import Wide.All
import OpenK.AllK
import Wide.FinOn
import Open.SpecLaws
import KE.OsGo
import HandS.ForSpec
import HandS.Comp
import HandS.Dict
import HandS.Iter
import HandS.Walk
import HandS.Rev
import HandS.RevRange
import HandS.Style
import HandS.Wide
import HandS.Sort
import HandS.HotCalls
import HandS.SuiteRaise
import PyProof.ListNew
import PySem.Challenge.RW_askfirst_s01_answers
/-! Fractions and the step of a proposal: what the program reckons in whole numbers over a scale, against the specification's fractions. -/
set_option maxHeartbeats 1000000
namespace Af
open Askfirst
/-! ### lowest terms -/
theorem num_div (a : Int) (b : Nat) (hb : 0 < b) : ((a : Rat) / (b : Rat)).num = a / ((a.natAbs.gcd b : Nat) : Int) := by
  rw [← Rat.mkRat_eq_div, Rat.num_mkRat, if_neg (by omega), Nat.gcd_comm]
theorem den_div (a : Int) (b : Nat) (hb : 0 < b) : ((a : Rat) / (b : Rat)).den = b / (a.natAbs.gcd b) := by
  rw [← Rat.mkRat_eq_div, Rat.den_mkRat, if_neg (by omega), Nat.gcd_comm]
/-! ### one proposal, one taste -/
/-- the worst chance of yes, in percents -/
def yesM (r w sc e : Int) : Int :=
  if 0 ≤ r then (if 100 * (r * sc) ≤ (100 - e) * (r * sc) + e * w then 100 else 100 - e)
  else (if 100 * w ≤ e * (r * sc) + (100 - e) * w then 0 else e)
theorem yesM_range {r w sc e : Int} (h0 : 0 ≤ e) (h1 : e ≤ 100) : 0 ≤ yesM r w sc e ∧ yesM r w sc e ≤ 100 := by
  unfold yesM
  split <;> split <;> omega
/-- what the proposal brings then, over 100 times the scale -/
def stepM (r w sc e c : Int) : Int := yesM r w sc e * r * sc + (100 - yesM r w sc e) * w - 100 * c * sc
theorem percent_eq (e : Nat) : percent e = ((e : Int) : Rat) / 100 := rfl
theorem le_scale {a b s : Rat} (hs : 0 < s) : a * s ≤ b * s ↔ a ≤ b :=
  ⟨fun h => Rat.le_of_mul_le_mul_right h hs, fun h => Rat.mul_le_mul_of_nonneg_right h (Rat.le_of_lt hs)⟩
theorem good_iff {r w sc e : Int} {W : Rat} (hs : 0 < sc) (hW : (w : Rat) = W * sc) :
    (100 * (r * sc) ≤ (100 - e) * (r * sc) + e * w) ↔ (r : Rat) ≤ (1 - (e : Rat) / 100) * r + (e : Rat) / 100 * W := by
  have hs' : (0 : Rat) < sc := Rat.intCast_pos.mpr hs
  have h100 : (0 : Rat) < 100 * sc := Rat.mul_pos (by decide) hs'
  rw [← Rat.intCast_le_intCast, ← le_scale (a := (r : Rat)) h100]
  have e1 : ((100 * (r * sc) : Int) : Rat) = (r : Rat) * (100 * sc) := by
    simp only [Rat.intCast_mul, Rat.intCast_ofNat]; grind
  have e2 : (((100 - e) * (r * sc) + e * w : Int) : Rat) = ((1 - (e : Rat) / 100) * r + (e : Rat) / 100 * W) * (100 * sc) := by
    simp only [Rat.intCast_mul, Rat.intCast_ofNat, Rat.intCast_add, Rat.intCast_sub, hW]
    grind
  rw [e1, e2]
theorem bad_iff {r w sc e : Int} {W : Rat} (hs : 0 < sc) (hW : (w : Rat) = W * sc) :
    (100 * w ≤ e * (r * sc) + (100 - e) * w) ↔ W ≤ (e : Rat) / 100 * r + (1 - (e : Rat) / 100) * W := by
  have hs' : (0 : Rat) < sc := Rat.intCast_pos.mpr hs
  have h100 : (0 : Rat) < 100 * sc := Rat.mul_pos (by decide) hs'
  rw [← Rat.intCast_le_intCast, ← le_scale (a := W) h100]
  have e1 : ((100 * w : Int) : Rat) = W * (100 * sc) := by
    simp only [Rat.intCast_mul, Rat.intCast_ofNat, hW]; grind
  have e2 : ((e * (r * sc) + (100 - e) * w : Int) : Rat) = ((e : Rat) / 100 * r + (1 - (e : Rat) / 100) * W) * (100 * sc) := by
    simp only [Rat.intCast_mul, Rat.intCast_ofNat, Rat.intCast_add, Rat.intCast_sub, hW]
    grind
  rw [e1, e2]
theorem rew_iff {r : Int} : (0 ≤ r) ↔ (0 : Rat) ≤ (r : Rat) := Rat.intCast_nonneg.symm
theorem yes_hard {r w sc : Int} {e : Nat} {W : Rat} (hs : 0 < sc) (hW : (w : Rat) = W * sc) :
    hardStep (percent e) r W = ((yesM r w sc e : Int) : Rat) / 100 := by
  unfold hardStep yesM
  rw [percent_eq]
  have g := good_iff (r := r) (e := (e : Int)) hs hW
  have b := bad_iff (r := r) (e := (e : Int)) hs hW
  by_cases h0 : 0 ≤ r
  · rw [if_pos h0, if_pos (rew_iff.mp h0)]
    by_cases h1 : 100 * (r * sc) ≤ (100 - (e : Int)) * (r * sc) + e * w
    · rw [if_pos h1, if_pos (g.mp h1)]
      simp only [Rat.intCast_ofNat]; grind
    · rw [if_neg h1, if_neg (fun z => h1 (g.mpr z))]
      simp only [Rat.intCast_sub, Rat.intCast_ofNat]; grind
  · rw [if_neg h0, if_neg (fun z => h0 (rew_iff.mpr z))]
    by_cases h1 : 100 * w ≤ (e : Int) * (r * sc) + (100 - e) * w
    · rw [if_pos h1, if_pos (b.mp h1)]
      simp only [Rat.intCast_zero]; grind
    · rw [if_neg h1, if_neg (fun z => h1 (b.mpr z))]
theorem step_worst {r w sc : Int} {e c : Nat} {W : Rat} (hs : 0 < sc) (hW : (w : Rat) = W * sc) :
    ((stepM r w sc e c : Int) : Rat) = worstStep (percent e) (costOf c) r W * ((100 * sc : Int) : Rat) := by
  unfold worstStep stepM yesM lesser costOf
  rw [percent_eq]
  have g := good_iff (r := r) (e := (e : Int)) hs hW
  have b := bad_iff (r := r) (e := (e : Int)) hs hW
  have ec : ((c : Nat) : Rat) = (((c : Int)) : Rat) := rfl
  by_cases h0 : 0 ≤ r
  · rw [if_pos h0, if_pos (rew_iff.mp h0)]
    by_cases h1 : 100 * (r * sc) ≤ (100 - (e : Int)) * (r * sc) + e * w
    · rw [if_pos h1, if_pos (g.mp h1), ec]
      simp only [Rat.intCast_mul, Rat.intCast_ofNat, Rat.intCast_add, Rat.intCast_sub, hW]; grind
    · rw [if_neg h1, if_neg (fun z => h1 (g.mpr z)), ec]
      simp only [Rat.intCast_mul, Rat.intCast_ofNat, Rat.intCast_add, Rat.intCast_sub, hW]; grind
  · rw [if_neg h0, if_neg (fun z => h0 (rew_iff.mpr z))]
    by_cases h1 : 100 * w ≤ (e : Int) * (r * sc) + (100 - e) * w
    · rw [if_pos h1, if_pos (b.mp h1), ec]
      simp only [Rat.intCast_mul, Rat.intCast_ofNat, Rat.intCast_add, Rat.intCast_sub, hW]; grind
    · rw [if_neg h1, if_neg (fun z => h1 (b.mpr z)), ec]
      simp only [Rat.intCast_mul, Rat.intCast_ofNat, Rat.intCast_add, Rat.intCast_sub, hW]; grind
end Af
/-! What plans.py reckons, as plain functions, and that it is the specification's sureOf. -/
set_option maxHeartbeats 1000000
namespace Af
open Askfirst
def colM (rs : List (List Int)) (a : Nat) : List Int := rs.map fun r => r.getD a 0
def endM (rs : List (List Int)) : Option Nat → List Int
  | none => rs.map fun _ => 0
  | some a => colM rs a
def chancesM (rw w : List Int) (sc e : Int) : List Int := List.zipWith (fun r v => yesM r v sc e) rw w
def withM (rw ch w : List Int) (sc c : Int) : List Int :=
  (List.range w.length).map fun t => ch.getD t 0 * rw.getD t 0 * sc + (100 - ch.getD t 0) * w.getD t 0 - 100 * c * sc
def aheadM (rs : List (List Int)) (a : Nat) (w : List Int) (sc e c : Int) : List Int := withM (colM rs a) (chancesM (colM rs a) w sc e) w sc c
def aheadsM (rs : List (List Int)) : List Nat → List Int → Int → Int → Int → List Int
  | [], w, _, _, _ => w
  | a :: l, w, sc, e, c => aheadM rs a (aheadsM rs l w sc e c) (100 ^ l.length * sc) e c
def weighedM (ws : List Nat) (w : List Int) : Int := (List.zipWith (fun (a : Nat) b => (a : Int) * b) ws w).sum
/-- the sum that a plan is sure of, over unit * 100 ^ its proposals -/
def sumM (x : GivenTask) (l : List Nat) (en : Option Nat) (e c : Int) : Int := weighedM x.weights (aheadsM x.rewards l (endM x.rewards en) 1 e c)
def overM (x : GivenTask) (l : List Nat) : Int := (x.unit : Int) * 100 ^ l.length
theorem colM_length (rs : List (List Int)) (a : Nat) : (colM rs a).length = rs.length := List.length_map ..
theorem endM_length (rs : List (List Int)) (en : Option Nat) : (endM rs en).length = rs.length := by
  cases en <;> simp [endM, colM]
theorem withM_length (rw ch w : List Int) (sc c : Int) : (withM rw ch w sc c).length = w.length := by simp [withM]
theorem aheadM_length (rs : List (List Int)) (a : Nat) (w : List Int) (sc e c : Int) : (aheadM rs a w sc e c).length = w.length := withM_length ..
theorem aheadsM_length (rs : List (List Int)) (w : List Int) (sc e c : Int) : ∀ l : List Nat, (aheadsM rs l w sc e c).length = w.length
  | [] => rfl
  | _ :: l => (aheadM_length ..).trans (aheadsM_length rs w sc e c l)
theorem colM_get (rs : List (List Int)) (a t : Nat) : (colM rs a).getD t 0 = (rs.getD t []).getD a 0 := by
  unfold colM
  simp only [List.getD_eq_getElem?_getD, List.getElem?_map]
  cases h : rs[t]? with
  | none => simp
  | some r => simp
theorem endM_get (rs : List (List Int)) (en : Option Nat) (t : Nat) : (endM rs en).getD t 0 = match en with
    | none => 0
    | some a => (rs.getD t []).getD a 0 := by
  cases en with
  | none =>
    simp only [endM, List.getD_eq_getElem?_getD, List.getElem?_map]
    cases h : rs[t]? with
    | none => simp
    | some r => simp
  | some a => exact colM_get rs a t
theorem zipWith_get {f : Int → Int → Int} (a b : List Int) (t : Nat) (ha : t < a.length) (hb : t < b.length) : (List.zipWith f a b).getD t 0 = f (a.getD t 0) (b.getD t 0) := by
  have h1 : t < (List.zipWith f a b).length := by simp; omega
  rw [← List.getElem_eq_getD (h := h1) 0, ← List.getElem_eq_getD (h := ha) 0, ← List.getElem_eq_getD (h := hb) 0, List.getElem_zipWith]
theorem withM_get (rw ch w : List Int) (sc c : Int) (t : Nat) (ht : t < w.length) : (withM rw ch w sc c).getD t 0 = ch.getD t 0 * rw.getD t 0 * sc + (100 - ch.getD t 0) * w.getD t 0 - 100 * c * sc := by
  unfold withM
  rw [List.getD_eq_getElem?_getD, List.getElem?_map, List.getElem?_range ht]
  rfl
theorem aheadM_get (rs : List (List Int)) (a : Nat) (w : List Int) (sc e c : Int) (t : Nat) (hw : w.length = rs.length) (ht : t < rs.length) :
    (aheadM rs a w sc e c).getD t 0 = stepM ((rs.getD t []).getD a 0) (w.getD t 0) sc e c := by
  have hc : (chancesM (colM rs a) w sc e).getD t 0 = yesM ((rs.getD t []).getD a 0) (w.getD t 0) sc e := by
    unfold chancesM
    rw [zipWith_get _ _ t (by rw [colM_length]; exact ht) (by omega), colM_get]
  unfold aheadM stepM
  rw [withM_get _ _ _ _ _ _ (by omega), hc, colM_get]
/-! ### the specification's numbers -/
theorem rewardAt_caseOf (x : GivenTask) (t a : Nat) : rewardAt (caseOf x) t a = (((x.rewards.getD t []).getD a 0 : Int) : Rat) := by
  show (((x.rewards.map fun l => l.map fun i : Int => (i : Rat)).getD t []).getD a 0) = _
  simp only [List.getD_eq_getElem?_getD, List.getElem?_map]
  cases h : x.rewards[t]? with
  | none => simp
  | some r =>
    simp only [Option.map_some, Option.getD_some, List.getElem?_map]
    cases h2 : r[a]? with
    | none => simp
    | some i => simp
theorem endWorth_caseOf (x : GivenTask) (t : Nat) (en : Option Nat) : endWorth (caseOf x) t en = (((endM x.rewards en).getD t 0 : Int) : Rat) := by
  rw [endM_get]
  cases en with
  | none => simp [endWorth]
  | some a => exact rewardAt_caseOf x t a
theorem pow_pos100 (n : Nat) : (0 : Int) < 100 ^ n := Int.pow_pos (by decide)
theorem rest_worst (x : GivenTask) (en : Option Nat) (e c t : Nat) (ht : t < x.rewards.length) : ∀ l : List Nat,
    (((aheadsM x.rewards l (endM x.rewards en) 1 e c).getD t 0 : Int) : Rat) = worstF (caseOf x) (percent e) (costOf c) t en l * ((100 ^ l.length : Int) : Rat)
  | [] => by
    show (((endM x.rewards en).getD t 0 : Int) : Rat) = endWorth (caseOf x) t en * ((100 ^ 0 : Int) : Rat)
    rw [endWorth_caseOf]
    simp
  | a :: l => by
    have ih := rest_worst x en e c t ht l
    show (((aheadM x.rewards a (aheadsM x.rewards l (endM x.rewards en) 1 e c) (100 ^ l.length * 1) e c).getD t 0 : Int) : Rat) = worstStep (percent e) (costOf c) (rewardAt (caseOf x) t a) (worstF (caseOf x) (percent e) (costOf c) t en l) * _
    rw [Int.mul_one, aheadM_get _ _ _ _ _ _ _ (by rw [aheadsM_length, endM_length]) ht, step_worst (pow_pos100 _) ih, rewardAt_caseOf, List.length_cons, Int.pow_succ, Int.mul_comm 100]
/-! ### sums -/
theorem sum_zip : ∀ (ws : List Nat) (w : List Int), w.length = ws.length → weighedM ws w = ((List.range ws.length).map fun t => ((ws.getD t 0 : Nat) : Int) * w.getD t 0).sum
  | [], w, _ => by simp [weighedM]
  | a :: ws, [], h => by simp at h
  | a :: ws, b :: w, h => by
    have ih := sum_zip ws w (by simpa using h)
    rw [List.length_cons, List.range_succ_eq_map, List.map_cons, List.sum_cons, List.map_map]
    show (a : Int) * b + weighedM ws w = _
    rw [ih]
    rfl
theorem sum_cast (f : Nat → Int) (g : Nat → Rat) (k : Rat) : ∀ (n : Nat), (∀ t, t < n → ((f t : Int) : Rat) = g t * k) → ((((List.range n).map f).sum : Int) : Rat) = ((List.range n).map g).sum * k
  | 0, _ => by simp
  | n + 1, h => by
    rw [List.range_succ, List.map_append, List.map_append, List.sum_append, List.sum_append, Rat.intCast_add, sum_cast f g k n fun t ht => h t (by omega)]
    simp only [List.map_cons, List.map_nil, List.sum_cons, List.sum_nil, Int.add_zero, Rat.add_zero]
    rw [h n (by omega), Rat.add_mul]
theorem unit_ne {x : GivenTask} (h : 0 < x.unit) : ((x.unit : Nat) : Rat) ≠ 0 := fun z => by
  have := Rat.natCast_eq_zero_iff.mp z
  omega
/-- what a plan is sure of, times what it is over -/
theorem sum_sure (x : GivenTask) (hu : 0 < x.unit) (hl : x.rewards.length = x.weights.length) (l : List Nat) (en : Option Nat) (e c : Nat) :
    ((sumM x l en e c : Int) : Rat) = sureOf (caseOf x) (percent e) (costOf c) ⟨l, en⟩ * ((overM x l : Int) : Rat) := by
  unfold sumM sureOf sumOver overM
  rw [sum_zip _ _ (by rw [aheadsM_length, endM_length, hl])]
  refine sum_cast _ _ _ _ fun t ht => ?_
  rw [Rat.intCast_mul, rest_worst x en e c t (by omega)]
  show _ = ((((x.weights.getD t 0 : Nat) : Rat) / ((x.unit : Nat) : Rat)) * _) * _
  have h0 := unit_ne hu
  rw [Rat.intCast_mul]
  have e1 : (((x.weights.getD t 0 : Nat) : Int) : Rat) = ((x.weights.getD t 0 : Nat) : Rat) := rfl
  have e2 : (((x.unit : Nat) : Int) : Rat) = ((x.unit : Nat) : Rat) := rfl
  rw [e1, e2]
  grind
theorem over_pos (x : GivenTask) (hu : 0 < x.unit) (l : List Nat) : 0 < overM x l := Int.mul_pos (by omega) (pow_pos100 _)
theorem sure_div (x : GivenTask) (hu : 0 < x.unit) (hl : x.rewards.length = x.weights.length) (l : List Nat) (en : Option Nat) (e c : Nat) :
    sureOf (caseOf x) (percent e) (costOf c) ⟨l, en⟩ = ((sumM x l en e c : Int) : Rat) / ((overM x l : Int) : Rat) := by
  rw [sum_sure x hu hl]
  have h0 : ((overM x l : Int) : Rat) ≠ 0 := fun z => by
    have := Rat.intCast_eq_zero_iff.mp z
    have := over_pos x hu l
    omega
  rw [Rat.mul_div_cancel h0]
end Af
/-! What choice.py reckons, as plain functions, and that it is the specification's best plan. -/
set_option maxHeartbeats 1000000
namespace Af
open Askfirst
/-- a plan on the way: its proposals, its ending, what it brings for each taste -/
abbrev Way := List Nat × Option Nat × List Int
/-- a plan with its sum, and what that is over -/
abbrev Sum3 := (List Nat × Option Nat) × Int × Int
def endingsM (rs : List (List Int)) (m : Nat) : List Way := ([], none, endM rs none) :: (List.range m).map fun a => ([], some a, endM rs (some a))
def longerM (rs : List (List Int)) (acts : List Nat) (plans : List Way) (sc e c : Int) : List Way :=
  acts.flatMap fun a => (plans.filter fun p => !p.1.contains a).map fun p => (a :: p.1, p.2.1, aheadM rs a p.2.2 sc e c)
def sumsM (x : GivenTask) (before : List Nat) (plans : List Way) (sc e c : Int) : List Sum3 :=
  plans.map fun p => ((before ++ p.1, p.2.1), weighedM x.weights (aheadsM x.rewards before p.2.2 sc e c), (x.unit : Int) * (100 ^ before.length * sc))
def actsM (m : Nat) (before : List Nat) : List Nat := (List.range m).filter fun a => !before.contains a
def levelsM (rs : List (List Int)) (m : Nat) (acts : List Nat) (e c : Int) : Nat → List Way
  | 0 => endingsM rs m
  | k + 1 => longerM rs acts (levelsM rs m acts e c k) (100 ^ k) e c
def allM (x : GivenTask) (m : Nat) (before : List Nat) (e c : Int) : List Sum3 :=
  (List.range ((actsM m before).length + 1)).flatMap fun k => sumsM x before (levelsM x.rewards m (actsM m before) e c k) (100 ^ k) e c
def betterM (b q : Sum3) : Sum3 := if q.2.1 * b.2.2 > b.2.1 * q.2.2 then q else b
def bestM (rows : List Sum3) : Sum3 := rows.foldl betterM (rows.headD (([], none), 0, 1))
/-! ### rows of different actions -/
def rowsL (acts : List Nat) : Nat → List (List Nat)
  | 0 => [[]]
  | k + 1 => acts.flatMap fun a => ((rowsL acts k).filter fun l => !l.contains a).map fun l => a :: l
theorem rowsL_range (n : Nat) : ∀ k, rowsL (List.range n) k = rowsF n k
  | 0 => rfl
  | k + 1 => by
    show (List.range n).flatMap _ = (List.range n).flatMap _
    rw [rowsL_range n k]
theorem rowsL_length {acts : List Nat} : ∀ {k : Nat} {l : List Nat}, l ∈ rowsL acts k → l.length = k
  | 0, l, h => by
    have e : l = [] := by simpa [rowsL] using h
    rw [e]; rfl
  | k + 1, l, h => by
    obtain ⟨a, _, h2⟩ := List.mem_flatMap.mp h
    obtain ⟨r, h3, e⟩ := List.mem_map.mp h2
    rw [← e, List.length_cons, rowsL_length (List.mem_filter.mp h3).1]
theorem rowsL_mem {acts : List Nat} : ∀ {k : Nat} {l : List Nat}, l ∈ rowsL acts k → ∀ a ∈ l, a ∈ acts
  | 0, l, h => by
    have e : l = [] := by simpa [rowsL] using h
    rw [e]; intro a ha; cases ha
  | k + 1, l, h => by
    obtain ⟨a, ha, h2⟩ := List.mem_flatMap.mp h
    obtain ⟨r, h3, e⟩ := List.mem_map.mp h2
    intro b hb
    rw [← e] at hb
    rcases List.mem_cons.mp hb with rfl | hb
    · exact ha
    · exact rowsL_mem (List.mem_filter.mp h3).1 b hb
theorem rowsL_nodup {acts : List Nat} : ∀ {k : Nat} {l : List Nat}, l ∈ rowsL acts k → l.Nodup
  | 0, l, h => by
    have e : l = [] := by simpa [rowsL] using h
    rw [e]; exact List.nodup_nil
  | k + 1, l, h => by
    obtain ⟨a, ha, h2⟩ := List.mem_flatMap.mp h
    obtain ⟨r, h3, e⟩ := List.mem_map.mp h2
    rw [← e]
    have q := (List.mem_filter.mp h3).2
    refine List.nodup_cons.mpr ⟨fun z => ?_, rowsL_nodup (List.mem_filter.mp h3).1⟩
    simp only [Bool.not_eq_true', List.contains_eq_mem, decide_eq_false_iff_not] at q
    exact q z
/-- those without b: over the actions without b -/
theorem rowsL_without (b : Nat) : ∀ (acts : List Nat) (k : Nat), (rowsL acts k).filter (fun l => !l.contains b) = rowsL (acts.filter fun a => !(a == b)) k
  | acts, 0 => by simp [rowsL]
  | acts, k + 1 => by
    have ih := rowsL_without b acts k
    show (acts.flatMap fun a => ((rowsL acts k).filter fun l => !l.contains a).map fun l => a :: l).filter _ = (acts.filter fun a => !(a == b)).flatMap fun a => ((rowsL (acts.filter fun a => !(a == b)) k).filter fun l => !l.contains a).map fun l => a :: l
    rw [← ih]
    clear ih
    generalize rowsL acts k = R
    induction acts with
    | nil => rfl
    | cons a acts hi =>
      rw [List.flatMap_cons, List.filter_append, hi, List.filter_cons]
      by_cases hab : a = b
      · subst hab
        rw [if_neg (by simp)]
        have : List.filter (fun l => !l.contains a) (List.map (fun l => a :: l) (List.filter (fun l => !l.contains a) R)) = [] := by
          rw [List.filter_eq_nil_iff]
          intro l hl
          obtain ⟨r, _, rfl⟩ := List.mem_map.mp hl
          simp
        rw [this, List.nil_append]
      · rw [if_pos (by simpa using hab), List.flatMap_cons]
        congr 1
        rw [List.filter_map, List.filter_filter, List.filter_filter]
        congr 1
        refine List.filter_congr fun l _ => ?_
        simp only [Function.comp, List.contains_cons]
        have e : (b == a) = false := by simpa using fun z => hab z.symm
        rw [e, Bool.false_or, Bool.and_comm]
/-- those that begin with h: h ahead of the rows over the other actions -/
theorem rowsL_begins : ∀ (h : List Nat) (acts : List Nat) (k : Nat), acts.Nodup → h.Nodup → (∀ a ∈ h, a ∈ acts) →
    (rowsL acts (h.length + k)).filter (beginsWith h) = (rowsL (acts.filter fun a => !h.contains a) k).map (h ++ ·)
  | [], acts, k, _, _, _ => by
    have e1 : ∀ L : List (List Nat), L.filter (beginsWith []) = L := fun L => List.filter_eq_self.mpr fun l _ => by simp [beginsWith]
    have e2 : (acts.filter fun a => !([] : List Nat).contains a) = acts := List.filter_eq_self.mpr fun l _ => by simp
    rw [e1, e2]
    simp
  | b :: h, acts, k, ha, hh, hm => by
    have hb : b ∈ acts := hm b List.mem_cons_self
    obtain ⟨hbh, hh'⟩ := List.nodup_cons.mp hh
    have ih := rowsL_begins h acts k ha hh' fun a q => hm a (List.mem_cons_of_mem _ q)
    have e0 : (b :: h).length + k = (h.length + k) + 1 := by simp; omega
    rw [e0]
    show (acts.flatMap fun a => ((rowsL acts (h.length + k)).filter fun l => !l.contains a).map fun l => a :: l).filter _ = _
    -- only b's part is left
    have key : ∀ (A : List Nat), A.Nodup → (A.flatMap fun a => ((rowsL acts (h.length + k)).filter fun l => !l.contains a).map fun l => a :: l).filter (beginsWith (b :: h)) =
        if b ∈ A then (((rowsL acts (h.length + k)).filter fun l => !l.contains b).filter (beginsWith h)).map fun l => b :: l else [] := by
      intro A
      induction A with
      | nil => intro _; rfl
      | cons a A hi =>
        intro hA
        obtain ⟨h1, h2⟩ := List.nodup_cons.mp hA
        rw [List.flatMap_cons, List.filter_append, hi h2, List.filter_map]
        by_cases hab : a = b
        · subst hab
          rw [if_neg h1, if_pos List.mem_cons_self, List.append_nil]
          congr 1
          refine List.filter_congr fun l _ => ?_
          simp [beginsWith]
        · have e3 : List.filter (beginsWith (b :: h) ∘ fun l => a :: l) (List.filter (fun l => !l.contains a) (rowsL acts (h.length + k))) = [] := by
            rw [List.filter_eq_nil_iff]
            intro l _
            simp [beginsWith, hab]
          rw [e3, List.map_nil, List.nil_append]
          by_cases hbA : b ∈ A
          · rw [if_pos hbA, if_pos (List.mem_cons_of_mem _ hbA)]
          · rw [if_neg hbA, if_neg]
            intro z
            rcases List.mem_cons.mp z with z | z
            · exact hab z.symm
            · exact hbA z
    rw [key acts ha, if_pos hb, List.filter_filter]
    have e4 : List.filter (fun l => beginsWith h l && !l.contains b) (rowsL acts (h.length + k)) = List.filter (fun l => !l.contains b) (List.filter (beginsWith h) (rowsL acts (h.length + k))) := by
      rw [List.filter_filter]
      refine List.filter_congr fun l _ => Bool.and_comm _ _
    rw [e4, ih, List.filter_map, List.map_map]
    have e5 : List.filter ((fun l => !l.contains b) ∘ fun x => h ++ x) (rowsL (acts.filter fun a => !h.contains a) k) = (rowsL (acts.filter fun a => !h.contains a) k).filter fun l => !l.contains b := by
      refine List.filter_congr fun l _ => ?_
      have : h.contains b = false := by simpa using hbh
      simp only [Function.comp, List.contains_eq_mem, List.mem_append]
      have : ¬ b ∈ h := hbh
      simp [this]
    rw [e5, rowsL_without, List.filter_filter]
    have e6 : (acts.filter fun a => !(a == b) && !h.contains a) = acts.filter fun a => !(b :: h).contains a := by
      refine List.filter_congr fun a _ => ?_
      rw [List.contains_cons, Bool.not_or]
    rw [e6]
    rfl
/-! ### the plans on the way -/
theorem endingsM_eq (rs : List (List Int)) (m : Nat) : endingsM rs m = (endingsOf m).map fun en => ([], en, endM rs en) := by
  simp [endingsM, endingsOf, List.map_map]
theorem levelsM_eq (rs : List (List Int)) (m : Nat) (acts : List Nat) (e c : Int) : ∀ k,
    levelsM rs m acts e c k = (rowsL acts k).flatMap fun l => (endingsOf m).map fun en => (l, en, aheadsM rs l (endM rs en) 1 e c)
  | 0 => by
    show endingsM rs m = [[]].flatMap _
    rw [endingsM_eq]
    simp [aheadsM]
  | k + 1 => by
    have hk : ∀ l ∈ rowsL acts k, l.length = k := fun l h => rowsL_length h
    show acts.flatMap (fun a => ((levelsM rs m acts e c k).filter fun p => !p.1.contains a).map fun p => (a :: p.1, p.2.1, aheadM rs a p.2.2 (100 ^ k) e c)) = (acts.flatMap fun a => ((rowsL acts k).filter fun l => !l.contains a).map fun l => a :: l).flatMap _
    rw [levelsM_eq rs m acts e c k, List.flatMap_assoc]
    congr 1
    funext a
    revert hk
    generalize rowsL acts k = R
    intro hk
    induction R with
    | nil => rfl
    | cons l R hi =>
      have hi := hi fun l h => hk l (List.mem_cons_of_mem _ h)
      have hl := hk l List.mem_cons_self
      rw [List.flatMap_cons, List.filter_append, List.map_append, hi, List.filter_cons]
      by_cases ha : a ∈ l
      · rw [if_neg (by simpa using ha)]
        have : List.filter (fun p : Way => !p.1.contains a) (List.map (fun en => (l, en, aheadsM rs l (endM rs en) 1 e c)) (endingsOf m)) = [] := by
          rw [List.filter_eq_nil_iff]
          intro p hp
          obtain ⟨en, _, rfl⟩ := List.mem_map.mp hp
          simpa using ha
        rw [this, List.map_nil, List.nil_append]
      · rw [if_pos (by simpa using ha), List.map_cons, List.flatMap_cons]
        congr 1
        have : List.filter (fun p : Way => !p.1.contains a) (List.map (fun en => (l, en, aheadsM rs l (endM rs en) 1 e c)) (endingsOf m)) = List.map (fun en => (l, en, aheadsM rs l (endM rs en) 1 e c)) (endingsOf m) := by
          rw [List.filter_eq_self]
          intro p hp
          obtain ⟨en, _, rfl⟩ := List.mem_map.mp hp
          simpa using ha
        rw [this, List.map_map]
        refine List.map_congr_left fun en _ => ?_
        show (a :: l, en, aheadM rs a (aheadsM rs l (endM rs en) 1 e c) (100 ^ k) e c) = (a :: l, en, aheadM rs a (aheadsM rs l (endM rs en) 1 e c) (100 ^ l.length * 1) e c)
        rw [hl, Int.mul_one]
theorem aheadsM_append (rs : List (List Int)) (w : List Int) (sc e c : Int) (l : List Nat) : ∀ h : List Nat, aheadsM rs (h ++ l) w sc e c = aheadsM rs h (aheadsM rs l w sc e c) (100 ^ l.length * sc) e c
  | [] => rfl
  | a :: h => by
    show aheadM rs a (aheadsM rs (h ++ l) w sc e c) (100 ^ (h ++ l).length * sc) e c = aheadM rs a (aheadsM rs h (aheadsM rs l w sc e c) (100 ^ l.length * sc) e c) (100 ^ h.length * (100 ^ l.length * sc)) e c
    rw [aheadsM_append rs w sc e c l h, List.length_append, Int.pow_add, Int.mul_assoc]
/-- all plans that begin with some proposals, as the program lists them -/
def plansL (m : Nat) (before : List Nat) : List (List Nat × Option Nat) :=
  (List.range ((actsM m before).length + 1)).flatMap fun k => (rowsL (actsM m before) k).flatMap fun l => (endingsOf m).map fun en => (before ++ l, en)
theorem allM_eq (x : GivenTask) (m : Nat) (before : List Nat) (e c : Int) : allM x m before e c = (plansL m before).map fun p => (p, sumM x p.1 p.2 e c, overM x p.1) := by
  unfold allM plansL
  rw [List.map_flatMap]
  congr 1
  funext k
  rw [levelsM_eq]
  unfold sumsM
  rw [List.map_flatMap, List.map_flatMap]
  have hk : ∀ l ∈ rowsL (actsM m before) k, l.length = k := fun l h => rowsL_length h
  refine congrArg List.flatten (List.map_congr_left fun l hl => ?_)
  have hl := hk l hl
  rw [List.map_map, List.map_map]
  refine List.map_congr_left fun en _ => ?_
  show ((before ++ l, en), weighedM x.weights (aheadsM x.rewards before (aheadsM x.rewards l (endM x.rewards en) 1 e c) (100 ^ k) e c), (x.unit : Int) * (100 ^ before.length * 100 ^ k)) = ((before ++ l, en), sumM x (before ++ l) en e c, overM x (before ++ l))
  unfold sumM overM
  rw [aheadsM_append, hl, Int.mul_one, List.length_append, hl, Int.pow_add]
/-- the same as the specification's -/
theorem filter_flatMap_map {α : Type} (p : List Nat → Bool) (ens : List α) : ∀ R : List (List Nat),
    (R.flatMap fun l => ens.map fun en => (l, en)).filter (fun q => p q.1) = (R.filter p).flatMap fun l => ens.map fun en => (l, en)
  | [] => rfl
  | l :: R => by
    rw [List.flatMap_cons, List.filter_append, filter_flatMap_map p ens R, List.filter_cons]
    by_cases h : p l = true
    · rw [if_pos h, List.flatMap_cons]
      congr 1
      rw [List.filter_eq_self]
      intro q hq
      obtain ⟨en, _, rfl⟩ := List.mem_map.mp hq
      exact h
    · rw [if_neg h]
      have : List.filter (fun q : List Nat × α => p q.1) (List.map (fun en => (l, en)) ens) = [] := by
        rw [List.filter_eq_nil_iff]
        intro q hq
        obtain ⟨en, _, rfl⟩ := List.mem_map.mp hq
        exact h
      rw [this, List.nil_append]
theorem acts_length (m : Nat) : ∀ before : List Nat, before.Nodup → (∀ a ∈ before, a < m) → (actsM m before).length + before.length = m
  | [], _, _ => by
    have e : actsM m [] = List.range m := List.filter_eq_self.mpr fun _ _ => rfl
    rw [e, List.length_range, List.length_nil, Nat.add_zero]
  | b :: h, hn, hm => by
    obtain ⟨h1, h2⟩ := List.nodup_cons.mp hn
    have ih := acts_length m h h2 fun a q => hm a (List.mem_cons_of_mem _ q)
    have hb : b ∈ actsM m h := List.mem_filter.mpr ⟨List.mem_range.mpr (hm b List.mem_cons_self), by simpa using h1⟩
    have nd : (actsM m h).Nodup := List.Nodup.sublist List.filter_sublist List.nodup_range
    have e : actsM m (b :: h) = (actsM m h).erase b := by
      rw [List.Nodup.erase_eq_filter nd]
      unfold actsM
      rw [List.filter_filter]
      refine List.filter_congr fun a _ => ?_
      rw [List.contains_cons, Bool.not_or]
      rfl
    rw [e, List.length_erase_of_mem hb, List.length_cons]
    have : 0 < (actsM m h).length := List.length_pos_of_mem hb
    omega
theorem plansL_eq (m : Nat) (h : List Nat) (hn : h.Nodup) (hm : ∀ a ∈ h, a < m) :
    ((rowsOf m).flatMap fun l => (endingsOf m).map fun en => (l, en)).filter (fun q => beginsWith h q.1) = plansL m h := by
  rw [filter_flatMap_map (beginsWith h)]
  have ha := acts_length m h hn hm
  have e1 : (rowsOf m).filter (beginsWith h) = (List.range ((actsM m h).length + 1)).flatMap fun k => (rowsL (actsM m h) k).map (h ++ ·) := by
    unfold rowsOf
    have e0 : m + 1 = h.length + ((actsM m h).length + 1) := by omega
    rw [List.filter_flatMap, e0, List.range_add, List.flatMap_append]
    have e2 : ((List.range h.length).flatMap fun a => List.filter (beginsWith h) (rowsF m a)) = [] := by
      rw [List.flatMap_eq_nil_iff]
      intro k hk
      have hk := List.mem_range.mp hk
      rw [List.filter_eq_nil_iff]
      intro l hl
      rw [← rowsL_range] at hl
      have := rowsL_length hl
      intro z
      have z : l.take h.length = h := by simpa [beginsWith] using z
      have := congrArg List.length z
      rw [List.length_take] at this
      omega
    rw [e2, List.nil_append, List.flatMap_map]
    congr 1
    funext k
    rw [← rowsL_range, rowsL_begins h _ k List.nodup_range hn fun a q => List.mem_range.mpr (hm a q)]
    rfl
  rw [e1]
  unfold plansL
  rw [List.flatMap_assoc]
  congr 1
  funext k
  rw [List.flatMap_map]
/-! ### the best one -/
theorem bestM_from (x : GivenTask) (hu : 0 < x.unit) (hl : x.rewards.length = x.weights.length) (e c : Nat) : ∀ (ps : List (List Nat × Option Nat)) (p : List Nat × Option Nat),
    (ps.map fun p => ((p, sumM x p.1 p.2 e c, overM x p.1) : Sum3)).foldl betterM (p, sumM x p.1 p.2 e c, overM x p.1) =
      (let q := bestFrom (sureOf (caseOf x) (percent e) (costOf c)) ⟨p.1, p.2⟩ (ps.map fun q => ⟨q.1, q.2⟩)
       ((q.asks, q.ending), sumM x q.asks q.ending e c, overM x q.asks))
  | [], p => rfl
  | q :: ps, p => by
    rw [List.map_cons, List.foldl_cons]
    have hp := over_pos x hu p.1
    have hq := over_pos x hu q.1
    have key : (sumM x q.1 q.2 e c * overM x p.1 > sumM x p.1 p.2 e c * overM x q.1) ↔ sureOf (caseOf x) (percent e) (costOf c) ⟨p.1, p.2⟩ < sureOf (caseOf x) (percent e) (costOf c) ⟨q.1, q.2⟩ := by
      have h1 := sum_sure x hu hl p.1 p.2 e c
      have h2 := sum_sure x hu hl q.1 q.2 e c
      have hp' : (0 : Rat) < ((overM x p.1 : Int) : Rat) := Rat.intCast_pos.mpr hp
      have hq' : (0 : Rat) < ((overM x q.1 : Int) : Rat) := Rat.intCast_pos.mpr hq
      rw [gt_iff_lt, ← Rat.intCast_lt_intCast, Rat.intCast_mul, Rat.intCast_mul, h1, h2]
      rw [← Rat.mul_lt_mul_right (a := sureOf (caseOf x) (percent e) (costOf c) ⟨p.1, p.2⟩) (Rat.mul_pos hp' hq')]
      generalize sureOf (caseOf x) (percent e) (costOf c) ⟨p.1, p.2⟩ = A
      generalize sureOf (caseOf x) (percent e) (costOf c) ⟨q.1, q.2⟩ = B
      have e1 : A * ((overM x p.1 : Int) : Rat) * ((overM x q.1 : Int) : Rat) = A * (((overM x p.1 : Int) : Rat) * ((overM x q.1 : Int) : Rat)) := by grind
      have e2 : B * ((overM x q.1 : Int) : Rat) * ((overM x p.1 : Int) : Rat) = B * (((overM x p.1 : Int) : Rat) * ((overM x q.1 : Int) : Rat)) := by grind
      rw [e1, e2]
    rw [List.map_cons]
    unfold bestFrom
    by_cases h : sureOf (caseOf x) (percent e) (costOf c) ⟨p.1, p.2⟩ < sureOf (caseOf x) (percent e) (costOf c) ⟨q.1, q.2⟩
    · rw [if_pos h]
      have : betterM (p, sumM x p.1 p.2 e c, overM x p.1) (q, sumM x q.1 q.2 e c, overM x q.1) = (q, sumM x q.1 q.2 e c, overM x q.1) := if_pos (key.mpr h)
      rw [this]
      exact bestM_from x hu hl e c ps q
    · rw [if_neg h]
      have : betterM (p, sumM x p.1 p.2 e c, overM x p.1) (q, sumM x q.1 q.2 e c, overM x q.1) = (p, sumM x p.1 p.2 e c, overM x p.1) := if_neg fun z => h (key.mp z)
      rw [this]
      exact bestM_from x hu hl e c ps p
theorem plansL_cons (m : Nat) (before : List Nat) : ∃ r, plansL m before = (before, none) :: r := by
  unfold plansL
  rw [List.range_succ_eq_map, List.flatMap_cons]
  have : (rowsL (actsM m before) 0).flatMap (fun l => (endingsOf m).map fun en => (before ++ l, en)) = (before, none) :: ((List.range m).map some).map fun en => (before, en) := by
    simp [rowsL, endingsOf]
  rw [this, List.cons_append]
  exact ⟨_, rfl⟩
theorem bestM_is (x : GivenTask) (hu : 0 < x.unit) (hl : x.rewards.length = x.weights.length) (m : Nat) (hm : (x.rewards.headD []).length = m) (e c : Nat) (h : List Nat) (hn : h.Nodup) (hh : ∀ a ∈ h, a < m) :
    bestM (allM x m h e c) = (let q := bestBehind (caseOf x) (percent e) (costOf c) h; ((q.asks, q.ending), sumM x q.asks q.ending e c, overM x q.asks)) := by
  have hA : actionsIn (caseOf x) = m := by
    show ((x.rewards.map fun l => l.map fun i : Int => (i : Rat)).headD []).length = m
    rw [← hm]
    cases x.rewards with
    | nil => rfl
    | cons r rs => simp
  have e1 : plansBehind (caseOf x) h = (plansL m h).map fun q => (⟨q.1, q.2⟩ : Plan) := by
    unfold plansBehind plansOf
    have e0 : ∀ L : List (List Nat × Option Nat), (L.filter fun q => beginsWith h q.1).map (fun q => (⟨q.1, q.2⟩ : Plan)) = (L.map fun q => (⟨q.1, q.2⟩ : Plan)).filter fun p => beginsWith h p.asks := fun L => by
      rw [List.filter_map]
      rfl
    rw [hA, ← plansL_eq m h hn hh, e0, List.map_flatMap]
    simp only [List.map_map]
    rfl
  obtain ⟨r, hr⟩ := plansL_cons m h
  unfold bestBehind
  rw [e1, hr, allM_eq, hr]
  unfold bestM bestBy
  rw [List.map_cons, List.map_cons]
  have := bestM_from x hu hl e c r (h, none)
  show List.foldl betterM ((h, none), sumM x h none e c, overM x h) (_ :: _) = _
  rw [List.foldl_cons]
  have e2 : betterM ((h, none), sumM x h none e c, overM x h) ((h, none), sumM x h none e c, overM x h) = ((h, none), sumM x h none e c, overM x h) := by
    unfold betterM
    split <;> rfl
  show List.foldl betterM (betterM _ ((h, none), sumM x h none e c, overM x h)) _ = _
  rw [e2]
  exact this
/-- no proposals ahead: the best of all -/
theorem bestPlan_behind (z : Case) (e c : Rat) : bestPlan z e c = bestBehind z e c [] := by
  unfold bestPlan bestBehind plansBehind
  have : (plansOf z).filter (fun p => beginsWith [] p.asks) = plansOf z := List.filter_eq_self.mpr fun p _ => by simp [beginsWith]
  rw [this]
end Af
/-! Octets written; what can go right and wrong; the greatest error. -/
set_option maxHeartbeats 1000000
namespace Af
open Askfirst
/-! ### octets -/
def lowM : Int → Nat → List Int
  | _, 0 => []
  | n, k + 1 => n % 256 :: lowM (n / 256) k
theorem lowM_length : ∀ (n : Int) (k : Nat), (lowM n k).length = k
  | _, 0 => rfl
  | n, k + 1 => congrArg (· + 1) (lowM_length (n / 256) k)
abbrev intsOf (l : List Nat) : List Int := l.map fun n : Nat => (n : Int)
theorem lowM_two (n : Nat) : lowM (n : Int) 2 = intsOf (two n) := by
  simp only [lowM, intsOf, two, List.map_cons, List.map_nil]
  refine List.cons_eq_cons.mpr ⟨by omega, List.cons_eq_cons.mpr ⟨by omega, rfl⟩⟩
theorem lowM_eight (i : Int) : lowM i 8 = intsOf (eight i) := by
  have e0 : (i.emod 18446744073709551616) = i % 18446744073709551616 := rfl
  simp only [lowM, intsOf, eight, four, List.cons_append, List.nil_append, List.map_cons, List.map_nil, e0]
  have h0 : 0 ≤ i % 18446744073709551616 := by omega
  have h1 : i % 18446744073709551616 < 18446744073709551616 := by omega
  have h2 : i = 18446744073709551616 * (i / 18446744073709551616) + i % 18446744073709551616 := by omega
  generalize i % 18446744073709551616 = r at h0 h1 h2
  generalize i / 18446744073709551616 = q at h2
  subst h2
  obtain ⟨n, rfl⟩ : ∃ n : Nat, r = n := ⟨r.toNat, by omega⟩
  rw [Int.toNat_natCast]
  repeat' refine List.cons_eq_cons.mpr ⟨by omega, ?_⟩
  rfl
theorem eight_lt (i : Int) : ∀ b ∈ eight i, b < 256 := by
  intro b hb
  simp only [eight, four, List.cons_append, List.nil_append, List.mem_cons, List.not_mem_nil, or_false] at hb
  omega
theorem eight_length (i : Int) : (eight i).length = 8 := rfl
theorem fractionOut_length (q : Rat) : (fractionOut q).length = 16 := rfl
/-- in lowest terms, as the program reckons them -/
def gcdM (a b : Int) : Int := ((Int.natAbs a).gcd b.toNat : Nat)
theorem gcdM_pos {a b : Int} (hb : 0 < b) : 0 < gcdM a b := by
  unfold gcdM
  have : 0 < (Int.natAbs a).gcd b.toNat := Nat.gcd_pos_of_pos_right _ (by omega)
  omega
theorem fraction_low {a b : Int} (hb : 0 < b) : lowM (a / gcdM a b) 8 ++ lowM (b / gcdM a b) 8 = intsOf (fractionOut ((a : Rat) / (b : Rat))) := by
  obtain ⟨n, rfl⟩ : ∃ n : Nat, b = n := ⟨b.toNat, by omega⟩
  have hn : 0 < n := by omega
  have e1 : ((n : Int) : Rat) = (n : Rat) := rfl
  unfold fractionOut gcdM
  rw [lowM_eight, lowM_eight, e1, num_div a n hn, den_div a n hn, Int.toNat_natCast]
  simp only [intsOf, List.map_append]
  congr 2
/-! ### what can go right and wrong -/
def rightM (x : GivenTask) (a : Nat) : Int := weighedM x.weights (x.rewards.map fun r => if r.getD a 0 < 0 then 0 else r.getD a 0)
def wrongM (x : GivenTask) (a : Nat) : Int := weighedM x.weights (x.rewards.map fun r => if -(r.getD a 0) < 0 then 0 else -(r.getD a 0))
theorem map_get (rs : List (List Int)) (f : List Int → Int) (t : Nat) (ht : t < rs.length) : (rs.map f).getD t 0 = f (rs.getD t []) := by
  rw [List.getD_eq_getElem?_getD, List.getElem?_map, List.getElem?_eq_getElem ht, List.getD_eq_getElem?_getD, List.getElem?_eq_getElem ht]
  rfl
theorem weighed_cast (x : GivenTask) (hu : 0 < x.unit) (hl : x.rewards.length = x.weights.length) (f : List Int → Int) (g : Nat → Rat) (h : ∀ t, t < x.weights.length → ((f (x.rewards.getD t []) : Int) : Rat) = g t) :
    ((weighedM x.weights (x.rewards.map f) : Int) : Rat) = sumOver (tastesIn (caseOf x)) (fun t => chanceAt (caseOf x) t * g t) * ((x.unit : Nat) : Rat) := by
  rw [sum_zip _ _ (by rw [List.length_map, hl])]
  refine sum_cast _ _ _ _ fun t ht => ?_
  rw [map_get _ _ _ (by omega), Rat.intCast_mul, h t ht]
  show _ = ((((x.weights.getD t 0 : Nat) : Rat) / ((x.unit : Nat) : Rat)) * _) * _
  have h0 := unit_ne hu
  have e1 : (((x.weights.getD t 0 : Nat) : Int) : Rat) = ((x.weights.getD t 0 : Nat) : Rat) := rfl
  rw [e1]
  grind
theorem right_is (x : GivenTask) (hu : 0 < x.unit) (hl : x.rewards.length = x.weights.length) (a : Nat) : ((rightM x a : Int) : Rat) = goodOf (caseOf x) a * ((x.unit : Nat) : Rat) := by
  refine weighed_cast x hu hl _ _ fun t _ => ?_
  rw [rewardAt_caseOf]
  unfold greater
  by_cases h : (x.rewards.getD t []).getD a 0 < 0
  · rw [if_pos h, if_pos (show (((x.rewards.getD t []).getD a 0 : Int) : Rat) ≤ 0 from by
      have := (Rat.intCast_le_intCast (a := (x.rewards.getD t []).getD a 0) (b := 0)).mpr (by omega)
      simpa using this)]
    rfl
  · rw [if_neg h]
    split
    · rename_i h2
      have h3 : ((x.rewards.getD t []).getD a 0) ≤ 0 := (Rat.intCast_le_intCast (b := 0)).mp (by simpa using h2)
      have h4 : ((x.rewards.getD t []).getD a 0) = 0 := by omega
      rw [h4]; rfl
    · rfl
theorem wrong_is (x : GivenTask) (hu : 0 < x.unit) (hl : x.rewards.length = x.weights.length) (a : Nat) : ((wrongM x a : Int) : Rat) = badOf (caseOf x) a * ((x.unit : Nat) : Rat) := by
  refine weighed_cast x hu hl _ _ fun t _ => ?_
  rw [rewardAt_caseOf]
  unfold greater
  rw [← Rat.intCast_neg]
  generalize -((x.rewards.getD t []).getD a 0) = i
  by_cases h : i < 0
  · rw [if_pos h, if_pos (show ((i : Int) : Rat) ≤ 0 from by
      have := (Rat.intCast_le_intCast (a := i) (b := 0)).mpr (by omega)
      simpa using this)]
    rfl
  · rw [if_neg h]
    split
    · rename_i h2
      have h3 : i ≤ 0 := (Rat.intCast_le_intCast (b := 0)).mp (by simpa using h2)
      have h4 : i = 0 := by omega
      rw [h4]; rfl
    · rfl
theorem weighed_nonneg : ∀ (ws : List Nat) (w : List Int), (∀ i ∈ w, 0 ≤ i) → 0 ≤ weighedM ws w
  | [], _, _ => by simp [weighedM]
  | _ :: _, [], _ => by simp [weighedM]
  | a :: ws, b :: w, h => by
    have h1 := weighed_nonneg ws w fun i q => h i (List.mem_cons_of_mem _ q)
    have h2 : 0 ≤ (a : Int) * b := Int.mul_nonneg (by omega) (h b List.mem_cons_self)
    show 0 ≤ (a : Int) * b + weighedM ws w
    omega
theorem right_nonneg (x : GivenTask) (a : Nat) : 0 ≤ rightM x a := weighed_nonneg _ _ fun i h => by
  obtain ⟨r, _, rfl⟩ := List.mem_map.mp h
  split <;> omega
theorem wrong_nonneg (x : GivenTask) (a : Nat) : 0 ≤ wrongM x a := weighed_nonneg _ _ fun i h => by
  obtain ⟨r, _, rfl⟩ := List.mem_map.mp h
  split <;> omega
/-- asking first -/
theorem worth_is (x : GivenTask) (hu : 0 < x.unit) (hl : x.rewards.length = x.weights.length) (a c : Nat) :
    worthUpTo (caseOf x) (costOf c) a = if rightM x a + wrongM x a = 0 ∨ wrongM x a - c * x.unit < 0 then none else some (((wrongM x a - c * x.unit : Int) : Rat) / ((rightM x a + wrongM x a : Int) : Rat)) := by
  have hr := right_is x hu hl a
  have hw := wrong_is x hu hl a
  have h0 := unit_ne hu
  have hpos : (0 : Rat) < ((x.unit : Nat) : Rat) := Rat.natCast_pos.mpr hu
  have n1 := right_nonneg x a
  have n2 := wrong_nonneg x a
  unfold worthUpTo
  have e1 : goodOf (caseOf x) a + badOf (caseOf x) a = 0 ↔ rightM x a + wrongM x a = 0 := by
    rw [← Rat.intCast_eq_zero_iff, Rat.intCast_add, hr, hw, ← Rat.add_mul]
    constructor
    · intro h; rw [h, Rat.zero_mul]
    · intro h
      rcases Rat.mul_eq_zero.mp h with h | h
      · exact h
      · exact absurd h h0
  have ec : (((c : Nat) : Int) : Rat) = costOf c := rfl
  have eu : (((x.unit : Nat) : Int) : Rat) = ((x.unit : Nat) : Rat) := rfl
  have e2 : badOf (caseOf x) a < costOf c ↔ wrongM x a - c * x.unit < 0 := by
    rw [← Rat.intCast_neg_iff, Rat.intCast_sub, Rat.intCast_mul, hw, ec, eu, ← Rat.mul_lt_mul_right hpos]
    generalize badOf (caseOf x) a * ((x.unit : Nat) : Rat) = A
    generalize costOf c * ((x.unit : Nat) : Rat) = B
    constructor <;> intro h <;> grind
  by_cases h1 : rightM x a + wrongM x a = 0
  · rw [if_pos (e1.mpr h1), if_pos (.inl h1)]
  · rw [if_neg fun z => h1 (e1.mp z)]
    by_cases h2 : wrongM x a - c * x.unit < 0
    · rw [if_pos (e2.mpr h2), if_pos (.inr h2)]
    · rw [if_neg fun z => h2 (e2.mp z), if_neg (by omega)]
      congr 1
      rw [Rat.intCast_sub, Rat.intCast_mul, Rat.intCast_add, hr, hw, ec, eu]
      have hne : goodOf (caseOf x) a + badOf (caseOf x) a ≠ 0 := fun z => h1 (e1.mp z)
      grind
end Af
/-! What a plan is sure of never rises with the error; the greatest error; tastes; tasks and plans that fit. -/
set_option maxHeartbeats 1000000
namespace Af
open Askfirst
/-! ### falling -/
theorem lesser_le_left (a b : Rat) : lesser a b ≤ a := by unfold lesser; split <;> grind
theorem lesser_le_right (a b : Rat) : lesser a b ≤ b := by unfold lesser; split <;> grind
theorem le_lesser {a b x : Rat} (h1 : x ≤ a) (h2 : x ≤ b) : x ≤ lesser a b := by unfold lesser; split <;> assumption
/-- a worse rest, a greater error: no more -/
theorem step_falls {e e' c r w w' : Rat} (h0 : 0 ≤ e) (h1 : e ≤ e') (h2 : e' ≤ 1) (hw : w' ≤ w) : worstStep e' c r w' ≤ worstStep e c r w := by
  unfold worstStep
  have p1 : 0 ≤ e * (w - w') := Rat.mul_nonneg h0 (by grind)
  have p2 : 0 ≤ (1 - e) * (w - w') := Rat.mul_nonneg (by grind) (by grind)
  have key : ∀ a b : Rat, a ≤ b → a - c ≤ b - c := fun a b h => by grind
  refine key _ _ ?_
  by_cases hr : 0 ≤ r
  · rw [if_pos hr, if_pos hr]
    refine le_lesser (lesser_le_left _ _) ?_
    by_cases hwr : r ≤ w'
    · refine Rat.le_trans (lesser_le_left _ _) ?_
      have : 0 ≤ e * (w - r) := Rat.mul_nonneg h0 (by grind)
      grind
    · refine Rat.le_trans (lesser_le_right _ _) ?_
      have : 0 ≤ (e' - e) * (r - w') := Rat.mul_nonneg (by grind) (by grind)
      grind
  · rw [if_neg hr, if_neg hr]
    refine le_lesser (Rat.le_trans (lesser_le_left _ _) hw) ?_
    by_cases hwr : w' ≤ r
    · refine Rat.le_trans (lesser_le_left _ _) ?_
      have : 0 ≤ e * (r - w') := Rat.mul_nonneg h0 (by grind)
      grind
    · refine Rat.le_trans (lesser_le_right _ _) ?_
      have : 0 ≤ (e' - e) * (w' - r) := Rat.mul_nonneg (by grind) (by grind)
      grind
theorem worst_falls {z : Case} {e e' c : Rat} {t : Nat} {en : Option Nat} (h0 : 0 ≤ e) (h1 : e ≤ e') (h2 : e' ≤ 1) : ∀ l : List Nat, worstF z e' c t en l ≤ worstF z e c t en l
  | [] => Rat.le_refl
  | _ :: l => step_falls h0 h1 h2 (worst_falls h0 h1 h2 l)
theorem sum_le (f g : Nat → Rat) : ∀ n, (∀ t, t < n → f t ≤ g t) → ((List.range n).map f).sum ≤ ((List.range n).map g).sum
  | 0, _ => Rat.le_refl
  | n + 1, h => by
    rw [List.range_succ, List.map_append, List.map_append, List.sum_append, List.sum_append]
    have h1 := sum_le f g n fun t ht => h t (by omega)
    have h2 := h n (by omega)
    simp only [List.map_cons, List.map_nil, List.sum_cons, List.sum_nil]
    grind
theorem div_nonneg {a b : Nat} : (0 : Rat) ≤ (a : Rat) / (b : Rat) := by
  rcases Nat.eq_zero_or_pos b with h | h
  · subst h
    show (0 : Rat) ≤ (a : Rat) / (0 : Rat)
    have : (a : Rat) / (0 : Rat) = 0 := by
      rw [Rat.div_def, Rat.inv_zero, Rat.mul_zero]
    rw [this]
    exact Rat.le_refl
  · rw [Rat.div_def]
    exact Rat.mul_nonneg Rat.natCast_nonneg (Rat.le_of_lt (Rat.inv_pos.mpr (Rat.natCast_pos.mpr h)))
theorem sure_falls (x : GivenTask) {e e' c : Rat} (p : Plan) (h0 : 0 ≤ e) (h1 : e ≤ e') (h2 : e' ≤ 1) : sureOf (caseOf x) e' c p ≤ sureOf (caseOf x) e c p := by
  unfold sureOf sumOver
  refine sum_le _ _ _ fun t _ => ?_
  refine Rat.mul_le_mul_of_nonneg_left (worst_falls h0 h1 h2 _) ?_
  exact div_nonneg
theorem percent_mono {n m : Nat} (h : n ≤ m) : percent n ≤ percent m := by
  unfold percent
  have : (n : Rat) ≤ (m : Rat) := Rat.natCast_le_natCast.mpr h
  grind
theorem percent_nonneg (n : Nat) : 0 ≤ percent n := by
  unfold percent
  have : (0 : Rat) ≤ (n : Rat) := Rat.natCast_nonneg
  grind
theorem percent_le {n : Nat} (h : n ≤ 100) : percent n ≤ 1 := by
  unfold percent
  have : (n : Rat) ≤ ((100 : Nat) : Rat) := Rat.natCast_le_natCast.mpr h
  have e : ((100 : Nat) : Rat) = 100 := rfl
  grind
/-! ### the greatest error -/
theorem find_greatest (p : Nat → Bool) : ∀ N : Nat, (∀ n m, n ≤ m → m < N → p m = true → p n = true) → (List.range N).reverse.find? p = greatestOf ((List.range N).filter p).length
  | 0, _ => rfl
  | N + 1, h => by
    rw [List.range_succ, List.reverse_append, List.filter_append]
    show List.find? p (N :: (List.range N).reverse) = _
    rw [List.find?_cons]
    cases hp : p N with
    | true =>
      have : (List.range N).filter p = List.range N := List.filter_eq_self.mpr fun n hn => h n N (by have := List.mem_range.mp hn; omega) (by omega) hp
      rw [this]
      simp [hp, greatestOf]
    | false =>
      simp only [List.filter_cons, hp, List.filter_nil, Bool.false_eq_true, if_false, List.append_nil]
      exact find_greatest p N fun n m h1 h2 => h n m h1 (by omega)
/-- the program's search, from 100 down -/
def greatestM (x : GivenTask) (l : List Nat) (en : Option Nat) (c m : Int) : Option Nat := (List.range 101).reverse.find? fun (e : Nat) => decide (m * overM x l ≤ sumM x l en (e : Int) c)
theorem level_iff (x : GivenTask) (hu : 0 < x.unit) (hl : x.rewards.length = x.weights.length) (l : List Nat) (en : Option Nat) (e c : Nat) (m : Int) :
    m * overM x l ≤ sumM x l en e c ↔ (m : Rat) ≤ sureOf (caseOf x) (percent e) (costOf c) ⟨l, en⟩ := by
  rw [← Rat.intCast_le_intCast, Rat.intCast_mul, sum_sure x hu hl, le_scale (Rat.intCast_pos.mpr (over_pos x hu l))]
theorem greatest_is (x : GivenTask) (hu : 0 < x.unit) (hl : x.rewards.length = x.weights.length) (l : List Nat) (en : Option Nat) (c : Nat) (m : Int) :
    greatestM x l en c m = greatestOf (errorFor (caseOf x) (costOf c) ⟨l, en⟩ (m : Rat)) := by
  have e1 : (fun (e : Nat) => decide (m * overM x l ≤ sumM x l en (e : Int) (c : Int))) = fun n => decide ((m : Rat) ≤ sureOf (caseOf x) (percent n) (costOf c) ⟨l, en⟩) := by
    funext e
    exact decide_eq_decide.mpr (level_iff x hu hl l en e c m)
  unfold greatestM errorFor
  rw [e1]
  refine find_greatest _ _ fun n k h1 h2 h3 => ?_
  have h3 := of_decide_eq_true h3
  exact decide_eq_true (Rat.le_trans h3 (sure_falls x _ (percent_nonneg n) (percent_mono h1) (percent_le (by omega))))
/-! ### the worst answers -/
/-- for each proposal, from the first to the last, the worst chances of all tastes -/
def columnsM (rs : List (List Int)) (en : Option Nat) (e c : Int) : List Nat → List (List Int)
  | [] => []
  | a :: l => chancesM (colM rs a) (aheadsM rs l (endM rs en) 1 e c) (100 ^ l.length) e :: columnsM rs en e c l
theorem columnsM_length (rs : List (List Int)) (en : Option Nat) (e c : Int) : ∀ l, (columnsM rs en e c l).length = l.length
  | [] => rfl
  | _ :: l => congrArg (· + 1) (columnsM_length rs en e c l)
theorem answers_from (x : GivenTask) (en : Option Nat) (e c t : Nat) (ht : t < x.rewards.length) (asks : List Nat) : ∀ (l h : List Nat), asks = h ++ l →
    (columnsM x.rewards en e c l).map (fun ch => ((ch.getD t 0 : Int) : Rat) / 100) = ((List.range' h.length l.length).map fun i => hardest (caseOf x) (percent e) (costOf c) ⟨asks, en⟩ t (asks.take i) (asks.getD i 0))
  | [], _, _ => rfl
  | a :: l, h, e0 => by
    have ih := answers_from x en e c t ht asks l (h ++ [a]) (by rw [e0]; simp)
    show ((((chancesM (colM x.rewards a) (aheadsM x.rewards l (endM x.rewards en) 1 e c) (100 ^ l.length) e).getD t 0 : Int) : Rat) / 100) :: (columnsM x.rewards en e c l).map (fun ch => ((ch.getD t 0 : Int) : Rat) / 100) = _
    rw [ih, List.length_cons, List.range'_succ, List.map_cons, List.length_append, List.length_singleton]
    congr 1
    have hw := rest_worst x en e c t ht l
    have hlen : (asks.take h.length).length = h.length := by rw [e0]; simp
    have hget : asks.getD h.length 0 = a := by rw [e0]; simp
    have hdrop : asks.drop (h.length + 1) = l := by rw [e0]; simp
    unfold hardest
    rw [hlen, hget]
    show _ = hardStep (percent e) (rewardAt (caseOf x) t a) (worstF (caseOf x) (percent e) (costOf c) t en (asks.drop (h.length + 1)))
    rw [hdrop, rewardAt_caseOf, yes_hard (pow_pos100 l.length) hw]
    unfold chancesM
    rw [zipWith_get _ _ t (by rw [colM_length]; exact ht) (by rw [aheadsM_length, endM_length]; exact ht), colM_get]
theorem answers_is (x : GivenTask) (en : Option Nat) (e c t : Nat) (ht : t < x.rewards.length) (asks : List Nat) :
    (columnsM x.rewards en e c asks).map (fun ch => ((ch.getD t 0 : Int) : Rat) / 100) = answersOf (caseOf x) (percent e) (costOf c) ⟨asks, en⟩ t := by
  have := answers_from x en e c t ht asks asks [] rfl
  rw [this]
  unfold answersOf
  rw [List.range_eq_range']
  rfl
end Af
set_option linter.all false
/-! # Reading, in plain Lean -/
namespace Af
open Askfirst
theorem takeTwo_is : takeTwo = getThen takeOne fun a => getMap takeOne fun b => a + 256 * b := by
  funext l
  rcases l with _ | ⟨a, _ | ⟨b, l⟩⟩ <;> rfl
theorem some_none {α : Type} {g : Getter α} {n : Nat} {l : Bytes} (h : g l = none) : getSome g (n + 1) l = none := by
  show (g l).bind _ = none
  rw [h]
  rfl
theorem some_more {α : Type} {g : Getter α} {n : Nat} {l r : Bytes} {x : α} (h : g l = some (x, r)) : getSome g (n + 1) l = (getSome g n r).map fun q => (x :: q.1, q.2) := by
  show (g l).bind _ = _
  rw [h]
  rfl
theorem some_one : ∀ (n : Nat) (l : Bytes), getSome takeOne n l = if n ≤ l.length then some (l.take n, l.drop n) else none
  | 0, l => by simp [getSome]
  | n + 1, [] => by rw [some_none rfl]; simp
  | n + 1, a :: l => by
    rw [some_more (x := a) (r := l) rfl, some_one n l]
    by_cases h : n ≤ l.length
    · rw [if_pos h, if_pos (by simp; omega)]
      rfl
    · rw [if_neg h, if_neg (by simp; omega)]
      rfl
/-- octets, the least significant first -/
def numM : List Nat → Nat
  | [] => 0
  | a :: l => numM l * 256 + a
theorem numM_lt : ∀ l : List Nat, (∀ a ∈ l, a < 256) → numM l < 256 ^ l.length
  | [], _ => by simp [numM]
  | a :: l, h => by
    have ih := numM_lt l fun b hb => h b (List.mem_cons_of_mem _ hb)
    have ha := h a List.mem_cons_self
    rw [List.length_cons, Nat.pow_succ]
    show numM l * 256 + a < _
    omega
def intM (k : Int) (b : Nat) : Int := if 128 ≤ b then k - 256 ^ 8 else k
theorem takeInt_short {l : Bytes} (h : l.length < 8) : takeInt l = none := by
  rcases l with _ | ⟨b0, _ | ⟨b1, _ | ⟨b2, _ | ⟨b3, _ | ⟨b4, _ | ⟨b5, _ | ⟨b6, _ | ⟨b7, l⟩⟩⟩⟩⟩⟩⟩⟩ <;> first
    | rfl
    | (simp at h; omega)
theorem takeInt_long {l : Bytes} (h : 8 ≤ l.length) (ho : ∀ a ∈ l, a < 256) : takeInt l =
    if intM (numM (l.take 8) : Int) (l.getD 7 0) < -9007199254740991 ∨ 9007199254740991 < intM (numM (l.take 8) : Int) (l.getD 7 0) then none else some (intM (numM (l.take 8) : Int) (l.getD 7 0), l.drop 8) := by
  rcases l with _ | ⟨b0, _ | ⟨b1, _ | ⟨b2, _ | ⟨b3, _ | ⟨b4, _ | ⟨b5, _ | ⟨b6, _ | ⟨b7, l⟩⟩⟩⟩⟩⟩⟩⟩
  all_goals try (simp at h)
  have h0 : b0 < 256 := ho _ (by simp)
  have h1 : b1 < 256 := ho _ (by simp)
  have h2 : b2 < 256 := ho _ (by simp)
  have h3 : b3 < 256 := ho _ (by simp)
  have h4 : b4 < 256 := ho _ (by simp)
  have h5 : b5 < 256 := ho _ (by simp)
  have h6 : b6 < 256 := ho _ (by simp)
  have h7 : b7 < 256 := ho _ (by simp)
  show ((intFrom (b0 + 256 * b1 + 65536 * b2 + 16777216 * b3) (b4 + 256 * b5 + 65536 * b6 + 16777216 * b7)).map fun b => (b, l)) = _
  have e7 : (b0 :: b1 :: b2 :: b3 :: b4 :: b5 :: b6 :: b7 :: l).getD 7 0 = b7 := rfl
  have en : numM ((b0 :: b1 :: b2 :: b3 :: b4 :: b5 :: b6 :: b7 :: l).take 8) = b0 + 256 * b1 + 65536 * b2 + 16777216 * b3 + 4294967296 * (b4 + 256 * b5 + 65536 * b6 + 16777216 * b7) := by
    simp only [List.take_succ_cons, List.take_zero, numM]
    omega
  have ed : (b0 :: b1 :: b2 :: b3 :: b4 :: b5 :: b6 :: b7 :: l).drop 8 = l := rfl
  rw [e7, en, ed]
  unfold intFrom intM greatestInt
  generalize hk : b0 + 256 * b1 + 65536 * b2 + 16777216 * b3 + 4294967296 * (b4 + 256 * b5 + 65536 * b6 + 16777216 * b7) = k
  show (Option.map _ (if k ≤ 9007199254740991 then some (Int.ofNat k) else if 18446744073709551616 ≤ k + 9007199254740991 then some (Int.ofNat k - 18446744073709551616) else none)) = _
  have e8 : (256 : Int) ^ 8 = 18446744073709551616 := rfl
  rw [e8]
  by_cases hb : 128 ≤ b7
  · rw [if_pos hb, if_neg (by omega)]
    by_cases hc : 18446744073709551616 ≤ k + 9007199254740991
    · rw [if_pos hc, if_neg (by omega)]
      rfl
    · rw [if_neg hc, if_pos (by omega)]
      rfl
  · rw [if_neg hb]
    by_cases hc : k ≤ 9007199254740991
    · rw [if_pos hc, if_neg (by omega)]
      rfl
    · rw [if_neg hc, if_neg (by omega), if_pos (by omega)]
      rfl
end Af
set_option linter.all false
/-! # A request's parts, in plain Lean -/
namespace Af
open Askfirst
inductive Item where
  | task (x : GivenTask)
  | plan (p : GivenPlan)
  | num (n : Nat)
  | flag (b : Bool)
  | int (i : Int)
inductive Part where
  | task | plan | octet | flag | integer
def getPart : Part → Getter Item
  | .task => getMap takeTask .task
  | .plan => getMap takePlan .plan
  | .octet => getMap takeOne .num
  | .flag => getMap takeFlag .flag
  | .integer => getMap takeInt .int
def getParts : List Part → Getter (List Item)
  | [] => fun l => some ([], l)
  | p :: ps => getThen (getPart p) fun a => getMap (getParts ps) fun r => a :: r
def partsM (c : Nat) : List Part := match c with
  | 1 => [.task, .plan, .octet, .octet]
  | 2 => [.task, .octet, .octet]
  | 3 => [.task, .octet, .octet]
  | 4 => [.task, .plan, .octet, .integer]
  | 5 => [.task]
  | 6 => [.octet, .flag]
  | 7 => [.octet, .octet]
  | _ => []
def itemsOf : Call → List Item
  | .sure x y e c => [.task x, .plan y, .num e, .num c]
  | .best x e c => [.task x, .num e, .num c]
  | .worth x a c => [.task x, .num a, .num c]
  | .upTo x y c m => [.task x, .plan y, .num c, .int m]
  | .make x => [.task x]
  | .propose a y => [.num a, .flag y]
  | .advice e c => [.num e, .num c]
  | .undo => []
  | .answers => []
  | .tastes => []
def numOf : Call → Nat
  | .sure _ _ _ _ => 1
  | .best _ _ _ => 2
  | .worth _ _ _ => 3
  | .upTo _ _ _ _ => 4
  | .make _ => 5
  | .propose _ _ => 6
  | .advice _ _ => 7
  | .undo => 8
  | .answers => 9
  | .tastes => 10
theorem parts_none {p : Part} {ps : List Part} {l : Bytes} (h : getPart p l = none) : getParts (p :: ps) l = none := by
  show (getPart p l).bind _ = none
  rw [h]
  rfl
theorem parts_more {p : Part} {ps : List Part} {l r : Bytes} {x : Item} (h : getPart p l = some (x, r)) : getParts (p :: ps) l = (getParts ps r).map fun q => (x :: q.1, q.2) := by
  show (getPart p l).bind _ = _
  rw [h]
  rfl
/-- what a request's parts are -/
theorem call_is (c : Nat) (h1 : 1 ≤ c) (h2 : c ≤ 10) (l : Bytes) : (takeCall c l).map (fun q => (numOf q.1, itemsOf q.1, q.2)) = (getParts (partsM c) l).map fun q => (c, q.1, q.2) := by
  have : c = 1 ∨ c = 2 ∨ c = 3 ∨ c = 4 ∨ c = 5 ∨ c = 6 ∨ c = 7 ∨ c = 8 ∨ c = 9 ∨ c = 10 := by omega
  rcases this with rfl | rfl | rfl | rfl | rfl | rfl | rfl | rfl | rfl | rfl
  · show ((getMap (getBoth takeTask (getBoth takePlan (getBoth takeOne takeOne))) fun p => Call.sure p.1 p.2.1 p.2.2.1 p.2.2.2) l).map _ = (getParts [.task, .plan, .octet, .octet] l).map _
    simp only [getParts, getPart, getMap, getBoth, getThen]
    cases takeTask l with
    | none => rfl
    | some a =>
      simp only [Option.bind_some, Option.map_some]
      cases takePlan a.2 with
      | none => rfl
      | some b =>
        simp only [Option.bind_some, Option.map_some]
        cases takeOne b.2 with
        | none => rfl
        | some e =>
          simp only [Option.bind_some, Option.map_some]
          cases takeOne e.2 with
          | none => rfl
          | some f => rfl
  · show ((getMap (getBoth takeTask (getBoth takeOne takeOne)) fun p => Call.best p.1 p.2.1 p.2.2) l).map _ = (getParts [.task, .octet, .octet] l).map _
    simp only [getParts, getPart, getMap, getBoth, getThen]
    cases takeTask l with
    | none => rfl
    | some a =>
      simp only [Option.bind_some, Option.map_some]
      cases takeOne a.2 with
      | none => rfl
      | some b =>
        simp only [Option.bind_some, Option.map_some]
        cases takeOne b.2 with
        | none => rfl
        | some e => rfl
  · show ((getMap (getBoth takeTask (getBoth takeOne takeOne)) fun p => Call.worth p.1 p.2.1 p.2.2) l).map _ = (getParts [.task, .octet, .octet] l).map _
    simp only [getParts, getPart, getMap, getBoth, getThen]
    cases takeTask l with
    | none => rfl
    | some a =>
      simp only [Option.bind_some, Option.map_some]
      cases takeOne a.2 with
      | none => rfl
      | some b =>
        simp only [Option.bind_some, Option.map_some]
        cases takeOne b.2 with
        | none => rfl
        | some e => rfl
  · show ((getMap (getBoth takeTask (getBoth takePlan (getBoth takeOne takeInt))) fun p => Call.upTo p.1 p.2.1 p.2.2.1 p.2.2.2) l).map _ = (getParts [.task, .plan, .octet, .integer] l).map _
    simp only [getParts, getPart, getMap, getBoth, getThen]
    cases takeTask l with
    | none => rfl
    | some a =>
      simp only [Option.bind_some, Option.map_some]
      cases takePlan a.2 with
      | none => rfl
      | some b =>
        simp only [Option.bind_some, Option.map_some]
        cases takeOne b.2 with
        | none => rfl
        | some e =>
          simp only [Option.bind_some, Option.map_some]
          cases takeInt e.2 with
          | none => rfl
          | some f => rfl
  · show ((getMap takeTask Call.make) l).map _ = (getParts [.task] l).map _
    simp only [getParts, getPart, getMap, getThen]
    cases takeTask l with
    | none => rfl
    | some a => rfl
  · show ((getMap (getBoth takeOne takeFlag) fun p => Call.propose p.1 p.2) l).map _ = (getParts [.octet, .flag] l).map _
    simp only [getParts, getPart, getMap, getBoth, getThen]
    cases takeOne l with
    | none => rfl
    | some a =>
      simp only [Option.bind_some, Option.map_some]
      cases takeFlag a.2 with
      | none => rfl
      | some b => rfl
  · show ((getMap (getBoth takeOne takeOne) fun p => Call.advice p.1 p.2) l).map _ = (getParts [.octet, .octet] l).map _
    simp only [getParts, getPart, getMap, getBoth, getThen]
    cases takeOne l with
    | none => rfl
    | some a =>
      simp only [Option.bind_some, Option.map_some]
      cases takeOne a.2 with
      | none => rfl
      | some b => rfl
  · rfl
  · rfl
  · rfl
/-- the request that octets are -/
def requestOf (l : Bytes) : Option Call := match l with
  | [] => none
  | c :: r => match takeCall c r with
    | some (x, []) => some x
    | _ => none
theorem request_none {c : Nat} {r : Bytes} (h : ¬ (1 ≤ c ∧ c ≤ 10)) : requestOf (c :: r) = none := by
  have e : takeCall c = getNo := by
    unfold takeCall
    repeat (rw [if_neg (by omega)])
  show (match takeCall c r with
    | some (x, []) => some x
    | _ => none) = none
  rw [e]
  rfl
theorem request_bad {c : Nat} {r : Bytes} (h1 : 1 ≤ c) (h2 : c ≤ 10) (h : getParts (partsM c) r = none) : requestOf (c :: r) = none := by
  have e := call_is c h1 h2 r
  rw [h] at e
  show (match takeCall c r with
    | some (x, []) => some x
    | _ => none) = none
  cases hc : takeCall c r with
  | none => rfl
  | some q => rw [hc] at e; cases e
theorem request_long {c : Nat} {r s : Bytes} {its : List Item} (h1 : 1 ≤ c) (h2 : c ≤ 10) (h : getParts (partsM c) r = some (its, s)) (hs : s ≠ []) : requestOf (c :: r) = none := by
  have e := call_is c h1 h2 r
  rw [h] at e
  show (match takeCall c r with
    | some (x, []) => some x
    | _ => none) = none
  cases hc : takeCall c r with
  | none => rfl
  | some q =>
    rw [hc] at e
    have e : some (numOf q.1, itemsOf q.1, q.2) = some (c, its, s) := e
    obtain ⟨x, t⟩ := q
    have et : t = s := by injection e with e; injection e with _ e; injection e
    subst et
    cases t with
    | nil => exact absurd rfl hs
    | cons _ _ => rfl
theorem request_some {c : Nat} {r : Bytes} {its : List Item} (h1 : 1 ≤ c) (h2 : c ≤ 10) (h : getParts (partsM c) r = some (its, [])) : ∃ x, requestOf (c :: r) = some x ∧ numOf x = c ∧ itemsOf x = its := by
  have e := call_is c h1 h2 r
  rw [h] at e
  cases hc : takeCall c r with
  | none => rw [hc] at e; cases e
  | some q =>
    rw [hc] at e
    have e : some (numOf q.1, itemsOf q.1, q.2) = some (c, its, []) := e
    obtain ⟨x, t⟩ := q
    injection e with e
    injection e with e1 e
    injection e with e2 e3
    have e3 : t = [] := e3
    subst e3
    refine ⟨x, ?_, e1, e2⟩
    show (match takeCall c r with
      | some (x, []) => some x
      | _ => none) = some x
    rw [hc]
end Af
set_option Elab.async false
set_option linter.all false
set_option maxRecDepth 100000
set_option maxHeartbeats 2000000
/-! # Own rules over the layer -/
namespace Af
open PySem PySem.Spec PyProof.Rows L2
abbrev SSt := L2.St
/-! ### what is raised: the layer's exceptions whose context is None -/
theorem okN {P : Program} {w : World} {K : PySem.W.Frag} {mg : Str → Option Value} {base : Heap} {x qual : Str} {st : Stmt} {f : Addr} {fd : FuncData} {N ps : List Str} {k : Nat} {sp : Sp} (F : Fun K x qual st f fd) (S : FnScope N ps (defScope st)) (len : ∀ vs H Q E, sp vs H Q E → vs.length = ps.length)
    (hbody : ∀ (cdv : Value) (A : Around) (outer : List Env) (s : Shared) (H : Hp) (vs : List V) (Q : VK) (E : XK), Room k (A.deeper (envOfC qual (defScope st) s.heap.objs.size f cdv)) → sp vs H Q E →
      ∃ t, PSs (cxOf (L2N.CX P w) P w K mg base N qual (defScope st) f cdv A outer s H E) (defBody st) t ∧ t { nx := fun _ H' => Q .non H', rt := Q } (start N vs) H) : FnOk P w K mg base (L2N.CX P w) (k + 1) f fd ps sp := by
  obtain ⟨oc, od, kV, doc, pm, an, cdv, ct, osl, rfl, lk, hcd⟩ := F.ex
  exact fn_of lk hcd S len fun A outer s H vs Q E hr hsp => hbody cdv A outer s H vs Q E hr hsp
theorem passN {X : Cx} {W : WX} (tk : L2N.Takes X W) (σ : SSt) : PassesAt (L2N.CX X.prog X.w) X σ (WE W σ) := fun _ _ _ e s' I c => tk e s' (L2N.XE.of_call I (fun _ _ _ h => h) c)
theorem pass00 {X : Cx} (σ : SSt) : PassesAt CX0 X σ E0 := fun _ _ _ _ _ _ z => z.elim
section
variable {X : Cx} {C : Addr} {bmB : List Value} {B newId initId : String}
/-- X(), an own class of exceptions without own __init__ -/
theorem pmk_own0 {x : Str} {p pos : Pos} (F : ExcBaseFacts B newId initId bmB) (q : PySem.W.excIn X.K C bmB newId = true) (gC : X.mg x = some (.ref C)) (kC : PySem.W.keepIn X.K (.ref C) = true) (r : Raises X (.ref C)) (hg : Gl X x)
    (hdb : (x == ("__debug__" : Str)) = false := by decide) : L2N.PMk X (.Call (.Name x p) [] [] pos) (fun _ H Q => Q (.ref C) none H) := by
  intro pins s σ H Q I h
  refine wpAny_Call_Name_kw (ld_glob I hg gC ?_ hdb)
  refine PySem.W.callWith_K0 I.kIn kC ?_
  show wpAny _ _ (call (.ref C) []) _ _ _
  obtain ⟨bm, N, nm, qn, bs, hdct, sn, sub, ab, col, dd, k0, k1, k2, k3, k5, mN, hC, hN, hni, T⟩ := exc_obj I.kIn q
  refine wpAny_call_exc_subT F T hC hN hni (fun h' e hm => ?_) (Nat.zero_le _)
  exact L2N.mk_of I hm r h (I.hok.gone hm.new)
end
/-! ### a def that stands, as its callers use it -/
structure Ok (P : Program) (w : World) (K : PySem.W.Frag) (mg : Str → Option Value) (base : Heap) (CX : CXT) (k : Nat) (x : Str) (ps : List Str) (sp : Sp) : Prop where
  ex : ∃ f fd, mg x = some (.ref f) ∧ PySem.W.keepIn K (.ref f) = true ∧ Binds K fd ps [] ∧ FnOk P w K mg base CX k f fd ps sp
/-- where the def st of the text stands -/
structure DefAt (K : PySem.W.Frag) (mg : Str → Option Value) (x : Str) (st : Stmt) (ps : List Str) : Prop where
  ex : ∃ f fd, mg x = some (.ref f) ∧ Fun K x x st f fd ∧ Binds K fd ps []
section
variable {P : Program} {w : World} {K : PySem.W.Frag} {mg : Str → Option Value} {base : Heap} {CX : CXT}
theorem DefAt.ok {k : Nat} {x : Str} {st : Stmt} {N ps : List Str} {sp : Sp} (D : DefAt K mg x st ps) (S : FnScope N ps (defScope st)) (len : ∀ vs H Q E, sp vs H Q E → vs.length = ps.length)
    (hbody : ∀ (f : Addr) (cdv : Value) (A : Around) (outer : List Env) (s : Shared) (H : Hp) (vs : List V) (Q : VK) (E : XK), Room k (A.deeper (envOfC x (defScope st) s.heap.objs.size f cdv)) → sp vs H Q E →
      ∃ t, PSs (cxOf CX0 P w K mg base N x (defScope st) f cdv A outer s H E).nox (defBody st) t ∧ t { nx := fun _ H' => Q .non H', rt := Q } (start N vs) H) : Ok P w K mg base CX0 (k + 1) x ps sp := by
  obtain ⟨f, fd, g, F, b⟩ := D.ex
  exact ⟨f, fd, g, F.kp, b, F.ok S len fun cdv A outer s H vs Q E hr h => hbody f cdv A outer s H vs Q E hr h⟩
theorem DefAt.okN {k : Nat} {x : Str} {st : Stmt} {N ps : List Str} {sp : Sp} (D : DefAt K mg x st ps) (S : FnScope N ps (defScope st)) (len : ∀ vs H Q E, sp vs H Q E → vs.length = ps.length)
    (hbody : ∀ (f : Addr) (cdv : Value) (A : Around) (outer : List Env) (s : Shared) (H : Hp) (vs : List V) (Q : VK) (E : XK), Room k (A.deeper (envOfC x (defScope st) s.heap.objs.size f cdv)) → sp vs H Q E →
      ∃ t, PSs (cxOf (L2N.CX P w) P w K mg base N x (defScope st) f cdv A outer s H E) (defBody st) t ∧ t { nx := fun _ H' => Q .non H', rt := Q } (start N vs) H) : Ok P w K mg base (L2N.CX P w) (k + 1) x ps sp := by
  obtain ⟨f, fd, g, F, b⟩ := D.ex
  exact ⟨f, fd, g, F.kp, b, Af.okN F S len fun cdv A outer s H vs Q E hr h => hbody f cdv A outer s H vs Q E hr h⟩
theorem def_mk {h : Heap} {x : Str} {st : Stmt} {ps : List Str} {f : Addr} {oc : Value} {od an : Option Addr} {osl : Array (Option Value)} {kV doc pm cdv ct : Value} (X : K.In h) (G : h.Ns mainGlobals mg)
    (a : PySem.W.nsIn K mainGlobals x = some (some (.ref f))) (l : K.lookup f = some ⟨oc, od, .func (PySem.W.fnOf x x (defArgs st) (defBody st) (defScope st) .none kV doc pm an cdv ct), osl⟩)
    (c : PySem.W.codeIn K cdv x = true) (k : PySem.W.keepIn K (.ref f) = true)
    (hb : ∀ (kV doc pm : Value) (an : Option Addr) (cdv ct : Value) (us : List Value), us.length = ps.length → bindArgs (PySem.W.fnOf x x (defArgs st) (defBody st) (defScope st) .none kV doc pm an cdv ct) ⟨us, []⟩ = pure (ps.zip us)) : DefAt K mg x st ps :=
  ⟨f, _, PySem.W.mg_of X G a, fun_mk l c k, (fun_mk l c k).binds hb⟩
end
section
variable {X : Cx} {CX : CXT} {k : Nat} {ps : List Str} {sp : Sp} {E : SSt → XK} {x : Str} {p pos : Pos} {e : Expr} {es : List Expr} {t : TA}
theorem pe_cl (F : Ok X.prog X.w X.K X.mg X.base CX k x ps sp) (hr : Room k X.A) (hx : ∀ σ, PassesAt CX X σ (E σ)) (ha : PA X (e :: es) t) (hg : Gl X x := by rfl)
    (hdb : (x == ("__debug__" : Str)) = false := by decide) (he : starEach (e :: es) X.env = (false, eval e X.env) :: starEach es X.env := by rfl) (hpl : (backTo pos (starEach es X.env)).any (·.1) = false := by rfl) :
    PE X (.Call (.Name x p) (e :: es) [] pos) (tCallS sp E t) := by
  obtain ⟨f, fd, g, kp, b, G⟩ := F.ex
  exact pe_callS G hr hg g kp b hx ha hdb he hpl
end
/-! ### heaps -/
theorem Same.new {H : Hp} {p : Addr} {o : HO} (h : H p = none) : Same H (upd H p o) := fun a u e => by
  rw [upd_ne (ne_of_none e h)]
  exact e
/-- an object that H does not know may change -/
theorem Same.mut {H H' : Hp} {p : Addr} {o : HO} (e : Same H H') (h : H p = none) : Same H (upd H' p o) := fun a u ha => by
  rw [upd_ne (ne_of_none ha h)]
  exact e a u ha
/-! ### steps of a reading -/
section
variable {t u tb : TS} {te ta : TE} {tt tu : TT} {tc : TA} {g : TG} {gs : TGs} {n b c : SSt → Hp → Prop} {r : VK} {σ : SSt} {H : Hp} {Q : VK} {QB : Bool → Hp → Prop} {QA : List V → Hp → Prop} {QS : SSt → Hp → Prop} {v x y : V} {i j : Int} {k : Nat} {vs : List V} {D : Ends} {K : PySem.W.Frag} {p : Addr} {xs ys : List V}
theorem i_seq (h : t ⟨u ⟨n, r, b, c⟩, r, b, c⟩ σ H) : tSeq t u ⟨n, r, b, c⟩ σ H := h
theorem i_asg (h : te σ H fun x H1 => g x σ H1 n) : tAsg te g ⟨n, r, b, c⟩ σ H := h
theorem i_name (h : QS (σ.set k (some v)) H) : gName k v σ H QS := h
theorem i_ret (h : te σ H r) : tRet te ⟨n, r, b, c⟩ σ H := h
theorem i_drop (h : te σ H fun _ H1 => n σ H1) : tDrop te ⟨n, r, b, c⟩ σ H := h
theorem i_if (h : tt σ H fun z H1 => if z = true then t D σ H1 else u D σ H1) : tIfS tt t u D σ H := h
theorem i_next (h : n σ H) : tNext ⟨n, r, b, c⟩ σ H := h
theorem i_var (e : σ[k]? = some (some v)) (h : Q v H) : tVar k σ H Q := ⟨v, e, h⟩
theorem i_C (h : Q v H) : tC v σ H Q := h
theorem i_op {o : R2} (h : te σ H fun x H1 => ta σ H1 fun y H2 => o x y H2 Q) : tOp o te ta σ H Q := h
theorem i_un {o : V → Hp → VK → Prop} (h : te σ H fun x H1 => o x H1 Q) : tUn o te σ H Q := h
theorem i_rI0 {f : Int → Int → V} (h : Q (f i j) H) : rI0 f (.int i) (.int j) H Q := ⟨i, j, rfl, rfl, h⟩
theorem i_rI {C : Int → Int → Prop} {f : Int → Int → V} (q : C i j) (h : Q (f i j) H) : rI C f (.int i) (.int j) H Q := ⟨i, j, rfl, rfl, q, h⟩
theorem i_rU {f : Int → V} (h : Q (f i) H) : rU f (.int i) H Q := ⟨i, rfl, h⟩
theorem i_nil (h : QA [] H) : tNil σ H QA := h
theorem i_cons (h : te σ H fun x H1 => tc σ H1 fun xs H2 => QA (x :: xs) H2) : tCons te tc σ H QA := h
theorem i_cmp {f : Int → Int → Bool} (h : te σ H fun x H1 => ta σ H1 fun y H2 => ∃ i j, x = .int i ∧ y = .int j ∧ Q (.bl (f i j)) H2) : tCmp f te ta σ H Q := h
theorem i_ij {C : Int → Int → Prop} (h : C i j) : ∃ i' j', V.int i = .int i' ∧ V.int j = .int j' ∧ C i' j' := ⟨i, j, rfl, rfl, h⟩
theorem i_B (h : te σ H fun x H1 => ∃ c, x = .bl c ∧ QB c H1) : tB te σ H QB := h
theorem i_test (h : te σ H fun x H1 => ∃ c, x = .bl c ∧ QB c H1) : tTest te σ H QB := h
theorem i_bl {z : Bool} {C : Bool → Prop} (h : C z) : ∃ c, V.bl z = .bl c ∧ C c := ⟨z, rfl, h⟩
theorem i_isN (h : te σ H fun x H1 => Q (.bl (decide (x = .non))) H1) : tIsN te σ H Q := h
theorem i_and (h : tt σ H fun z H1 => if z = true then tu σ H1 QB else QB false H1) : tAnd tt tu σ H QB := h
theorem i_or (h : tt σ H fun z H1 => if z = true then QB true H1 else tu σ H1 QB) : tOr tt tu σ H QB := h
theorem i_not (h : tt σ H fun z H1 => QB (!z) H1) : tNot tt σ H QB := h
theorem i_andV (h : te σ H fun x H1 => ∃ c, x = .bl c ∧ if c = true then ta σ H1 Q else Q (.bl false) H1) : tAndV te ta σ H Q := h
theorem i_orV (h : te σ H fun x H1 => ∃ c, x = .bl c ∧ if c = true then Q (.bl true) H1 else ta σ H1 Q) : tOrV te ta σ H Q := h
theorem i_cb {o : List V → Hp → VK → Prop} (h : tc σ H fun vs H1 => o vs H1 Q) : tCB o tc σ H Q := h
theorem i_callS {sp : Sp} {E : SSt → XK} (h : tc σ H fun vs H1 => sp vs H1 Q (E σ)) : tCallS sp E tc σ H Q := h
/-- a new tuple, a new list -/
def newT (Q : VK) (xs : List V) (H : Hp) : Prop := xs.length ≤ sizeLine ∧ ∀ p, H p = none → Q (.ref p) (upd H p (.tup xs))
def newL (Q : VK) (xs : List V) (H : Hp) : Prop := xs.length ≤ sizeLine ∧ ∀ p, H p = none → Q (.ref p) (upd H p (.lst xs))
theorem i_tup (h : tc σ H fun xs H1 => newT Q xs H1) : tTup tc σ H Q := h
theorem i_lst (h : tc σ H fun xs H1 => newL Q xs H1) : tLst tc σ H Q := h
theorem small100 {m : Nat} (h : m ≤ 100) : m ≤ sizeLine := Nat.le_trans h (by decide)
theorem size_of {m : Nat} (h : m ≤ 16000000) : m ≤ sizeLine := Nat.le_trans h (by decide)
theorem size_lt {m : Nat} (h : m < 16000000) : m < sizeLine := Nat.lt_of_lt_of_le h (by decide)
theorem i_newT (z : xs.length ≤ 100) (h : ∀ p H', H p = none → Same H H' → H' p = some (.tup xs) → Q (.ref p) H') : newT Q xs H := ⟨small100 z, fun p hp => h p _ hp (Same.new hp) upd_same⟩
theorem i_newL (z : xs.length ≤ 100) (h : ∀ p H', H p = none → Same H H' → H' p = some (.lst xs) → Q (.ref p) H') : newL Q xs H := ⟨small100 z, fun p hp => h p _ hp (Same.new hp) upd_same⟩
/-- a list's method -/
theorem tyl {l : Addr} (h : H l = some (.lst xs)) : tyV K "list" (.ref l) H := Or.inl ⟨rfl, xs, SqL.of h⟩
theorem i_bm {T : String} {o : V → List V → Hp → VK → Prop} (h : te σ H fun x H1 => tyV K T x H1 ∧ tc σ H1 fun xs H2 => o x xs H2 Q) : tBM K T o te tc σ H Q := h
theorem i_app {l : Addr} (hl : H l = some (.lst xs)) (hz : xs.length < sizeLine) (h : Q .non (upd H l (.lst (xs ++ [v])))) : rAppend (.ref l) [v] H Q := ⟨l, xs, v, rfl, rfl, hl, hz, h⟩
theorem i_ext {l q : Addr} (hl : H l = some (.lst xs)) (hq : H q = some (.lst ys)) (hz : xs.length + ys.length ≤ sizeLine) (h : Q .non (upd H l (.lst (xs ++ ys)))) : rExtend (.ref l) [.ref q] H Q := ⟨l, q, xs, ys, rfl, rfl, hl, hq, hz, h⟩
theorem i_cat {l q : Addr} (hl : H l = some (.lst xs)) (hq : H q = some (.lst ys)) (hz : xs.length + ys.length ≤ sizeLine) (h : ∀ p H', H p = none → Same H H' → H' p = some (.lst (xs ++ ys)) → Q (.ref p) H') : rCat (.ref l) (.ref q) H Q :=
  ⟨l, q, xs, ys, rfl, rfl, hl, hq, hz, fun p hp => h p _ hp (Same.new hp) upd_same⟩
/-- items -/
theorem i_ixL {j : Nat} (hl : SqL K H p xs) (e : i = (j : Int)) (hj : xs[j]? = some v) (h : Q v H) : rIxL K (.ref p) (.int i) H Q := ⟨p, xs, i, v, rfl, rfl, hl, by rw [e]; exact atI_nat hj, h⟩
theorem i_ixT {j : Nat} (hl : SqT K H p xs) (e : i = (j : Int)) (hj : xs[j]? = some v) (h : Q v H) : rIxT K (.ref p) (.int i) H Q := ⟨p, xs, i, v, rfl, rfl, hl, by rw [e]; exact atI_nat hj, h⟩
/-- slices -/
def slL (K : PySem.W.Frag) (Q : VK) (x : V) (lo hi : Option Int) (H : Hp) : Prop := rSlL K x lo hi H Q
theorem i_sl {tl th : TO} (h : te σ H fun x H1 => tl σ H1 fun l H2 => th σ H2 fun u H3 => slL K Q x l u H3) : tSl (rSlL K) te tl th σ H Q := h
theorem i_part {QO : Option Int → Hp → Prop} (h : te σ H fun x H1 => ∃ i, x = .int i ∧ QO (some i) H1) : tPart te σ H QO := h
theorem i_i {C : Int → Prop} (h : C i) : ∃ i', V.int i = .int i' ∧ C i' := ⟨i, rfl, h⟩
theorem i_nopart {QO : Option Int → Hp → Prop} (h : QO none H) : tNoPart σ H QO := h
theorem i_slL {lo hi : Option Int} (hl : SqL K H p xs) (h : ∀ q H', H q = none → Same H H' → H' q = some (.lst (cutV xs lo hi)) → Q (.ref q) H') : slL K Q (.ref p) lo hi H := ⟨p, xs, rfl, hl, fun q hq => h q _ hq (Same.new hq) upd_same⟩
/-- in -/
theorem i_in {neg : Bool} (hl : SqL K H p xs) (hx : flatV x = true) (ha : xs.all flatV = true) (h : Q (.bl (if neg then !inV x xs else inV x xs)) H) : rIn K neg x (.ref p) H Q := ⟨p, xs, rfl, .inl hl, hx, ha, h⟩
/-- targets -/
def unT (K : PySem.W.Frag) (m : Nat) (gs : TGs) (v : V) (σ : SSt) (H : Hp) (QS : SSt → Hp → Prop) : Prop := gTup K m gs v σ H QS
theorem i_gT {m : Nat} (hl : SqT K H p xs) (e : xs.length = m) (h : gs xs σ H QS) : gTup K m gs (.ref p) σ H QS := ⟨p, xs, rfl, hl, e, h⟩
theorem i_gL {m : Nat} (hl : SqL K H p xs) (e : xs.length = m) (h : gs xs σ H QS) : gLst K m gs (.ref p) σ H QS := ⟨p, xs, rfl, hl, e, h⟩
theorem i_gc (h : g x σ H fun σ' H' => gs xs σ' H' QS) : gCons g gs (x :: xs) σ H QS := ⟨x, xs, rfl, h⟩
theorem i_gn (h : QS σ H) : gNil [] σ H QS := ⟨rfl, h⟩
theorem i_par {a d : Nat} (h : tc σ H fun vs H1 => ∃ v w, vs = [v, w] ∧ n ((σ.set a (some v)).set d (some w)) H1) : tPar a d tc ⟨n, r, b, c⟩ σ H := h
theorem i_vw {C : V → V → Prop} (h : C v x) : ∃ v' w', [v, x] = [v', w'] ∧ C v' w' := ⟨v, x, rfl, h⟩
theorem i_par3 {a d e : Nat} (h : tc σ H fun vs H1 => ∃ u v w, vs = [u, v, w] ∧ n (((σ.set a (some u)).set d (some v)).set e (some w)) H1) : tPar3 a d e tc ⟨n, r, b, c⟩ σ H := h
theorem i_uvw {C : V → V → V → Prop} (h : C v x y) : ∃ u' v' w', [v, x, y] = [u', v', w'] ∧ C u' v' w' := ⟨v, x, y, rfl, h⟩
/-- tests that are told -/
theorem i_dec {A B C : Prop} [Decidable C] (h1 : C → A) (h2 : ¬ C → B) : if decide C = true then A else B := by
  by_cases h : C
  · rw [if_pos (decide_eq_true h)]; exact h1 h
  · rw [if_neg (by rw [decide_eq_false h]; exact Bool.false_ne_true)]; exact h2 h
theorem i_ndec {A B C : Prop} [Decidable C] (h1 : ¬ C → A) (h2 : C → B) : if (!decide C) = true then A else B := by
  by_cases h : C
  · rw [if_neg (by rw [decide_eq_true h]; decide)]; exact h2 h
  · rw [if_pos (by rw [decide_eq_false h]; rfl)]; exact h1 h
theorem i_bool {A B : Prop} {z : Bool} (h1 : z = true → A) (h2 : z = false → B) : if z = true then A else B := by
  cases z with
  | true => rw [if_pos rfl]; exact h1 rfl
  | false => rw [if_neg Bool.false_ne_true]; exact h2 rfl
theorem i_nbool {A B : Prop} {z : Bool} (h1 : z = false → A) (h2 : z = true → B) : if (!z) = true then A else B := by
  cases z with
  | false => exact h1 rfl
  | true => exact h2 rfl
/-- loops: what a for asks of what it walks -/
def forR (g : TG) (tb : TS) (D : Ends) (σ : SSt) (J : It) (H1 : Hp) : Prop := ∃ W : Nat → Nat → SSt → Hp → Prop, (∃ m, W 0 m σ H1) ∧ ∀ i m σ H, W i m σ H →
  (J.stop i H ∧ D.nx σ H) ∨ (J.go i H ∧ ∃ N : SSt → Hp → Prop, (∀ σ' H', N σ' H' → ∃ m', m' < m ∧ W (i + 1) m' σ' H') ∧ ∀ x H', J.yld i H x H' → g x σ H' fun σ2 H2 => tb { D with nx := N, ct := N, bk := D.nx } σ2 H2)
theorem i_for {wi : TI} (h : wi σ H (forR g tb ⟨n, r, b, c⟩ σ)) : tFor wi g tb ⟨n, r, b, c⟩ σ H := h
def lcR (g : TG) (tt : TT) (te : TE) (vs : List Nat) (σ : SSt) (Q : VK) (J : It) (H1 : Hp) : Prop := ∀ D, H1 D = none → ∃ W : Nat → Nat → Hp → Prop, (∃ m, W 0 m (upd H1 D (.lst []))) ∧ ∀ i m H, W i m H →
  (J.stop i H ∧ Q (.ref D) H) ∨ (J.go i H ∧ ∃ Nx : Hp → Prop, (∀ H', Nx H' → ∃ m', m' < m ∧ W (i + 1) m' H') ∧ ∀ x H', J.yld i H x H' → g x (wipe σ vs) H' fun σ2 H2 => wipe σ2 vs = wipe σ vs ∧ tt σ2 H2 fun b H3 =>
    if b = true then te σ2 H3 fun y H4 => ∃ acc, H4 D = some (.lst acc) ∧ acc.length < sizeLine ∧ Nx (upd H4 D (.lst (acc ++ [y]))) else Nx H3)
theorem i_lc {wi : TI} {zs : List Nat} (h : wi σ H (lcR g tt te zs σ Q)) : tLc wi g tt te zs σ H Q := h
def itL (K : PySem.W.Frag) (R : It → Hp → Prop) (x : V) (H : Hp) : Prop := ∃ a, x = .ref a ∧ (∃ xs, SqL K H a xs) ∧ R (Itl K a) H
def itT (K : PySem.W.Frag) (R : It → Hp → Prop) (x : V) (H : Hp) : Prop := ∃ a, x = .ref a ∧ (∃ xs, SqT K H a xs) ∧ R (Itt K a) H
def itR (R : It → Hp → Prop) (vs : List V) (H : Hp) : Prop := ∃ j : Int, vs = [.int j] ∧ -(2 ^ 62) ≤ j ∧ j < 2 ^ 62 ∧ R (Itr 0 j.toNat) H
def itV (K : PySem.W.Frag) (R : It → Hp → Prop) (vs : List V) (H : Hp) : Prop := ∃ (a : Addr) (xs : List V), vs = [.ref a] ∧ SqL K H a xs ∧ R (Itv K a xs.length) H
def itZ (K : PySem.W.Frag) (R : It → Hp → Prop) (vs : List V) (H : Hp) : Prop := ∃ a b xs ys, vs = [.ref a, .ref b] ∧ SqL K H a xs ∧ SqL K H b ys ∧ R (Itz K a b) H
variable {R : It → Hp → Prop}
theorem i_itL (h : te σ H fun x H1 => itL K R x H1) : iList K te σ H R := h
theorem i_itT (h : te σ H fun x H1 => itT K R x H1) : iTup K te σ H R := h
theorem i_itR (h : tc σ H fun x H1 => itR R x H1) : iRng1 tc σ H R := h
theorem i_itV (h : tc σ H fun x H1 => itV K R x H1) : iRev K tc σ H R := h
theorem i_itZ (h : tc σ H fun x H1 => itZ K R x H1) : iZip K tc σ H R := h
theorem i_wL (hl : SqL K H p xs) (h : R (Itl K p) H) : itL K R (.ref p) H := ⟨p, rfl, ⟨xs, hl⟩, h⟩
theorem i_wT (hl : SqT K H p xs) (h : R (Itt K p) H) : itT K R (.ref p) H := ⟨p, rfl, ⟨xs, hl⟩, h⟩
theorem i_wR {m : Nat} (hm : m < 2 ^ 62) (h : R (Itr 0 m) H) : itR R [.int (m : Int)] H := ⟨(m : Int), rfl, by omega, by omega, by rw [Int.toNat_natCast]; exact h⟩
theorem i_wV (hl : SqL K H p xs) (h : R (Itv K p xs.length) H) : itV K R [.ref p] H := ⟨p, xs, rfl, hl, h⟩
theorem i_wZ {q : Addr} (hl : SqL K H p xs) (hq : SqL K H q ys) (h : R (Itz K p q) H) : itZ K R [.ref p, .ref q] H := ⟨p, q, xs, ys, rfl, hl, hq, h⟩
variable {J : It} {m : Nat} {G : Hp → Prop} {Y : Nat → Hp → V → Hp → Prop}
theorem i_forW (w : Walk J m G Y) (Pv : Nat → SSt → Hp → Prop) (h0 : Pv 0 σ H) (hG : ∀ i σ H, i ≤ m → Pv i σ H → G H)
    (hs : ∀ i x σ H H', i < m → Pv i σ H → Y i H x H' → g x σ H' fun σ2 H2 => tb ⟨Pv (i + 1), r, n, Pv (i + 1)⟩ σ2 H2) (hd : ∀ σ H, Pv m σ H → n σ H) : forR g tb ⟨n, r, b, c⟩ σ J H :=
  for_it w Pv h0 hG hs hd
theorem i_lcW {zs : List Nat} (w : Walk J m G Y) (f : Nat → List V) (h0 : f 0 = []) (hz : ∀ i, i < m → (f i).length < sizeLine) (hG : ∀ H', Same H H' → G H')
    (hs : ∀ i x H1 H' (N1 : V → Hp → Prop) (N0 : Hp → Prop), i < m → Same H H1 → Y i H1 x H' → (∀ y H4, Same H1 H4 → f (i + 1) = f i ++ [y] → N1 y H4) → (∀ H3, Same H1 H3 → f (i + 1) = f i → N0 H3) →
      g x (wipe σ zs) H' fun σ2 H2 => wipe σ2 zs = wipe σ zs ∧ tt σ2 H2 fun z H3 => if z = true then te σ2 H3 N1 else N0 H3)
    (hd : ∀ D H', H D = none → Same H H' → H' D = some (.lst (f m)) → Q (.ref D) H') : lcR g tt te zs σ Q J H := by
  intro D hD
  refine lc_it w (Pv := fun i H' => Same H H' ∧ H' D = some (.lst (f i))) ⟨Same.new hD, by rw [h0]; exact upd_same⟩ (fun i H' _ q => hG H' q.1) (fun i x H1 H' hi q y => ?_) fun H' q => hd D H' hD q.1 q.2
  refine hs i x H1 H' _ _ hi q.1 y (fun y H4 s4 e4 => ?_) (fun H3 s3 e3 => ?_)
  · exact ⟨f i, s4 D _ q.2, hz i hi, Same.mut (Same.trans q.1 s4) hD, by rw [e4]; exact upd_same⟩
  · exact ⟨Same.trans q.1 s3, by rw [e3]; exact s3 D _ q.2⟩
end
end Af
set_option Elab.async false
set_option linter.all false
set_option maxRecDepth 100000
set_option maxHeartbeats 2000000
/-! # list(reversed(xs)); a dict of the module with whole keys -/
namespace RT
open PySem PySem.Spec PyProof.Rows
section
variable {prog : Program} {w : World} {A : Around} {E : Value → Shared → Prop} {s : Shared} {R : Result → Shared → Prop}
theorem list_init_rev {S it l : Addr} {items : Array Value} (hh : A.in1.handled = none) (hit : s.heap.IsRevIter it l ((items.size : Int) - 1)) (hl : s.heap.IsList l items) (hne : l ≠ it) (hn : items.size ≤ sizeLine) (hSi : S ≠ it) (hSl : S ≠ l)
    (hS : s.heap.get? S = some { cls := .type "list", data := .seq #[] })
    (hR : ∀ (h' : Heap) (tk : Nat) (acc : Array Value) (c' : Nat), (∀ b o, b ≠ it → b ≠ S → s.heap.get? b = some o → h'.get? b = some o) → h'.get? S = some { cls := .type "list", dict := none, data := .seq acc c', slots := #[] } → ItemsOf (fun i v => items[items.size - 1 - i]? = some v) acc items.size →
      R (.ok (.ret .none)) { s with heap := h', toks := tk }) :
    wpAny (model prog w) A.in1 (Builtin.«list.__init__» ⟨[.ref S, .ref it], []⟩)
      (fun fin s' => match fin with | .done f => R (.ok f) s' | .again c' => c'.quiet = true ∧ codeAny (model prog w) A c' R s') (fun e s' => R (.error e) s') s := by
  have W := (Walks.listRev (prog := prog) (w := w) (A := A.in1) hh it l hne items).toS
  have hSf : S ∉ [it, l] := by simp only [List.mem_cons, List.not_mem_nil, or_false, not_or]; exact ⟨hSi, hSl⟩
  show wpAny _ A.in1 (do let old ← Builtin.List.listItems (.ref S); Builtin.List.listUpdate (.ref S) (fun _ => #[]); letGo old.toList.reverse; Builtin.List.listExtendWith (.ref S) (.ref it) .none) _ _ s
  refine wpAny_bind ?_
  unfold Builtin.List.listItems
  refine wpAny_bind (wpAny_seqItems hS rfl (wpAny_pure ?_))
  show wpAny _ A.in1 (updateSeq S (fun _ => #[]) >>= fun _ => letGo (#[] : Array Value).toList.reverse >>= fun _ => Builtin.List.listExtendWith (.ref S) (.ref it) .none) _ _ s
  refine wpAny_bind (wpAny_updateSeq hS rfl ?_)
  have hS₂ := Heap.get?_update_self (Obj.mapSeq (fun _ => (#[] : Array Value))) hS rfl
  have oth : ∀ b o, b ≠ S → s.heap.get? b = some o → (s.heap.update S (Obj.mapSeq (fun _ => (#[] : Array Value)))).get? b = some o :=
    fun b o hb e => (Heap.get?_update_other _ _ (Ne.symm hb)).trans e
  refine wpAny_bind (wpAny_letGo ?_)
  have hit1 : (s.heap.update S (Obj.mapSeq (fun _ => (#[] : Array Value)))).IsRevIter it l ((items.size : Int) - 1) := hit.at fun o e => oth _ o (Ne.symm hSi) e
  have hl1 : (s.heap.update S (Obj.mapSeq (fun _ => (#[] : Array Value)))).IsList l items := hl.at fun o e => oth _ o (Ne.symm hSl) e
  have hT : ({ s with heap := s.heap.update S (Obj.mapSeq (fun _ => (#[] : Array Value))) } : Shared).TypeIs (.ref it) "list_reverseiterator" := Heap.IsRevIter.typeIs (s := { s with heap := s.heap.update S (Obj.mapSeq (fun _ => (#[] : Array Value))) }) hit1
  have h1 : Builtin.List.listSameRef (.ref S) (.ref it) = false := by simp [Builtin.List.listSameRef, hSi]
  unfold Builtin.List.listExtendWith
  refine wpAny_bind (wpAny_typeOf hT ?_)
  rw [if_neg (by rw [h1]; decide)]
  refine wpAny_bind (wpAny_pyIter_revIter (s := { s with heap := s.heap.update S (Obj.mapSeq (fun _ => (#[] : Array Value))) }) hit1 ?_)
  refine wpAny_bind (wpAny_holding ?_)
  unfold Builtin.List.listLengthHint
  refine wpAny_bind (wpAny_specialOf hT nolen_lri ?_)
  show wpAny _ A.in1 (specialOf (Value.ref it) (Str.ofString "__length_hint__") >>= _) _ _ _
  refine wpAny_bind (wpAny_specialOf hT hint_lri ?_)
  generalize hid : ("list_reverseiterator.__length_hint__" : String) = id0
  wp_delta
  rw [show splitId id0 = some ("list_reverseiterator", "__length_hint__") from by subst hid; decide +kernel]
  subst hid
  refine wpAny_bind (wpAny_isInstance (b := true) hT (by rw [isSubtype_type]; kernel_rfl) ?_)
  refine wpAny_pure ?_
  rw [if_neg (by decide)]
  have e0 : ((items.size : Nat) : Int) - 1 - ((0 : Nat) : Int) = (items.size : Int) - 1 := by omega
  refine wpAny_pure ⟨plainId_quiet F.plain_extend_loop _, codeAny_extend_loopS W hn _ hSf _ items.size 0 _ _ _ rfl (Nat.zero_le _) ⟨Nat.zero_le _, by rw [e0]; exact hit1, hl1⟩ hS₂ (ItemsOf.nil _) fun s' acc' c' hm hS' hacc => ?_⟩
  have e := Moved.eq_with hm
  rw [e]
  refine hR s'.heap s'.toks acc' c' (fun b o hb hbS eb => hm.heap b o (fun hmem => ?_) (oth b o hbS eb)) hS' hacc
  rcases List.mem_cons.mp hmem with e' | hmem
  · exact hbS e'
  · exact hb (List.mem_singleton.mp hmem)
theorem call_list_rev {it l : Addr} {items : Array Value} {Q : Value → Shared → Prop} (hh : A.handled = none) (hit : s.heap.IsRevIter it l ((items.size : Int) - 1)) (hl : s.heap.IsList l items) (hne : l ≠ it) (hn : items.size ≤ sizeLine)
    (hQ : ∀ (h' : Heap) (tk : Nat) (acc : Array Value) (c' : Nat), (∀ b o, b ≠ it → s.heap.get? b = some o → h'.get? b = some o) → h'.get? s.heap.objs.size = some { cls := .type "list", dict := none, data := .seq acc c', slots := #[] } → ItemsOf (fun i v => items[items.size - 1 - i]? = some v) acc items.size →
      Q (.ref s.heap.objs.size) { s with heap := h', toks := tk }) :
    wpAny (model prog w) A (call (.type "list") [.ref it]) Q E s := by
  obtain ⟨oi, hoi, _⟩ := id hit
  obtain ⟨ol, hol, _⟩ := id hl
  have hSi : s.heap.objs.size ≠ it := Nat.ne_of_gt (Heap.lt_size hoi)
  have hSl : s.heap.objs.size ≠ l := Nat.ne_of_gt (Heap.lt_size hol)
  refine callType_codes (Q₁ := fun obj s₁ => obj = .ref s.heap.objs.size ∧ s₁ = { s with heap := s.heap.push { cls := .type "list", data := .seq #[] } }) F.called_list (F.typeCall_list_1 _) F.entry_list_init
    (code_list_new _ ⟨rfl, rfl⟩) fun obj s₁ h₁ => ?_
  obtain ⟨rfl, rfl⟩ := h₁
  have hS : (s.heap.push { cls := .type "list", data := .seq #[] }).get? s.heap.objs.size = some { cls := .type "list", data := .seq #[] } := Heap.get?_push_size _ rfl
  refine ⟨⟨_, hS, rfl⟩, F.args_list_init_2 _ _, list_init_rev (s := { s with heap := s.heap.push { cls := .type "list", data := .seq #[] } }) hh (hit.at fun o e => Heap.get?_push_of_some _ e) (hl.push _) hne hn hSi hSl hS fun h' tk acc c' hk hS' hacc => ?_⟩
  exact ⟨rfl, hQ h' tk acc c' (fun b o hb e => hk b o hb (Nat.ne_of_lt (Heap.lt_size e)) (Heap.get?_push_of_some _ e)) hS' hacc⟩
end
end RT
namespace Af
open PySem PySem.Spec PyProof.Rows L2 RT
section
variable {X : Cx}
/-- list(reversed(xs)) -/
def tLstRev (K : PySem.W.Frag) (te : TE) : TE := fun σ H Q => te σ H fun v H1 => ∃ (a : Addr) (xs : List V), v = .ref a ∧ SqL K H1 a xs ∧ ∀ q H', H1 q = none → Same H1 H' → H' q = some (.lst xs.reverse) → Q (.ref q) H'
theorem pe_lstRev {e : Expr} {te : TE} {p p2 pos pos2 : Pos} (hc : X.calm = true) (hg : Gl X "list") (hm : X.mg "list" = none) (hg2 : Gl X "reversed") (hm2 : X.mg "reversed" = none) (he : PE X e te)
    (hs : starEach [e] X.env = (false, eval e X.env) :: starEach [] X.env := by rfl)
    (hs2 : starEach [.Call (.Name "reversed" p2) [e] [] pos2] X.env = (false, eval (.Call (.Name "reversed" p2) [e] [] pos2) X.env) :: starEach [] X.env := by rfl) :
    PE X (.Call (.Name "list" p) [.Call (.Name "reversed" p2) [e] [] pos2] [] pos) (tLstRev X.K te) := by
  refine ⟨fun pins s σ H Q I h => ?_⟩
  refine Call_ (ld_blt I hg hm boot_list (PyProof.Rows.callWith_type1 (args_cons (Call_ (ld_blt I hg2 hm2 PyProof.Rows.boot_reversed (PyProof.Rows.callWith_type1 (args_cons (thn (he.run pins s σ H _ I h) fun u s1 ⟨v, H1, I1, r1, q1⟩ => args_nil ?_) hs) hs rfl))) hs2) hs2 rfl))
  obtain ⟨a, xs, ev, hq, q⟩ := q1
  subst ev
  obtain rfl : u = Value.ref a := r1
  obtain ⟨its, rv, p', hz⟩ := I1.list hq
  refine call_reversed_list p'.isList (args_nil ?_)
  have k0 : ∀ b o, s1.heap.get? b = some o → (s1.heap.push (revObj a ((its.toArray.size : Int) - 1))).get? b = some o := fun b o e => Heap.get?_push_of_some _ e
  have I2 : Inv X pins σ H1 { s1 with heap := s1.heap.push (revObj a ((its.toArray.size : Int) - 1)) } := I1.kept (t' := s1.toks) k0
  obtain ⟨f0, f1, f2, f3, f4, f5⟩ := I1.fpOk (H' := H1) (b := s1.heap.objs.size) (Nat.le_refl _) (I1.hok.fresh (Nat.le_refl _))
  have hl := p'.isList
  obtain ⟨ol, hol, _⟩ := id hl
  have hne : a ≠ s1.heap.objs.size := Nat.ne_of_lt (Heap.lt_size hol)
  have hn : its.toArray.size ≤ sizeLine := by rw [List.size_toArray, ← rv.length]; exact hz
  refine call_list_rev (s := { s1 with heap := s1.heap.push (revObj a ((its.toArray.size : Int) - 1)) }) (I1.ok.hd hc) ⟨_, Heap.get?_push_size _ rfl, rfl, rfl⟩ (hl.push _) hne hn fun h' tk acc c' hk hS' hi => ?_
  -- the iterator and the new list are new: laid over the first state
  have k2 : ∀ b o, s1.heap.get? b = some o → h'.get? b = some o := fun b o e => hk b o (Nat.ne_of_lt (Heap.lt_size e)) (k0 b o e)
  have hsz : s1.heap.objs.size ≤ (s1.heap.push (revObj a ((its.toArray.size : Int) - 1))).objs.size := by rw [Heap.size_push]; exact Nat.le_succ _
  have hfree : H1 (s1.heap.push (revObj a ((its.toArray.size : Int) - 1))).objs.size = none := I1.hok.fresh hsz
  refine ⟨.ref (s1.heap.push (revObj a ((its.toArray.size : Int) - 1))).objs.size, upd H1 (s1.heap.push (revObj a ((its.toArray.size : Int) - 1))).objs.size (.lst xs.reverse),
    I1.laid (t' := tk) k2 hsz (show ObjOk X.prog X.w _ _ _ (.lst xs.reverse) from ⟨by rw [List.length_reverse]; exact hz, acc.toList, c', vals_rev rv hi, ?_⟩), rfl, q _ _ hfree (Same.new hfree) upd_same⟩
  rw [Array.toArray_toList]
  exact hS'
end
end Af
set_option Elab.async false
set_option linter.all false
set_option maxRecDepth 100000
set_option maxHeartbeats 2000000
namespace Af
open PySem PySem.Spec PyProof.Rows L2
/-! # FORMS: a dict of the module whose keys are 1 to 10, its values tuples of texts -/
def formM (c : Nat) : List Str := match c with
  | 1 => ["task", "plan", "octet", "octet"]
  | 2 => ["task", "octet", "octet"]
  | 3 => ["task", "octet", "octet"]
  | 4 => ["task", "plan", "octet", "integer"]
  | 5 => ["task"]
  | 6 => ["octet", "flag"]
  | 7 => ["octet", "octet"]
  | _ => []
/-- at a: a tuple of the module -/
def Tp (K : PySem.W.Frag) (a : Addr) (ws : List Str) : Prop := SqT K (fun _ => none) a (ws.map V.str)
theorem Tp.at {K : PySem.W.Frag} {a : Addr} {ws : List Str} (h : Tp K a ws) (H : Hp) : SqT K H a (ws.map V.str) := by
  rcases h with (h | ⟨o, h⟩) | h
  · cases h
  · cases h
  · exact .inr h
theorem tp_mk {K : PySem.W.Frag} {a : Addr} {ws : List Str} {its : Array Value} {n : Nat} {od : Option Addr} {sl : Array (Option Value)} (h : K.lookup a = some ⟨.type "tuple", od, .seq its n, sl⟩) (hz : its.size ≤ sizeLine) (hv : Vals (ws.map V.str) its.toList) : Tp K a ws :=
  .inr ⟨_, its, n, h, rfl, rfl, hz, hv⟩
structure KForms (K : PySem.W.Frag) (mg : Str → Option Value) (d : Addr) (as : Nat → Addr) : Prop where
  g : mg "FORMS" = some (.ref d)
  low : (d == sysModules) = false
  at_ : ∃ (t : Nat → Tok) (n : Nat), K.lookup d = some ⟨.type "dict", none, .dict #[⟨1, .int 1 (t 1), .ref (as 1)⟩, ⟨2, .int 2 (t 2), .ref (as 2)⟩, ⟨3, .int 3 (t 3), .ref (as 3)⟩, ⟨4, .int 4 (t 4), .ref (as 4)⟩, ⟨5, .int 5 (t 5), .ref (as 5)⟩,
    ⟨6, .int 6 (t 6), .ref (as 6)⟩, ⟨7, .int 7 (t 7), .ref (as 7)⟩, ⟨8, .int 8 (t 8), .ref (as 8)⟩, ⟨9, .int 9 (t 9), .ref (as 9)⟩, ⟨10, .int 10 (t 10), .ref (as 10)⟩] n, #[]⟩
  tp : ∀ i, 1 ≤ i → i ≤ 10 → Tp K (as i) (formM i)
def fkv (as : Nat → Addr) : List (Int × Value) := [(1, .ref (as 1)), (2, .ref (as 2)), (3, .ref (as 3)), (4, .ref (as 4)), (5, .ref (as 5)), (6, .ref (as 6)), (7, .ref (as 7)), (8, .ref (as 8)), (9, .ref (as 9)), (10, .ref (as 10))]
section
variable {K : PySem.W.Frag} {mg : Str → Option Value} {d : Addr} {as : Nat → Addr}
theorem key_is {P : Program} {w : World} (k : Int) (t : Tok) : (intKind P w).is k (.int k t) = true := intKind_is P w k t
theorem KForms.dict {P : Program} {w : World} {h : Heap} (F : KForms K mg d as) (X : K.In h) : h.DictOf (intKind P w) d (fkv as) := by
  obtain ⟨t, n, e⟩ := F.at_
  refine ⟨_, _, _, X _ _ e, ⟨rfl, rfl, rfl⟩, rfl, ?_, ?_, ?_⟩
  · intro e he
    simp only [List.mem_toArray, List.mem_cons, List.not_mem_nil, or_false] at he
    rcases he with rfl | rfl | rfl | rfl | rfl | rfl | rfl | rfl | rfl | rfl
    · exact ⟨1, key_is _ _, by rfl⟩
    · exact ⟨2, key_is _ _, by rfl⟩
    · exact ⟨3, key_is _ _, by rfl⟩
    · exact ⟨4, key_is _ _, by rfl⟩
    · exact ⟨5, key_is _ _, by rfl⟩
    · exact ⟨6, key_is _ _, by rfl⟩
    · exact ⟨7, key_is _ _, by rfl⟩
    · exact ⟨8, key_is _ _, by rfl⟩
    · exact ⟨9, key_is _ _, by rfl⟩
    · exact ⟨10, key_is _ _, by rfl⟩
  · exact .cons (key_is _ _) rfl (.cons (key_is _ _) rfl (.cons (key_is _ _) rfl (.cons (key_is _ _) rfl (.cons (key_is _ _) rfl (.cons (key_is _ _) rfl (.cons (key_is _ _) rfl (.cons (key_is _ _) rfl (.cons (key_is _ _) rfl (.cons (key_is _ _) rfl .nil)))))))))
  · show [(1 : Int), 2, 3, 4, 5, 6, 7, 8, 9, 10].Nodup
    decide
theorem fkv_at (as : Nat → Addr) (c : Nat) (h1 : 1 ≤ c) (h2 : c ≤ 10) : valueAt (fkv as) (c : Int) = some (.ref (as c)) := by
  have : c = 1 ∨ c = 2 ∨ c = 3 ∨ c = 4 ∨ c = 5 ∨ c = 6 ∨ c = 7 ∨ c = 8 ∨ c = 9 ∨ c = 10 := by omega
  rcases this with rfl | rfl | rfl | rfl | rfl | rfl | rfl | rfl | rfl | rfl <;> rfl
theorem fkv_none (as : Nat → Addr) (c : Nat) (h : ¬ (1 ≤ c ∧ c ≤ 10)) : valueAt (fkv as) (c : Int) = none := by
  unfold valueAt
  rw [List.find?_eq_none.mpr, Option.map_none]
  intro x hx
  simp only [fkv, List.mem_cons, List.not_mem_nil, or_false] at hx
  rcases hx with rfl | rfl | rfl | rfl | rfl | rfl | rfl | rfl | rfl | rfl <;> (simp only [decide_eq_true_eq]; omega)
/-- c not in FORMS -/
def rNotF (d : Addr) : R2 := fun x y H Q => ∃ c : Nat, x = .int (c : Int) ∧ y = .ref d ∧ Q (.bl (!decide (1 ≤ c ∧ c ≤ 10))) H
/-- FORMS[c] -/
def rIxF (d : Addr) (as : Nat → Addr) : R2 := fun x y H Q => ∃ c : Nat, x = .ref d ∧ y = .int (c : Int) ∧ 1 ≤ c ∧ c ≤ 10 ∧ Q (.ref (as c)) H
theorem op_notF {X : Cx} (F : KForms X.K mg d as) : OpR X (compareOp .NotIn) (rNotF d) := by
  intro pins s σ H x y v u Q I rx ry h
  obtain ⟨c, rfl, rfl, q⟩ := h
  obtain ⟨t, rfl⟩ := rx
  cases ry
  refine wpAny_notIn_of (k := (c : Int)) (key_is _ _) F.low (F.dict (P := X.prog) (w := X.w) I.kIn).mapOf ?_
  refine ⟨.bl (!decide (1 ≤ c ∧ c ≤ 10)), H, I.tok _, ?_, q⟩
  show Value.bool _ = Value.bool _
  by_cases hc : 1 ≤ c ∧ c ≤ 10
  · rw [fkv_at as c hc.1 hc.2, decide_eq_true hc]; rfl
  · rw [fkv_none as c hc, decide_eq_false hc]; rfl
theorem ix_F {X : Cx} (F : KForms X.K mg d as) : IxR X (rIxF d as) := by
  intro value slice pins s σ H x y v u Q I rx ry h hs
  obtain ⟨c, rfl, rfl, h1, h2, q⟩ := h
  obtain rfl : v = Value.ref d := rx
  obtain ⟨t, rfl⟩ := ry
  have hm := (F.dict (P := X.prog) (w := X.w) I.kIn).mapOf
  exact tail_any hm.typeIs slot_dict_getitem.lookup (wpAny_getItem_of (k := (c : Int)) (key_is _ _) hm (fkv_at as c h1 h2) ⟨.ref (as c), H, I.tok _, rfl, q⟩) hs
end
end Af
set_option Elab.async false
set_option linter.all false
set_option maxRecDepth 100000
set_option maxHeartbeats 2000000
/-! # The text by its places; what the top has written -/
namespace Af
open PySem PySem.Spec PyProof.Rows L2
def top (i : Nat) : Stmt := PySem.Challenge.pw_askfirst_s01_answers.main.body.getD i (.Pass ⟨0, 0, 0, 0⟩)
abbrev s_are_rewards : Stmt := top 8
abbrev N_are_rewards : List Str := (["row", "many", "reward"] : List Str)
theorem sc_are_rewards : FnScope N_are_rewards (["row", "many"] : List Str) (defScope s_are_rewards) := ⟨rfl, rfl, rfl, by decide +kernel, rfl, by decide +kernel, by decide +kernel⟩
abbrev s_is_task : Stmt := top 9
abbrev N_is_task : List Str := (["task", "unit", "weights", "rewards", "many", "row"] : List Str)
theorem sc_is_task : FnScope N_is_task (["task"] : List Str) (defScope s_is_task) := ⟨rfl, rfl, rfl, by decide +kernel, rfl, by decide +kernel, by decide +kernel⟩
abbrev s_action_count : Stmt := top 10
abbrev N_action_count : List Str := (["task", "rewards"] : List Str)
theorem sc_action_count : FnScope N_action_count (["task"] : List Str) (defScope s_action_count) := ⟨rfl, rfl, rfl, by decide +kernel, rfl, by decide +kernel, by decide +kernel⟩
abbrev s_is_action : Stmt := top 11
abbrev N_is_action : List Str := (["task", "action"] : List Str)
theorem sc_is_action : FnScope N_is_action (["task", "action"] : List Str) (defScope s_is_action) := ⟨rfl, rfl, rfl, by decide +kernel, rfl, by decide +kernel, by decide +kernel⟩
abbrev s_is_plan : Stmt := top 12
abbrev N_is_plan : List Str := (["task", "plan", "proposals", "ending", "seen", "action"] : List Str)
theorem sc_is_plan : FnScope N_is_plan (["task", "plan"] : List Str) (defScope s_is_plan) := ⟨rfl, rfl, rfl, by decide +kernel, rfl, by decide +kernel, by decide +kernel⟩
abbrev s_is_error : Stmt := top 13
abbrev N_is_error : List Str := (["error"] : List Str)
theorem sc_is_error : FnScope N_is_error (["error"] : List Str) (defScope s_is_error) := ⟨rfl, rfl, rfl, by decide +kernel, rfl, by decide +kernel, by decide +kernel⟩
abbrev s_is_cost : Stmt := top 14
abbrev N_is_cost : List Str := (["cost"] : List Str)
theorem sc_is_cost : FnScope N_is_cost (["cost"] : List Str) (defScope s_is_cost) := ⟨rfl, rfl, rfl, by decide +kernel, rfl, by decide +kernel, by decide +kernel⟩
abbrev s_is_level : Stmt := top 15
abbrev N_is_level : List Str := (["level"] : List Str)
theorem sc_is_level : FnScope N_is_level (["level"] : List Str) (defScope s_is_level) := ⟨rfl, rfl, rfl, by decide +kernel, rfl, by decide +kernel, by decide +kernel⟩
abbrev s_common : Stmt := top 17
abbrev N_common : List Str := (["first", "second", "big", "small"] : List Str)
theorem sc_common : FnScope N_common (["first", "second"] : List Str) (defScope s_common) := ⟨rfl, rfl, rfl, by decide +kernel, rfl, by decide +kernel, by decide +kernel⟩
abbrev s_lowest : Stmt := top 18
abbrev N_lowest : List Str := (["top", "bottom", "part"] : List Str)
theorem sc_lowest : FnScope N_lowest (["top", "bottom"] : List Str) (defScope s_lowest) := ⟨rfl, rfl, rfl, by decide +kernel, rfl, by decide +kernel, by decide +kernel⟩
abbrev s_column : Stmt := top 20
abbrev N_column : List Str := (["task", "action", "row"] : List Str)
theorem sc_column : FnScope N_column (["task", "action"] : List Str) (defScope s_column) := ⟨rfl, rfl, rfl, by decide +kernel, rfl, by decide +kernel, by decide +kernel⟩
abbrev s_ending_rests : Stmt := top 21
abbrev N_ending_rests : List Str := (["task", "ending", "row"] : List Str)
theorem sc_ending_rests : FnScope N_ending_rests (["task", "ending"] : List Str) (defScope s_ending_rests) := ⟨rfl, rfl, rfl, by decide +kernel, rfl, by decide +kernel, by decide +kernel⟩
abbrev s_yes_chance : Stmt := top 22
abbrev N_yes_chance : List Str := (["reward", "rest", "scale", "error", "accepted"] : List Str)
theorem sc_yes_chance : FnScope N_yes_chance (["reward", "rest", "scale", "error"] : List Str) (defScope s_yes_chance) := ⟨rfl, rfl, rfl, by decide +kernel, rfl, by decide +kernel, by decide +kernel⟩
abbrev s_worst_chances : Stmt := top 23
abbrev N_worst_chances : List Str := (["rewards", "rests", "scale", "error", "rest", "reward"] : List Str)
theorem sc_worst_chances : FnScope N_worst_chances (["rewards", "rests", "scale", "error"] : List Str) (defScope s_worst_chances) := ⟨rfl, rfl, rfl, by decide +kernel, rfl, by decide +kernel, by decide +kernel⟩
abbrev s_with_proposal : Stmt := top 24
abbrev N_with_proposal : List Str := (["rewards", "chances", "rests", "scale", "cost", "found", "taste", "accepted", "declined"] : List Str)
theorem sc_with_proposal : FnScope N_with_proposal (["rewards", "chances", "rests", "scale", "cost"] : List Str) (defScope s_with_proposal) := ⟨rfl, rfl, rfl, by decide +kernel, rfl, by decide +kernel, by decide +kernel⟩
abbrev s_put_ahead : Stmt := top 25
abbrev N_put_ahead : List Str := (["task", "action", "rests", "scale", "error", "cost", "rewards", "chances"] : List Str)
theorem sc_put_ahead : FnScope N_put_ahead (["task", "action", "rests", "scale", "error", "cost"] : List Str) (defScope s_put_ahead) := ⟨rfl, rfl, rfl, by decide +kernel, rfl, by decide +kernel, by decide +kernel⟩
abbrev s_put_all_ahead : Stmt := top 26
abbrev N_put_all_ahead : List Str := (["task", "proposals", "rests", "scale", "error", "cost", "found", "wide", "action"] : List Str)
theorem sc_put_all_ahead : FnScope N_put_all_ahead (["task", "proposals", "rests", "scale", "error", "cost"] : List Str) (defScope s_put_all_ahead) := ⟨rfl, rfl, rfl, by decide +kernel, rfl, by decide +kernel, by decide +kernel⟩
abbrev s_weighed : Stmt := top 27
abbrev N_weighed : List Str := (["task", "rests", "rest", "weight"] : List Str)
theorem sc_weighed : FnScope N_weighed (["task", "rests"] : List Str) (defScope s_weighed) := ⟨rfl, rfl, rfl, by decide +kernel, rfl, by decide +kernel, by decide +kernel⟩
abbrev s_plan_sum : Stmt := top 28
abbrev N_plan_sum : List Str := (["task", "plan", "error", "cost", "proposals", "ending", "rests", "scale"] : List Str)
theorem sc_plan_sum : FnScope N_plan_sum (["task", "plan", "error", "cost"] : List Str) (defScope s_plan_sum) := ⟨rfl, rfl, rfl, by decide +kernel, rfl, by decide +kernel, by decide +kernel⟩
abbrev s_sure_of : Stmt := top 29
abbrev N_sure_of : List Str := (["task", "plan", "error", "cost", "top", "bottom"] : List Str)
theorem sc_sure_of : FnScope N_sure_of (["task", "plan", "error", "cost"] : List Str) (defScope s_sure_of) := ⟨rfl, rfl, rfl, by decide +kernel, rfl, by decide +kernel, by decide +kernel⟩
abbrev s_worst_columns : Stmt := top 30
abbrev N_worst_columns : List Str := (["task", "plan", "error", "cost", "proposals", "ending", "rests", "scale", "columns", "action", "rewards", "chances"] : List Str)
theorem sc_worst_columns : FnScope N_worst_columns (["task", "plan", "error", "cost"] : List Str) (defScope s_worst_columns) := ⟨rfl, rfl, rfl, by decide +kernel, rfl, by decide +kernel, by decide +kernel⟩
abbrev s_worst_answers : Stmt := top 31
abbrev N_worst_answers : List Str := (["task", "plan", "error", "cost", "columns", "found", "taste", "chances"] : List Str)
theorem sc_worst_answers : FnScope N_worst_answers (["task", "plan", "error", "cost"] : List Str) (defScope s_worst_answers) := ⟨rfl, rfl, rfl, by decide +kernel, rfl, by decide +kernel, by decide +kernel⟩
abbrev s_greatest_error : Stmt := top 32
abbrev N_greatest_error : List Str := (["task", "plan", "cost", "level", "error", "top", "bottom"] : List Str)
theorem sc_greatest_error : FnScope N_greatest_error (["task", "plan", "cost", "level"] : List Str) (defScope s_greatest_error) := ⟨rfl, rfl, rfl, by decide +kernel, rfl, by decide +kernel, by decide +kernel⟩
abbrev s_endings : Stmt := top 34
abbrev N_endings : List Str := (["task", "plans", "action"] : List Str)
theorem sc_endings : FnScope N_endings (["task"] : List Str) (defScope s_endings) := ⟨rfl, rfl, rfl, by decide +kernel, rfl, by decide +kernel, by decide +kernel⟩
abbrev s_longer : Stmt := top 35
abbrev N_longer : List Str := (["task", "actions", "plans", "scale", "error", "cost", "found", "action", "proposals", "ending", "rests", "ahead"] : List Str)
theorem sc_longer : FnScope N_longer (["task", "actions", "plans", "scale", "error", "cost"] : List Str) (defScope s_longer) := ⟨rfl, rfl, rfl, by decide +kernel, rfl, by decide +kernel, by decide +kernel⟩
abbrev s_sums : Stmt := top 36
abbrev N_sums : List Str := (["task", "before", "plans", "scale", "error", "cost", "found", "proposals", "ending", "rests", "ahead", "wide"] : List Str)
theorem sc_sums : FnScope N_sums (["task", "before", "plans", "scale", "error", "cost"] : List Str) (defScope s_sums) := ⟨rfl, rfl, rfl, by decide +kernel, rfl, by decide +kernel, by decide +kernel⟩
abbrev s_all_sums : Stmt := top 37
abbrev N_all_sums : List Str := (["task", "before", "error", "cost", "actions", "plans", "scale", "found", "turn", "action"] : List Str)
theorem sc_all_sums : FnScope N_all_sums (["task", "before", "error", "cost"] : List Str) (defScope s_all_sums) := ⟨rfl, rfl, rfl, by decide +kernel, rfl, by decide +kernel, by decide +kernel⟩
abbrev s_best_plan : Stmt := top 38
abbrev N_best_plan : List Str := (["task", "before", "error", "cost", "rows", "best", "top", "bottom", "plan", "upper", "lower"] : List Str)
theorem sc_best_plan : FnScope N_best_plan (["task", "before", "error", "cost"] : List Str) (defScope s_best_plan) := ⟨rfl, rfl, rfl, by decide +kernel, rfl, by decide +kernel, by decide +kernel⟩
abbrev s_low_octets : Stmt := top 51
abbrev N_low_octets : List Str := (["number", "many", "rest", "octets", "turn"] : List Str)
theorem sc_low_octets : FnScope N_low_octets (["number", "many"] : List Str) (defScope s_low_octets) := ⟨rfl, rfl, rfl, by decide +kernel, rfl, by decide +kernel, by decide +kernel⟩
abbrev s_put_count : Stmt := top 52
abbrev N_put_count : List Str := (["many"] : List Str)
theorem sc_put_count : FnScope N_put_count (["many"] : List Str) (defScope s_put_count) := ⟨rfl, rfl, rfl, by decide +kernel, rfl, by decide +kernel, by decide +kernel⟩
abbrev s_put_fraction : Stmt := top 53
abbrev N_put_fraction : List Str := (["fraction", "top", "bottom"] : List Str)
theorem sc_put_fraction : FnScope N_put_fraction (["fraction"] : List Str) (defScope s_put_fraction) := ⟨rfl, rfl, rfl, by decide +kernel, rfl, by decide +kernel, by decide +kernel⟩
abbrev s_put_fractions : Stmt := top 54
abbrev N_put_fractions : List Str := (["fractions", "octets", "fraction"] : List Str)
theorem sc_put_fractions : FnScope N_put_fractions (["fractions"] : List Str) (defScope s_put_fractions) := ⟨rfl, rfl, rfl, by decide +kernel, rfl, by decide +kernel, by decide +kernel⟩
abbrev s_put_octets : Stmt := top 55
abbrev N_put_octets : List Str := (["row"] : List Str)
theorem sc_put_octets : FnScope N_put_octets (["row"] : List Str) (defScope s_put_octets) := ⟨rfl, rfl, rfl, by decide +kernel, rfl, by decide +kernel, by decide +kernel⟩
abbrev s_put_maybe : Stmt := top 56
abbrev N_put_maybe : List Str := (["number"] : List Str)
theorem sc_put_maybe : FnScope N_put_maybe (["number"] : List Str) (defScope s_put_maybe) := ⟨rfl, rfl, rfl, by decide +kernel, rfl, by decide +kernel, by decide +kernel⟩
abbrev s_put_plan : Stmt := top 57
abbrev N_put_plan : List Str := (["plan", "proposals", "ending"] : List Str)
theorem sc_put_plan : FnScope N_put_plan (["plan"] : List Str) (defScope s_put_plan) := ⟨rfl, rfl, rfl, by decide +kernel, rfl, by decide +kernel, by decide +kernel⟩
abbrev s_done : Stmt := top 58
abbrev N_done : List Str := (["octets"] : List Str)
theorem sc_done : FnScope N_done (["octets"] : List Str) (defScope s_done) := ⟨rfl, rfl, rfl, by decide +kernel, rfl, by decide +kernel, by decide +kernel⟩
abbrev s_refused : Stmt := top 59
abbrev N_refused : List Str := (["number"] : List Str)
theorem sc_refused : FnScope N_refused (["number"] : List Str) (defScope s_refused) := ⟨rfl, rfl, rfl, by decide +kernel, rfl, by decide +kernel, by decide +kernel⟩
abbrev s_sure : Stmt := top 61
abbrev N_sure : List Str := (["task", "plan", "error", "cost", "told", "rows", "row"] : List Str)
theorem sc_sure : FnScope N_sure (["task", "plan", "error", "cost"] : List Str) (defScope s_sure) := ⟨rfl, rfl, rfl, by decide +kernel, rfl, by decide +kernel, by decide +kernel⟩
abbrev s_told_best : Stmt := top 62
abbrev N_told_best : List Str := (["task", "before", "error", "cost", "plan", "top", "bottom"] : List Str)
theorem sc_told_best : FnScope N_told_best (["task", "before", "error", "cost"] : List Str) (defScope s_told_best) := ⟨rfl, rfl, rfl, by decide +kernel, rfl, by decide +kernel, by decide +kernel⟩
abbrev s_best : Stmt := top 63
abbrev N_best : List Str := (["task", "error", "cost"] : List Str)
theorem sc_best : FnScope N_best (["task", "error", "cost"] : List Str) (defScope s_best) := ⟨rfl, rfl, rfl, by decide +kernel, rfl, by decide +kernel, by decide +kernel⟩
abbrev s_right_sum : Stmt := top 64
abbrev N_right_sum : List Str := (["task", "action", "unit", "weights", "rewards", "row", "weight"] : List Str)
theorem sc_right_sum : FnScope N_right_sum (["task", "action"] : List Str) (defScope s_right_sum) := ⟨rfl, rfl, rfl, by decide +kernel, rfl, by decide +kernel, by decide +kernel⟩
abbrev s_wrong_sum : Stmt := top 65
abbrev N_wrong_sum : List Str := (["task", "action", "unit", "weights", "rewards", "row", "weight"] : List Str)
theorem sc_wrong_sum : FnScope N_wrong_sum (["task", "action"] : List Str) (defScope s_wrong_sum) := ⟨rfl, rfl, rfl, by decide +kernel, rfl, by decide +kernel, by decide +kernel⟩
abbrev s_worth : Stmt := top 66
abbrev N_worth : List Str := (["task", "action", "cost", "unit", "right", "wrong", "told", "gain"] : List Str)
theorem sc_worth : FnScope N_worth (["task", "action", "cost"] : List Str) (defScope s_worth) := ⟨rfl, rfl, rfl, by decide +kernel, rfl, by decide +kernel, by decide +kernel⟩
abbrev s_up_to : Stmt := top 67
abbrev N_up_to : List Str := (["task", "plan", "cost", "level"] : List Str)
theorem sc_up_to : FnScope N_up_to (["task", "plan", "cost", "level"] : List Str) (defScope s_up_to) := ⟨rfl, rfl, rfl, by decide +kernel, rfl, by decide +kernel, by decide +kernel⟩
abbrev s_command_answer : Stmt := top 68
abbrev N_command_answer : List Str := (["command", "given", "task", "plan", "error", "cost", "action", "level"] : List Str)
theorem sc_command_answer : FnScope N_command_answer (["command", "given"] : List Str) (defScope s_command_answer) := ⟨rfl, rfl, rfl, by decide +kernel, rfl, by decide +kernel, by decide +kernel⟩
abbrev s_octet_at : Stmt := top 73
abbrev N_octet_at : List Str := (["octets", "at"] : List Str)
theorem sc_octet_at : FnScope N_octet_at (["octets", "at"] : List Str) (defScope s_octet_at) := ⟨rfl, rfl, rfl, by decide +kernel, rfl, by decide +kernel, by decide +kernel⟩
abbrev s_flag_at : Stmt := top 74
abbrev N_flag_at : List Str := (["octets", "at", "flag", "behind"] : List Str)
theorem sc_flag_at : FnScope N_flag_at (["octets", "at"] : List Str) (defScope s_flag_at) := ⟨rfl, rfl, rfl, by decide +kernel, rfl, by decide +kernel, by decide +kernel⟩
abbrev s_count_at : Stmt := top 75
abbrev N_count_at : List Str := (["octets", "at", "low", "middle", "high", "behind"] : List Str)
theorem sc_count_at : FnScope N_count_at (["octets", "at"] : List Str) (defScope s_count_at) := ⟨rfl, rfl, rfl, by decide +kernel, rfl, by decide +kernel, by decide +kernel⟩
abbrev s_octets_at : Stmt := top 76
abbrev N_octets_at : List Str := (["octets", "at", "many", "start", "behind"] : List Str)
theorem sc_octets_at : FnScope N_octets_at (["octets", "at"] : List Str) (defScope s_octets_at) := ⟨rfl, rfl, rfl, by decide +kernel, rfl, by decide +kernel, by decide +kernel⟩
abbrev s_integer_at : Stmt := top 77
abbrev N_integer_at : List Str := (["octets", "at", "behind", "number", "octet"] : List Str)
theorem sc_integer_at : FnScope N_integer_at (["octets", "at"] : List Str) (defScope s_integer_at) := ⟨rfl, rfl, rfl, by decide +kernel, rfl, by decide +kernel, by decide +kernel⟩
abbrev s_integers_at : Stmt := top 78
abbrev N_integers_at : List Str := (["octets", "at", "many", "place", "numbers", "turn", "number"] : List Str)
theorem sc_integers_at : FnScope N_integers_at (["octets", "at"] : List Str) (defScope s_integers_at) := ⟨rfl, rfl, rfl, by decide +kernel, rfl, by decide +kernel, by decide +kernel⟩
abbrev s_rows_at : Stmt := top 79
abbrev N_rows_at : List Str := (["octets", "at", "many", "place", "rows", "turn", "row"] : List Str)
theorem sc_rows_at : FnScope N_rows_at (["octets", "at"] : List Str) (defScope s_rows_at) := ⟨rfl, rfl, rfl, by decide +kernel, rfl, by decide +kernel, by decide +kernel⟩
abbrev s_task_at : Stmt := top 80
abbrev N_task_at : List Str := (["octets", "at", "unit", "place", "weights", "rewards"] : List Str)
theorem sc_task_at : FnScope N_task_at (["octets", "at"] : List Str) (defScope s_task_at) := ⟨rfl, rfl, rfl, by decide +kernel, rfl, by decide +kernel, by decide +kernel⟩
abbrev s_plan_at : Stmt := top 81
abbrev N_plan_at : List Str := (["octets", "at", "proposals", "place", "ends", "ending"] : List Str)
theorem sc_plan_at : FnScope N_plan_at (["octets", "at"] : List Str) (defScope s_plan_at) := ⟨rfl, rfl, rfl, by decide +kernel, rfl, by decide +kernel, by decide +kernel⟩
abbrev s_part_at : Stmt := top 82
abbrev N_part_at : List Str := (["part", "octets", "at"] : List Str)
theorem sc_part_at : FnScope N_part_at (["part", "octets", "at"] : List Str) (defScope s_part_at) := ⟨rfl, rfl, rfl, by decide +kernel, rfl, by decide +kernel, by decide +kernel⟩
abbrev s_read_request : Stmt := top 83
abbrev N_read_request : List Str := (["octets", "command", "at", "given", "part", "value"] : List Str)
theorem sc_read_request : FnScope N_read_request (["octets"] : List Str) (defScope s_read_request) := ⟨rfl, rfl, rfl, by decide +kernel, rfl, by decide +kernel, by decide +kernel⟩
abbrev s_begin : Stmt := top 85
abbrev N_begin : List Str := (["talk", "task"] : List Str)
theorem sc_begin : FnScope N_begin (["talk", "task"] : List Str) (defScope s_begin) := ⟨rfl, rfl, rfl, by decide +kernel, rfl, by decide +kernel, by decide +kernel⟩
abbrev s_is_decided : Stmt := top 86
abbrev N_is_decided : List Str := (["pairs", "action", "yes"] : List Str)
theorem sc_is_decided : FnScope N_is_decided (["pairs"] : List Str) (defScope s_is_decided) := ⟨rfl, rfl, rfl, by decide +kernel, rfl, by decide +kernel, by decide +kernel⟩
abbrev s_proposed : Stmt := top 87
abbrev N_proposed : List Str := (["pairs", "action", "yes"] : List Str)
theorem sc_proposed : FnScope N_proposed (["pairs"] : List Str) (defScope s_proposed) := ⟨rfl, rfl, rfl, by decide +kernel, rfl, by decide +kernel, by decide +kernel⟩
abbrev s_fits : Stmt := top 88
abbrev N_fits : List Str := (["row", "pairs", "action", "yes", "good"] : List Str)
theorem sc_fits : FnScope N_fits (["row", "pairs"] : List Str) (defScope s_fits) := ⟨rfl, rfl, rfl, by decide +kernel, rfl, by decide +kernel, by decide +kernel⟩
abbrev s_tastes_left : Stmt := top 89
abbrev N_tastes_left : List Str := (["task", "pairs", "unit", "weights", "rewards", "taste"] : List Str)
theorem sc_tastes_left : FnScope N_tastes_left (["task", "pairs"] : List Str) (defScope s_tastes_left) := ⟨rfl, rfl, rfl, by decide +kernel, rfl, by decide +kernel, by decide +kernel⟩
abbrev s_propose : Stmt := top 90
abbrev N_propose : List Str := (["talk", "action", "yes", "task", "pairs", "after"] : List Str)
theorem sc_propose : FnScope N_propose (["talk", "action", "yes"] : List Str) (defScope s_propose) := ⟨rfl, rfl, rfl, by decide +kernel, rfl, by decide +kernel, by decide +kernel⟩
abbrev s_advice : Stmt := top 91
abbrev N_advice : List Str := (["talk", "error", "cost", "task", "pairs"] : List Str)
theorem sc_advice : FnScope N_advice (["talk", "error", "cost"] : List Str) (defScope s_advice) := ⟨rfl, rfl, rfl, by decide +kernel, rfl, by decide +kernel, by decide +kernel⟩
abbrev s_undo : Stmt := top 92
abbrev N_undo : List Str := (["talk", "task", "pairs"] : List Str)
theorem sc_undo : FnScope N_undo (["talk"] : List Str) (defScope s_undo) := ⟨rfl, rfl, rfl, by decide +kernel, rfl, by decide +kernel, by decide +kernel⟩
abbrev s_told_answers : Stmt := top 93
abbrev N_told_answers : List Str := (["talk", "task", "pairs", "told", "action", "yes"] : List Str)
theorem sc_told_answers : FnScope N_told_answers (["talk"] : List Str) (defScope s_told_answers) := ⟨rfl, rfl, rfl, by decide +kernel, rfl, by decide +kernel, by decide +kernel⟩
abbrev s_told_tastes : Stmt := top 94
abbrev N_told_tastes : List Str := (["talk", "task", "pairs"] : List Str)
theorem sc_told_tastes : FnScope N_told_tastes (["talk"] : List Str) (defScope s_told_tastes) := ⟨rfl, rfl, rfl, by decide +kernel, rfl, by decide +kernel, by decide +kernel⟩
abbrev s_talk_answer : Stmt := top 95
abbrev N_talk_answer : List Str := (["command", "talk", "given", "action", "yes", "error", "cost"] : List Str)
theorem sc_talk_answer : FnScope N_talk_answer (["command", "talk", "given"] : List Str) (defScope s_talk_answer) := ⟨rfl, rfl, rfl, by decide +kernel, rfl, by decide +kernel, by decide +kernel⟩
abbrev s_reply : Stmt := top 97
abbrev N_reply : List Str := (["talk", "octets", "command", "given"] : List Str)
theorem sc_reply : FnScope N_reply (["talk", "octets"] : List Str) (defScope s_reply) := ⟨rfl, rfl, rfl, by decide +kernel, rfl, by decide +kernel, by decide +kernel⟩
abbrev s_answers : Stmt := top 98
abbrev N_answers : List Str := (["calls", "told", "talk", "at", "start", "behind", "answer"] : List Str)
theorem sc_answers : FnScope N_answers (["calls"] : List Str) (defScope s_answers) := ⟨rfl, rfl, rfl, by decide +kernel, rfl, by decide +kernel, by decide +kernel⟩
structure Txt (K : PySem.W.Frag) (mg : Str → Option Value) (d : Addr) (as : Nat → Addr) (C : Addr) : Prop where
  cMOST_UNIT : ∃ t, mg "MOST_UNIT" = some (.int 99 t)
  cMOST_TASTES : ∃ t, mg "MOST_TASTES" = some (.int 4 t)
  cMOST_ACTIONS : ∃ t, mg "MOST_ACTIONS" = some (.int 4 t)
  cMOST_REWARD : ∃ t, mg "MOST_REWARD" = some (.int 99 t)
  cMOST_ERROR : ∃ t, mg "MOST_ERROR" = some (.int 100 t)
  cMOST_COST : ∃ t, mg "MOST_COST" = some (.int 99 t)
  cMOST_LEVEL : ∃ t, mg "MOST_LEVEL" = some (.int 99 t)
  cUNREADABLE : ∃ t, mg "UNREADABLE" = some (.int 1 t)
  cNO_TALK : ∃ t, mg "NO_TALK" = some (.int 2 t)
  cBAD_TASK : ∃ t, mg "BAD_TASK" = some (.int 3 t)
  cBAD_PLAN : ∃ t, mg "BAD_PLAN" = some (.int 4 t)
  cBAD_ACTION : ∃ t, mg "BAD_ACTION" = some (.int 5 t)
  cBAD_ERROR : ∃ t, mg "BAD_ERROR" = some (.int 6 t)
  cBAD_COST : ∃ t, mg "BAD_COST" = some (.int 7 t)
  cBAD_LEVEL : ∃ t, mg "BAD_LEVEL" = some (.int 8 t)
  cDECIDED : ∃ t, mg "DECIDED" = some (.int 9 t)
  cPROPOSED : ∃ t, mg "PROPOSED" = some (.int 10 t)
  cNOTHING_TO_UNDO : ∃ t, mg "NOTHING_TO_UNDO" = some (.int 11 t)
  cBOUND : ∃ t, mg "BOUND" = some (.int 9007199254740991 t)
  blen : mg "len" = none
  bsum : mg "sum" = none
  babs : mg "abs" = none
  bmax : mg "max" = none
  bzip : mg "zip" = none
  brange : mg "range" = none
  breversed : mg "reversed" = none
  blist : mg "list" = none
  d_are_rewards : DefAt K mg "are_rewards" s_are_rewards (["row", "many"] : List Str)
  d_is_task : DefAt K mg "is_task" s_is_task (["task"] : List Str)
  d_action_count : DefAt K mg "action_count" s_action_count (["task"] : List Str)
  d_is_action : DefAt K mg "is_action" s_is_action (["task", "action"] : List Str)
  d_is_plan : DefAt K mg "is_plan" s_is_plan (["task", "plan"] : List Str)
  d_is_error : DefAt K mg "is_error" s_is_error (["error"] : List Str)
  d_is_cost : DefAt K mg "is_cost" s_is_cost (["cost"] : List Str)
  d_is_level : DefAt K mg "is_level" s_is_level (["level"] : List Str)
  d_common : DefAt K mg "common" s_common (["first", "second"] : List Str)
  d_lowest : DefAt K mg "lowest" s_lowest (["top", "bottom"] : List Str)
  d_column : DefAt K mg "column" s_column (["task", "action"] : List Str)
  d_ending_rests : DefAt K mg "ending_rests" s_ending_rests (["task", "ending"] : List Str)
  d_yes_chance : DefAt K mg "yes_chance" s_yes_chance (["reward", "rest", "scale", "error"] : List Str)
  d_worst_chances : DefAt K mg "worst_chances" s_worst_chances (["rewards", "rests", "scale", "error"] : List Str)
  d_with_proposal : DefAt K mg "with_proposal" s_with_proposal (["rewards", "chances", "rests", "scale", "cost"] : List Str)
  d_put_ahead : DefAt K mg "put_ahead" s_put_ahead (["task", "action", "rests", "scale", "error", "cost"] : List Str)
  d_put_all_ahead : DefAt K mg "put_all_ahead" s_put_all_ahead (["task", "proposals", "rests", "scale", "error", "cost"] : List Str)
  d_weighed : DefAt K mg "weighed" s_weighed (["task", "rests"] : List Str)
  d_plan_sum : DefAt K mg "plan_sum" s_plan_sum (["task", "plan", "error", "cost"] : List Str)
  d_sure_of : DefAt K mg "sure_of" s_sure_of (["task", "plan", "error", "cost"] : List Str)
  d_worst_columns : DefAt K mg "worst_columns" s_worst_columns (["task", "plan", "error", "cost"] : List Str)
  d_worst_answers : DefAt K mg "worst_answers" s_worst_answers (["task", "plan", "error", "cost"] : List Str)
  d_greatest_error : DefAt K mg "greatest_error" s_greatest_error (["task", "plan", "cost", "level"] : List Str)
  d_endings : DefAt K mg "endings" s_endings (["task"] : List Str)
  d_longer : DefAt K mg "longer" s_longer (["task", "actions", "plans", "scale", "error", "cost"] : List Str)
  d_sums : DefAt K mg "sums" s_sums (["task", "before", "plans", "scale", "error", "cost"] : List Str)
  d_all_sums : DefAt K mg "all_sums" s_all_sums (["task", "before", "error", "cost"] : List Str)
  d_best_plan : DefAt K mg "best_plan" s_best_plan (["task", "before", "error", "cost"] : List Str)
  d_low_octets : DefAt K mg "low_octets" s_low_octets (["number", "many"] : List Str)
  d_put_count : DefAt K mg "put_count" s_put_count (["many"] : List Str)
  d_put_fraction : DefAt K mg "put_fraction" s_put_fraction (["fraction"] : List Str)
  d_put_fractions : DefAt K mg "put_fractions" s_put_fractions (["fractions"] : List Str)
  d_put_octets : DefAt K mg "put_octets" s_put_octets (["row"] : List Str)
  d_put_maybe : DefAt K mg "put_maybe" s_put_maybe (["number"] : List Str)
  d_put_plan : DefAt K mg "put_plan" s_put_plan (["plan"] : List Str)
  d_done : DefAt K mg "done" s_done (["octets"] : List Str)
  d_refused : DefAt K mg "refused" s_refused (["number"] : List Str)
  d_sure : DefAt K mg "sure" s_sure (["task", "plan", "error", "cost"] : List Str)
  d_told_best : DefAt K mg "told_best" s_told_best (["task", "before", "error", "cost"] : List Str)
  d_best : DefAt K mg "best" s_best (["task", "error", "cost"] : List Str)
  d_right_sum : DefAt K mg "right_sum" s_right_sum (["task", "action"] : List Str)
  d_wrong_sum : DefAt K mg "wrong_sum" s_wrong_sum (["task", "action"] : List Str)
  d_worth : DefAt K mg "worth" s_worth (["task", "action", "cost"] : List Str)
  d_up_to : DefAt K mg "up_to" s_up_to (["task", "plan", "cost", "level"] : List Str)
  d_command_answer : DefAt K mg "command_answer" s_command_answer (["command", "given"] : List Str)
  d_octet_at : DefAt K mg "octet_at" s_octet_at (["octets", "at"] : List Str)
  d_flag_at : DefAt K mg "flag_at" s_flag_at (["octets", "at"] : List Str)
  d_count_at : DefAt K mg "count_at" s_count_at (["octets", "at"] : List Str)
  d_octets_at : DefAt K mg "octets_at" s_octets_at (["octets", "at"] : List Str)
  d_integer_at : DefAt K mg "integer_at" s_integer_at (["octets", "at"] : List Str)
  d_integers_at : DefAt K mg "integers_at" s_integers_at (["octets", "at"] : List Str)
  d_rows_at : DefAt K mg "rows_at" s_rows_at (["octets", "at"] : List Str)
  d_task_at : DefAt K mg "task_at" s_task_at (["octets", "at"] : List Str)
  d_plan_at : DefAt K mg "plan_at" s_plan_at (["octets", "at"] : List Str)
  d_part_at : DefAt K mg "part_at" s_part_at (["part", "octets", "at"] : List Str)
  d_read_request : DefAt K mg "read_request" s_read_request (["octets"] : List Str)
  d_begin : DefAt K mg "begin" s_begin (["talk", "task"] : List Str)
  d_is_decided : DefAt K mg "is_decided" s_is_decided (["pairs"] : List Str)
  d_proposed : DefAt K mg "proposed" s_proposed (["pairs"] : List Str)
  d_fits : DefAt K mg "fits" s_fits (["row", "pairs"] : List Str)
  d_tastes_left : DefAt K mg "tastes_left" s_tastes_left (["task", "pairs"] : List Str)
  d_propose : DefAt K mg "propose" s_propose (["talk", "action", "yes"] : List Str)
  d_advice : DefAt K mg "advice" s_advice (["talk", "error", "cost"] : List Str)
  d_undo : DefAt K mg "undo" s_undo (["talk"] : List Str)
  d_told_answers : DefAt K mg "told_answers" s_told_answers (["talk"] : List Str)
  d_told_tastes : DefAt K mg "told_tastes" s_told_tastes (["talk"] : List Str)
  d_talk_answer : DefAt K mg "talk_answer" s_talk_answer (["command", "talk", "given"] : List Str)
  d_reply : DefAt K mg "reply" s_reply (["talk", "octets"] : List Str)
  d_answers : DefAt K mg "answers" s_answers (["calls"] : List Str)
  forms : KForms K mg d as
  gU : mg "Unreadable" = some (.ref C)
  xU : PySem.W.excIn K C [.type "Exception", .type "BaseException", .type "object"] "Exception.__new__" = true
  kU : PySem.W.keepIn K (.ref C) = true
  bU : PySem.W.subIn K (.ref C) (.type "BaseException") = some true
  tU : PySem.W.typeIn K (.ref C) = some (.type "type")
  eU : PySem.W.exmOne K (.ref C) (.ref C) = some true
/-! operations by their names -/
abbrev oAdd : R2 := rI0 fun i j => .int (i + j)
abbrev oSub : R2 := rI0 fun i j => .int (i - j)
abbrev oMul : R2 := rI CMul fun i j => .int (i * j)
abbrev oMod : R2 := rI (fun _ j => 0 < j) fun i j => .int (i % j)
abbrev oDiv : R2 := rI CDiv fun i j => .int (i / j)
abbrev oDivW : R2 := rI CDivW fun i j => .int (i / j)
abbrev oPow : R2 := rI CPow fun i j => .int (i ^ j.toNat)
abbrev oLt : R2 := rI0 fun i j => .bl (decide (i < j))
abbrev oLe : R2 := rI0 fun i j => .bl (decide (i ≤ j))
abbrev oGt : R2 := rI0 fun i j => .bl (decide (j < i))
abbrev oGe : R2 := rI0 fun i j => .bl (decide (j ≤ i))
abbrev oNeg : V → Hp → VK → Prop := rU fun i => .int (-i)
abbrev oLen (K : PySem.W.Frag) : List V → Hp → VK → Prop := fun xs H Q => ∃ p ys, xs = [.ref p] ∧ (SqL K H p ys ∨ SqT K H p ys) ∧ Q (.int ys.length) H
abbrev oList (K : PySem.W.Frag) : List V → Hp → VK → Prop := fun xs H Q => ∃ p ys, xs = [.ref p] ∧ (SqL K H p ys ∨ SqT K H p ys) ∧ ∀ l, H l = none → Q (.ref l) (upd H l (.lst ys))
abbrev oAbs : List V → Hp → VK → Prop := fun xs H Q => ∃ i, xs = [.int i] ∧ Q (.int (if i < 0 then -i else i)) H
abbrev oMax : List V → Hp → VK → Prop := fun xs H Q => ∃ i j, xs = [.int i, .int j] ∧ Q (.int (if j > i then j else i)) H
theorem pe_const {X : Cx} {x : Str} {i : Int} {pos : Pos} (h : ∃ t, X.mg x = some (.int i t)) (hg : Gl X x := by rfl) (hd : (x == ("__debug__" : Str)) = false := by decide) : PE X (.Name x pos) (tC (.int i)) := by
  obtain ⟨t, e⟩ := h
  exact pe_glob hg e ⟨t, rfl⟩ hd
theorem i_one {i : Int} {C : Int → Prop} (h : C i) : ∃ i', [V.int i] = [V.int i'] ∧ C i' := ⟨i, rfl, h⟩
theorem i_two {i j : Int} {C : Int → Int → Prop} (h : C i j) : ∃ i' j', [V.int i, V.int j] = [V.int i', V.int j'] ∧ C i' j' := ⟨i, j, rfl, h⟩
theorem i_len {K : PySem.W.Frag} {H : Hp} {p : Addr} {xs : List V} {C : List V → Prop} (h : SqL K H p xs) (q : C xs) : ∃ p' ys, [V.ref p] = [V.ref p'] ∧ (SqL K H p' ys ∨ SqT K H p' ys) ∧ C ys := ⟨p, xs, rfl, .inl h, q⟩
theorem i_tyes {σ : SSt} {H : Hp} {Q : Bool → Hp → Prop} (h : Q true H) : tYes σ H Q := h
theorem i_lstRev {K : PySem.W.Frag} {te : TE} {σ : SSt} {H : Hp} {Q : VK} (h : te σ H fun v H1 => ∃ (a : Addr) (xs : List V), v = .ref a ∧ SqL K H1 a xs ∧ ∀ q H', H1 q = none → Same H1 H' → H' q = some (.lst xs.reverse) → Q (.ref q) H') : tLstRev K te σ H Q := h
theorem i_sum {K : PySem.W.Frag} {H : Hp} {p : Addr} {ns : List Int} {Q : VK} (h : SqL K H p (ns.map V.int)) (q : Q (.int ns.sum) H) : rSum K [.ref p] H Q := ⟨p, ns, rfl, h, q⟩
end Af
set_option Elab.async false
set_option linter.all false
set_option maxRecDepth 100000
set_option maxHeartbeats 2000000
/-! # How data lie in the heap -/
namespace Af
open PySem PySem.Spec PyProof.Rows L2
open Askfirst (GivenTask GivenPlan)
def RL (H : Hp) (v : V) (xs : List V) : Prop := ∃ a, v = .ref a ∧ H a = some (.lst xs)
def RT (H : Hp) (v : V) (xs : List V) : Prop := ∃ a, v = .ref a ∧ H a = some (.tup xs)
theorem RL.up {H H' : Hp} {v : V} {xs : List V} (s : Same H H') (h : RL H v xs) : RL H' v xs := let ⟨a, e, q⟩ := h; ⟨a, e, s a _ q⟩
theorem RT.up {H H' : Hp} {v : V} {xs : List V} (s : Same H H') (h : RT H v xs) : RT H' v xs := let ⟨a, e, q⟩ := h; ⟨a, e, s a _ q⟩
abbrev vI (l : List Int) : List V := l.map V.int
abbrev vN (l : List Nat) : List V := l.map fun n : Nat => V.int (n : Int)
def vO : Option Nat → V
  | none => .non
  | some n => .int (n : Int)
/-- item by item -/
def All2 {α : Type} (R : V → α → Prop) (vs : List V) (xs : List α) : Prop := vs.length = xs.length ∧ ∀ (i : Nat) (v : V) (x : α), vs[i]? = some v → xs[i]? = some x → R v x
section
variable {α : Type} {R R' : V → α → Prop} {vs : List V} {xs : List α}
theorem All2.imp (h : All2 R vs xs) (f : ∀ v x, R v x → R' v x) : All2 R' vs xs := ⟨h.1, fun i v x a b => f v x (h.2 i v x a b)⟩
theorem All2.nil : All2 R [] [] := ⟨rfl, fun i v x a _ => by simp at a⟩
theorem All2.snoc {v : V} {x : α} (h : All2 R vs xs) (r : R v x) : All2 R (vs ++ [v]) (xs ++ [x]) := by
  refine ⟨by simp [h.1], fun i v' x' a b => ?_⟩
  rw [List.getElem?_append] at a b
  rw [h.1] at a
  split at a
  · rename_i hi
    rw [if_pos hi] at b
    exact h.2 i v' x' (by rw [← a]) b
  · rename_i hi
    rw [if_neg hi] at b
    rcases Nat.eq_zero_or_pos (i - xs.length) with e | e
    · rw [e] at a b
      have a : v = v' := by simpa using a
      have b : x = x' := by simpa using b
      rw [← a, ← b]
      exact r
    · rw [List.getElem?_eq_none (by simp; omega)] at a
      cases a
theorem All2.get {i : Nat} (h : All2 R vs xs) (hi : i < xs.length) : ∃ v, vs[i]? = some v ∧ R v xs[i] := by
  have hv : i < vs.length := by rw [h.1]; exact hi
  exact ⟨vs[i], List.getElem?_eq_getElem hv, h.2 i _ _ (List.getElem?_eq_getElem hv) (List.getElem?_eq_getElem hi)⟩
theorem All2.of {i : Nat} {v : V} (h : All2 R vs xs) (hv : vs[i]? = some v) : ∃ x, xs[i]? = some x ∧ R v x := by
  have hi : i < vs.length := (List.getElem?_eq_some_iff.mp hv).1
  have hx : i < xs.length := by rw [← h.1]; exact hi
  exact ⟨xs[i], List.getElem?_eq_getElem hx, h.2 i v _ hv (List.getElem?_eq_getElem hx)⟩
theorem All2.append {ws : List V} {ys : List α} (h : All2 R vs xs) (g : All2 R ws ys) : All2 R (vs ++ ws) (xs ++ ys) := by
  refine ⟨by simp [h.1, g.1], fun i v x a b => ?_⟩
  rw [List.getElem?_append] at a b
  rw [h.1] at a
  split at a
  · rename_i hi
    rw [if_pos hi] at b
    exact h.2 i v x a b
  · rename_i hi
    rw [if_neg hi] at b
    exact g.2 _ v x a b
theorem All2.dropLast (h : All2 R vs xs) : All2 R vs.dropLast xs.dropLast := by
  refine ⟨by simp [h.1], fun i v x a b => ?_⟩
  rw [List.getElem?_dropLast] at a b
  split at a
  · split at b
    · exact h.2 i v x a b
    · cases b
  · cases a
theorem All2.cons {v : V} {x : α} (r : R v x) (h : All2 R vs xs) : All2 R (v :: vs) (x :: xs) := by
  refine ⟨by simp [h.1], fun i v' x' a b => ?_⟩
  cases i with
  | zero =>
    have a : v = v' := by simpa using a
    have b : x = x' := by simpa using b
    rw [← a, ← b]
    exact r
  | succ i => exact h.2 i v' x' (by simpa using a) (by simpa using b)
theorem All2.reverse (h : All2 R vs xs) : All2 R vs.reverse xs.reverse := by
  refine ⟨by simp [h.1], fun i v x a b => ?_⟩
  have hi : i < vs.length := by
    have := (List.getElem?_eq_some_iff.mp a).1
    simpa using this
  rw [List.getElem?_reverse hi] at a
  rw [List.getElem?_reverse (by rw [← h.1]; exact hi)] at b
  rw [h.1] at a
  exact h.2 _ v x a b
end
theorem vI_get {l : List Int} {i : Nat} (h : i < l.length) : (vI l)[i]? = some (.int (l.getD i 0)) := by
  rw [List.getElem?_map, List.getElem?_eq_getElem h]
  simp [List.getD_eq_getElem?_getD, List.getElem?_eq_getElem h]
theorem vN_get {l : List Nat} {i : Nat} (h : i < l.length) : (vN l)[i]? = some (.int ((l.getD i 0 : Nat) : Int)) := by
  rw [List.getElem?_map, List.getElem?_eq_getElem h]
  simp [List.getD_eq_getElem?_getD, List.getElem?_eq_getElem h]
def RRows (H : Hp) (v : V) (rs : List (List Int)) : Prop := ∃ vs, RL H v vs ∧ All2 (fun v r => RL H v (vI r)) vs rs
theorem RRows.up {H H' : Hp} {v : V} {rs : List (List Int)} (s : Same H H') (h : RRows H v rs) : RRows H' v rs := let ⟨vs, a, b⟩ := h; ⟨vs, a.up s, b.imp fun _ _ q => q.up s⟩
def RTask (H : Hp) (v : V) (x : GivenTask) : Prop := ∃ w r, RT H v [.int (x.unit : Int), w, r] ∧ RL H w (vN x.weights) ∧ RRows H r x.rewards
theorem RTask.up {H H' : Hp} {v : V} {x : GivenTask} (s : Same H H') (h : RTask H v x) : RTask H' v x := let ⟨w, r, a, b, c⟩ := h; ⟨w, r, a.up s, b.up s, c.up s⟩
def RPlan (H : Hp) (v : V) (p : GivenPlan) : Prop := ∃ a, RT H v [a, vO p.ending] ∧ RL H a (vN p.asks)
theorem RPlan.up {H H' : Hp} {v : V} {p : GivenPlan} (s : Same H H') (h : RPlan H v p) : RPlan H' v p := let ⟨a, b, c⟩ := h; ⟨a, b.up s, c.up s⟩
def yesI (b : Bool) : Int := if b then 1 else 0
def RPairs (H : Hp) (v : V) (ps : List (Nat × Bool)) : Prop := ∃ vs, RL H v vs ∧ All2 (fun v (p : Nat × Bool) => RT H v [.int (p.1 : Int), .int (yesI p.2)]) vs ps
theorem RPairs.up {H H' : Hp} {v : V} {ps : List (Nat × Bool)} (s : Same H H') (h : RPairs H v ps) : RPairs H' v ps := let ⟨vs, a, b⟩ := h; ⟨vs, a.up s, b.imp fun _ _ q => q.up s⟩
def RTalk (H : Hp) (v : V) : Option (GivenTask × List (Nat × Bool)) → Prop
  | none => v = .non
  | some (x, ps) => ∃ t p, RT H v [t, p] ∧ RTask H t x ∧ RPairs H p ps
theorem RTalk.up {H H' : Hp} {v : V} {o : Option (GivenTask × List (Nat × Bool))} (s : Same H H') (h : RTalk H v o) : RTalk H' v o := by
  cases o with
  | none => exact h
  | some q => obtain ⟨t, p, a, b, c⟩ := h; exact ⟨t, p, a.up s, b.up s, c.up s⟩
def RWays (H : Hp) (v : V) (ways : List Way) : Prop := ∃ vs, RL H v vs ∧ All2 (fun v (p : Way) => ∃ a b, RT H v [a, vO p.2.1, b] ∧ RL H a (vN p.1) ∧ RL H b (vI p.2.2)) vs ways
theorem RWays.up {H H' : Hp} {v : V} {ps : List Way} (s : Same H H') (h : RWays H v ps) : RWays H' v ps := let ⟨vs, a, b⟩ := h; ⟨vs, a.up s, b.imp fun _ _ ⟨a, b, q1, q2, q3⟩ => ⟨a, b, q1.up s, q2.up s, q3.up s⟩⟩
def RSum (H : Hp) (v : V) (q : Sum3) : Prop := ∃ p, RT H v [p, .int q.2.1, .int q.2.2] ∧ RPlan H p ⟨q.1.1, q.1.2⟩
theorem RSum.up {H H' : Hp} {v : V} {q : Sum3} (s : Same H H') (h : RSum H v q) : RSum H' v q := let ⟨p, a, b⟩ := h; ⟨p, a.up s, b.up s⟩
def RSums (H : Hp) (v : V) (rows : List Sum3) : Prop := ∃ vs, RL H v vs ∧ All2 (fun v q => RSum H v q) vs rows
theorem RSums.up {H H' : Hp} {v : V} {ps : List Sum3} (s : Same H H') (h : RSums H v ps) : RSums H' v ps := let ⟨vs, a, b⟩ := h; ⟨vs, a.up s, b.imp fun _ _ q => q.up s⟩
/-- a new list of ints at v -/
def New (H H' : Hp) (v : V) (xs : List V) : Prop := ∃ p, v = .ref p ∧ H p = none ∧ H' p = some (.lst xs)
theorem New.rl {H H' : Hp} {v : V} {xs : List V} (h : New H H' v xs) : RL H' v xs := let ⟨p, e, _, q⟩ := h; ⟨p, e, q⟩
theorem Same.back {H H' : Hp} {p : Addr} (e : Same H H') (h : H' p = none) : H p = none := e.free h
theorem len_lt {l : List V} {m : Nat} (e : l.length = m) (h : m < 16000000) : l.length < sizeLine := size_lt (by omega)
end Af
set_option Elab.async false
set_option linter.all false
set_option maxRecDepth 100000
set_option maxHeartbeats 2000000
/-! # ratio.py -/
namespace Af
open PySem PySem.Spec PyProof.Rows L2
open Askfirst (GivenTask GivenPlan)
local macro_rules | `(tactic| walk_at "af") => `(tactic| first
  | (with_reducible refine i_seq ?_)
  | (with_reducible refine i_asg ?_)
  | (with_reducible refine i_name ?_)
  | (with_reducible refine i_var (by with_unfolding_all rfl) ?_)
  | (with_reducible refine i_C ?_)
  | (with_reducible refine i_op ?_)
  | (with_reducible refine i_rI0 ?_)
  | (with_reducible refine i_cons ?_)
  | (with_reducible refine i_nil ?_)
  | (with_reducible refine i_callS ?_)
  | (with_reducible refine i_cb ?_)
  | (with_reducible refine i_if ?_)
  | (with_reducible refine i_test ?_)
  | (with_reducible refine i_B ?_)
  | (with_reducible refine i_bl ?_)
  | (with_reducible refine i_cmp ?_)
  | (with_reducible refine i_ij ?_)
  | (with_reducible refine i_not ?_)
  | (with_reducible refine i_and ?_)
  | (with_reducible refine i_or ?_)
  | (with_reducible refine i_andV ?_)
  | (with_reducible refine i_orV ?_)
  | (with_reducible refine i_ret ?_)
  | (with_reducible refine i_drop ?_)
  | (with_reducible refine i_next ?_)
  | (with_reducible refine i_un ?_)
  | (with_reducible refine i_rU ?_)
  | ((with_reducible refine i_rI (C := CMul) ?hc ?_); (case hc => first | exact Or.inl ⟨by omega, by omega⟩ | exact Or.inr ⟨by omega, by omega⟩))
  | ((with_reducible refine i_rI (C := fun _ j => 0 < j) ?hc ?_); (case hc => (show (0 : Int) < _; omega)))
  | ((with_reducible refine i_rI (C := CDiv) ?hc ?_); (case hc => exact ⟨by omega, by omega⟩))
  | (with_reducible refine i_tup ?_)
  | (with_reducible refine i_lst ?_)
  | (with_reducible refine i_newT (by with_unfolding_all exact Nat.le_of_ble_eq_true rfl) ?_)
  | (with_reducible refine i_newL (by with_unfolding_all exact Nat.le_of_ble_eq_true rfl) ?_)
  | (with_reducible refine i_bm ?_)
  | (with_reducible refine i_sl ?_)
  | (with_reducible refine i_part ?_)
  | (with_reducible refine i_i ?_)
  | (with_reducible refine i_nopart ?_)
  | (with_reducible refine i_isN ?_)
  | (with_reducible refine i_par ?_)
  | (with_reducible refine i_vw ?_)
  | (with_reducible refine i_par3 ?_)
  | (with_reducible refine i_uvw ?_)
  | (with_reducible refine i_gc ?_)
  | (with_reducible refine i_gn ?_)
  | (with_reducible refine i_for ?_)
  | (with_reducible refine i_lc ?_)
  | (with_reducible refine i_itL ?_)
  | (with_reducible refine i_itT ?_)
  | (with_reducible refine i_itR ?_)
  | (with_reducible refine i_itV ?_)
  | (with_reducible refine i_itZ ?_)
  | (with_reducible refine i_lstRev ?_)
  | (with_reducible refine i_tyes ?_)
  | (with_reducible refine iteT ?_)
  | (with_reducible refine i_one ?_)
  | (with_reducible refine i_two ?_))
theorem i_while {c : TT} {tb : TS} {n b c' : SSt → Hp → Prop} {r : VK} {σ : SSt} {H : Hp} (Pv : SSt → Hp → Prop) (μ : SSt → Hp → Nat) (h0 : Pv σ H)
    (hs : ∀ σ H, Pv σ H → c σ H fun z H1 => if z = true then tb ⟨fun σ' H' => Pv σ' H' ∧ μ σ' H' < μ σ H, r, n, fun σ' H' => Pv σ' H' ∧ μ σ' H' < μ σ H⟩ σ H1 else n σ H1)
    (mono : ∀ σ H Q Q', (∀ b H1, Q b H1 → Q' b H1) → c σ H Q → c σ H Q') : tWhile c tb ⟨n, r, b, c'⟩ σ H := while_by Pv μ h0 hs mono
/-- the greatest number that divides both -/
def sp_common : Sp := fun vs H Q _ => ∃ a b : Int, vs = [.int a, .int b] ∧ 0 ≤ a ∧ 0 ≤ b ∧ Q (.int ((a.toNat.gcd b.toNat : Nat) : Int)) H
/-- a fraction in lowest terms -/
def RFr (H : Hp) (v : V) (a b : Int) : Prop := RT H v [.int (a / gcdM a b), .int (b / gcdM a b)]
def sp_lowest : Sp := fun vs H Q _ => ∃ a b : Int, vs = [.int a, .int b] ∧ 0 < b ∧ b < 2 ^ 64 ∧ ∀ H' v, Same H H' → RFr H' v a b → Q v H'
section
variable {P : Program} {w : World} {K : PySem.W.Frag} {mg : Str → Option Value} {base : Heap} {d : Addr} {as : Nat → Addr} {C : Addr}
theorem ok_common (T : Txt K mg d as C) : Ok P w K mg base CX0 1 "common" ["first", "second"] sp_common := by
  refine T.d_common.ok sc_common (fun vs H Q E h => ?_) fun f cdv A outer s H vs Q E hr h => ⟨_, (pss_cons (ps_set (i := 2) sc_common.nd rfl (Or.inl rfl) (pv 0))
      (pss_cons (ps_set (i := 3) sc_common.nd rfl (Or.inl rfl) (pv 1))
      (pss_cons (ps_while PassesOwn.never (pt_cmpR op_gt (pv 3) pe_int (nomark _))
      (pss_one (ps_par (i := 2) (j := 3) rfl sc_common.nd rfl rfl (by decide) rfl rfl (pa_cons (pv 3) (pa_cons (pe_op op_mod (pv 2) (pv 3)) pa_nil)) (by rfl))))
      (pss_one (ps_ret (pv 2)))))), ?_⟩
  · obtain ⟨a, b, rfl, _⟩ := h
    rfl
  obtain ⟨a, b, rfl, h1, h2, k⟩ := h
  repeat walk_at "af"
  refine i_while (fun σ H' => H' = H ∧ ∃ x y : Int, σ = [some (.int a), some (.int b), some (.int x), some (.int y)] ∧ 0 ≤ x ∧ 0 ≤ y ∧ x.toNat.gcd y.toNat = a.toNat.gcd b.toNat)
    (fun σ _ => match σ with | [_, _, _, some (.int y)] => y.toNat | _ => 0) ⟨rfl, a, b, rfl, h1, h2, rfl⟩ ?_ ?_
  · rintro σ H' ⟨rfl, x, y, rfl, h3, h4, h5⟩
    repeat walk_at "af"
    refine i_dec (fun h6 => ?_) fun h6 => ?_
    · repeat walk_at "af"
      have h7 : 0 ≤ x % y := Int.emod_nonneg _ (by omega)
      have h8 : x % y < y := Int.emod_lt_of_pos _ h6
      refine ⟨⟨rfl, y, x % y, rfl, h4, h7, ?_⟩, ?_⟩
      · rw [← h5]
        have e : (x % y).toNat = x.toNat % y.toNat := by
          obtain ⟨m, rfl⟩ := Int.eq_ofNat_of_zero_le h3
          obtain ⟨n, rfl⟩ := Int.eq_ofNat_of_zero_le h4
          rfl
        rw [e, Nat.gcd_comm x.toNat y.toNat, Nat.gcd_rec y.toNat x.toNat, Nat.gcd_comm]
      · show (x % y).toNat < y.toNat
        omega
    · repeat walk_at "af"
      have h6 : y = 0 := by omega
      subst h6
      have e : x = ((a.toNat.gcd b.toNat : Nat) : Int) := by
        rw [← h5]
        have : (0 : Int).toNat = 0 := rfl
        rw [this, Nat.gcd_zero_right]
        omega
      rw [e]
      exact k
  · rintro σ H' Q1 Q2 hq ⟨v, e, i, j, e1, e2, z, e3, q⟩
    exact ⟨v, e, i, j, e1, e2, z, e3, hq _ _ q⟩
theorem ok_lowest (T : Txt K mg d as C) : Ok P w K mg base CX0 2 "lowest" ["top", "bottom"] sp_lowest := by
  have G_common := ok_common (P := P) (w := w) (base := base) T
  refine T.d_lowest.ok sc_lowest (fun vs H Q E h => ?_) fun f cdv A outer s H vs Q E hr h => ⟨_, (pss_cons (ps_set (i := 2) sc_lowest.nd rfl (Or.inl rfl) (pe_cl (E := fun _ => E0) G_common (hr.mono (by decide)) (fun σ => pass00 σ) (pa_cons (pe_callB call_abs (by rfl) T.babs (by decide +kernel) (pa_cons (pv 0) pa_nil)) (pa_cons (pv 1) pa_nil))))
      (pss_one (ps_ret (pe_tup (pa_cons (pe_op op_fdivW (pv 0) (pv 2)) (pa_cons (pe_op op_fdivW (pv 1) (pv 2)) pa_nil)))))), ?_⟩
  · obtain ⟨a, b, rfl, _⟩ := h
    rfl
  obtain ⟨a, b, rfl, h1, h2, k⟩ := h
  repeat walk_at "af"
  refine ⟨_, _, rfl, by split <;> omega, by omega, ?_⟩
  have e : (((if a < 0 then -a else a).toNat.gcd b.toNat : Nat) : Int) = gcdM a b := by
    unfold gcdM
    have : (if a < 0 then -a else a).toNat = a.natAbs := by split <;> omega
    rw [this]
  rw [e]
  have h3 := gcdM_pos (a := a) h1
  have h4 : gcdM a b ≤ b := by
    unfold gcdM
    have := Nat.gcd_le_right a.natAbs (show 0 < b.toNat by omega)
    omega
  have h5 : CDivW a (gcdM a b) := wide_div (b := 65) h3 (by omega) (by decide) (by decide)
  have h6 : CDivW b (gcdM a b) := wide_div (b := 65) h3 (by omega) (by decide) (by decide)
  repeat walk_at "af"
  refine i_rI h5 ?_
  repeat walk_at "af"
  refine i_rI h6 ?_
  repeat walk_at "af"
  intro p H1 hp s1 q1
  exact k _ _ s1 ⟨p, rfl, q1⟩
end
end Af
set_option Elab.async false
set_option linter.all false
set_option maxRecDepth 100000
set_option maxHeartbeats 2000000
/-! # plans.py, first part -/
namespace Af
open PySem PySem.Spec PyProof.Rows L2
open Askfirst (GivenTask GivenPlan)
local macro_rules | `(tactic| walk_at "af") => `(tactic| first
  | (with_reducible refine i_seq ?_)
  | (with_reducible refine i_asg ?_)
  | (with_reducible refine i_name ?_)
  | (with_reducible refine i_var (by with_unfolding_all rfl) ?_)
  | (with_reducible refine i_C ?_)
  | (with_reducible refine i_op ?_)
  | (with_reducible refine i_rI0 ?_)
  | (with_reducible refine i_cons ?_)
  | (with_reducible refine i_nil ?_)
  | (with_reducible refine i_callS ?_)
  | (with_reducible refine i_cb ?_)
  | (with_reducible refine i_if ?_)
  | (with_reducible refine i_test ?_)
  | (with_reducible refine i_B ?_)
  | (with_reducible refine i_bl ?_)
  | (with_reducible refine i_cmp ?_)
  | (with_reducible refine i_ij ?_)
  | (with_reducible refine i_not ?_)
  | (with_reducible refine i_and ?_)
  | (with_reducible refine i_or ?_)
  | (with_reducible refine i_andV ?_)
  | (with_reducible refine i_orV ?_)
  | (with_reducible refine i_ret ?_)
  | (with_reducible refine i_drop ?_)
  | (with_reducible refine i_next ?_)
  | (with_reducible refine i_un ?_)
  | (with_reducible refine i_rU ?_)
  | ((with_reducible refine i_rI (C := CMul) ?hc ?_); (case hc => first | exact Or.inl ⟨by omega, by omega⟩ | exact Or.inr ⟨by omega, by omega⟩))
  | ((with_reducible refine i_rI (C := fun _ j => 0 < j) ?hc ?_); (case hc => (show (0 : Int) < _; omega)))
  | ((with_reducible refine i_rI (C := CDiv) ?hc ?_); (case hc => exact ⟨by omega, by omega⟩))
  | (with_reducible refine i_tup ?_)
  | (with_reducible refine i_lst ?_)
  | (with_reducible refine i_newT (by with_unfolding_all exact Nat.le_of_ble_eq_true rfl) ?_)
  | (with_reducible refine i_newL (by with_unfolding_all exact Nat.le_of_ble_eq_true rfl) ?_)
  | (with_reducible refine i_bm ?_)
  | (with_reducible refine i_sl ?_)
  | (with_reducible refine i_part ?_)
  | (with_reducible refine i_i ?_)
  | (with_reducible refine i_nopart ?_)
  | (with_reducible refine i_isN ?_)
  | (with_reducible refine i_par ?_)
  | (with_reducible refine i_vw ?_)
  | (with_reducible refine i_par3 ?_)
  | (with_reducible refine i_uvw ?_)
  | (with_reducible refine i_gc ?_)
  | (with_reducible refine i_gn ?_)
  | (with_reducible refine i_for ?_)
  | (with_reducible refine i_lc ?_)
  | (with_reducible refine i_itL ?_)
  | (with_reducible refine i_itT ?_)
  | (with_reducible refine i_itR ?_)
  | (with_reducible refine i_itV ?_)
  | (with_reducible refine i_itZ ?_)
  | (with_reducible refine i_lstRev ?_)
  | (with_reducible refine i_tyes ?_)
  | (with_reducible refine iteT ?_)
  | (with_reducible refine i_one ?_)
  | (with_reducible refine i_two ?_))
/-! ### tasks that fit -/
def nA (x : GivenTask) : Nat := (x.rewards.headD []).length
structure Fit (x : GivenTask) : Prop where
  u1 : 1 ≤ x.unit
  u2 : x.unit ≤ 99
  w1 : 1 ≤ x.weights.length
  w4 : x.weights.length ≤ 4
  ws : x.weights.sum = x.unit
  rl : x.rewards.length = x.weights.length
  m1 : 1 ≤ nA x
  m4 : nA x ≤ 4
  row : ∀ r ∈ x.rewards, r.length = nA x
  rew : ∀ r ∈ x.rewards, ∀ i ∈ r, -99 ≤ i ∧ i ≤ 99
/-- the i-th item's list, one more -/
theorem take_snoc {α : Type} {l : List α} {i : Nat} (h : i < l.length) : l.take (i + 1) = l.take i ++ [l[i]] := by
  rw [List.take_add_one, List.getElem?_eq_getElem h]
  rfl
theorem vI_take (l : List Int) (i : Nat) : (vI l).take i = vI (l.take i) := (List.map_take ..).symm
theorem vI_snoc {l : List Int} {i : Nat} (h : i < l.length) : vI (l.take (i + 1)) = vI (l.take i) ++ [.int (l.getD i 0)] := by
  show (l.take (i + 1)).map V.int = (l.take i).map V.int ++ _
  rw [take_snoc h, List.map_append]
  simp [List.getD_eq_getElem?_getD, List.getElem?_eq_getElem h]
def sp_column : Sp := fun vs H Q _ => ∃ v x a, vs = [v, .int ((a : Nat) : Int)] ∧ RTask H v x ∧ Fit x ∧ a < nA x ∧ ∀ H' u, Same H H' → New H H' u (vI (colM x.rewards a)) → Q u H'
def sp_ending_rests : Sp := fun vs H Q _ => ∃ v x en, vs = [v, vO en] ∧ RTask H v x ∧ Fit x ∧ (∀ a, en = some a → a < nA x) ∧ ∀ H' u, Same H H' → New H H' u (vI (endM x.rewards en)) → Q u H'
def sp_yes_chance : Sp := fun vs H Q _ => ∃ r w sc e : Int, vs = [.int r, .int w, .int sc, .int e] ∧ 0 < sc ∧ sc ≤ 100 ^ 8 ∧ 0 ≤ e ∧ e ≤ 100 ∧ Q (.int (yesM r w sc e)) H
def sp_worst_chances : Sp := fun vs H Q _ => ∃ (a b : V) (rw w : List Int) (sc e : Int), vs = [a, b, .int sc, .int e] ∧ RL H a (vI rw) ∧ RL H b (vI w) ∧ rw.length = w.length ∧ w.length ≤ 4 ∧ 0 < sc ∧ sc ≤ 100 ^ 8 ∧ 0 ≤ e ∧ e ≤ 100 ∧
  ∀ H' u, Same H H' → New H H' u (vI (chancesM rw w sc e)) → Q u H'
section
variable {P : Program} {w : World} {K : PySem.W.Frag} {mg : Str → Option Value} {base : Heap} {d : Addr} {as : Nat → Addr} {C : Addr}
theorem ok_column (T : Txt K mg d as C) : Ok P w K mg base CX0 1 "column" ["task", "action"] sp_column := by
  refine T.d_column.ok sc_column (fun vs H Q E h => ?_) fun f cdv A outer s H vs Q E hr h => ⟨_, (pss_one (ps_ret (pe_lc (own := [("row", 2)]) (g := (gName 2)) (tt := tYes) (te := (tOp (rIxL K) (tVar 2) (tVar 1))) rfl sc_column.nd (pi_list (pe_ix ix_tup (pv 0) pe_int (fun _ _ => rfl))) (blkOk_by (N := N_column) (sc := defScope s_column) (by decide +kernel)) (fun _ _ _ _ _ => (pg_name (i := 2) sc_column.nd rfl (Or.inl rfl))) (fun _ _ _ _ _ => pts_nil) (fun _ _ _ _ _ => (pe_ix ix_list (pv 2) (pv 1) (fun _ _ => rfl)))))), ?_⟩
  · obtain ⟨v, x, a, rfl, _⟩ := h
    rfl
  obtain ⟨v, x, a, rfl, ⟨wv, rv, ⟨tp, rfl, ht⟩, hw, ⟨rs, ⟨rp, rfl, hr1⟩, hrs⟩⟩, hf, ha, k⟩ := h
  repeat walk_at "af"
  refine i_ixT (j := 2) (SqT.of ht) rfl rfl ?_
  repeat walk_at "af"
  refine i_wL (SqL.of hr1) ?_
  refine i_lcW walk_list (fun i => vI ((colM x.rewards a).take i)) rfl (fun i hi => ?_) (fun H' s' => SqL.of (s' _ _ hr1)) (fun i y H1 H' N1 N0 hi s1 hy n1 n0 => ?_) fun D H' hD s' hq => ?_
  · have := hrs.1; have := hf.rl; have := hf.w4
    exact size_lt (by simp; omega)
  · obtain ⟨rfl, hy⟩ := hy
    obtain ⟨r, hr2, ra⟩ := hrs.of hy
    obtain ⟨q, rfl, hq⟩ := ra.up s1
    repeat walk_at "af"
    refine ⟨rfl, ?_⟩
    have hm : r ∈ x.rewards := List.mem_of_getElem? hr2
    have hl : a < r.length := by rw [hf.row r hm]; exact ha
    have hi2 : i < x.rewards.length := (List.getElem?_eq_some_iff.mp hr2).1
    repeat walk_at "af"
    refine i_ixL (j := a) (SqL.of hq) rfl (vI_get hl) ?_
    refine n1 _ _ (Same.refl _) ?_
    rw [vI_snoc (by rw [colM_length]; exact hi2), colM_get]
    congr 3
    rw [List.getD_eq_getElem?_getD, List.getD_eq_getElem?_getD, hr2]
    simp
  · refine k _ _ s' ⟨D, rfl, hD, ?_⟩
    rw [hq]
    congr 3
    rw [List.take_of_length_le]
    rw [colM_length, hrs.1]
    exact Nat.le_refl _
theorem ok_ending_rests (T : Txt K mg d as C) : Ok P w K mg base CX0 2 "ending_rests" ["task", "ending"] sp_ending_rests := by
  have G_column := ok_column (P := P) (w := w) (base := base) T
  refine T.d_ending_rests.ok sc_ending_rests (fun vs H Q E h => ?_) fun f cdv A outer s H vs Q E hr h => ⟨_, (pss_cons (ps_if (pt_cmp (pc_isN (pv 1))) (pss_one (ps_ret (pe_lc (own := [("row", 2)]) (g := (gName 2)) (tt := tYes) (te := (tC (.int 0))) rfl sc_ending_rests.nd (pi_list (pe_ix ix_tup (pv 0) pe_int (fun _ _ => rfl))) (blkOk_by (N := N_ending_rests) (sc := defScope s_ending_rests) (by decide +kernel)) (fun _ _ _ _ _ => (pg_name (i := 2) sc_ending_rests.nd rfl (Or.inl rfl))) (fun _ _ _ _ _ => pts_nil) (fun _ _ _ _ _ => pe_int)))) pss_nil)
      (pss_one (ps_ret (pe_cl (E := fun _ => E0) G_column (hr.mono (by decide)) (fun σ => pass00 σ) (pa_cons (pv 0) (pa_cons (pv 1) pa_nil)))))), ?_⟩
  · obtain ⟨v, x, a, rfl, _⟩ := h
    rfl
  obtain ⟨v, x, en, rfl, hT, hf, ha, k⟩ := h
  have hT0 := hT
  obtain ⟨wv, rv, ⟨tp, rfl, ht⟩, hw, ⟨rs, ⟨rp, rfl, hr1⟩, hrs⟩⟩ := hT0
  repeat walk_at "af"
  cases en with
  | none =>
    refine i_dec (fun _ => ?_) (fun z => absurd rfl z)
    repeat walk_at "af"
    refine i_ixT (j := 2) (SqT.of ht) rfl rfl ?_
    repeat walk_at "af"
    refine i_wL (SqL.of hr1) ?_
    refine i_lcW walk_list (fun i => vI ((endM x.rewards none).take i)) rfl (fun i hi => ?_) (fun H' s' => SqL.of (s' _ _ hr1)) (fun i y H1 H' N1 N0 hi s1 hy n1 n0 => ?_) fun D H' hD s' hq => ?_
    · have := hrs.1; have := hf.rl; have := hf.w4
      exact size_lt (by simp; omega)
    · obtain ⟨rfl, hy⟩ := hy
      repeat walk_at "af"
      refine ⟨rfl, ?_⟩
      repeat walk_at "af"
      refine n1 _ _ (Same.refl _) ?_
      rw [vI_snoc (by rw [endM_length, ← hrs.1]; exact hi), endM_get]
    · refine k _ _ s' ⟨D, rfl, hD, ?_⟩
      rw [hq]
      congr 3
      rw [List.take_of_length_le]
      rw [endM_length, hrs.1]
      exact Nat.le_refl _
  | some a =>
    refine i_dec (fun z => nomatch z) (fun _ => ?_)
    repeat walk_at "af"
    exact ⟨_, x, a, rfl, hT, hf, ha a rfl, k⟩
theorem ok_yes_chance (T : Txt K mg d as C) : Ok P w K mg base CX0 1 "yes_chance" ["reward", "rest", "scale", "error"] sp_yes_chance := by
  refine T.d_yes_chance.ok sc_yes_chance (fun vs H Q E h => ?_) fun f cdv A outer s H vs Q E hr h => ⟨_, (pss_cons (ps_set (i := 4) sc_yes_chance.nd rfl (Or.inl rfl) (pe_op op_mul (pv 0) (pv 2)))
      (pss_cons (ps_if (pt_cmpR op_ge (pv 0) pe_int (nomark _)) (pss_cons (ps_if (pt_cmpR op_le (pe_op op_mul pe_int (pv 4)) (pe_op op_add (pe_op op_mul (pe_op op_sub pe_int (pv 3)) (pv 4)) (pe_op op_mul (pv 3) (pv 1))) (nomark _)) (pss_one (ps_ret pe_int)) pss_nil)
      (pss_one (ps_ret (pe_op op_sub pe_int (pv 3))))) pss_nil)
      (pss_cons (ps_if (pt_cmpR op_le (pe_op op_mul pe_int (pv 1)) (pe_op op_add (pe_op op_mul (pv 3) (pv 4)) (pe_op op_mul (pe_op op_sub pe_int (pv 3)) (pv 1))) (nomark _)) (pss_one (ps_ret pe_int)) pss_nil)
      (pss_one (ps_ret (pv 3)))))), ?_⟩
  · obtain ⟨v, x, a, b, rfl, _⟩ := h
    rfl
  obtain ⟨r, w', sc, e, rfl, h1, h2, h3, h4, k⟩ := h
  repeat walk_at "af"
  unfold yesM at k
  refine i_dec (fun h5 => ?_) fun h5 => ?_
  · rw [if_pos h5] at k
    repeat walk_at "af"
    refine i_dec (fun h6 => ?_) fun h6 => ?_
    · rw [if_pos h6] at k
      repeat walk_at "af"
      exact k
    · rw [if_neg h6] at k
      repeat walk_at "af"
      exact k
  · rw [if_neg h5] at k
    repeat walk_at "af"
    refine i_dec (fun h6 => ?_) fun h6 => ?_
    · rw [if_pos h6] at k
      repeat walk_at "af"
      exact k
    · rw [if_neg h6] at k
      repeat walk_at "af"
      exact k
theorem ok_worst_chances (T : Txt K mg d as C) : Ok P w K mg base CX0 2 "worst_chances" ["rewards", "rests", "scale", "error"] sp_worst_chances := by
  have G_yes_chance := ok_yes_chance (P := P) (w := w) (base := base) T
  refine T.d_worst_chances.ok sc_worst_chances (fun vs H Q E h => ?_) fun f cdv A outer s H vs Q E hr h => ⟨_, (pss_one (ps_ret (pe_lc (own := [("reward", 5), ("rest", 4)]) (g := (gTup K 2 (gCons (gName 5) (gCons (gName 4) gNil)))) (tt := tYes) (te := (tCallS sp_yes_chance (fun _ => E0) (tCons (tVar 5) (tCons (tVar 4) (tCons (tVar 2) (tCons (tVar 3) tNil)))))) rfl sc_worst_chances.nd (pi_zip (by rfl) T.bzip (pa_cons (pv 0) (pa_cons (pv 1) pa_nil))) (blkOk_by (N := N_worst_chances) (sc := defScope s_worst_chances) (by decide +kernel)) (fun _ _ _ _ _ => (pg_tup rfl (pgs_cons (pg_name (i := 5) sc_worst_chances.nd rfl (Or.inl rfl)) (pgs_cons (pg_name (i := 4) sc_worst_chances.nd rfl (Or.inl rfl)) pgs_nil)))) (fun _ _ _ _ _ => pts_nil) (fun _ _ _ _ _ => (pe_cl (E := fun _ => E0) G_yes_chance (hr.mono (by decide)) (fun σ => pass00 σ) (pa_cons (pv 5) (pa_cons (pv 4) (pa_cons (pv 2) (pa_cons (pv 3) pa_nil))))))))), ?_⟩
  · obtain ⟨a, b, rw', w', sc, e, rfl, _⟩ := h
    rfl
  obtain ⟨a, b, rw', w', sc, e, rfl, ⟨p, rfl, hp⟩, ⟨q, rfl, hq⟩, hl, h4, h5, h6, h7, h8, k⟩ := h
  repeat walk_at "af"
  refine i_wZ (SqL.of hp) (SqL.of hq) ?_
  have hc : (chancesM rw' w' sc e).length = w'.length := by unfold chancesM; rw [List.length_zipWith, hl]; omega
  refine i_lcW (walk_zip (n := w'.length) (by simp; omega)) (fun i => vI ((chancesM rw' w' sc e).take i)) rfl (fun i hi => ?_) (fun H' s' => ⟨SqL.of (s' _ _ hp), SqL.of (s' _ _ hq)⟩) (fun i y H1 H' N1 N0 hi s1 hy n1 n0 => ?_) fun D H' hD s' hq => ?_
  · exact size_lt (by simp; omega)
  · obtain ⟨t, x1, x2, rfl, hn, rfl, e1, e2⟩ := hy
    have e1 : (vI rw')[i]? = some x1 := e1
    have e2 : (vI w')[i]? = some x2 := e2
    rw [vI_get (by omega)] at e1
    rw [vI_get (by omega)] at e2
    cases e1
    cases e2
    refine i_gT (SqT.of upd_same) rfl ?_
    repeat walk_at "af"
    refine ⟨rfl, ?_⟩
    repeat walk_at "af"
    refine ⟨_, _, _, _, rfl, h5, h6, h7, h8, ?_⟩
    refine n1 _ _ (Same.new hn) ?_
    rw [vI_snoc (by rw [hc]; exact hi)]
    congr 3
    unfold chancesM
    rw [zipWith_get _ _ i (by omega) hi]
  · refine k _ _ s' ⟨D, rfl, hD, ?_⟩
    rw [hq]
    congr 3
    rw [List.take_of_length_le]
    rw [hc]
    exact Nat.le_refl _
end
end Af
set_option Elab.async false
set_option linter.all false
set_option maxRecDepth 100000
set_option maxHeartbeats 2000000
/-! # plans.py, second part -/
namespace Af
open PySem PySem.Spec PyProof.Rows L2
open Askfirst (GivenTask GivenPlan)
local macro_rules | `(tactic| walk_at "af") => `(tactic| first
  | (with_reducible refine i_seq ?_)
  | (with_reducible refine i_asg ?_)
  | (with_reducible refine i_name ?_)
  | (with_reducible refine i_var (by with_unfolding_all rfl) ?_)
  | (with_reducible refine i_C ?_)
  | (with_reducible refine i_op ?_)
  | (with_reducible refine i_rI0 ?_)
  | (with_reducible refine i_cons ?_)
  | (with_reducible refine i_nil ?_)
  | (with_reducible refine i_callS ?_)
  | (with_reducible refine i_cb ?_)
  | (with_reducible refine i_if ?_)
  | (with_reducible refine i_test ?_)
  | (with_reducible refine i_B ?_)
  | (with_reducible refine i_bl ?_)
  | (with_reducible refine i_cmp ?_)
  | (with_reducible refine i_ij ?_)
  | (with_reducible refine i_not ?_)
  | (with_reducible refine i_and ?_)
  | (with_reducible refine i_or ?_)
  | (with_reducible refine i_andV ?_)
  | (with_reducible refine i_orV ?_)
  | (with_reducible refine i_ret ?_)
  | (with_reducible refine i_drop ?_)
  | (with_reducible refine i_next ?_)
  | (with_reducible refine i_un ?_)
  | (with_reducible refine i_rU ?_)
  | ((with_reducible refine i_rI (C := CMul) ?hc ?_); (case hc => first | exact Or.inl ⟨by omega, by omega⟩ | exact Or.inr ⟨by omega, by omega⟩))
  | ((with_reducible refine i_rI (C := fun _ j => 0 < j) ?hc ?_); (case hc => (show (0 : Int) < _; omega)))
  | ((with_reducible refine i_rI (C := CDiv) ?hc ?_); (case hc => exact ⟨by omega, by omega⟩))
  | (with_reducible refine i_tup ?_)
  | (with_reducible refine i_lst ?_)
  | (with_reducible refine i_newT (by with_unfolding_all exact Nat.le_of_ble_eq_true rfl) ?_)
  | (with_reducible refine i_newL (by with_unfolding_all exact Nat.le_of_ble_eq_true rfl) ?_)
  | (with_reducible refine i_bm ?_)
  | (with_reducible refine i_sl ?_)
  | (with_reducible refine i_part ?_)
  | (with_reducible refine i_i ?_)
  | (with_reducible refine i_nopart ?_)
  | (with_reducible refine i_isN ?_)
  | (with_reducible refine i_par ?_)
  | (with_reducible refine i_vw ?_)
  | (with_reducible refine i_par3 ?_)
  | (with_reducible refine i_uvw ?_)
  | (with_reducible refine i_gc ?_)
  | (with_reducible refine i_gn ?_)
  | (with_reducible refine i_for ?_)
  | (with_reducible refine i_lc ?_)
  | (with_reducible refine i_itL ?_)
  | (with_reducible refine i_itT ?_)
  | (with_reducible refine i_itR ?_)
  | (with_reducible refine i_itV ?_)
  | (with_reducible refine i_itZ ?_)
  | (with_reducible refine i_lstRev ?_)
  | (with_reducible refine i_tyes ?_)
  | (with_reducible refine iteT ?_)
  | (with_reducible refine i_one ?_)
  | (with_reducible refine i_two ?_))
def sp_with_proposal : Sp := fun vs H Q _ => ∃ (a b r : V) (rw ch w : List Int) (sc c : Int), vs = [a, b, r, .int sc, .int c] ∧ RL H a (vI rw) ∧ RL H b (vI ch) ∧ RL H r (vI w) ∧ rw.length = w.length ∧ ch.length = w.length ∧ w.length ≤ 4 ∧ (∀ t, t < w.length → 0 ≤ ch.getD t 0 ∧ ch.getD t 0 ≤ 100) ∧ 0 < sc ∧ sc ≤ 100 ^ 8 ∧ 0 ≤ c ∧ c ≤ 99 ∧
  ∀ H' u, Same H H' → New H H' u (vI (withM rw ch w sc c)) → Q u H'
def sp_put_ahead : Sp := fun vs H Q _ => ∃ (v : V) (x : GivenTask) (a : Nat) (r : V) (w : List Int) (sc e c : Int), vs = [v, .int (a : Int), r, .int sc, .int e, .int c] ∧ RTask H v x ∧ Fit x ∧ a < nA x ∧ RL H r (vI w) ∧ w.length = x.rewards.length ∧ 0 < sc ∧ sc ≤ 100 ^ 8 ∧ 0 ≤ e ∧ e ≤ 100 ∧ 0 ≤ c ∧ c ≤ 99 ∧
  ∀ H' u, Same H H' → New H H' u (vI (aheadM x.rewards a w sc e c)) → Q u H'
def sp_put_all_ahead : Sp := fun vs H Q _ => ∃ (v : V) (x : GivenTask) (q : V) (l : List Nat) (r : V) (w : List Int) (k : Nat) (sc e c : Int), vs = [v, q, r, .int sc, .int e, .int c] ∧ RTask H v x ∧ Fit x ∧ RL H q (vN l) ∧ (∀ a ∈ l, a < nA x) ∧ RL H r (vI w) ∧ w.length = x.rewards.length ∧ sc = 100 ^ k ∧ k + l.length ≤ 8 ∧ 0 ≤ e ∧ e ≤ 100 ∧ 0 ≤ c ∧ c ≤ 99 ∧
  ∀ H' u, Same H H' → (∃ f, RT H' u [f, .int (100 ^ l.length * sc)] ∧ RL H' f (vI (aheadsM x.rewards l w sc e c))) → Q u H'
def sp_weighed : Sp := fun vs H Q _ => ∃ (v : V) (x : GivenTask) (r : V) (w : List Int), vs = [v, r] ∧ RTask H v x ∧ Fit x ∧ RL H r (vI w) ∧ w.length = x.rewards.length ∧ ∀ H', Same H H' → Q (.int (weighedM x.weights w)) H'
/-- a plan of the task -/
structure PlanFit (x : GivenTask) (p : GivenPlan) : Prop where
  nd : p.asks.Nodup
  lt : ∀ a ∈ p.asks, a < nA x
  en : ∀ a, p.ending = some a → a < nA x
theorem nodup_le {l : List Nat} {m : Nat} (h : l.Nodup) (hm : ∀ a ∈ l, a < m) : l.length ≤ m := by
  have := acts_length m l h hm
  omega
theorem PlanFit.le {x : GivenTask} {p : GivenPlan} (h : PlanFit x p) (f : Fit x) : p.asks.length ≤ 4 := Nat.le_trans (nodup_le h.nd h.lt) f.m4
def sp_plan_sum : Sp := fun vs H Q _ => ∃ (v : V) (x : GivenTask) (q : V) (p : GivenPlan) (e c : Int), vs = [v, q, .int e, .int c] ∧ RTask H v x ∧ Fit x ∧ RPlan H q p ∧ PlanFit x p ∧ 0 ≤ e ∧ e ≤ 100 ∧ 0 ≤ c ∧ c ≤ 99 ∧
  ∀ H' u, Same H H' → RT H' u [.int (sumM x p.asks p.ending e c), .int (overM x p.asks)] → Q u H'
def sp_sure_of : Sp := fun vs H Q _ => ∃ (v : V) (x : GivenTask) (q : V) (p : GivenPlan) (e c : Int), vs = [v, q, .int e, .int c] ∧ RTask H v x ∧ Fit x ∧ RPlan H q p ∧ PlanFit x p ∧ 0 ≤ e ∧ e ≤ 100 ∧ 0 ≤ c ∧ c ≤ 99 ∧
  ∀ H' u, Same H H' → RFr H' u (sumM x p.asks p.ending e c) (overM x p.asks) → Q u H'
theorem chancesM_range {rw w : List Int} {sc e : Int} (hl : rw.length = w.length) (h0 : 0 ≤ e) (h1 : e ≤ 100) (t : Nat) (ht : t < w.length) : 0 ≤ (chancesM rw w sc e).getD t 0 ∧ (chancesM rw w sc e).getD t 0 ≤ 100 := by
  unfold chancesM
  rw [zipWith_get _ _ t (by omega) ht]
  exact yesM_range h0 h1
theorem chancesM_length {rw w : List Int} {sc e : Int} (hl : rw.length = w.length) : (chancesM rw w sc e).length = w.length := by
  unfold chancesM
  rw [List.length_zipWith, hl]
  omega
theorem mem_le_sum : ∀ {l : List Nat} {a : Nat}, a ∈ l → a ≤ l.sum
  | b :: l, a, h => by
    rw [List.sum_cons]
    rcases List.mem_cons.mp h with rfl | h
    · omega
    · have := mem_le_sum h
      omega
theorem pow100_le {a b : Nat} (h : a ≤ b) : (100 : Int) ^ a ≤ 100 ^ b := by
  obtain ⟨m, rfl⟩ : ∃ m, b = a + m := ⟨b - a, by omega⟩
  rw [Int.pow_add]
  have h1 : (0 : Int) < 100 ^ a := pow_pos100 a
  have h2 : (0 : Int) < 100 ^ m := pow_pos100 m
  have := Int.mul_le_mul_of_nonneg_left (show (1 : Int) ≤ 100 ^ m by omega) (Int.le_of_lt h1)
  omega
section
variable {P : Program} {w : World} {K : PySem.W.Frag} {mg : Str → Option Value} {base : Heap} {d : Addr} {as : Nat → Addr} {C : Addr}
theorem ok_with_proposal (T : Txt K mg d as C) : Ok P w K mg base CX0 1 "with_proposal" ["rewards", "chances", "rests", "scale", "cost"] sp_with_proposal := by
  refine T.d_with_proposal.ok sc_with_proposal (fun vs H Q E h => ?_) fun f cdv A outer s H vs Q E hr h => ⟨_, (pss_cons (ps_set (i := 5) sc_with_proposal.nd rfl (Or.inl rfl) (pe_lst pa_nil))
      (pss_cons (ps_for PassesOwn.never rfl (pi_range1 (by rfl) T.brange (pa_cons (pe_callB call_len_seq (by rfl) T.blen PySem.boot_len (pa_cons (pv 2) pa_nil)) pa_nil)) (pg_name (i := 6) sc_with_proposal.nd rfl (Or.inl rfl))
      (pss_cons (ps_set (i := 7) sc_with_proposal.nd rfl (Or.inl rfl) (pe_op op_mul (pe_op op_mul (pe_ix ix_list (pv 1) (pv 6) (fun _ _ => rfl)) (pe_ix ix_list (pv 0) (pv 6) (fun _ _ => rfl))) (pv 3)))
      (pss_cons (ps_set (i := 8) sc_with_proposal.nd rfl (Or.inl rfl) (pe_op op_mul (pe_op op_sub pe_int (pe_ix ix_list (pv 1) (pv 6) (fun _ _ => rfl))) (pe_ix ix_list (pv 2) (pv 6) (fun _ _ => rfl))))
      (pss_one (ps_expr (pe_bm PySem.F.plainAttrs_list PySem.F.slot_list_append PySem.F.type_list_append mt_append (pv 5) (pa_cons (pe_op op_sub (pe_op op_add (pv 7) (pv 8)) (pe_op op_mul (pe_op op_mul pe_int (pv 4)) (pv 3))) pa_nil)))))))
      (pss_one (ps_ret (pv 5))))), ?_⟩
  · obtain ⟨a, b, r, rw', ch, w', sc, c, rfl, _⟩ := h
    rfl
  obtain ⟨a, b, r, rw', ch, w', sc, c, rfl, ⟨pa, rfl, ha⟩, ⟨pb, rfl, hb⟩, ⟨pr, rfl, hr1⟩, l1, l2, l4, hch, h1, h2, h3, h4, k⟩ := h
  repeat walk_at "af"
  intro l H1 hl s1 q1
  repeat walk_at "af"
  refine i_len (SqL.of (s1 _ _ hr1)) ?_
  repeat walk_at "af"
  refine i_wR (by simp; omega) ?_
  refine i_forW walk_range (fun i σ H' => ∃ a1 a2 a3 : Option V, σ = [some (.ref pa), some (.ref pb), some (.ref pr), some (.int sc), some (.int c), some (.ref l), a1, a2, a3] ∧ Same H H' ∧ H' l = some (.lst (vI ((withM rw' ch w' sc c).take i))))
    ⟨none, none, none, rfl, s1, q1⟩ (fun _ _ _ _ _ => trivial) (fun i y σ H2 H3 hi hP hy => ?_) fun σ H2 hP => ?_
  · obtain ⟨a1, a2, a3, rfl, s2, q2⟩ := hP
    obtain ⟨rfl, rfl⟩ := hy
    have hi : i < w'.length := by simpa using hi
    obtain ⟨c1, c2⟩ := hch i hi
    repeat walk_at "af"
    refine i_ixL (j := i) (SqL.of (s2 _ _ hb)) (by omega) (vI_get (by omega)) ?_
    repeat walk_at "af"
    refine i_ixL (j := i) (SqL.of (s2 _ _ ha)) (by omega) (vI_get (by omega)) ?_
    repeat walk_at "af"
    refine i_ixL (j := i) (SqL.of (s2 _ _ hb)) (by omega) (vI_get (by omega)) ?_
    repeat walk_at "af"
    refine i_ixL (j := i) (SqL.of (s2 _ _ hr1)) (by omega) (vI_get (by omega)) ?_
    repeat walk_at "af"
    refine ⟨tyl q2, ?_⟩
    repeat walk_at "af"
    refine i_app q2 (size_lt (by simp; omega)) ?_
    refine ⟨_, _, _, rfl, Same.mut s2 (Same.free (Same.refl _) hl), ?_⟩
    rw [vI_snoc (by rw [withM_length]; exact hi), withM_get _ _ _ _ _ _ hi]
    exact upd_same
  · obtain ⟨a1, a2, a3, rfl, s2, q2⟩ := hP
    repeat walk_at "af"
    refine k _ _ s2 ⟨l, rfl, hl, ?_⟩
    rw [q2]
    congr 3
    rw [List.take_of_length_le]
    rw [withM_length]
    simp
theorem ok_put_ahead (T : Txt K mg d as C) : Ok P w K mg base CX0 3 "put_ahead" ["task", "action", "rests", "scale", "error", "cost"] sp_put_ahead := by
  have G_column := ok_column (P := P) (w := w) (base := base) T
  have G_worst_chances := ok_worst_chances (P := P) (w := w) (base := base) T
  have G_with_proposal := ok_with_proposal (P := P) (w := w) (base := base) T
  refine T.d_put_ahead.ok sc_put_ahead (fun vs H Q E h => ?_) fun f cdv A outer s H vs Q E hr h => ⟨_, (pss_cons (ps_set (i := 6) sc_put_ahead.nd rfl (Or.inl rfl) (pe_cl (E := fun _ => E0) G_column (hr.mono (by decide)) (fun σ => pass00 σ) (pa_cons (pv 0) (pa_cons (pv 1) pa_nil))))
      (pss_cons (ps_set (i := 7) sc_put_ahead.nd rfl (Or.inl rfl) (pe_cl (E := fun _ => E0) G_worst_chances (hr.mono (by decide)) (fun σ => pass00 σ) (pa_cons (pv 6) (pa_cons (pv 2) (pa_cons (pv 3) (pa_cons (pv 4) pa_nil))))))
      (pss_one (ps_ret (pe_cl (E := fun _ => E0) G_with_proposal (hr.mono (by decide)) (fun σ => pass00 σ) (pa_cons (pv 6) (pa_cons (pv 7) (pa_cons (pv 2) (pa_cons (pv 3) (pa_cons (pv 5) pa_nil)))))))))), ?_⟩
  · obtain ⟨v, x, a, r, w', sc, e, c, rfl, _⟩ := h
    rfl
  obtain ⟨v, x, a, r, w', sc, e, c, rfl, hT, hf, ha, hr1, hl, h1, h2, h3, h4, h5, h6, k⟩ := h
  have l4 : w'.length ≤ 4 := by have := hf.rl; have := hf.w4; omega
  repeat walk_at "af"
  refine ⟨_, x, a, rfl, hT, hf, ha, fun H1 u1 s1 n1 => ?_⟩
  repeat walk_at "af"
  refine ⟨_, _, _, _, _, _, rfl, n1.rl, hr1.up s1, by rw [colM_length]; omega, l4, h1, h2, h3, h4, fun H2 u2 s2 n2 => ?_⟩
  repeat walk_at "af"
  refine ⟨_, _, _, _, _, _, _, _, rfl, n1.rl.up s2, n2.rl, (hr1.up s1).up s2, by rw [colM_length]; omega, chancesM_length (by rw [colM_length]; omega), l4, chancesM_range (by rw [colM_length]; omega) h3 h4, h1, h2, h5, h6, fun H3 u3 s3 n3 => ?_⟩
  obtain ⟨p, rfl, hp, q3⟩ := n3
  exact k _ _ (Same.trans (Same.trans s1 s2) s3) ⟨p, rfl, Same.free (Same.trans s1 s2) hp, q3⟩
theorem ok_put_all_ahead (T : Txt K mg d as C) : Ok P w K mg base CX0 4 "put_all_ahead" ["task", "proposals", "rests", "scale", "error", "cost"] sp_put_all_ahead := by
  have G_put_ahead := ok_put_ahead (P := P) (w := w) (base := base) T
  refine T.d_put_all_ahead.ok sc_put_all_ahead (fun vs H Q E h => ?_) fun f cdv A outer s H vs Q E hr h => ⟨_, (pss_cons (ps_set (i := 6) sc_put_all_ahead.nd rfl (Or.inl rfl) (pv 2))
      (pss_cons (ps_set (i := 7) sc_put_all_ahead.nd rfl (Or.inl rfl) (pv 3))
      (pss_cons (ps_for PassesOwn.never rfl (pi_reversed (by rfl) T.breversed (pa_cons (pv 1) pa_nil)) (pg_name (i := 8) sc_put_all_ahead.nd rfl (Or.inl rfl))
      (pss_cons (ps_set (i := 6) sc_put_all_ahead.nd rfl (Or.inl rfl) (pe_cl (E := fun _ => E0) G_put_ahead (hr.mono (by decide)) (fun σ => pass00 σ) (pa_cons (pv 0) (pa_cons (pv 8) (pa_cons (pv 6) (pa_cons (pv 7) (pa_cons (pv 4) (pa_cons (pv 5) pa_nil))))))))
      (pss_one (ps_set (i := 7) sc_put_all_ahead.nd rfl (Or.inl rfl) (pe_op op_mul pe_int (pv 7))))))
      (pss_one (ps_ret (pe_tup (pa_cons (pv 6) (pa_cons (pv 7) pa_nil)))))))), ?_⟩
  · obtain ⟨v, x, q, l, r, w', k, sc, e, c, rfl, _⟩ := h
    rfl
  obtain ⟨v, x, q, l, r, w', n, sc, e, c, rfl, hT, hf, ⟨p, rfl, hp⟩, ha, hr1, hl, rfl, hn, h3, h4, h5, h6, k⟩ := h
  repeat walk_at "af"
  refine i_wV (SqL.of hp) ?_
  have e0 : (vN l).length = l.length := by simp
  refine i_forW walk_rev (fun i σ H' => ∃ (a1 : Option V) (g : V), σ = [some v, some (.ref p), some r, some (.int (100 ^ n)), some (.int e), some (.int c), some g, some (.int (100 ^ i * 100 ^ n)), a1] ∧ i ≤ l.length ∧ Same H H' ∧ RL H' g (vI (aheadsM x.rewards (l.drop (l.length - i)) w' (100 ^ n) e c)))
    ⟨none, r, by rw [Int.pow_zero, Int.one_mul]; rfl, Nat.zero_le _, Same.refl _, by simpa [aheadsM] using hr1⟩ (fun i σ H' _ hP => ?_) (fun i y σ H2 H3 hi hP hy => ?_) fun σ H2 hP => ?_
  · obtain ⟨a1, g, rfl, _, s2, _⟩ := hP
    exact SqL.of (s2 _ _ hp)
  · obtain ⟨a1, g, rfl, hil, s2, q2⟩ := hP
    obtain ⟨rfl, hy⟩ := hy
    rw [e0] at hi hy
    rw [vN_get (by omega)] at hy
    cases hy
    have hm : l.getD (l.length - 1 - i) 0 ∈ l := by
      rw [List.getD_eq_getElem?_getD, List.getElem?_eq_getElem (by omega)]
      exact List.getElem_mem _
    repeat walk_at "af"
    have hpw : (100 : Int) ^ i * 100 ^ n ≤ 100 ^ 8 := by
      rw [← Int.pow_add]
      exact pow100_le (by omega)
    have hp0 : (0 : Int) < 100 ^ i * 100 ^ n := Int.mul_pos (pow_pos100 _) (pow_pos100 _)
    refine ⟨_, x, _, _, _, _, _, _, rfl, hT.up s2, hf, ha _ hm, q2, by rw [aheadsM_length, hl], hp0, hpw, h3, h4, h5, h6, fun H4 u4 s4 n4 => ?_⟩
    repeat walk_at "af"
    refine ⟨some (.int ((l.getD (l.length - 1 - i) 0 : Nat) : Int)), u4, ?_, by omega, Same.trans s2 s4, ?_⟩
    · rw [Int.pow_succ, Int.mul_comm (100 ^ i) 100, Int.mul_assoc]
      rfl
    · have e1 : l.drop (l.length - (i + 1)) = l.getD (l.length - 1 - i) 0 :: l.drop (l.length - i) := by
        have e2 : l.length - (i + 1) = l.length - 1 - i := by omega
        rw [e2, List.drop_eq_getElem_cons (by omega)]
        congr 1
        · simp [List.getD_eq_getElem?_getD, List.getElem?_eq_getElem (show l.length - 1 - i < l.length by omega)]
        · congr 1
          omega
      rw [e1]
      show RL _ _ (vI (aheadM x.rewards (l.getD (l.length - 1 - i) 0) (aheadsM x.rewards (l.drop (l.length - i)) w' (100 ^ n) e c) (100 ^ (l.drop (l.length - i)).length * 100 ^ n) e c))
      have e3 : (l.drop (l.length - i)).length = i := by simp; omega
      rw [e3]
      exact n4.rl
  · obtain ⟨a1, g, rfl, _, s2, q2⟩ := hP
    repeat walk_at "af"
    intro u H3 hu s3 q3
    rw [e0] at q2 q3
    refine k _ _ (Same.trans s2 s3) ⟨g, ⟨u, rfl, q3⟩, ?_⟩
    have := q2.up s3
    simpa using this
theorem ok_weighed (T : Txt K mg d as C) : Ok P w K mg base CX0 1 "weighed" ["task", "rests"] sp_weighed := by
  refine T.d_weighed.ok sc_weighed (fun vs H Q E h => ?_) fun f cdv A outer s H vs Q E hr h => ⟨_, (pss_one (ps_ret (pe_callB (cr_sum rfl) (by rfl) T.bsum (by decide +kernel) (pa_cons (pe_lc (own := [("weight", 3), ("rest", 2)]) (g := (gTup K 2 (gCons (gName 3) (gCons (gName 2) gNil)))) (tt := tYes) (te := (tOp oMul (tVar 3) (tVar 2))) rfl sc_weighed.nd (pi_zip (by rfl) T.bzip (pa_cons (pe_ix ix_tup (pv 0) pe_int (fun _ _ => rfl)) (pa_cons (pv 1) pa_nil))) (blkOk_by (N := N_weighed) (sc := defScope s_weighed) (by decide +kernel)) (fun _ _ _ _ _ => (pg_tup rfl (pgs_cons (pg_name (i := 3) sc_weighed.nd rfl (Or.inl rfl)) (pgs_cons (pg_name (i := 2) sc_weighed.nd rfl (Or.inl rfl)) pgs_nil)))) (fun _ _ _ _ _ => pts_nil) (fun _ _ _ _ _ => (pe_op op_mul (pv 3) (pv 2)))) pa_nil)))), ?_⟩
  · obtain ⟨v, x, a, b, rfl, _⟩ := h
    rfl
  obtain ⟨v, x, r, w', rfl, ⟨wv, rv, ⟨tp, rfl, ht⟩, ⟨pw, rfl, hw⟩, _⟩, hf, ⟨pr, rfl, hr1⟩, hl, k⟩ := h
  have l4 : w'.length ≤ 4 := by have := hf.rl; have := hf.w4; omega
  have lw : x.weights.length = w'.length := by have := hf.rl; omega
  repeat walk_at "af"
  refine i_ixT (j := 1) (SqT.of ht) rfl rfl ?_
  repeat walk_at "af"
  refine i_wZ (SqL.of hw) (SqL.of hr1) ?_
  refine i_lcW (walk_zip (n := w'.length) (by simp; omega)) (fun i => vI ((List.zipWith (fun (a : Nat) b => (a : Int) * b) x.weights w').take i)) rfl (fun i hi => ?_) (fun H' s' => ⟨SqL.of (s' _ _ hw), SqL.of (s' _ _ hr1)⟩) (fun i y H1 H' N1 N0 hi s1 hy n1 n0 => ?_) fun D H' hD s' hq => ?_
  · exact size_lt (by simp; omega)
  · obtain ⟨t, x1, x2, rfl, hn, rfl, e1, e2⟩ := hy
    have e1 : (vN x.weights)[i]? = some x1 := e1
    have e2 : (vI w')[i]? = some x2 := e2
    rw [vN_get (by omega)] at e1
    rw [vI_get (by omega)] at e2
    cases e1
    cases e2
    have hb : x.weights.getD i 0 ≤ 99 := by
      have h1 : x.weights.getD i 0 ∈ x.weights := by
        rw [List.getD_eq_getElem?_getD, List.getElem?_eq_getElem (by omega)]
        exact List.getElem_mem _
      have h2 := mem_le_sum h1
      have := hf.ws
      have := hf.u2
      omega
    refine i_gT (SqT.of upd_same) rfl ?_
    repeat walk_at "af"
    refine ⟨rfl, ?_⟩
    repeat walk_at "af"
    refine n1 _ _ (Same.new hn) ?_
    rw [vI_snoc (by simp; omega)]
    congr 3
    have hz : i < (List.zipWith (fun (a : Nat) b => (a : Int) * b) x.weights w').length := by simp; omega
    rw [List.getD_eq_getElem?_getD, List.getElem?_eq_getElem hz]
    simp [List.getD_eq_getElem?_getD, List.getElem?_eq_getElem (show i < x.weights.length by omega), List.getElem?_eq_getElem hi]
  · rw [List.take_of_length_le (by simp; omega)] at hq
    exact i_sum (SqL.of hq) (k _ s')
theorem ok_plan_sum (T : Txt K mg d as C) : Ok P w K mg base CX0 5 "plan_sum" ["task", "plan", "error", "cost"] sp_plan_sum := by
  have G_put_all_ahead := ok_put_all_ahead (P := P) (w := w) (base := base) T
  have G_ending_rests := ok_ending_rests (P := P) (w := w) (base := base) T
  have G_weighed := ok_weighed (P := P) (w := w) (base := base) T
  refine T.d_plan_sum.ok sc_plan_sum (fun vs H Q E h => ?_) fun f cdv A outer s H vs Q E hr h => ⟨_, (pss_cons (ps_asg (pv 1) (pg_tup rfl (pgs_cons (pg_name (i := 4) sc_plan_sum.nd rfl (Or.inl rfl)) (pgs_cons (pg_name (i := 5) sc_plan_sum.nd rfl (Or.inl rfl)) pgs_nil))))
      (pss_cons (ps_asg (pe_cl (E := fun _ => E0) G_put_all_ahead (hr.mono (by decide)) (fun σ => pass00 σ) (pa_cons (pv 0) (pa_cons (pv 4) (pa_cons (pe_cl (E := fun _ => E0) G_ending_rests (hr.mono (by decide)) (fun σ => pass00 σ) (pa_cons (pv 0) (pa_cons (pv 5) pa_nil))) (pa_cons pe_int (pa_cons (pv 2) (pa_cons (pv 3) pa_nil))))))) (pg_tup rfl (pgs_cons (pg_name (i := 6) sc_plan_sum.nd rfl (Or.inl rfl)) (pgs_cons (pg_name (i := 7) sc_plan_sum.nd rfl (Or.inl rfl)) pgs_nil))))
      (pss_one (ps_ret (pe_tup (pa_cons (pe_cl (E := fun _ => E0) G_weighed (hr.mono (by decide)) (fun σ => pass00 σ) (pa_cons (pv 0) (pa_cons (pv 6) pa_nil))) (pa_cons (pe_op op_mul (pe_ix ix_tup (pv 0) pe_int (fun _ _ => rfl)) (pv 7)) pa_nil))))))), ?_⟩
  · obtain ⟨v, x, q, p, e, c, rfl, _⟩ := h
    rfl
  obtain ⟨v, x, q, p, e, c, rfl, hT, hf, ⟨pa, ⟨pq, rfl, hq⟩, hpa⟩, hp, h3, h4, h5, h6, k⟩ := h
  have l4 := hp.le hf
  repeat walk_at "af"
  refine i_gT (SqT.of hq) rfl ?_
  repeat walk_at "af"
  refine ⟨_, x, p.ending, rfl, hT, hf, hp.en, fun H1 u1 s1 n1 => ?_⟩
  repeat walk_at "af"
  refine ⟨_, x, _, p.asks, _, _, 0, 1, _, _, rfl, hT.up s1, hf, hpa.up s1, hp.lt, n1.rl, endM_length _ _, rfl, by omega, h3, h4, h5, h6, fun H2 u2 s2 r2 => ?_⟩
  obtain ⟨g, ⟨pu, rfl, hu⟩, hg⟩ := r2
  repeat walk_at "af"
  refine i_gT (SqT.of hu) rfl ?_
  repeat walk_at "af"
  refine ⟨_, x, _, _, rfl, (hT.up s1).up s2, hf, hg, by rw [aheadsM_length, endM_length], fun H3 s3 => ?_⟩
  obtain ⟨wv, rv, ⟨tp, rfl, ht⟩, _, _⟩ := hT
  have s13 := Same.trans (Same.trans s1 s2) s3
  repeat walk_at "af"
  refine i_ixT (j := 0) (SqT.of (s13 _ _ ht)) rfl rfl ?_
  have u1 := hf.u1
  have u2 := hf.u2
  repeat walk_at "af"
  intro y H4 hy s4 q4
  refine k _ _ (Same.trans s13 s4) ⟨y, rfl, ?_⟩
  rw [q4]
  unfold sumM overM
  rw [Int.mul_one]
theorem ok_sure_of (T : Txt K mg d as C) : Ok P w K mg base CX0 6 "sure_of" ["task", "plan", "error", "cost"] sp_sure_of := by
  have G_plan_sum := ok_plan_sum (P := P) (w := w) (base := base) T
  have G_lowest := ok_lowest (P := P) (w := w) (base := base) T
  refine T.d_sure_of.ok sc_sure_of (fun vs H Q E h => ?_) fun f cdv A outer s H vs Q E hr h => ⟨_, (pss_cons (ps_asg (pe_cl (E := fun _ => E0) G_plan_sum (hr.mono (by decide)) (fun σ => pass00 σ) (pa_cons (pv 0) (pa_cons (pv 1) (pa_cons (pv 2) (pa_cons (pv 3) pa_nil))))) (pg_tup rfl (pgs_cons (pg_name (i := 4) sc_sure_of.nd rfl (Or.inl rfl)) (pgs_cons (pg_name (i := 5) sc_sure_of.nd rfl (Or.inl rfl)) pgs_nil))))
      (pss_one (ps_ret (pe_cl (E := fun _ => E0) G_lowest (hr.mono (by decide)) (fun σ => pass00 σ) (pa_cons (pv 4) (pa_cons (pv 5) pa_nil)))))), ?_⟩
  · obtain ⟨v, x, q, p, e, c, rfl, _⟩ := h
    rfl
  obtain ⟨v, x, q, p, e, c, rfl, hT, hf, hq, hp, h3, h4, h5, h6, k⟩ := h
  have l4 := hp.le hf
  repeat walk_at "af"
  refine ⟨_, x, _, p, _, _, rfl, hT, hf, hq, hp, h3, h4, h5, h6, fun H1 u1 s1 ⟨pu, e1, hu⟩ => ?_⟩
  subst e1
  repeat walk_at "af"
  refine i_gT (SqT.of hu) rfl ?_
  repeat walk_at "af"
  have hb : overM x p.asks < 2 ^ 64 := by
    unfold overM
    have h7 : (100 : Int) ^ p.asks.length ≤ 100 ^ 4 := pow100_le l4
    have u2 := hf.u2
    have h8 : (x.unit : Int) * 100 ^ p.asks.length ≤ 99 * 100 ^ 4 := Int.mul_le_mul (by omega) h7 (Int.le_of_lt (pow_pos100 _)) (by omega)
    omega
  exact ⟨_, _, rfl, over_pos x (by have := hf.u1; omega) _, hb, fun H2 u2 s2 r2 => k _ _ (Same.trans s1 s2) r2⟩
end
end Af
set_option Elab.async false
set_option linter.all false
set_option maxRecDepth 100000
set_option maxHeartbeats 2000000
/-! # plans.py, third part -/
namespace Af
open PySem PySem.Spec PyProof.Rows L2
open Askfirst (GivenTask GivenPlan)
local macro_rules | `(tactic| walk_at "af") => `(tactic| first
  | (with_reducible refine i_seq ?_)
  | (with_reducible refine i_asg ?_)
  | (with_reducible refine i_name ?_)
  | (with_reducible refine i_var (by with_unfolding_all rfl) ?_)
  | (with_reducible refine i_C ?_)
  | (with_reducible refine i_op ?_)
  | (with_reducible refine i_rI0 ?_)
  | (with_reducible refine i_cons ?_)
  | (with_reducible refine i_nil ?_)
  | (with_reducible refine i_callS ?_)
  | (with_reducible refine i_cb ?_)
  | (with_reducible refine i_if ?_)
  | (with_reducible refine i_test ?_)
  | (with_reducible refine i_B ?_)
  | (with_reducible refine i_bl ?_)
  | (with_reducible refine i_cmp ?_)
  | (with_reducible refine i_ij ?_)
  | (with_reducible refine i_not ?_)
  | (with_reducible refine i_and ?_)
  | (with_reducible refine i_or ?_)
  | (with_reducible refine i_andV ?_)
  | (with_reducible refine i_orV ?_)
  | (with_reducible refine i_ret ?_)
  | (with_reducible refine i_drop ?_)
  | (with_reducible refine i_next ?_)
  | (with_reducible refine i_un ?_)
  | (with_reducible refine i_rU ?_)
  | ((with_reducible refine i_rI (C := CMul) ?hc ?_); (case hc => first | exact Or.inl ⟨by omega, by omega⟩ | exact Or.inr ⟨by omega, by omega⟩))
  | ((with_reducible refine i_rI (C := fun _ j => 0 < j) ?hc ?_); (case hc => (show (0 : Int) < _; omega)))
  | ((with_reducible refine i_rI (C := CDiv) ?hc ?_); (case hc => exact ⟨by omega, by omega⟩))
  | (with_reducible refine i_tup ?_)
  | (with_reducible refine i_lst ?_)
  | (with_reducible refine i_newT (by with_unfolding_all exact Nat.le_of_ble_eq_true rfl) ?_)
  | (with_reducible refine i_newL (by with_unfolding_all exact Nat.le_of_ble_eq_true rfl) ?_)
  | (with_reducible refine i_bm ?_)
  | (with_reducible refine i_sl ?_)
  | (with_reducible refine i_part ?_)
  | (with_reducible refine i_i ?_)
  | (with_reducible refine i_nopart ?_)
  | (with_reducible refine i_isN ?_)
  | (with_reducible refine i_par ?_)
  | (with_reducible refine i_vw ?_)
  | (with_reducible refine i_par3 ?_)
  | (with_reducible refine i_uvw ?_)
  | (with_reducible refine i_gc ?_)
  | (with_reducible refine i_gn ?_)
  | (with_reducible refine i_for ?_)
  | (with_reducible refine i_lc ?_)
  | (with_reducible refine i_itL ?_)
  | (with_reducible refine i_itT ?_)
  | (with_reducible refine i_itR ?_)
  | (with_reducible refine i_itV ?_)
  | (with_reducible refine i_itZ ?_)
  | (with_reducible refine i_lstRev ?_)
  | (with_reducible refine i_tyes ?_)
  | (with_reducible refine iteT ?_)
  | (with_reducible refine i_one ?_)
  | (with_reducible refine i_two ?_))
def sp_worst_columns : Sp := fun vs H Q _ => ∃ (v : V) (x : GivenTask) (q : V) (p : GivenPlan) (e c : Int), vs = [v, q, .int e, .int c] ∧ RTask H v x ∧ Fit x ∧ RPlan H q p ∧ PlanFit x p ∧ 0 ≤ e ∧ e ≤ 100 ∧ 0 ≤ c ∧ c ≤ 99 ∧
  ∀ H' u, Same H H' → RRows H' u (columnsM x.rewards p.ending e c p.asks) → Q u H'
/-- for each taste a list of fractions, one for each column -/
def RFrs (H : Hp) (v : V) (cols : List (List Int)) (t : Nat) : Prop := ∃ vs, RL H v vs ∧ All2 (fun v (ch : List Int) => RFr H v (ch.getD t 0) 100) vs cols
theorem RFr.up {H H' : Hp} {v : V} {a b : Int} (s : Same H H') (h : RFr H v a b) : RFr H' v a b := RT.up s h
theorem RFrs.up {H H' : Hp} {v : V} {cols : List (List Int)} {t : Nat} (s : Same H H') (h : RFrs H v cols t) : RFrs H' v cols t := let ⟨vs, a, b⟩ := h; ⟨vs, a.up s, b.imp fun _ _ q => q.up s⟩
def sp_worst_answers : Sp := fun vs H Q _ => ∃ (v : V) (x : GivenTask) (q : V) (p : GivenPlan) (e c : Int), vs = [v, q, .int e, .int c] ∧ RTask H v x ∧ Fit x ∧ RPlan H q p ∧ PlanFit x p ∧ 0 ≤ e ∧ e ≤ 100 ∧ 0 ≤ c ∧ c ≤ 99 ∧
  ∀ H' u, Same H H' → (∃ vs, RL H' u vs ∧ All2 (fun v t => RFrs H' v (columnsM x.rewards p.ending e c p.asks) t) vs (List.range x.weights.length)) → Q u H'
def sp_greatest_error : Sp := fun vs H Q _ => ∃ (v : V) (x : GivenTask) (q : V) (p : GivenPlan) (c m : Int), vs = [v, q, .int c, .int m] ∧ RTask H v x ∧ Fit x ∧ RPlan H q p ∧ PlanFit x p ∧ 0 ≤ c ∧ c ≤ 99 ∧ -99 ≤ m ∧ m ≤ 99 ∧
  ∀ H', Same H H' → Q (vO (greatestM x p.asks p.ending c m)) H'
theorem drop_more {l : List Nat} {i : Nat} (hi : i < l.length) : l.drop (l.length - (i + 1)) = l.getD (l.length - 1 - i) 0 :: l.drop (l.length - i) := by
  have e2 : l.length - (i + 1) = l.length - 1 - i := by omega
  rw [e2, List.drop_eq_getElem_cons (by omega)]
  congr 1
  · simp [List.getD_eq_getElem?_getD, List.getElem?_eq_getElem (show l.length - 1 - i < l.length by omega)]
  · congr 1
    omega
theorem find_at {α : Type} (p : α → Bool) : ∀ (l : List α) (i : Nat) (a : α), l[i]? = some a → p a = true → (∀ (j : Nat) (b : α), j < i → l[j]? = some b → p b = false) → l.find? p = some a
  | [], i, a, h, _, _ => by simp at h
  | y :: l, 0, a, h, hp, _ => by
    have h : y = a := by simpa using h
    subst h
    rw [List.find?_cons, hp]
  | y :: l, i + 1, a, h, hp, hn => by
    have h0 := hn 0 y (by omega) rfl
    rw [List.find?_cons, h0]
    exact find_at p l i a (by simpa using h) hp fun j b hj hb => hn (j + 1) b (by omega) (by simpa using hb)
theorem columns_len (x : GivenTask) (en : Option Nat) (e c : Int) : ∀ (l : List Nat) (ch : List Int), ch ∈ columnsM x.rewards en e c l → ch.length = x.rewards.length
  | [], ch, h => by cases h
  | a :: l, ch, h => by
    rcases List.mem_cons.mp h with rfl | h
    · unfold chancesM
      rw [List.length_zipWith, colM_length, aheadsM_length, endM_length]
      omega
    · exact columns_len x en e c l ch h
section
variable {P : Program} {w : World} {K : PySem.W.Frag} {mg : Str → Option Value} {base : Heap} {d : Addr} {as : Nat → Addr} {C : Addr}
theorem ok_worst_columns (T : Txt K mg d as C) : Ok P w K mg base CX0 3 "worst_columns" ["task", "plan", "error", "cost"] sp_worst_columns := by
  have G_column := ok_column (P := P) (w := w) (base := base) T
  have G_ending_rests := ok_ending_rests (P := P) (w := w) (base := base) T
  have G_worst_chances := ok_worst_chances (P := P) (w := w) (base := base) T
  have G_with_proposal := ok_with_proposal (P := P) (w := w) (base := base) T
  refine T.d_worst_columns.ok sc_worst_columns (fun vs H Q E h => ?_) fun f cdv A outer s H vs Q E hr h => ⟨_, (pss_cons (ps_asg (pv 1) (pg_tup rfl (pgs_cons (pg_name (i := 4) sc_worst_columns.nd rfl (Or.inl rfl)) (pgs_cons (pg_name (i := 5) sc_worst_columns.nd rfl (Or.inl rfl)) pgs_nil))))
      (pss_cons (ps_set (i := 6) sc_worst_columns.nd rfl (Or.inl rfl) (pe_cl (E := fun _ => E0) G_ending_rests (hr.mono (by decide)) (fun σ => pass00 σ) (pa_cons (pv 0) (pa_cons (pv 5) pa_nil))))
      (pss_cons (ps_set (i := 7) sc_worst_columns.nd rfl (Or.inl rfl) pe_int)
      (pss_cons (ps_set (i := 8) sc_worst_columns.nd rfl (Or.inl rfl) (pe_lst pa_nil))
      (pss_cons (ps_for PassesOwn.never rfl (pi_reversed (by rfl) T.breversed (pa_cons (pv 4) pa_nil)) (pg_name (i := 9) sc_worst_columns.nd rfl (Or.inl rfl))
      (pss_cons (ps_set (i := 10) sc_worst_columns.nd rfl (Or.inl rfl) (pe_cl (E := fun _ => E0) G_column (hr.mono (by decide)) (fun σ => pass00 σ) (pa_cons (pv 0) (pa_cons (pv 9) pa_nil))))
      (pss_cons (ps_set (i := 11) sc_worst_columns.nd rfl (Or.inl rfl) (pe_cl (E := fun _ => E0) G_worst_chances (hr.mono (by decide)) (fun σ => pass00 σ) (pa_cons (pv 10) (pa_cons (pv 6) (pa_cons (pv 7) (pa_cons (pv 2) pa_nil))))))
      (pss_cons (ps_set (i := 6) sc_worst_columns.nd rfl (Or.inl rfl) (pe_cl (E := fun _ => E0) G_with_proposal (hr.mono (by decide)) (fun σ => pass00 σ) (pa_cons (pv 10) (pa_cons (pv 11) (pa_cons (pv 6) (pa_cons (pv 7) (pa_cons (pv 3) pa_nil)))))))
      (pss_cons (ps_set (i := 7) sc_worst_columns.nd rfl (Or.inl rfl) (pe_op op_mul pe_int (pv 7)))
      (pss_one (ps_expr (pe_bm PySem.F.plainAttrs_list PySem.F.slot_list_append PySem.F.type_list_append mt_append (pv 8) (pa_cons (pv 11) pa_nil)))))))))
      (pss_one (ps_ret (pe_lstRev rfl (by rfl) T.blist (by rfl) T.breversed (pv 8))))))))), ?_⟩
  · obtain ⟨v, x, q, p, e, c, rfl, _⟩ := h
    rfl
  obtain ⟨v, x, q, p, e, c, rfl, hT, hf, ⟨pa, ⟨pq, rfl, hq⟩, ⟨pr, rfl, hpa⟩⟩, hp, h3, h4, h5, h6, k⟩ := h
  have l4 := hp.le hf
  have r4 : x.rewards.length ≤ 4 := by have := hf.rl; have := hf.w4; omega
  repeat walk_at "af"
  refine i_gT (SqT.of hq) rfl ?_
  repeat walk_at "af"
  refine ⟨_, x, p.ending, rfl, hT, hf, hp.en, fun H1 u1 s1 n1 => ?_⟩
  repeat walk_at "af"
  intro cl H2 hcl s2 qcl
  repeat walk_at "af"
  have s02 := Same.trans s1 s2
  refine i_wV (SqL.of (s02 _ _ hpa)) ?_
  have e0 : (vN p.asks).length = p.asks.length := by simp
  refine i_forW walk_rev (fun i σ H' => ∃ (a1 a2 a3 : Option V) (g : V) (vs : List V), σ = [some v, some (.ref pq), some (.int e), some (.int c), some (.ref pr), some (vO p.ending), some g, some (.int (100 ^ i)), some (.ref cl), a1, a2, a3] ∧ i ≤ p.asks.length ∧ Same H1 H' ∧
      RL H' g (vI (aheadsM x.rewards (p.asks.drop (p.asks.length - i)) (endM x.rewards p.ending) 1 e c)) ∧ H' cl = some (.lst vs) ∧ All2 (fun v r => ∃ a, v = .ref a ∧ a ≠ cl ∧ H' a = some (.lst (vI r))) vs (columnsM x.rewards p.ending e c (p.asks.drop (p.asks.length - i))).reverse)
    ⟨none, none, none, u1, [], by rw [Int.pow_zero]; rfl, Nat.zero_le _, s2, by simpa [aheadsM] using n1.rl.up s2, qcl, by simpa [columnsM] using All2.nil⟩ (fun i σ H' _ hP => ?_) (fun i y σ H3 H4 hi hP hy => ?_) fun σ H3 hP => ?_
  · obtain ⟨a1, a2, a3, g, vs, rfl, _, s3, _⟩ := hP
    exact SqL.of ((Same.trans s1 s3) _ _ hpa)
  · obtain ⟨a1, a2, a3, g, vs, rfl, hil, s3, ⟨pg, rfl, q3⟩, q4, q5⟩ := hP
    obtain ⟨rfl, hy⟩ := hy
    rw [e0] at hi hy
    rw [vN_get (by omega)] at hy
    cases hy
    have hm : p.asks.getD (p.asks.length - 1 - i) 0 ∈ p.asks := by
      rw [List.getD_eq_getElem?_getD, List.getElem?_eq_getElem (by omega)]
      exact List.getElem_mem _
    have hpw : (100 : Int) ^ i ≤ 100 ^ 8 := pow100_le (by omega)
    have hp0 : (0 : Int) < 100 ^ i := pow_pos100 _
    have s03 := Same.trans s1 s3
    have hgl : (aheadsM x.rewards (p.asks.drop (p.asks.length - i)) (endM x.rewards p.ending) 1 e c).length = x.rewards.length := by rw [aheadsM_length, endM_length]
    repeat walk_at "af"
    refine ⟨_, x, _, rfl, hT.up s03, hf, hp.lt _ hm, fun H5 u5 s5 n5 => ?_⟩
    repeat walk_at "af"
    refine ⟨_, _, _, _, _, _, rfl, n5.rl, RL.up s5 ⟨pg, rfl, q3⟩, by rw [colM_length]; omega, by omega, hp0, hpw, h3, h4, fun H6 u6 s6 n6 => ?_⟩
    repeat walk_at "af"
    refine ⟨_, _, _, _, _, _, _, _, rfl, n5.rl.up s6, n6.rl, RL.up (Same.trans s5 s6) ⟨pg, rfl, q3⟩, by rw [colM_length]; omega, chancesM_length (by rw [colM_length]; omega), by omega, chancesM_range (by rw [colM_length]; omega) h3 h4, hp0, hpw, h5, h6, fun H7 u7 s7 n7 => ?_⟩
    repeat walk_at "af"
    obtain ⟨p6, rfl, hp6, q6⟩ := n6
    have s37 := Same.trans (Same.trans s5 s6) s7
    have ncl : p6 ≠ cl := fun z => by
      rw [z, s5 cl _ q4] at hp6
      cases hp6
    have q4' := s37 cl _ q4
    refine ⟨tyl q4', ?_⟩
    repeat walk_at "af"
    have hvl : vs.length = i := by
      have := q5.1
      rw [List.length_reverse, columnsM_length] at this
      simp at this
      omega
    refine i_app q4' (size_lt (by omega)) ?_
    have e1 := drop_more hi
    have e3 : (p.asks.drop (p.asks.length - i)).length = i := by simp; omega
    obtain ⟨p7, rfl, hp7, q7⟩ := n7
    have ncl7 : p7 ≠ cl := fun z => by
      rw [z, (Same.trans s5 s6) cl _ q4] at hp7
      cases hp7
    refine ⟨some (.int ((p.asks.getD (p.asks.length - 1 - i) 0 : Nat) : Int)), some u5, some (.ref p6), .ref p7, vs ++ [.ref p6], ?_, by omega, Same.mut (Same.trans s3 s37) hcl, ⟨p7, rfl, ?_⟩, upd_same, ?_⟩
    · rw [Int.pow_succ, Int.mul_comm (100 ^ i) 100]
      rfl
    · rw [upd_ne ncl7, q7, e1]
      show some (HO.lst (vI _)) = some (HO.lst (vI (aheadM x.rewards _ _ (100 ^ (p.asks.drop (p.asks.length - i)).length * 1) e c)))
      rw [e3, Int.mul_one]
      rfl
    · rw [e1]
      show All2 _ _ (chancesM (colM x.rewards _) (aheadsM x.rewards (p.asks.drop (p.asks.length - i)) (endM x.rewards p.ending) 1 e c) (100 ^ (p.asks.drop (p.asks.length - i)).length) e :: columnsM x.rewards p.ending e c (p.asks.drop (p.asks.length - i))).reverse
      rw [List.reverse_cons, e3]
      refine All2.snoc (q5.imp fun v r ⟨a, ea, na, qa⟩ => ⟨a, ea, na, ?_⟩) ⟨p6, rfl, ncl, ?_⟩
      · rw [upd_ne na]
        exact s37 _ _ qa
      · rw [upd_ne ncl]
        exact s7 _ _ q6
  · obtain ⟨a1, a2, a3, g, vs, rfl, _, s3, _, q4, q5⟩ := hP
    repeat walk_at "af"
    refine ⟨cl, vs, rfl, SqL.of q4, fun z H4 hz s4 q6 => ?_⟩
    repeat walk_at "af"
    refine k _ _ (Same.trans (Same.trans s1 s3) s4) ⟨vs.reverse, ⟨z, rfl, q6⟩, ?_⟩
    rw [e0] at q5
    have := q5.reverse
    rw [List.reverse_reverse] at this
    simp only [Nat.sub_self, List.drop_zero] at this
    exact this.imp fun v r ⟨a, ea, na, qa⟩ => ⟨a, ea, s4 _ _ qa⟩
theorem ok_worst_answers (T : Txt K mg d as C) : Ok P w K mg base CX0 4 "worst_answers" ["task", "plan", "error", "cost"] sp_worst_answers := by
  have G_worst_columns := ok_worst_columns (P := P) (w := w) (base := base) T
  have G_lowest := ok_lowest (P := P) (w := w) (base := base) T
  refine T.d_worst_answers.ok sc_worst_answers (fun vs H Q E h => ?_) fun f cdv A outer s H vs Q E hr h => ⟨_, (pss_cons (ps_set (i := 4) sc_worst_answers.nd rfl (Or.inl rfl) (pe_cl (E := fun _ => E0) G_worst_columns (hr.mono (by decide)) (fun σ => pass00 σ) (pa_cons (pv 0) (pa_cons (pv 1) (pa_cons (pv 2) (pa_cons (pv 3) pa_nil))))))
      (pss_cons (ps_set (i := 5) sc_worst_answers.nd rfl (Or.inl rfl) (pe_lst pa_nil))
      (pss_cons (ps_for PassesOwn.never rfl (pi_range1 (by rfl) T.brange (pa_cons (pe_callB call_len_seq (by rfl) T.blen PySem.boot_len (pa_cons (pe_ix ix_tup (pv 0) pe_int (fun _ _ => rfl)) pa_nil)) pa_nil)) (pg_name (i := 6) sc_worst_answers.nd rfl (Or.inr rfl))
      (pss_one (ps_expr (pe_bm PySem.F.plainAttrs_list PySem.F.slot_list_append PySem.F.type_list_append mt_append (pv 5) (pa_cons (pe_lc (own := [("chances", 7)]) (g := (gName 7)) (tt := tYes) (te := (tCallS sp_lowest (fun _ => E0) (tCons (tOp (rIxL K) (tVar 7) (tVar 6)) (tCons (tC (.int 100)) tNil)))) rfl sc_worst_answers.nd (pi_list (pv 4)) (blkOk_by (N := N_worst_answers) (sc := defScope s_worst_answers) (by decide +kernel)) (fun _ _ _ _ _ => (pg_name (i := 7) sc_worst_answers.nd rfl (Or.inl rfl))) (fun _ _ _ _ _ => pts_nil) (fun _ _ _ _ _ => (pe_cl (E := fun _ => E0) G_lowest (hr.mono (by decide)) (fun σ => pass00 σ) (pa_cons (pe_ix ix_list (pv 7) (pv 6) (fun _ _ => rfl)) (pa_cons pe_int pa_nil))))) pa_nil)))))
      (pss_one (ps_ret (pv 5)))))), ?_⟩
  · obtain ⟨v, x, q, p, e, c, rfl, _⟩ := h
    rfl
  obtain ⟨v, x, q, p, e, c, rfl, hT, hf, hq, hp, h3, h4, h5, h6, k⟩ := h
  have l4 := hp.le hf
  have w4 := hf.w4
  have hrl := hf.rl
  repeat walk_at "af"
  refine ⟨_, x, _, p, _, _, rfl, hT, hf, hq, hp, h3, h4, h5, h6, fun H1 u1 s1 r1 => ?_⟩
  obtain ⟨cv, ⟨pc, rfl, qc⟩, hc⟩ := r1
  repeat walk_at "af"
  intro l H2 hl s2 q2
  obtain ⟨wv, rv, ⟨tp, rfl, ht⟩, ⟨pw, rfl, hw⟩, _⟩ := hT
  have s02 := Same.trans s1 s2
  repeat walk_at "af"
  refine i_ixT (j := 1) (SqT.of (s02 _ _ ht)) rfl rfl ?_
  repeat walk_at "af"
  refine i_len (SqL.of (s02 _ _ hw)) ?_
  repeat walk_at "af"
  have e0 : (vN x.weights).length = x.weights.length := by simp
  refine i_wR (by omega) ?_
  refine i_forW walk_range (fun i σ H' => ∃ (a1 : Option V) (vs : List V), σ = [some (.ref tp), some q, some (.int e), some (.int c), some (.ref pc), some (.ref l), a1, none] ∧ i ≤ x.weights.length ∧ Same H1 H' ∧
      H' l = some (.lst vs) ∧ All2 (fun v t => (∀ H'', (∀ b o, b ≠ l → H' b = some o → H'' b = some o) → RFrs H'' v (columnsM x.rewards p.ending e c p.asks) t)) vs (List.range i))
    ⟨none, [], rfl, Nat.zero_le _, s2, q2, All2.nil⟩ (fun _ _ _ _ _ => trivial) (fun i y σ H3 H4 hi hP hy => ?_) fun σ H3 hP => ?_
  · obtain ⟨a1, vs, rfl, hil, s3, q3, q4⟩ := hP
    obtain ⟨rfl, rfl⟩ := hy
    rw [e0] at hi
    repeat walk_at "af"
    refine ⟨tyl q3, ?_⟩
    repeat walk_at "af"
    refine i_wL (SqL.of (s3 _ _ qc)) ?_
    intro D hD
    have hcl : (columnsM x.rewards p.ending e c p.asks).length = p.asks.length := columnsM_length _ _ _ _ _
    refine lc_it walk_list (Pv := fun j H' => Same H4 H' ∧ ∃ ws, H' D = some (.lst ws) ∧ ws.length = j ∧ All2 (fun v (ch : List Int) => ∃ a, v = .ref a ∧ a ≠ D ∧ H' a = some (.tup [.int (ch.getD i 0 / gcdM (ch.getD i 0) 100), .int (100 / gcdM (ch.getD i 0) 100)])) ws ((columnsM x.rewards p.ending e c p.asks).take j))
      ⟨Same.new hD, [], upd_same, rfl, by rw [List.take_zero]; exact All2.nil⟩ (fun j H' _ hP => SqL.of (hP.1 _ _ (s3 _ _ qc))) (fun j y H5 H6 hj hP hy => ?_) fun H5 hP => ?_
    · obtain ⟨s5, ws, q5, ql, q6⟩ := hP
      obtain ⟨rfl, hy⟩ := hy
      obtain ⟨ch, hch, ⟨pch, rfl, qch⟩⟩ := hc.of hy
      have hjl : j < (columnsM x.rewards p.ending e c p.asks).length := (List.getElem?_eq_some_iff.mp hch).1
      repeat walk_at "af"
      refine ⟨rfl, ?_⟩
      repeat walk_at "af"
      have hit : i < ch.length := by
        have := columns_len x p.ending e c p.asks ch (List.mem_of_getElem? hch)
        omega
      refine i_ixL (j := i) (SqL.of (s5 _ _ (s3 _ _ qch))) (by omega) (vI_get hit) ?_
      repeat walk_at "af"
      refine ⟨_, _, rfl, by decide, by decide, fun H7 u7 s7 r7 => ?_⟩
      obtain ⟨p7, rfl, q7⟩ := r7
      have n7 : p7 ≠ D := fun z => by
        rw [z, s7 D _ q5] at q7
        cases q7
      refine ⟨ws, s7 D _ q5, size_lt (by omega), Same.mut (Same.trans s5 s7) hD, ws ++ [.ref p7], upd_same, by simp [ql], ?_⟩
      rw [take_snoc hjl]
      have ech : (columnsM x.rewards p.ending e c p.asks)[j] = ch := by
        rw [List.getElem?_eq_getElem hjl] at hch
        exact Option.some.inj hch
      rw [ech]
      refine All2.snoc (q6.imp fun v r ⟨a, ea, na, qa⟩ => ⟨a, ea, na, ?_⟩) ⟨p7, rfl, n7, ?_⟩
      · rw [upd_ne na]
        exact s7 _ _ qa
      · rw [upd_ne n7]
        exact q7
    · obtain ⟨s5, ws, q5, ql, q6⟩ := hP
      have nD : D ≠ l := fun z => by
        rw [z, q3] at hD
        cases hD
      repeat walk_at "af"
      have hvl : vs.length = i := by
        have := q4.1
        simpa using this
      refine i_app (s5 _ _ q3) (size_lt (by omega)) ?_
      have h1l : H1 l = none := hl
      refine ⟨_, vs ++ [.ref D], rfl, by omega, Same.mut (Same.trans s3 s5) h1l, upd_same, ?_⟩
      rw [List.range_succ]
      rw [List.take_of_length_le (by have := hc.1; omega)] at q6
      refine All2.snoc (q4.imp fun v t hv H'' hH => hv H'' fun b o nb hb => hH b o nb ?_) fun H'' hH => ?_
      · rw [upd_ne nb]
        exact s5 _ _ hb
      · refine ⟨ws, ⟨D, rfl, hH _ _ nD (by rw [upd_ne nD]; exact q5)⟩, q6.imp fun v ch ⟨a, ea, na, qa⟩ => ⟨a, ea, ?_⟩⟩
        have nal : a ≠ l := fun z => by
          rw [z, s5 _ _ q3] at qa
          cases qa
        exact hH _ _ nal (by rw [upd_ne nal]; exact qa)
  · obtain ⟨a1, vs, rfl, _, s3, q3, q4⟩ := hP
    repeat walk_at "af"
    rw [e0] at q4
    exact k _ _ (Same.trans s1 s3) ⟨vs, ⟨l, rfl, q3⟩, q4.imp fun v t hv => hv H3 fun b o _ hb => hb⟩
theorem ok_greatest_error (T : Txt K mg d as C) : Ok P w K mg base CX0 6 "greatest_error" ["task", "plan", "cost", "level"] sp_greatest_error := by
  have G_plan_sum := ok_plan_sum (P := P) (w := w) (base := base) T
  refine T.d_greatest_error.ok sc_greatest_error (fun vs H Q E h => ?_) fun f cdv A outer s H vs Q E hr h => ⟨_, (pss_cons (ps_for PassesOwn.never rfl (pi_revR (by rfl) T.breversed (prg_1 (by rfl) T.brange pe_int)) (pg_name (i := 4) sc_greatest_error.nd rfl (Or.inl rfl))
      (pss_cons (ps_asg (pe_cl (E := fun _ => E0) G_plan_sum (hr.mono (by decide)) (fun σ => pass00 σ) (pa_cons (pv 0) (pa_cons (pv 1) (pa_cons (pv 4) (pa_cons (pv 2) pa_nil))))) (pg_tup rfl (pgs_cons (pg_name (i := 5) sc_greatest_error.nd rfl (Or.inl rfl)) (pgs_cons (pg_name (i := 6) sc_greatest_error.nd rfl (Or.inl rfl)) pgs_nil))))
      (pss_one (ps_if (pt_cmpR op_ge (pv 5) (pe_op op_mul (pv 3) (pv 6)) (nomark _)) (pss_one (ps_ret (pv 4))) pss_nil))))
      (pss_one (ps_ret pe_non))), ?_⟩
  · obtain ⟨v, x, q, p, c, m, rfl, _⟩ := h
    rfl
  obtain ⟨v, x, q, p, c, m, rfl, hT, hf, hq, hp, h5, h6, h7, h8, k⟩ := h
  repeat walk_at "af"
  refine ⟨101, rfl, by decide, by decide, by decide, by decide, ?_⟩
  have e0 : ((101 : Int) - 0).toNat = 101 := rfl
  rw [e0]
  refine i_forW walk_rangeC (fun i σ H' => ∃ (a1 a2 a3 : Option V), σ = [some v, some q, some (.int c), some (.int m), a1, a2, a3] ∧ Same H H' ∧ ∀ (j b : Nat), j < i → (List.range 101).reverse[j]? = some b → decide (m * overM x p.asks ≤ sumM x p.asks p.ending (b : Int) c) = false)
    ⟨none, none, none, rfl, Same.refl _, fun j b hj _ => by omega⟩ (fun _ _ _ _ _ => trivial) (fun i y σ H3 H4 hi hP hy => ?_) fun σ H3 hP => ?_
  · obtain ⟨a1, a2, a3, rfl, s3, hno⟩ := hP
    obtain ⟨rfl, hyv⟩ := hy
    have hyv : y = V.int ((100 - i : Nat) : Int) := hyv.trans (congrArg V.int (by omega))
    subst hyv
    have hb : (List.range 101).reverse[i]? = some (100 - i) := by
      rw [List.getElem?_reverse (by simpa using hi), List.length_range, List.getElem?_range (by omega)]
    repeat walk_at "af"
    refine ⟨_, x, _, p, _, _, rfl, hT.up s3, hf, hq.up s3, hp, by omega, by omega, h5, h6, fun H5 u5 s5 r5 => ?_⟩
    obtain ⟨p5, rfl, q5⟩ := r5
    repeat walk_at "af"
    refine i_gT (SqT.of q5) rfl ?_
    repeat walk_at "af"
    refine i_dec (fun h9 => ?_) fun h9 => ?_
    · repeat walk_at "af"
      have e1 : greatestM x p.asks p.ending c m = some (100 - i) := find_at _ _ i _ hb (decide_eq_true h9) hno
      have := k _ (Same.trans s3 s5)
      rw [e1] at this
      exact this
    · repeat walk_at "af"
      refine ⟨_, _, _, rfl, Same.trans s3 s5, fun j b hj hjb => ?_⟩
      by_cases e : j = i
      · subst e
        rw [hb] at hjb
        cases hjb
        exact decide_eq_false h9
      · exact hno j b (by omega) hjb
  · obtain ⟨a1, a2, a3, rfl, s3, hno⟩ := hP
    repeat walk_at "af"
    have e1 : greatestM x p.asks p.ending c m = none := by
      unfold greatestM
      rw [List.find?_eq_none]
      intro b hb
      obtain ⟨j, hj, e⟩ := List.getElem_of_mem hb
      have hj' : j < 101 := by simpa using hj
      have := hno j b hj' (by rw [List.getElem?_eq_getElem hj, e])
      rw [this]
      exact Bool.false_ne_true
    have := k _ s3
    rw [e1] at this
    exact this
end
end Af
set_option Elab.async false
set_option linter.all false
set_option maxRecDepth 100000
set_option maxHeartbeats 2000000
/-! # writing.py -/
namespace Af
open PySem PySem.Spec PyProof.Rows L2
open Askfirst (GivenTask GivenPlan fractionOut two)
local macro_rules | `(tactic| walk_at "af") => `(tactic| first
  | (with_reducible refine i_seq ?_)
  | (with_reducible refine i_asg ?_)
  | (with_reducible refine i_name ?_)
  | (with_reducible refine i_var (by with_unfolding_all rfl) ?_)
  | (with_reducible refine i_C ?_)
  | (with_reducible refine i_op ?_)
  | (with_reducible refine i_rI0 ?_)
  | (with_reducible refine i_cons ?_)
  | (with_reducible refine i_nil ?_)
  | (with_reducible refine i_callS ?_)
  | (with_reducible refine i_cb ?_)
  | (with_reducible refine i_if ?_)
  | (with_reducible refine i_test ?_)
  | (with_reducible refine i_B ?_)
  | (with_reducible refine i_bl ?_)
  | (with_reducible refine i_cmp ?_)
  | (with_reducible refine i_ij ?_)
  | (with_reducible refine i_not ?_)
  | (with_reducible refine i_and ?_)
  | (with_reducible refine i_or ?_)
  | (with_reducible refine i_andV ?_)
  | (with_reducible refine i_orV ?_)
  | (with_reducible refine i_ret ?_)
  | (with_reducible refine i_drop ?_)
  | (with_reducible refine i_next ?_)
  | (with_reducible refine i_un ?_)
  | (with_reducible refine i_rU ?_)
  | ((with_reducible refine i_rI (C := CMul) ?hc ?_); (case hc => first | exact Or.inl ⟨by omega, by omega⟩ | exact Or.inr ⟨by omega, by omega⟩))
  | ((with_reducible refine i_rI (C := fun _ j => 0 < j) ?hc ?_); (case hc => (show (0 : Int) < _; omega)))
  | ((with_reducible refine i_rI (C := CDiv) ?hc ?_); (case hc => exact ⟨by omega, by omega⟩))
  | (with_reducible refine i_tup ?_)
  | (with_reducible refine i_lst ?_)
  | (with_reducible refine i_newT (by with_unfolding_all exact Nat.le_of_ble_eq_true rfl) ?_)
  | (with_reducible refine i_newL (by with_unfolding_all exact Nat.le_of_ble_eq_true rfl) ?_)
  | (with_reducible refine i_bm ?_)
  | (with_reducible refine i_sl ?_)
  | (with_reducible refine i_part ?_)
  | (with_reducible refine i_i ?_)
  | (with_reducible refine i_nopart ?_)
  | (with_reducible refine i_isN ?_)
  | (with_reducible refine i_par ?_)
  | (with_reducible refine i_vw ?_)
  | (with_reducible refine i_par3 ?_)
  | (with_reducible refine i_uvw ?_)
  | (with_reducible refine i_gc ?_)
  | (with_reducible refine i_gn ?_)
  | (with_reducible refine i_for ?_)
  | (with_reducible refine i_lc ?_)
  | (with_reducible refine i_itL ?_)
  | (with_reducible refine i_itT ?_)
  | (with_reducible refine i_itR ?_)
  | (with_reducible refine i_itV ?_)
  | (with_reducible refine i_itZ ?_)
  | (with_reducible refine i_lstRev ?_)
  | (with_reducible refine i_tyes ?_)
  | (with_reducible refine iteT ?_)
  | (with_reducible refine i_one ?_)
  | (with_reducible refine i_two ?_))
theorem vI_append (a b : List Int) : vI (a ++ b) = vI a ++ vI b := List.map_append ..
theorem vN_append (a b : List Nat) : vN (a ++ b) = vN a ++ vN b := List.map_append ..
theorem vI_intsOf (l : List Nat) : vI (intsOf l) = vN l := by
  show (l.map _).map _ = l.map _
  rw [List.map_map]
  rfl
def maybeM : Option Nat → List Nat
  | none => [0]
  | some n => [1, n]
def sp_low_octets : Sp := fun vs H Q _ => ∃ (n : Int) (k : Nat), vs = [.int n, .int (k : Int)] ∧ k ≤ 8 ∧ ∀ H' u, Same H H' → New H H' u (vI (lowM n k)) → Q u H'
def sp_put_count : Sp := fun vs H Q _ => ∃ (n : Nat), vs = [.int (n : Int)] ∧ ∀ H' u, Same H H' → New H H' u (vN (two n)) → Q u H'
def sp_put_fraction : Sp := fun vs H Q _ => ∃ (v : V) (a b : Int), vs = [v] ∧ RFr H v a b ∧ 0 < b ∧ ∀ H' u, Same H H' → New H H' u (vN (fractionOut ((a : Rat) / (b : Rat)))) → Q u H'
def sp_put_fractions : Sp := fun vs H Q _ => ∃ (v : V) (ws : List V) (xs : List (Int × Int)), vs = [v] ∧ RL H v ws ∧ All2 (fun v (p : Int × Int) => RFr H v p.1 p.2) ws xs ∧ (∀ p ∈ xs, 0 < p.2) ∧ xs.length ≤ 100 ∧
  ∀ H' u, Same H H' → New H H' u (vN (two xs.length ++ xs.flatMap fun p => fractionOut ((p.1 : Rat) / (p.2 : Rat)))) → Q u H'
def sp_put_octets : Sp := fun vs H Q _ => ∃ (v : V) (l : List Nat), vs = [v] ∧ RL H v (vN l) ∧ l.length ≤ 10000 ∧ ∀ H' u, Same H H' → New H H' u (vN (two l.length ++ l)) → Q u H'
def sp_put_maybe : Sp := fun vs H Q _ => ∃ (o : Option Nat), vs = [vO o] ∧ ∀ H' u, Same H H' → New H H' u (vN (maybeM o)) → Q u H'
def sp_put_plan : Sp := fun vs H Q _ => ∃ (v : V) (p : GivenPlan), vs = [v] ∧ RPlan H v p ∧ p.asks.length ≤ 10000 ∧ ∀ H' u, Same H H' → New H H' u (vN (two p.asks.length ++ p.asks ++ maybeM p.ending)) → Q u H'
def sp_done : Sp := fun vs H Q _ => ∃ (v : V) (l : List Nat), vs = [v] ∧ RL H v (vN l) ∧ l.length ≤ 10000000 ∧ ∀ H' u, Same H H' → New H H' u (vN (0 :: l)) → Q u H'
def sp_refused : Sp := fun vs H Q _ => ∃ (n : Nat), vs = [.int (n : Int)] ∧ ∀ H' u, Same H H' → New H H' u (vN [1, n]) → Q u H'
theorem lowM_snoc : ∀ (n : Int) (k : Nat), lowM n (k + 1) = lowM n k ++ [(n / 256 ^ k) % 256]
  | n, 0 => by simp [lowM]
  | n, k + 1 => by
    show n % 256 :: lowM (n / 256) (k + 1) = n % 256 :: lowM (n / 256) k ++ _
    rw [lowM_snoc (n / 256) k, Int.pow_succ, Int.mul_comm, Int.ediv_ediv_of_nonneg (by decide)]
    rfl
section
variable {P : Program} {w : World} {K : PySem.W.Frag} {mg : Str → Option Value} {base : Heap} {d : Addr} {as : Nat → Addr} {C : Addr}
theorem ok_low_octets (T : Txt K mg d as C) : Ok P w K mg base CX0 1 "low_octets" ["number", "many"] sp_low_octets := by
  refine T.d_low_octets.ok sc_low_octets (fun vs H Q E h => ?_) fun f cdv A outer s H vs Q E hr h => ⟨_, (pss_cons (ps_set (i := 2) sc_low_octets.nd rfl (Or.inl rfl) (pv 0))
      (pss_cons (ps_set (i := 3) sc_low_octets.nd rfl (Or.inl rfl) (pe_lst pa_nil))
      (pss_cons (ps_for PassesOwn.never rfl (pi_range1 (by rfl) T.brange (pa_cons (pv 1) pa_nil)) (pg_name (i := 4) sc_low_octets.nd rfl (Or.inl rfl))
      (pss_cons (ps_expr (pe_bm PySem.F.plainAttrs_list PySem.F.slot_list_append PySem.F.type_list_append mt_append (pv 3) (pa_cons (pe_op op_mod (pv 2) pe_int) pa_nil)))
      (pss_one (ps_set (i := 2) sc_low_octets.nd rfl (Or.inl rfl) (pe_op op_fdiv (pv 2) pe_int)))))
      (pss_one (ps_ret (pv 3)))))), ?_⟩
  · obtain ⟨n, k, rfl, _⟩ := h
    rfl
  obtain ⟨n, m, rfl, hm, k⟩ := h
  repeat walk_at "af"
  intro l H1 hl s1 q1
  repeat walk_at "af"
  refine i_wR (by omega) ?_
  refine i_forW walk_range (fun i σ H' => ∃ (a1 : Option V) (t : Int), σ = [some (.int n), some (.int (m : Int)), some (.int t), some (.ref l), a1] ∧ t = n / 256 ^ i ∧ Same H H' ∧ H' l = some (.lst (vI (lowM n i))))
    ⟨none, n, rfl, by simp, s1, q1⟩ (fun _ _ _ _ _ => trivial) (fun i y σ H2 H3 hi hP hy => ?_) fun σ H2 hP => ?_
  · obtain ⟨a1, t, rfl, rfl, s2, q2⟩ := hP
    obtain ⟨rfl, rfl⟩ := hy
    repeat walk_at "af"
    refine ⟨tyl q2, ?_⟩
    repeat walk_at "af"
    refine i_app q2 (size_lt (by simp [lowM_length]; omega)) ?_
    repeat walk_at "af"
    refine ⟨_, _, rfl, ?_, Same.mut s2 hl, ?_⟩
    · rw [Int.pow_succ, Int.ediv_ediv_of_nonneg (Int.le_of_lt (Int.pow_pos (by decide)))]
    · rw [lowM_snoc, vI_append]
      exact upd_same
  · obtain ⟨a1, t, rfl, _, s2, q2⟩ := hP
    repeat walk_at "af"
    exact k _ _ s2 ⟨l, rfl, hl, q2⟩
theorem ok_put_count (T : Txt K mg d as C) : Ok P w K mg base CX0 2 "put_count" ["many"] sp_put_count := by
  have G_low_octets := ok_low_octets (P := P) (w := w) (base := base) T
  refine T.d_put_count.ok sc_put_count (fun vs H Q E h => ?_) fun f cdv A outer s H vs Q E hr h => ⟨_, (pss_one (ps_ret (pe_cl (E := fun _ => E0) G_low_octets (hr.mono (by decide)) (fun σ => pass00 σ) (pa_cons (pv 0) (pa_cons pe_int pa_nil))))), ?_⟩
  · obtain ⟨n, rfl, _⟩ := h
    rfl
  obtain ⟨n, rfl, k⟩ := h
  repeat walk_at "af"
  refine ⟨_, 2, rfl, by decide, fun H1 u1 s1 n1 => k _ _ s1 ?_⟩
  rw [lowM_two, vI_intsOf] at n1
  exact n1
theorem ok_put_fraction (T : Txt K mg d as C) : Ok P w K mg base CX0 2 "put_fraction" ["fraction"] sp_put_fraction := by
  have G_low_octets := ok_low_octets (P := P) (w := w) (base := base) T
  refine T.d_put_fraction.ok sc_put_fraction (fun vs H Q E h => ?_) fun f cdv A outer s H vs Q E hr h => ⟨_, (pss_cons (ps_asg (pv 0) (pg_tup rfl (pgs_cons (pg_name (i := 1) sc_put_fraction.nd rfl (Or.inl rfl)) (pgs_cons (pg_name (i := 2) sc_put_fraction.nd rfl (Or.inl rfl)) pgs_nil))))
      (pss_one (ps_ret (pe_op op_cat (pe_cl (E := fun _ => E0) G_low_octets (hr.mono (by decide)) (fun σ => pass00 σ) (pa_cons (pv 1) (pa_cons pe_int pa_nil))) (pe_cl (E := fun _ => E0) G_low_octets (hr.mono (by decide)) (fun σ => pass00 σ) (pa_cons (pv 2) (pa_cons pe_int pa_nil))))))), ?_⟩
  · obtain ⟨v, a, b, rfl, _⟩ := h
    rfl
  obtain ⟨v, a, b, rfl, ⟨p, rfl, hp⟩, hb, k⟩ := h
  repeat walk_at "af"
  refine i_gT (SqT.of hp) rfl ?_
  repeat walk_at "af"
  refine ⟨_, 8, rfl, by decide, fun H1 u1 s1 n1 => ?_⟩
  repeat walk_at "af"
  refine ⟨_, 8, rfl, by decide, fun H2 u2 s2 n2 => ?_⟩
  repeat walk_at "af"
  obtain ⟨p1, rfl, hp1, q1⟩ := n1
  obtain ⟨p2, rfl, hp2, q2⟩ := n2
  refine i_cat (s2 _ _ q1) q2 (size_of (by simp [lowM_length])) fun p3 H3 hp3 s3 q3 => ?_
  refine k _ _ (Same.trans (Same.trans s1 s2) s3) ⟨p3, rfl, Same.free (Same.trans s1 s2) hp3, ?_⟩
  rw [q3, ← vI_append, fraction_low hb, vI_intsOf]
theorem ok_put_fractions (T : Txt K mg d as C) : Ok P w K mg base CX0 3 "put_fractions" ["fractions"] sp_put_fractions := by
  have G_put_count := ok_put_count (P := P) (w := w) (base := base) T
  have G_put_fraction := ok_put_fraction (P := P) (w := w) (base := base) T
  refine T.d_put_fractions.ok sc_put_fractions (fun vs H Q E h => ?_) fun f cdv A outer s H vs Q E hr h => ⟨_, (pss_cons (ps_set (i := 1) sc_put_fractions.nd rfl (Or.inl rfl) (pe_cl (E := fun _ => E0) G_put_count (hr.mono (by decide)) (fun σ => pass00 σ) (pa_cons (pe_callB call_len_seq (by rfl) T.blen PySem.boot_len (pa_cons (pv 0) pa_nil)) pa_nil)))
      (pss_cons (ps_for PassesOwn.never rfl (pi_list (pv 0)) (pg_name (i := 2) sc_put_fractions.nd rfl (Or.inl rfl))
      (pss_one (ps_expr (pe_bm PySem.F.plainAttrs_list PySem.F.slot_list_extend PySem.F.type_list_extend mt_extend (pv 1) (pa_cons (pe_cl (E := fun _ => E0) G_put_fraction (hr.mono (by decide)) (fun σ => pass00 σ) (pa_cons (pv 2) pa_nil)) pa_nil)))))
      (pss_one (ps_ret (pv 1))))), ?_⟩
  · obtain ⟨v, ws, xs, rfl, _⟩ := h
    rfl
  obtain ⟨v, ws, xs, rfl, ⟨p, rfl, hp⟩, h2, hx, hlen, k⟩ := h
  repeat walk_at "af"
  refine i_len (SqL.of hp) ?_
  repeat walk_at "af"
  refine ⟨ws.length, rfl, fun H1 u1 s1 n1 => ?_⟩
  obtain ⟨l, rfl, hl, q1⟩ := n1
  repeat walk_at "af"
  refine i_wL (SqL.of (s1 _ _ hp)) ?_
  refine i_forW (walk_list (xs := ws)) (fun i σ H' => ∃ (a1 : Option V), σ = [some (.ref p), some (.ref l), a1] ∧ Same H H' ∧ H' l = some (.lst (vN (two ws.length ++ (xs.take i).flatMap fun p => fractionOut ((p.1 : Rat) / (p.2 : Rat))))))
    ⟨none, rfl, s1, by rw [q1]; simp⟩ (fun i σ H' _ hP => ?_) (fun i y σ H2 H3 hi hP hy => ?_) fun σ H2 hP => ?_
  · obtain ⟨a1, _, s2, _⟩ := hP
    exact SqL.of (s2 _ _ hp)
  · obtain ⟨a1, rfl, s2, q2⟩ := hP
    obtain ⟨rfl, hy⟩ := hy
    obtain ⟨pr, hpr, hfr⟩ := h2.of hy
    repeat walk_at "af"
    refine ⟨tyl q2, ?_⟩
    repeat walk_at "af"
    have hm := List.mem_of_getElem? hpr
    refine ⟨_, _, _, rfl, hfr.up s2, hx _ hm, fun H4 u4 s4 n4 => ?_⟩
    obtain ⟨p4, rfl, hp4, q4⟩ := n4
    repeat walk_at "af"
    have e1 : ∀ L : List (Int × Int), (L.flatMap fun p => fractionOut ((p.1 : Rat) / (p.2 : Rat))).length = 16 * L.length := fun L => by
      induction L with
      | nil => rfl
      | cons a L ih => rw [List.flatMap_cons, List.length_append, ih, fractionOut_length, List.length_cons]; omega
    refine i_ext (s4 _ _ q2) q4 (size_of ?_) ?_
    · simp only [List.length_map, List.length_append, e1, fractionOut_length, List.length_take]
      have : (two ws.length).length = 2 := rfl
      omega
    refine ⟨_, rfl, Same.mut (Same.trans s2 s4) hl, ?_⟩
    have hil : i < xs.length := (List.getElem?_eq_some_iff.mp hpr).1
    have ei : xs[i] = pr := by
      rw [List.getElem?_eq_getElem hil] at hpr
      exact Option.some.inj hpr
    rw [upd_same, ← vN_append, take_snoc hil, ei, List.flatMap_append, List.append_assoc]
    simp
  · obtain ⟨a1, rfl, s2, q2⟩ := hP
    repeat walk_at "af"
    rw [h2.1, List.take_length] at q2
    exact k _ _ s2 ⟨l, rfl, hl, q2⟩
theorem ok_put_octets (T : Txt K mg d as C) : Ok P w K mg base CX0 3 "put_octets" ["row"] sp_put_octets := by
  have G_put_count := ok_put_count (P := P) (w := w) (base := base) T
  refine T.d_put_octets.ok sc_put_octets (fun vs H Q E h => ?_) fun f cdv A outer s H vs Q E hr h => ⟨_, (pss_one (ps_ret (pe_op op_cat (pe_cl (E := fun _ => E0) G_put_count (hr.mono (by decide)) (fun σ => pass00 σ) (pa_cons (pe_callB call_len_seq (by rfl) T.blen PySem.boot_len (pa_cons (pv 0) pa_nil)) pa_nil)) (pe_callTy call_list_of (by rfl) T.blist (by decide +kernel) (pa_cons (pv 0) pa_nil))))), ?_⟩
  · obtain ⟨v, l, rfl, _⟩ := h
    rfl
  obtain ⟨v, l, rfl, ⟨p, rfl, hp⟩, hlen, k⟩ := h
  repeat walk_at "af"
  refine i_len (SqL.of hp) ?_
  repeat walk_at "af"
  refine ⟨(vN l).length, rfl, fun H1 u1 s1 n1 => ?_⟩
  obtain ⟨l1, rfl, hl1, q1⟩ := n1
  repeat walk_at "af"
  refine ⟨p, _, rfl, .inl (SqL.of (s1 _ _ hp)), fun l2 hl2 => ?_⟩
  have s2 := Same.new (o := .lst (vN l)) hl2
  refine i_cat (s2 _ _ q1) upd_same (size_of ?_) fun p3 H3 hp3 s3 q3 => ?_
  · simp only [List.length_map]
    have : ∀ n, (two n).length = 2 := fun _ => rfl
    rw [this]
    omega
  refine k _ _ (Same.trans (Same.trans s1 s2) s3) ⟨p3, rfl, Same.free (Same.trans s1 s2) hp3, ?_⟩
  rw [q3, ← vN_append, List.length_map]
theorem ok_put_maybe (T : Txt K mg d as C) : Ok P w K mg base CX0 1 "put_maybe" ["number"] sp_put_maybe := by
  refine T.d_put_maybe.ok sc_put_maybe (fun vs H Q E h => ?_) fun f cdv A outer s H vs Q E hr h => ⟨_, (pss_cons (ps_if (pt_cmp (pc_isN (pv 0))) (pss_one (ps_ret (pe_lst (pa_cons pe_int pa_nil)))) pss_nil)
      (pss_one (ps_ret (pe_lst (pa_cons pe_int (pa_cons (pv 0) pa_nil)))))), ?_⟩
  · obtain ⟨o, rfl, _⟩ := h
    rfl
  obtain ⟨o, rfl, k⟩ := h
  repeat walk_at "af"
  cases o with
  | none =>
    refine i_dec (fun _ => ?_) (fun z => absurd rfl z)
    repeat walk_at "af"
    intro p H1 hp s1 q1
    exact k _ _ s1 ⟨p, rfl, hp, q1⟩
  | some n =>
    refine i_dec (fun z => nomatch z) (fun _ => ?_)
    repeat walk_at "af"
    intro p H1 hp s1 q1
    exact k _ _ s1 ⟨p, rfl, hp, q1⟩
theorem ok_put_plan (T : Txt K mg d as C) : Ok P w K mg base CX0 4 "put_plan" ["plan"] sp_put_plan := by
  have G_put_octets := ok_put_octets (P := P) (w := w) (base := base) T
  have G_put_maybe := ok_put_maybe (P := P) (w := w) (base := base) T
  refine T.d_put_plan.ok sc_put_plan (fun vs H Q E h => ?_) fun f cdv A outer s H vs Q E hr h => ⟨_, (pss_cons (ps_asg (pv 0) (pg_tup rfl (pgs_cons (pg_name (i := 1) sc_put_plan.nd rfl (Or.inl rfl)) (pgs_cons (pg_name (i := 2) sc_put_plan.nd rfl (Or.inl rfl)) pgs_nil))))
      (pss_one (ps_ret (pe_op op_cat (pe_cl (E := fun _ => E0) G_put_octets (hr.mono (by decide)) (fun σ => pass00 σ) (pa_cons (pv 1) pa_nil)) (pe_cl (E := fun _ => E0) G_put_maybe (hr.mono (by decide)) (fun σ => pass00 σ) (pa_cons (pv 2) pa_nil)))))), ?_⟩
  · obtain ⟨v, p, rfl, _⟩ := h
    rfl
  obtain ⟨v, p, rfl, ⟨pa, ⟨pp, rfl, hp⟩, hpa⟩, hlen, k⟩ := h
  repeat walk_at "af"
  refine i_gT (SqT.of hp) rfl ?_
  repeat walk_at "af"
  refine ⟨_, p.asks, rfl, hpa, hlen, fun H1 u1 s1 n1 => ?_⟩
  obtain ⟨l1, rfl, hl1, q1⟩ := n1
  repeat walk_at "af"
  refine ⟨p.ending, rfl, fun H2 u2 s2 n2 => ?_⟩
  obtain ⟨l2, rfl, hl2, q2⟩ := n2
  repeat walk_at "af"
  refine i_cat (s2 _ _ q1) q2 (size_of ?_) fun p3 H3 hp3 s3 q3 => ?_
  · simp only [List.length_map, List.length_append]
    have : ∀ n, (two n).length = 2 := fun _ => rfl
    rw [this]
    cases p.ending <;> simp [maybeM] <;> omega
  refine k _ _ (Same.trans (Same.trans s1 s2) s3) ⟨p3, rfl, Same.free (Same.trans s1 s2) hp3, ?_⟩
  rw [q3, ← vN_append]
theorem ok_done (T : Txt K mg d as C) : Ok P w K mg base CX0 1 "done" ["octets"] sp_done := by
  refine T.d_done.ok sc_done (fun vs H Q E h => ?_) fun f cdv A outer s H vs Q E hr h => ⟨_, (pss_one (ps_ret (pe_op op_cat (pe_lst (pa_cons pe_int pa_nil)) (pv 0)))), ?_⟩
  · obtain ⟨v, l, rfl, _⟩ := h
    rfl
  obtain ⟨v, l, rfl, ⟨p, rfl, hp⟩, hlen, k⟩ := h
  repeat walk_at "af"
  intro l1 H1 hl1 s1 q1
  repeat walk_at "af"
  refine i_cat q1 (s1 _ _ hp) (size_of (by simp; omega)) fun p3 H3 hp3 s3 q3 => ?_
  exact k _ _ (Same.trans s1 s3) ⟨p3, rfl, Same.free s1 hp3, q3⟩
theorem ok_refused (T : Txt K mg d as C) : Ok P w K mg base CX0 1 "refused" ["number"] sp_refused := by
  refine T.d_refused.ok sc_refused (fun vs H Q E h => ?_) fun f cdv A outer s H vs Q E hr h => ⟨_, (pss_one (ps_ret (pe_lst (pa_cons pe_int (pa_cons (pv 0) pa_nil))))), ?_⟩
  · obtain ⟨n, rfl, _⟩ := h
    rfl
  obtain ⟨n, rfl, k⟩ := h
  repeat walk_at "af"
  intro l1 H1 hl1 s1 q1
  exact k _ _ s1 ⟨l1, rfl, hl1, q1⟩
end
end Af
set_option Elab.async false
set_option linter.all false
set_option maxRecDepth 100000
set_option maxHeartbeats 2000000
/-! # checks.py -/
namespace Af
open PySem PySem.Spec PyProof.Rows L2
open Askfirst (GivenTask GivenPlan isTask isPlanFor caseOf areDifferent actionsIn)
local macro_rules | `(tactic| walk_at "af") => `(tactic| first
  | (with_reducible refine i_seq ?_)
  | (with_reducible refine i_asg ?_)
  | (with_reducible refine i_name ?_)
  | (with_reducible refine i_var (by with_unfolding_all rfl) ?_)
  | (with_reducible refine i_C ?_)
  | (with_reducible refine i_op ?_)
  | (with_reducible refine i_rI0 ?_)
  | (with_reducible refine i_cons ?_)
  | (with_reducible refine i_nil ?_)
  | (with_reducible refine i_callS ?_)
  | (with_reducible refine i_cb ?_)
  | (with_reducible refine i_if ?_)
  | (with_reducible refine i_test ?_)
  | (with_reducible refine i_B ?_)
  | (with_reducible refine i_bl ?_)
  | (with_reducible refine i_cmp ?_)
  | (with_reducible refine i_ij ?_)
  | (with_reducible refine i_not ?_)
  | (with_reducible refine i_and ?_)
  | (with_reducible refine i_or ?_)
  | (with_reducible refine i_andV ?_)
  | (with_reducible refine i_orV ?_)
  | (with_reducible refine i_ret ?_)
  | (with_reducible refine i_drop ?_)
  | (with_reducible refine i_next ?_)
  | (with_reducible refine i_un ?_)
  | (with_reducible refine i_rU ?_)
  | ((with_reducible refine i_rI (C := CMul) ?hc ?_); (case hc => first | exact Or.inl ⟨by omega, by omega⟩ | exact Or.inr ⟨by omega, by omega⟩))
  | ((with_reducible refine i_rI (C := fun _ j => 0 < j) ?hc ?_); (case hc => (show (0 : Int) < _; omega)))
  | ((with_reducible refine i_rI (C := CDiv) ?hc ?_); (case hc => exact ⟨by omega, by omega⟩))
  | (with_reducible refine i_tup ?_)
  | (with_reducible refine i_lst ?_)
  | (with_reducible refine i_newT (by with_unfolding_all exact Nat.le_of_ble_eq_true rfl) ?_)
  | (with_reducible refine i_newL (by with_unfolding_all exact Nat.le_of_ble_eq_true rfl) ?_)
  | (with_reducible refine i_bm ?_)
  | (with_reducible refine i_sl ?_)
  | (with_reducible refine i_part ?_)
  | (with_reducible refine i_i ?_)
  | (with_reducible refine i_nopart ?_)
  | (with_reducible refine i_isN ?_)
  | (with_reducible refine i_par ?_)
  | (with_reducible refine i_vw ?_)
  | (with_reducible refine i_par3 ?_)
  | (with_reducible refine i_uvw ?_)
  | (with_reducible refine i_gc ?_)
  | (with_reducible refine i_gn ?_)
  | (with_reducible refine i_for ?_)
  | (with_reducible refine i_lc ?_)
  | (with_reducible refine i_itL ?_)
  | (with_reducible refine i_itT ?_)
  | (with_reducible refine i_itR ?_)
  | (with_reducible refine i_itV ?_)
  | (with_reducible refine i_itZ ?_)
  | (with_reducible refine i_lstRev ?_)
  | (with_reducible refine i_tyes ?_)
  | (with_reducible refine iteT ?_)
  | (with_reducible refine i_one ?_)
  | (with_reducible refine i_two ?_))
def rewM (r : List Int) (m : Nat) : Bool := r.length == m && r.all fun i => decide (-99 ≤ i) && decide (i ≤ 99)
def sp_are_rewards : Sp := fun vs H Q _ => ∃ (v : V) (r : List Int) (m : Nat), vs = [v, .int (m : Int)] ∧ RL H v (vI r) ∧ Q (.bl (rewM r m)) H
def sp_is_task : Sp := fun vs H Q _ => ∃ (v : V) (x : GivenTask), vs = [v] ∧ RTask H v x ∧ Q (.bl (isTask x)) H
def sp_action_count : Sp := fun vs H Q _ => ∃ (v : V) (x : GivenTask), vs = [v] ∧ RTask H v x ∧ Fit x ∧ Q (.int (nA x : Int)) H
def sp_is_action : Sp := fun vs H Q _ => ∃ (v : V) (x : GivenTask) (a : Nat), vs = [v, .int (a : Int)] ∧ RTask H v x ∧ Fit x ∧ Q (.bl (decide (a < nA x))) H
def sp_is_plan : Sp := fun vs H Q _ => ∃ (v q : V) (x : GivenTask) (p : GivenPlan), vs = [v, q] ∧ RTask H v x ∧ Fit x ∧ RPlan H q p ∧ p.asks.length ≤ 100000 ∧ ∀ H', Same H H' → Q (.bl (isPlanFor (caseOf x) p)) H'
def sp_is_error : Sp := fun vs H Q _ => ∃ (e : Nat), vs = [.int (e : Int)] ∧ Q (.bl (decide (e ≤ 100))) H
def sp_is_cost : Sp := fun vs H Q _ => ∃ (e : Nat), vs = [.int (e : Int)] ∧ Q (.bl (decide (e ≤ 99))) H
def sp_is_level : Sp := fun vs H Q _ => ∃ (m : Int), vs = [.int m] ∧ Q (.bl (decide (-99 ≤ m) && decide (m ≤ 99))) H
theorem actionsIn_is (x : GivenTask) : actionsIn (caseOf x) = nA x := by
  show ((x.rewards.map fun l => l.map fun i : Int => (i : Rat)).headD []).length = (x.rewards.headD []).length
  cases x.rewards with
  | nil => rfl
  | cons r rs => simp
theorem fit_iff (x : GivenTask) : isTask x = true ↔ Fit x := by
  unfold isTask Askfirst.mostUnit Askfirst.mostTastes Askfirst.mostActions Askfirst.mostReward
  simp only [Bool.and_eq_true, decide_eq_true_eq, beq_iff_eq, List.all_eq_true]
  constructor
  · rintro ⟨⟨h1, h2⟩, ⟨h3, h4⟩, h5, h6, h7⟩
    have h0 : ∃ r, r ∈ x.rewards ∧ nA x = r.length := by
      unfold nA
      cases hr : x.rewards with
      | nil => rw [hr] at h6; simp at h6; omega
      | cons r rs => exact ⟨r, List.mem_cons_self, rfl⟩
    obtain ⟨r, hr, er⟩ := h0
    obtain ⟨⟨k1, k2⟩, k3, k4⟩ := h7 r hr
    exact ⟨h1, h2, h3, h4, h5, h6, by omega, by omega, fun q hq => (h7 q hq).2.1, fun q hq i hi => (h7 q hq).2.2 i hi⟩
  · intro f
    refine ⟨⟨f.u1, f.u2⟩, ⟨f.w1, f.w4⟩, f.ws, f.rl, fun l hl => ⟨⟨?_, ?_⟩, f.row l hl, fun i hi => f.rew l hl i hi⟩⟩
    · rw [f.row l hl]; exact f.m1
    · rw [f.row l hl]; exact f.m4
theorem diff_iff : ∀ l : List Nat, areDifferent l = true ↔ l.Nodup
  | [] => by simp [areDifferent]
  | a :: l => by
    unfold areDifferent
    rw [Bool.and_eq_true, diff_iff l, List.nodup_cons]
    simp
theorem planFit_iff (x : GivenTask) (p : GivenPlan) : isPlanFor (caseOf x) p = true ↔ PlanFit x p := by
  unfold isPlanFor
  rw [Bool.and_eq_true, Bool.and_eq_true, diff_iff, actionsIn_is]
  simp only [List.all_eq_true, decide_eq_true_eq]
  constructor
  · rintro ⟨h1, h2, h3⟩
    refine ⟨h1, h2, fun a ha => ?_⟩
    rw [ha] at h3
    exact of_decide_eq_true h3
  · intro f
    refine ⟨f.nd, f.lt, ?_⟩
    cases h : p.ending with
    | none => rfl
    | some a => exact decide_eq_true (f.en a h)
theorem flat_vN (l : List Nat) : (vN l).all flatV = true := List.all_eq_true.mpr fun v hv => by
  obtain ⟨n, _, rfl⟩ := List.mem_map.mp hv
  rfl
theorem inV_nat (n : Nat) (l : List Nat) : inV (.int (n : Int)) (vN l) = l.contains n := by
  unfold inV
  rw [List.any_map]
  induction l with
  | nil => rfl
  | cons a l ih =>
    rw [List.any_cons, List.contains_cons, ih]
    congr 1
    show eqV (.int (a : Int)) (.int (n : Int)) = _
    by_cases h : n = a
    · subst h
      simp [eqV]
    · have h1 : ¬ ((a : Int) = (n : Int)) := fun z => h (by omega)
      have e2 : (n == a) = false := by simpa using h
      rw [e2]
      simp [eqV, h1]
      try omega
section
variable {P : Program} {w : World} {K : PySem.W.Frag} {mg : Str → Option Value} {base : Heap} {d : Addr} {as : Nat → Addr} {C : Addr}
theorem ok_are_rewards (T : Txt K mg d as C) : Ok P w K mg base CX0 1 "are_rewards" ["row", "many"] sp_are_rewards := by
  refine T.d_are_rewards.ok sc_are_rewards (fun vs H Q E h => ?_) fun f cdv A outer s H vs Q E hr h => ⟨_, (pss_cons (ps_if (pt_cmp (pc_neI (pe_callB call_len_seq (by rfl) T.blen PySem.boot_len (pa_cons (pv 0) pa_nil)) (pv 1))) (pss_one (ps_ret pe_bl)) pss_nil)
      (pss_cons (ps_for PassesOwn.never rfl (pi_list (pv 0)) (pg_name (i := 2) sc_are_rewards.nd rfl (Or.inl rfl))
      (pss_one (ps_if (PW.pt (pw_or (pt_cmpR op_lt (pv 2) (pe_un un_neg (pe_const T.cMOST_REWARD)) (nomark _)) (pw_or1 (pt_cmpR op_gt (pv 2) (pe_const T.cMOST_REWARD) (nomark _))))) (pss_one (ps_ret pe_bl)) pss_nil)))
      (pss_one (ps_ret pe_bl)))), ?_⟩
  · obtain ⟨v, r, m, rfl, _⟩ := h
    rfl
  obtain ⟨v, r, m, rfl, ⟨p, rfl, hp⟩, k⟩ := h
  repeat walk_at "af"
  refine i_len (SqL.of hp) ?_
  repeat walk_at "af"
  have e0 : (vI r).length = r.length := by simp
  unfold rewM at k
  refine i_ndec (fun h1 => ?_) fun h1 => ?_
  · repeat walk_at "af"
    have e1 : (r.length == m) = false := by simpa using fun z => h1 (by omega)
    rw [e1] at k
    exact k
  · repeat walk_at "af"
    have e1 : (r.length == m) = true := by simpa using (by omega : r.length = m)
    rw [e1, Bool.true_and] at k
    refine i_wL (SqL.of hp) ?_
    refine i_forW (walk_list (xs := vI r)) (fun i σ H' => ∃ (a1 : Option V), σ = [some (.ref p), some (.int (m : Int)), a1] ∧ H' = H ∧ (r.take i).all (fun i => decide (-99 ≤ i) && decide (i ≤ 99)) = true)
      ⟨none, rfl, rfl, rfl⟩ (fun i σ H' _ hP => ?_) (fun i y σ H2 H3 hi hP hy => ?_) fun σ H2 hP => ?_
    · obtain ⟨a1, _, rfl, _⟩ := hP
      exact SqL.of hp
    · obtain ⟨a1, rfl, rfl, h2⟩ := hP
      obtain ⟨rfl, hy⟩ := hy
      rw [e0] at hi
      rw [vI_get hi] at hy
      cases hy
      have hm : r.getD i 0 ∈ r := by
        rw [List.getD_eq_getElem?_getD, List.getElem?_eq_getElem hi]
        exact List.getElem_mem _
      have bad : ¬ (-99 ≤ r.getD i 0 ∧ r.getD i 0 ≤ 99) → Q (.bl false) H3 := fun hb => by
        have e2 : r.all (fun i => decide (-99 ≤ i) && decide (i ≤ 99)) = false := by
          rw [← Bool.not_eq_true, List.all_eq_true]
          intro z
          have := z _ hm
          rw [Bool.and_eq_true, decide_eq_true_eq, decide_eq_true_eq] at this
          exact hb this
        rw [e2] at k
        exact k
      repeat walk_at "af"
      refine i_dec (fun h3 => ?_) fun h3 => ?_
      · repeat walk_at "af"
        exact bad (by omega)
      · repeat walk_at "af"
        refine i_dec (fun h4 => ?_) fun h4 => ?_
        · repeat walk_at "af"
          exact bad (by omega)
        · repeat walk_at "af"
          refine ⟨_, rfl, rfl, ?_⟩
          rw [take_snoc hi, List.all_append, h2, Bool.true_and]
          have e3 : r[i] = r.getD i 0 := by simp [List.getD_eq_getElem?_getD, List.getElem?_eq_getElem hi]
          simp only [List.all_cons, List.all_nil, Bool.and_true, e3, Bool.and_eq_true, decide_eq_true_eq]
          omega
    · obtain ⟨a1, rfl, rfl, h2⟩ := hP
      repeat walk_at "af"
      rw [e0, List.take_length] at h2
      rw [h2] at k
      exact k
theorem ok_is_task (T : Txt K mg d as C) : Ok P w K mg base CX0 2 "is_task" ["task"] sp_is_task := by
  have G_are_rewards := ok_are_rewards (P := P) (w := w) (base := base) T
  refine T.d_is_task.ok sc_is_task (fun vs H Q E h => ?_) fun f cdv A outer s H vs Q E hr h => ⟨_, (pss_cons (ps_asg (pv 0) (pg_tup rfl (pgs_cons (pg_name (i := 1) sc_is_task.nd rfl (Or.inl rfl)) (pgs_cons (pg_name (i := 2) sc_is_task.nd rfl (Or.inl rfl)) (pgs_cons (pg_name (i := 3) sc_is_task.nd rfl (Or.inl rfl)) pgs_nil)))))
      (pss_cons (ps_if (PW.pt (pw_or (pt_cmpR op_lt (pv 1) pe_int (nomark _)) (pw_or1 (pt_cmpR op_gt (pv 1) (pe_const T.cMOST_UNIT) (nomark _))))) (pss_one (ps_ret pe_bl)) pss_nil)
      (pss_cons (ps_if (PW.pt (pw_or (pt_cmpR op_lt (pe_callB call_len_seq (by rfl) T.blen PySem.boot_len (pa_cons (pv 2) pa_nil)) pe_int (nomark _)) (pw_or1 (pt_cmpR op_gt (pe_callB call_len_seq (by rfl) T.blen PySem.boot_len (pa_cons (pv 2) pa_nil)) (pe_const T.cMOST_TASTES) (nomark _))))) (pss_one (ps_ret pe_bl)) pss_nil)
      (pss_cons (ps_if (PW.pt (pw_or (pt_cmp (pc_neI (pe_callB (cr_sum rfl) (by rfl) T.bsum (by decide +kernel) (pa_cons (pv 2) pa_nil)) (pv 1))) (pw_or1 (pt_cmp (pc_neI (pe_callB call_len_seq (by rfl) T.blen PySem.boot_len (pa_cons (pv 3) pa_nil)) (pe_callB call_len_seq (by rfl) T.blen PySem.boot_len (pa_cons (pv 2) pa_nil))))))) (pss_one (ps_ret pe_bl)) pss_nil)
      (pss_cons (ps_set (i := 4) sc_is_task.nd rfl (Or.inl rfl) (pe_callB call_len_seq (by rfl) T.blen PySem.boot_len (pa_cons (pe_ix ix_list (pv 3) pe_int (fun _ _ => rfl)) pa_nil)))
      (pss_cons (ps_if (PW.pt (pw_or (pt_cmpR op_lt (pv 4) pe_int (nomark _)) (pw_or1 (pt_cmpR op_gt (pv 4) (pe_const T.cMOST_ACTIONS) (nomark _))))) (pss_one (ps_ret pe_bl)) pss_nil)
      (pss_cons (ps_for PassesOwn.never rfl (pi_list (pv 3)) (pg_name (i := 5) sc_is_task.nd rfl (Or.inl rfl))
      (pss_one (ps_if (pt_not (pt_val (pe_cl (E := fun _ => E0) G_are_rewards (hr.mono (by decide)) (fun σ => pass00 σ) (pa_cons (pv 5) (pa_cons (pv 4) pa_nil))))) (pss_one (ps_ret pe_bl)) pss_nil)))
      (pss_one (ps_ret pe_bl))))))))), ?_⟩
  · obtain ⟨v, x, rfl, _⟩ := h
    rfl
  obtain ⟨v, x, rfl, ⟨wv, rv, ⟨tp, rfl, ht⟩, ⟨pw, rfl, hw⟩, ⟨rs, ⟨rp, rfl, hr1⟩, hrs⟩⟩, k⟩ := h
  have bad : ¬ Fit x → Q (.bl false) H := fun hb => by
    have : isTask x = false := by
      rw [← Bool.not_eq_true]
      exact fun z => hb ((fit_iff x).mp z)
    rw [this] at k
    exact k
  have e0 : (vN x.weights).length = x.weights.length := by simp
  repeat walk_at "af"
  refine i_gT (SqT.of ht) rfl ?_
  repeat walk_at "af"
  refine i_dec (fun h1 => ?_) fun h1 => ?_
  · repeat walk_at "af"
    exact bad fun z => by have := z.u1; omega
  repeat walk_at "af"
  refine i_dec (fun h2 => ?_) fun h2 => ?_
  · repeat walk_at "af"
    exact bad fun z => by have := z.u2; omega
  repeat walk_at "af"
  refine i_len (SqL.of hw) ?_
  repeat walk_at "af"
  rw [e0]
  refine i_dec (fun h3 => ?_) fun h3 => ?_
  · repeat walk_at "af"
    exact bad fun z => by have := z.w1; omega
  repeat walk_at "af"
  refine i_len (SqL.of hw) ?_
  repeat walk_at "af"
  rw [e0]
  refine i_dec (fun h4 => ?_) fun h4 => ?_
  · repeat walk_at "af"
    exact bad fun z => by have := z.w4; omega
  repeat walk_at "af"
  have ews : vN x.weights = (x.weights.map fun n : Nat => (n : Int)).map V.int := by rw [List.map_map]; rfl
  have esum : (x.weights.map fun n : Nat => (n : Int)).sum = ((x.weights.sum : Nat) : Int) := by
    induction x.weights with
    | nil => rfl
    | cons a l ih => rw [List.map_cons, List.sum_cons, List.sum_cons, ih]; omega
  refine i_sum (SqL.of (hw.trans (by rw [ews]))) ?_
  repeat walk_at "af"
  rw [esum]
  refine i_ndec (fun h5 => ?_) fun h5 => ?_
  · repeat walk_at "af"
    exact bad fun z => by have := z.ws; omega
  repeat walk_at "af"
  refine i_len (SqL.of hr1) ?_
  repeat walk_at "af"
  refine i_len (SqL.of hw) ?_
  repeat walk_at "af"
  rw [e0, hrs.1]
  refine i_ndec (fun h6 => ?_) fun h6 => ?_
  · repeat walk_at "af"
    exact bad fun z => by have := z.rl; omega
  repeat walk_at "af"
  obtain ⟨r0, rest, hrr⟩ : ∃ r0 rest, x.rewards = r0 :: rest := by
    cases hx : x.rewards with
    | nil => rw [hx] at h6; simp at h6; omega
    | cons a b => exact ⟨a, b, rfl⟩
  have hnA : nA x = r0.length := by unfold nA; rw [hrr]; rfl
  obtain ⟨v0, hv0, ⟨p0, rfl, hp0⟩⟩ := hrs.get (i := 0) (by rw [hrr]; simp)
  have ep0 : vI (x.rewards[0]'(by rw [hrr]; simp)) = vI r0 := by simp [hrr]
  rw [ep0] at hp0
  refine i_ixL (j := 0) (SqL.of hr1) rfl hv0 ?_
  repeat walk_at "af"
  refine i_len (SqL.of hp0) ?_
  repeat walk_at "af"
  have el0 : (vI r0).length = nA x := by rw [List.length_map, hnA]
  rw [el0]
  refine i_dec (fun h7 => ?_) fun h7 => ?_
  · repeat walk_at "af"
    exact bad fun z => by have := z.m1; omega
  repeat walk_at "af"
  refine i_dec (fun h8 => ?_) fun h8 => ?_
  · repeat walk_at "af"
    exact bad fun z => by have := z.m4; omega
  repeat walk_at "af"
  refine i_wL (SqL.of hr1) ?_
  refine i_forW (walk_list (xs := rs)) (fun i σ H' => ∃ (a1 : Option V), σ = [some (.ref tp), some (.int (x.unit : Int)), some (.ref pw), some (.ref rp), some (.int (nA x : Int)), a1] ∧ H' = H ∧ ∀ r ∈ x.rewards.take i, rewM r (nA x) = true)
    ⟨none, rfl, rfl, fun r hr => by simp at hr⟩ (fun i σ H' _ hP => ?_) (fun i y σ H2 H3 hi hP hy => ?_) fun σ H2 hP => ?_
  · obtain ⟨a1, _, rfl, _⟩ := hP
    exact SqL.of hr1
  · obtain ⟨a1, rfl, rfl, h9⟩ := hP
    obtain ⟨rfl, hy⟩ := hy
    obtain ⟨r, hr2, hrl⟩ := hrs.of hy
    repeat walk_at "af"
    refine ⟨_, r, _, rfl, hrl, ?_⟩
    repeat walk_at "af"
    refine i_nbool (fun h10 => ?_) fun h10 => ?_
    · repeat walk_at "af"
      refine bad fun z => ?_
      have hm := List.mem_of_getElem? hr2
      have : rewM r (nA x) = true := by
        unfold rewM
        rw [Bool.and_eq_true, List.all_eq_true]
        refine ⟨by simpa using z.row r hm, fun i hi => ?_⟩
        have := z.rew r hm i hi
        rw [Bool.and_eq_true, decide_eq_true_eq, decide_eq_true_eq]
        exact this
      rw [h10] at this
      cases this
    · repeat walk_at "af"
      refine ⟨_, rfl, rfl, fun q hq => ?_⟩
      have hil := (List.getElem?_eq_some_iff.mp hr2).1
      rw [take_snoc hil] at hq
      rcases List.mem_append.mp hq with hq | hq
      · exact h9 q hq
      · have : q = r := by
          rw [List.mem_singleton] at hq
          rw [hq]
          rw [List.getElem?_eq_getElem hil] at hr2
          exact Option.some.inj hr2
        rw [this]
        exact h10
  · obtain ⟨a1, rfl, rfl, h9⟩ := hP
    repeat walk_at "af"
    rw [hrs.1, List.take_length] at h9
    have hf : Fit x := by
      refine ⟨by omega, by omega, by omega, by omega, by omega, by omega, by omega, by omega, fun r hr => ?_, fun r hr i hi => ?_⟩
      · have := h9 r hr
        unfold rewM at this
        rw [Bool.and_eq_true] at this
        simpa using this.1
      · have := h9 r hr
        unfold rewM at this
        rw [Bool.and_eq_true, List.all_eq_true] at this
        have := this.2 i hi
        rw [Bool.and_eq_true, decide_eq_true_eq, decide_eq_true_eq] at this
        exact this
    rw [(fit_iff x).mpr hf] at k
    exact k
theorem ok_action_count (T : Txt K mg d as C) : Ok P w K mg base CX0 1 "action_count" ["task"] sp_action_count := by
  refine T.d_action_count.ok sc_action_count (fun vs H Q E h => ?_) fun f cdv A outer s H vs Q E hr h => ⟨_, (pss_cons (ps_set (i := 1) sc_action_count.nd rfl (Or.inl rfl) (pe_ix ix_tup (pv 0) pe_int (fun _ _ => rfl)))
      (pss_one (ps_ret (pe_callB call_len_seq (by rfl) T.blen PySem.boot_len (pa_cons (pe_ix ix_list (pv 1) pe_int (fun _ _ => rfl)) pa_nil))))), ?_⟩
  · obtain ⟨v, x, rfl, _⟩ := h
    rfl
  obtain ⟨v, x, rfl, ⟨wv, rv, ⟨tp, rfl, ht⟩, ⟨pw, rfl, hw⟩, ⟨rs, ⟨rp, rfl, hr1⟩, hrs⟩⟩, hf, k⟩ := h
  repeat walk_at "af"
  refine i_ixT (j := 2) (SqT.of ht) rfl rfl ?_
  repeat walk_at "af"
  have h0 : 0 < x.rewards.length := by have := hf.rl; have := hf.w1; omega
  obtain ⟨v0, hv0, ⟨p0, rfl, hp0⟩⟩ := hrs.get (i := 0) h0
  refine i_ixL (j := 0) (SqL.of hr1) rfl hv0 ?_
  repeat walk_at "af"
  refine i_len (SqL.of hp0) ?_
  have e1 : (vI x.rewards[0]).length = nA x := by
    rw [List.length_map]
    exact hf.row _ (List.getElem_mem _)
  rw [e1]
  exact k
theorem ok_is_action (T : Txt K mg d as C) : Ok P w K mg base CX0 2 "is_action" ["task", "action"] sp_is_action := by
  have G_action_count := ok_action_count (P := P) (w := w) (base := base) T
  refine T.d_is_action.ok sc_is_action (fun vs H Q E h => ?_) fun f cdv A outer s H vs Q E hr h => ⟨_, (pss_one (ps_ret (pe_cmpR op_lt (pv 1) (pe_cl (E := fun _ => E0) G_action_count (hr.mono (by decide)) (fun σ => pass00 σ) (pa_cons (pv 0) pa_nil)) (nomark _)))), ?_⟩
  · obtain ⟨v, x, a, rfl, _⟩ := h
    rfl
  obtain ⟨v, x, a, rfl, hT, hf, k⟩ := h
  repeat walk_at "af"
  refine ⟨_, x, rfl, hT, hf, ?_⟩
  repeat walk_at "af"
  have e : decide ((a : Int) < (nA x : Int)) = decide (a < nA x) := decide_eq_decide.mpr (by omega)
  rw [e]
  exact k
theorem ok_is_plan (T : Txt K mg d as C) : Ok P w K mg base CX0 3 "is_plan" ["task", "plan"] sp_is_plan := by
  have G_is_action := ok_is_action (P := P) (w := w) (base := base) T
  refine T.d_is_plan.ok sc_is_plan (fun vs H Q E h => ?_) fun f cdv A outer s H vs Q E hr h => ⟨_, (pss_cons (ps_asg (pv 1) (pg_tup rfl (pgs_cons (pg_name (i := 2) sc_is_plan.nd rfl (Or.inl rfl)) (pgs_cons (pg_name (i := 3) sc_is_plan.nd rfl (Or.inl rfl)) pgs_nil))))
      (pss_cons (ps_set (i := 4) sc_is_plan.nd rfl (Or.inl rfl) (pe_lst pa_nil))
      (pss_cons (ps_for PassesOwn.never rfl (pi_list (pv 2)) (pg_name (i := 5) sc_is_plan.nd rfl (Or.inl rfl))
      (pss_cons (ps_if (PW.pt (pw_or (pt_not (pt_val (pe_cl (E := fun _ => E0) G_is_action (hr.mono (by decide)) (fun σ => pass00 σ) (pa_cons (pv 0) (pa_cons (pv 5) pa_nil))))) (pw_or1 (pt_cmpR op_in_seq (pv 5) (pv 4) (by rfl))))) (pss_one (ps_ret pe_bl)) pss_nil)
      (pss_one (ps_expr (pe_bm PySem.F.plainAttrs_list PySem.F.slot_list_append PySem.F.type_list_append mt_append (pv 4) (pa_cons (pv 5) pa_nil))))))
      (pss_one (ps_ret (pe_or (pe_cmp (pc_isN (pv 3))) (pe_one (pe_cl (E := fun _ => E0) G_is_action (hr.mono (by decide)) (fun σ => pass00 σ) (pa_cons (pv 0) (pa_cons (pv 3) pa_nil)))))))))), ?_⟩
  · obtain ⟨v, q, x, p, rfl, _⟩ := h
    rfl
  obtain ⟨v, q, x, p, rfl, hT, hf, ⟨pa, ⟨pp, rfl, hp⟩, ⟨pq, rfl, hpa⟩⟩, hlen, k⟩ := h
  have bad : ∀ H', Same H H' → ¬ PlanFit x p → Q (.bl false) H' := fun H' s' hb => by
    have : isPlanFor (caseOf x) p = false := by
      rw [← Bool.not_eq_true]
      exact fun z => hb ((planFit_iff x p).mp z)
    have k := k H' s'
    rw [this] at k
    exact k
  repeat walk_at "af"
  refine i_gT (SqT.of hp) rfl ?_
  repeat walk_at "af"
  intro l H1 hl s1 q1
  repeat walk_at "af"
  refine i_wL (SqL.of (s1 _ _ hpa)) ?_
  have e0 : (vN p.asks).length = p.asks.length := by simp
  refine i_forW (walk_list (xs := vN p.asks)) (fun i σ H' => ∃ (a1 : Option V), σ = [some v, some (.ref pp), some (.ref pq), some (vO p.ending), some (.ref l), a1] ∧ Same H H' ∧ H' l = some (.lst (vN (p.asks.take i))) ∧ (p.asks.take i).Nodup ∧ ∀ a ∈ p.asks.take i, a < nA x)
    ⟨none, rfl, s1, q1, by simp, by simp⟩ (fun i σ H' _ hP => ?_) (fun i y σ H2 H3 hi hP hy => ?_) fun σ H2 hP => ?_
  · obtain ⟨a1, _, s2, _⟩ := hP
    exact SqL.of (s2 _ _ hpa)
  · obtain ⟨a1, rfl, s2, q2, h1, h2⟩ := hP
    obtain ⟨rfl, hy⟩ := hy
    rw [e0] at hi
    rw [vN_get hi] at hy
    cases hy
    have e3 : p.asks[i] = p.asks.getD i 0 := by simp [List.getD_eq_getElem?_getD, List.getElem?_eq_getElem hi]
    have hm : p.asks.getD i 0 ∈ p.asks := by rw [← e3]; exact List.getElem_mem _
    repeat walk_at "af"
    refine ⟨_, x, _, rfl, hT.up s2, hf, ?_⟩
    repeat walk_at "af"
    refine i_nbool (fun h3 => ?_) fun h3 => ?_
    · repeat walk_at "af"
      refine bad _ s2 fun z => ?_
      have := z.lt _ hm
      rw [decide_eq_true this] at h3
      cases h3
    repeat walk_at "af"
    refine i_in (SqL.of q2) rfl (flat_vN _) ?_
    repeat walk_at "af"
    rw [inV_nat]
    refine i_bool (fun h4 => ?_) fun h4 => ?_
    · have h4 : (p.asks.take i).contains (p.asks.getD i 0) = true := h4
      repeat walk_at "af"
      refine bad _ s2 fun z => ?_
      have h5 : p.asks.getD i 0 ∈ p.asks.take i := by simpa using h4
      have h6 : (p.asks.take (i + 1)).Nodup := z.nd.sublist (List.take_sublist _ _)
      rw [take_snoc hi, e3, List.nodup_append] at h6
      exact h6.2.2 _ h5 _ (List.mem_singleton.mpr rfl) rfl
    · have h4 : (p.asks.take i).contains (p.asks.getD i 0) = false := h4
      repeat walk_at "af"
      refine ⟨tyl q2, ?_⟩
      repeat walk_at "af"
      refine i_app q2 (size_lt (by simp; omega)) ?_
      refine ⟨_, rfl, Same.mut s2 hl, ?_, ?_, ?_⟩
      · rw [upd_same, take_snoc hi, vN_append, e3]
        rfl
      · rw [take_snoc hi, e3, List.nodup_append]
        refine ⟨h1, by simp, fun a ha b hb e => ?_⟩
        rw [List.mem_singleton] at hb
        subst hb
        subst e
        have : (p.asks.take i).contains (p.asks.getD i 0) = true := by simpa using ha
        rw [this] at h4
        cases h4
      · intro a ha
        rw [take_snoc hi, e3] at ha
        rcases List.mem_append.mp ha with ha | ha
        · exact h2 a ha
        · rw [List.mem_singleton] at ha
          rw [ha]
          exact of_decide_eq_true h3
  · obtain ⟨a1, rfl, s2, q2, h1, h2⟩ := hP
    rw [e0, List.take_length] at h1 h2
    repeat walk_at "af"
    have fin : (∀ a, p.ending = some a → a < nA x) → Q (.bl true) H2 := fun he => by
      have k := k H2 s2
      rw [(planFit_iff x p).mpr ⟨h1, h2, he⟩] at k
      exact k
    have hend : ∀ a, p.ending = some a → vO p.ending = .int (a : Int) := fun a ha => by rw [ha]; rfl
    cases hen : p.ending with
    | none =>
      refine i_dec (fun _ => ?_) (fun z => absurd rfl z)
      exact fin fun a ha => by rw [hen] at ha; cases ha
    | some a =>
      refine i_dec (fun z => nomatch z) (fun _ => ?_)
      repeat walk_at "af"
      refine ⟨_, x, a, rfl, hT.up s2, hf, ?_⟩
      by_cases ha : a < nA x
      · rw [decide_eq_true ha]
        exact fin fun b hb => by rw [hen] at hb; cases hb; exact ha
      · rw [decide_eq_false ha]
        exact bad _ s2 fun z => ha (z.en a hen)
theorem ok_is_error (T : Txt K mg d as C) : Ok P w K mg base CX0 1 "is_error" ["error"] sp_is_error := by
  refine T.d_is_error.ok sc_is_error (fun vs H Q E h => ?_) fun f cdv A outer s H vs Q E hr h => ⟨_, (pss_one (ps_ret (pe_cmpR op_le (pv 0) (pe_const T.cMOST_ERROR) (nomark _)))), ?_⟩
  · obtain ⟨e, rfl, _⟩ := h
    rfl
  obtain ⟨e, rfl, k⟩ := h
  repeat walk_at "af"
  have e1 : decide ((e : Int) ≤ 100) = decide (e ≤ 100) := decide_eq_decide.mpr (by omega)
  rw [e1]
  exact k
theorem ok_is_cost (T : Txt K mg d as C) : Ok P w K mg base CX0 1 "is_cost" ["cost"] sp_is_cost := by
  refine T.d_is_cost.ok sc_is_cost (fun vs H Q E h => ?_) fun f cdv A outer s H vs Q E hr h => ⟨_, (pss_one (ps_ret (pe_cmpR op_le (pv 0) (pe_const T.cMOST_COST) (nomark _)))), ?_⟩
  · obtain ⟨e, rfl, _⟩ := h
    rfl
  obtain ⟨e, rfl, k⟩ := h
  repeat walk_at "af"
  have e1 : decide ((e : Int) ≤ 99) = decide (e ≤ 99) := decide_eq_decide.mpr (by omega)
  rw [e1]
  exact k
theorem ok_is_level (T : Txt K mg d as C) : Ok P w K mg base CX0 1 "is_level" ["level"] sp_is_level := by
  refine T.d_is_level.ok sc_is_level (fun vs H Q E h => ?_) fun f cdv A outer s H vs Q E hr h => ⟨_, (pss_one (ps_ret (pe_and (pe_cmpR op_le (pe_un un_neg (pe_const T.cMOST_LEVEL)) (pv 0) (nomark _)) (pe_one (pe_cmpR op_le (pv 0) (pe_const T.cMOST_LEVEL) (nomark _)))))), ?_⟩
  · obtain ⟨m, rfl, _⟩ := h
    rfl
  obtain ⟨m, rfl, k⟩ := h
  repeat walk_at "af"
  refine i_dec (fun h1 => ?_) fun h1 => ?_
  · repeat walk_at "af"
    rw [decide_eq_true (by omega : (-99 : Int) ≤ m), Bool.true_and] at k
    exact k
  · repeat walk_at "af"
    rw [decide_eq_false (by omega : ¬ (-99 : Int) ≤ m), Bool.false_and] at k
    exact k
end
end Af
set_option Elab.async false
set_option linter.all false
set_option maxRecDepth 100000
set_option maxHeartbeats 2000000
/-! # choice.py -/
namespace Af
open PySem PySem.Spec PyProof.Rows L2
open Askfirst (GivenTask GivenPlan isTask isPlanFor caseOf areDifferent actionsIn endingsOf)
local macro_rules | `(tactic| walk_at "af") => `(tactic| first
  | (with_reducible refine i_seq ?_)
  | (with_reducible refine i_asg ?_)
  | (with_reducible refine i_name ?_)
  | (with_reducible refine i_var (by with_unfolding_all rfl) ?_)
  | (with_reducible refine i_C ?_)
  | (with_reducible refine i_op ?_)
  | (with_reducible refine i_rI0 ?_)
  | (with_reducible refine i_cons ?_)
  | (with_reducible refine i_nil ?_)
  | (with_reducible refine i_callS ?_)
  | (with_reducible refine i_cb ?_)
  | (with_reducible refine i_if ?_)
  | (with_reducible refine i_test ?_)
  | (with_reducible refine i_B ?_)
  | (with_reducible refine i_bl ?_)
  | (with_reducible refine i_cmp ?_)
  | (with_reducible refine i_ij ?_)
  | (with_reducible refine i_not ?_)
  | (with_reducible refine i_and ?_)
  | (with_reducible refine i_or ?_)
  | (with_reducible refine i_andV ?_)
  | (with_reducible refine i_orV ?_)
  | (with_reducible refine i_ret ?_)
  | (with_reducible refine i_drop ?_)
  | (with_reducible refine i_next ?_)
  | (with_reducible refine i_un ?_)
  | (with_reducible refine i_rU ?_)
  | ((with_reducible refine i_rI (C := CMul) ?hc ?_); (case hc => first | exact Or.inl ⟨by omega, by omega⟩ | exact Or.inr ⟨by omega, by omega⟩))
  | ((with_reducible refine i_rI (C := fun _ j => 0 < j) ?hc ?_); (case hc => (show (0 : Int) < _; omega)))
  | ((with_reducible refine i_rI (C := CDiv) ?hc ?_); (case hc => exact ⟨by omega, by omega⟩))
  | (with_reducible refine i_tup ?_)
  | (with_reducible refine i_lst ?_)
  | (with_reducible refine i_newT (by with_unfolding_all exact Nat.le_of_ble_eq_true rfl) ?_)
  | (with_reducible refine i_newL (by with_unfolding_all exact Nat.le_of_ble_eq_true rfl) ?_)
  | (with_reducible refine i_bm ?_)
  | (with_reducible refine i_sl ?_)
  | (with_reducible refine i_part ?_)
  | (with_reducible refine i_i ?_)
  | (with_reducible refine i_nopart ?_)
  | (with_reducible refine i_isN ?_)
  | (with_reducible refine i_par ?_)
  | (with_reducible refine i_vw ?_)
  | (with_reducible refine i_par3 ?_)
  | (with_reducible refine i_uvw ?_)
  | (with_reducible refine i_gc ?_)
  | (with_reducible refine i_gn ?_)
  | (with_reducible refine i_for ?_)
  | (with_reducible refine i_lc ?_)
  | (with_reducible refine i_itL ?_)
  | (with_reducible refine i_itT ?_)
  | (with_reducible refine i_itR ?_)
  | (with_reducible refine i_itV ?_)
  | (with_reducible refine i_itZ ?_)
  | (with_reducible refine i_lstRev ?_)
  | (with_reducible refine i_tyes ?_)
  | (with_reducible refine iteT ?_)
  | (with_reducible refine i_one ?_)
  | (with_reducible refine i_two ?_))
/-- R of the heap, whatever stands at l -/
def Off (l : Addr) (H : Hp) (R : Hp → Prop) : Prop := ∀ H'', (∀ b o, b ≠ l → H b = some o → H'' b = some o) → R H''
theorem Off.up {l : Addr} {H H' : Hp} {R : Hp → Prop} (s : Same H H') (h : Off l H R) : Off l H' R := fun H'' hH => h H'' fun b o nb e => hH b o nb (s b o e)
theorem Off.mut {l : Addr} {H : Hp} {R : Hp → Prop} {o : HO} (h : Off l H R) : Off l (upd H l o) R := fun H'' hH => h H'' fun b o nb e => hH b o nb (by rw [upd_ne nb]; exact e)
theorem Off.now {l : Addr} {H : Hp} {R : Hp → Prop} (h : Off l H R) : R H := h H fun _ _ _ e => e
def RWay (H : Hp) (v : V) (p : Way) : Prop := ∃ a b, RT H v [a, vO p.2.1, b] ∧ RL H a (vN p.1) ∧ RL H b (vI p.2.2)
theorem RWay.up {H H' : Hp} {v : V} {p : Way} (s : Same H H') (h : RWay H v p) : RWay H' v p := let ⟨a, b, q1, q2, q3⟩ := h; ⟨a, b, q1.up s, q2.up s, q3.up s⟩
/-- a way whose three objects are not at l -/
theorem off_way {l pt pa pb : Addr} {H : Hp} {p : Way} (h1 : H pt = some (.tup [.ref pa, vO p.2.1, .ref pb])) (h2 : H pa = some (.lst (vN p.1))) (h3 : H pb = some (.lst (vI p.2.2))) (n1 : pt ≠ l) (n2 : pa ≠ l) (n3 : pb ≠ l) : Off l H fun H' => RWay H' (.ref pt) p :=
  fun H'' hH => ⟨.ref pa, .ref pb, ⟨pt, rfl, hH _ _ n1 h1⟩, ⟨pa, rfl, hH _ _ n2 h2⟩, ⟨pb, rfl, hH _ _ n3 h3⟩⟩
def sp_endings : Sp := fun vs H Q _ => ∃ (v : V) (x : GivenTask), vs = [v] ∧ RTask H v x ∧ Fit x ∧ ∀ H' u, Same H H' → RWays H' u (endingsM x.rewards (nA x)) → Q u H'
def sp_longer : Sp := fun vs H Q _ => ∃ (v : V) (x : GivenTask) (q : V) (acts : List Nat) (r : V) (plans : List Way) (k : Nat) (sc e c : Int), vs = [v, q, r, .int sc, .int e, .int c] ∧ RTask H v x ∧ Fit x ∧ RL H q (vN acts) ∧ (∀ a ∈ acts, a < nA x) ∧ acts.length ≤ 4 ∧
  RWays H r plans ∧ plans.length ≤ 100000 ∧ (∀ p ∈ plans, p.2.2.length = x.rewards.length ∧ p.1.length ≤ 10) ∧ sc = 100 ^ k ∧ k ≤ 8 ∧ 0 ≤ e ∧ e ≤ 100 ∧ 0 ≤ c ∧ c ≤ 99 ∧
  ∀ H' u, Same H H' → RWays H' u (longerM x.rewards acts plans sc e c) → Q u H'
section
variable {P : Program} {w : World} {K : PySem.W.Frag} {mg : Str → Option Value} {base : Heap} {d : Addr} {as : Nat → Addr} {C : Addr}
theorem ok_endings (T : Txt K mg d as C) : Ok P w K mg base CX0 3 "endings" ["task"] sp_endings := by
  have G_ending_rests := ok_ending_rests (P := P) (w := w) (base := base) T
  have G_action_count := ok_action_count (P := P) (w := w) (base := base) T
  refine T.d_endings.ok sc_endings (fun vs H Q E h => ?_) fun f cdv A outer s H vs Q E hr h => ⟨_, (pss_cons (ps_set (i := 1) sc_endings.nd rfl (Or.inl rfl) (pe_lst (pa_cons (pe_tup (pa_cons (pe_lst pa_nil) (pa_cons pe_non (pa_cons (pe_cl (E := fun _ => E0) G_ending_rests (hr.mono (by decide)) (fun σ => pass00 σ) (pa_cons (pv 0) (pa_cons pe_non pa_nil))) pa_nil)))) pa_nil)))
      (pss_cons (ps_for PassesOwn.never rfl (pi_range1 (by rfl) T.brange (pa_cons (pe_cl (E := fun _ => E0) G_action_count (hr.mono (by decide)) (fun σ => pass00 σ) (pa_cons (pv 0) pa_nil)) pa_nil)) (pg_name (i := 2) sc_endings.nd rfl (Or.inl rfl))
      (pss_one (ps_expr (pe_bm PySem.F.plainAttrs_list PySem.F.slot_list_append PySem.F.type_list_append mt_append (pv 1) (pa_cons (pe_tup (pa_cons (pe_lst pa_nil) (pa_cons (pv 2) (pa_cons (pe_cl (E := fun _ => E0) G_ending_rests (hr.mono (by decide)) (fun σ => pass00 σ) (pa_cons (pv 0) (pa_cons (pv 2) pa_nil))) pa_nil)))) pa_nil)))))
      (pss_one (ps_ret (pv 1))))), ?_⟩
  · obtain ⟨v, x, rfl, _⟩ := h
    rfl
  obtain ⟨v, x, rfl, hT, hf, k⟩ := h
  repeat walk_at "af"
  intro p1 H1 hp1 s1 q1
  repeat walk_at "af"
  refine ⟨_, x, none, rfl, hT.up s1, hf, fun a z => (nomatch z), fun H2 u2 s2 n2 => ?_⟩
  obtain ⟨p2, rfl, hp2, q2⟩ := n2
  repeat walk_at "af"
  intro p3 H3 hp3 s3 q3
  repeat walk_at "af"
  intro l H4 hl s4 q4
  have s14 := Same.trans (Same.trans s2 s3) s4
  have s04 := Same.trans s1 s14
  repeat walk_at "af"
  refine ⟨_, x, rfl, hT.up s04, hf, ?_⟩
  repeat walk_at "af"
  have m4 := hf.m4
  refine i_wR (by omega) ?_
  refine i_forW walk_range (fun i σ H' => ∃ (a1 : Option V) (vs : List V), σ = [some v, some (.ref l), a1] ∧ i ≤ nA x ∧ Same H H' ∧ H' l = some (.lst vs) ∧ All2 (fun v p => Off l H' fun H'' => RWay H'' v p) vs (([], none, endM x.rewards none) :: (List.range i).map fun a => ([], some a, endM x.rewards (some a))))
    ⟨none, [.ref p3], rfl, Nat.zero_le _, s04, q4, ?_⟩ (fun _ _ _ _ _ => trivial) (fun i y σ H5 H6 hi hP hy => ?_) fun σ H5 hP => ?_
  · refine All2.cons ?_ All2.nil
    exact off_way (s4 _ _ q3) ((Same.trans (Same.trans s2 s3) s4) _ _ q1) ((Same.trans s3 s4) _ _ q2) (ne_of_none q3 hl) (ne_of_none ((Same.trans s2 s3) _ _ q1) hl) (ne_of_none (s3 _ _ q2) hl)
  · obtain ⟨a1, vs, rfl, hil, s5, q5, h5⟩ := hP
    obtain ⟨rfl, hyv⟩ := hy
    have hyv : y = V.int (i : Int) := hyv.trans (congrArg V.int (by omega))
    subst hyv
    repeat walk_at "af"
    refine ⟨tyl q5, ?_⟩
    repeat walk_at "af"
    intro p6 H7 hp6 s7 q7
    repeat walk_at "af"
    refine ⟨_, x, some i, rfl, hT.up (Same.trans s5 s7), hf, fun a z => by cases z; exact hi, fun H8 u8 s8 n8 => ?_⟩
    obtain ⟨p8, rfl, hp8, q8⟩ := n8
    repeat walk_at "af"
    intro p9 H9 hp9 s9 q9
    repeat walk_at "af"
    have s69 := Same.trans (Same.trans s7 s8) s9
    have hlen : vs.length = i + 1 := by have := h5.1; simpa using this
    refine i_app (s69 _ _ q5) (size_lt (by omega)) ?_
    refine ⟨_, vs ++ [.ref p9], rfl, hi, Same.mut (Same.trans s5 s69) (Same.free (Same.trans (Same.trans s1 s2) s3) hl), upd_same, ?_⟩
    have nl : ∀ {b : Addr} {Hx : Hp}, Same H6 Hx → Hx b = none → b ≠ l := fun sx hb z => by
      rw [z, sx l _ q5] at hb
      cases hb
    rw [List.range_succ, List.map_append]
    rw [← List.cons_append]
    refine All2.snoc (h5.imp fun v p hv => (hv.up s69).mut) ?_
    exact (off_way (p := ([], some i, endM x.rewards (some i))) q9 ((Same.trans s8 s9) _ _ q7) (s9 _ _ q8) (nl (Same.trans s7 s8) hp9) (nl (Same.refl _) hp6) (nl s7 hp8)).mut
  · obtain ⟨a1, vs, rfl, _, s5, q5, h5⟩ := hP
    repeat walk_at "af"
    exact k _ _ s5 ⟨vs, ⟨l, rfl, q5⟩, h5.imp fun v p hv => hv.now⟩
theorem ok_longer (T : Txt K mg d as C) : Ok P w K mg base CX0 4 "longer" ["task", "actions", "plans", "scale", "error", "cost"] sp_longer := by
  have G_put_ahead := ok_put_ahead (P := P) (w := w) (base := base) T
  refine T.d_longer.ok sc_longer (fun vs H Q E h => ?_) fun f cdv A outer s H vs Q E hr h => ⟨_, (pss_cons (ps_set (i := 6) sc_longer.nd rfl (Or.inl rfl) (pe_lst pa_nil))
      (pss_cons (ps_for PassesOwn.never rfl (pi_list (pv 1)) (pg_name (i := 7) sc_longer.nd rfl (Or.inl rfl))
      (pss_one (ps_for PassesOwn.never rfl (pi_list (pv 2)) (pg_tup rfl (pgs_cons (pg_name (i := 8) sc_longer.nd rfl (Or.inl rfl)) (pgs_cons (pg_name (i := 9) sc_longer.nd rfl (Or.inl rfl)) (pgs_cons (pg_name (i := 10) sc_longer.nd rfl (Or.inl rfl)) pgs_nil))))
      (pss_one (ps_if (pt_cmpR op_notIn_seq (pv 7) (pv 8) (by rfl)) (pss_cons (ps_set (i := 11) sc_longer.nd rfl (Or.inl rfl) (pe_cl (E := fun _ => E0) G_put_ahead (hr.mono (by decide)) (fun σ => pass00 σ) (pa_cons (pv 0) (pa_cons (pv 7) (pa_cons (pv 10) (pa_cons (pv 3) (pa_cons (pv 4) (pa_cons (pv 5) pa_nil))))))))
      (pss_one (ps_expr (pe_bm PySem.F.plainAttrs_list PySem.F.slot_list_append PySem.F.type_list_append mt_append (pv 6) (pa_cons (pe_tup (pa_cons (pe_op op_cat (pe_lst (pa_cons (pv 7) pa_nil)) (pv 8)) (pa_cons (pv 9) (pa_cons (pv 11) pa_nil)))) pa_nil))))) pss_nil)))))
      (pss_one (ps_ret (pv 6))))), ?_⟩
  · obtain ⟨v, x, q, acts, r, plans, n, sc, e, c, rfl, _⟩ := h
    rfl
  obtain ⟨v, x, q, acts, r, plans, n, sc, e, c, rfl, hT, hf, ⟨pq, rfl, hq⟩, hacts, ha4, ⟨pvs, ⟨pr, rfl, hr1⟩, hpl⟩, hplen, hpw, rfl, hn8, h3, h4, h5, h6, k⟩ := h
  have hp0 : (0 : Int) < 100 ^ n := pow_pos100 _
  have hp8 : (100 : Int) ^ n ≤ 100 ^ 8 := pow100_le hn8
  repeat walk_at "af"
  intro l H1 hl s1 q1
  repeat walk_at "af"
  refine i_wL (SqL.of (s1 _ _ hq)) ?_
  have e0 : (vN acts).length = acts.length := by simp
  refine i_forW (walk_list (xs := vN acts)) (fun i σ H' => ∃ (a1 a2 a3 a4 a5 : Option V) (vs : List V), σ = [some v, some (.ref pq), some (.ref pr), some (.int (100 ^ n)), some (.int e), some (.int c), some (.ref l), a1, a2, a3, a4, a5] ∧ Same H H' ∧ H' l = some (.lst vs) ∧ vs.length ≤ i * 100000 ∧
      All2 (fun v p => Off l H' fun H'' => RWay H'' v p) vs (longerM x.rewards (acts.take i) plans (100 ^ n) e c))
    ⟨none, none, none, none, none, [], rfl, s1, q1, by simp, All2.nil⟩ (fun i σ H' _ hP => ?_) (fun i y σ H2 H3 hi hP hy => ?_) fun σ H2 hP => ?_
  · obtain ⟨a1, a2, a3, a4, a5, vs, _, s2, _⟩ := hP
    exact SqL.of (s2 _ _ hq)
  · obtain ⟨a1, a2, a3, a4, a5, vs, rfl, s2, q2, hvl, h2⟩ := hP
    obtain ⟨rfl, hy⟩ := hy
    rw [e0] at hi
    rw [vN_get hi] at hy
    cases hy
    have e3 : acts[i] = acts.getD i 0 := by simp [List.getD_eq_getElem?_getD, List.getElem?_eq_getElem hi]
    have hm : acts.getD i 0 ∈ acts := by rw [← e3]; exact List.getElem_mem _
    have elm : longerM x.rewards (acts.take (i + 1)) plans (100 ^ n) e c = longerM x.rewards (acts.take i) plans (100 ^ n) e c ++ (plans.filter fun p => !p.1.contains (acts.getD i 0)).map fun p => (acts.getD i 0 :: p.1, p.2.1, aheadM x.rewards (acts.getD i 0) p.2.2 (100 ^ n) e c) := by
      unfold longerM
      rw [take_snoc hi, List.flatMap_append, e3]
      simp
    generalize acts.getD i 0 = a at hm elm
    repeat walk_at "af"
    refine i_wL (SqL.of (s2 _ _ hr1)) ?_
    refine i_forW (walk_list (xs := pvs)) (fun j σ H' => ∃ (a2 a3 a4 a5 : Option V) (vs' : List V), σ = [some v, some (.ref pq), some (.ref pr), some (.int (100 ^ n)), some (.int e), some (.int c), some (.ref l), some (.int (a : Int)), a2, a3, a4, a5] ∧ Same H H' ∧ H' l = some (.lst vs') ∧ vs'.length ≤ i * 100000 + j ∧
        All2 (fun v p => Off l H' fun H'' => RWay H'' v p) vs' (longerM x.rewards (acts.take i) plans (100 ^ n) e c ++ ((plans.take j).filter fun p => !p.1.contains a).map fun p => (a :: p.1, p.2.1, aheadM x.rewards a p.2.2 (100 ^ n) e c)))
      ⟨a2, a3, a4, a5, vs, rfl, s2, q2, Nat.le_trans hvl (Nat.le_add_right _ _), by simpa using h2⟩ (fun j σ H' _ hP => ?_) (fun j y σ H4 H5 hj hP hy => ?_) fun σ H4 hP => ?_
    · obtain ⟨_, _, _, _, _, _, s4, _⟩ := hP
      exact SqL.of (s4 _ _ hr1)
    · obtain ⟨b2, b3, b4, b5, vs', rfl, s4, q4, hvl4, h7⟩ := hP
      obtain ⟨rfl, hy⟩ := hy
      obtain ⟨wy, hwy, ⟨pa, pb, hRT, hRa, hRb⟩⟩ := hpl.of hy
      obtain ⟨pt, rfl, qt⟩ := hRT.up s4
      obtain ⟨pa, rfl, qa⟩ := hRa.up s4
      have hRb4 := hRb.up s4
      have hwm := List.mem_of_getElem? hwy
      obtain ⟨w1, w2⟩ := hpw _ hwm
      have hjl : j < plans.length := (List.getElem?_eq_some_iff.mp hwy).1
      have ej : plans[j] = wy := by
        rw [List.getElem?_eq_getElem hjl] at hwy
        exact Option.some.inj hwy
      refine i_gT (SqT.of qt) rfl ?_
      repeat walk_at "af"
      refine i_in (SqL.of qa) rfl (flat_vN _) ?_
      repeat walk_at "af"
      rw [inV_nat]
      refine i_bool (fun h8 => ?_) fun h8 => ?_
      · have h8 : (!wy.1.contains a) = true := h8
        repeat walk_at "af"
        refine ⟨_, x, a, _, wy.2.2, _, _, _, rfl, hT.up s4, hf, hacts a hm, hRb4, w1, hp0, hp8, h3, h4, h5, h6, fun H6 u6 s6 n6 => ?_⟩
        obtain ⟨p6, rfl, hp6, q6⟩ := n6
        repeat walk_at "af"
        refine ⟨tyl (s6 _ _ q4), ?_⟩
        repeat walk_at "af"
        intro p7 H7 hp7 s7 q7
        repeat walk_at "af"
        refine i_cat q7 ((Same.trans s6 s7) _ _ qa) (size_of (by simp; omega)) fun p8 H8 hp8' s8 q8 => ?_
        repeat walk_at "af"
        intro p9 H9 hp9 s9 q9
        repeat walk_at "af"
        have s59 := Same.trans (Same.trans (Same.trans s6 s7) s8) s9
        refine i_app (s59 _ _ q4) (size_lt (by omega)) ?_
        have nl : ∀ {b : Addr} {Hx : Hp}, Same H5 Hx → Hx b = none → b ≠ l := fun sx hb z => by
          rw [z, sx l _ q4] at hb
          cases hb
        refine ⟨_, _, _, _, vs' ++ [.ref p9], rfl, Same.mut (Same.trans s4 s59) hl, upd_same, by rw [List.length_append, List.length_singleton]; omega, ?_⟩
        rw [take_snoc hjl, List.filter_append, ej]
        have ef : List.filter (fun p : Way => !p.1.contains a) [wy] = [wy] := by
          rw [List.filter_cons, if_pos h8]
          rfl
        rw [ef, List.map_append, ← List.append_assoc]
        refine All2.snoc (h7.imp fun v p hv => (hv.up s59).mut) ?_
        exact (off_way (p := (a :: wy.1, wy.2.1, aheadM x.rewards a wy.2.2 (100 ^ n) e c)) q9 (s9 _ _ q8) ((Same.trans (Same.trans s7 s8) s9) _ _ q6) (nl (Same.trans (Same.trans s6 s7) s8) hp9) (nl (Same.trans s6 s7) hp8') (nl (Same.refl _) hp6)).mut
      · have h8 : (!wy.1.contains a) = false := h8
        repeat walk_at "af"
        refine ⟨_, _, _, _, vs', rfl, s4, q4, by omega, ?_⟩
        rw [take_snoc hjl, List.filter_append, ej]
        have ef : List.filter (fun p : Way => !p.1.contains a) [wy] = [] := by
          rw [List.filter_cons, if_neg (by rw [h8]; exact Bool.false_ne_true)]
          rfl
        rw [ef, List.append_nil]
        exact h7
    · obtain ⟨b2, b3, b4, b5, vs', rfl, s4, q4, hvl4, h7⟩ := hP
      refine ⟨_, _, _, _, _, vs', rfl, s4, q4, ?_, ?_⟩
      · have := hpl.1
        omega
      · rw [elm]
        rw [hpl.1, List.take_length] at h7
        exact h7
  · obtain ⟨a1, a2, a3, a4, a5, vs, rfl, s2, q2, hvl, h2⟩ := hP
    repeat walk_at "af"
    rw [e0, List.take_length] at h2
    exact k _ _ s2 ⟨vs, ⟨l, rfl, q2⟩, h2.imp fun v p hv => hv.now⟩
end
end Af
set_option Elab.async false
set_option linter.all false
set_option maxRecDepth 100000
set_option maxHeartbeats 2000000
/-! # choice.py, second part; told_best -/
namespace Af
open PySem PySem.Spec PyProof.Rows L2
open Askfirst (GivenTask GivenPlan isTask isPlanFor caseOf areDifferent actionsIn endingsOf fractionOut toldBytes sureOf percent costOf bestBehind planOut two)
local macro_rules | `(tactic| walk_at "af") => `(tactic| first
  | (with_reducible refine i_seq ?_)
  | (with_reducible refine i_asg ?_)
  | (with_reducible refine i_name ?_)
  | (with_reducible refine i_var (by with_unfolding_all rfl) ?_)
  | (with_reducible refine i_C ?_)
  | (with_reducible refine i_op ?_)
  | (with_reducible refine i_rI0 ?_)
  | (with_reducible refine i_cons ?_)
  | (with_reducible refine i_nil ?_)
  | (with_reducible refine i_callS ?_)
  | (with_reducible refine i_cb ?_)
  | (with_reducible refine i_if ?_)
  | (with_reducible refine i_test ?_)
  | (with_reducible refine i_B ?_)
  | (with_reducible refine i_bl ?_)
  | (with_reducible refine i_cmp ?_)
  | (with_reducible refine i_ij ?_)
  | (with_reducible refine i_not ?_)
  | (with_reducible refine i_and ?_)
  | (with_reducible refine i_or ?_)
  | (with_reducible refine i_andV ?_)
  | (with_reducible refine i_orV ?_)
  | (with_reducible refine i_ret ?_)
  | (with_reducible refine i_drop ?_)
  | (with_reducible refine i_next ?_)
  | (with_reducible refine i_un ?_)
  | (with_reducible refine i_rU ?_)
  | ((with_reducible refine i_rI (C := CMul) ?hc ?_); (case hc => first | exact Or.inl ⟨by omega, by omega⟩ | exact Or.inr ⟨by omega, by omega⟩))
  | ((with_reducible refine i_rI (C := fun _ j => 0 < j) ?hc ?_); (case hc => (show (0 : Int) < _; omega)))
  | ((with_reducible refine i_rI (C := CDiv) ?hc ?_); (case hc => exact ⟨by omega, by omega⟩))
  | (with_reducible refine i_tup ?_)
  | (with_reducible refine i_lst ?_)
  | (with_reducible refine i_newT (by with_unfolding_all exact Nat.le_of_ble_eq_true rfl) ?_)
  | (with_reducible refine i_newL (by with_unfolding_all exact Nat.le_of_ble_eq_true rfl) ?_)
  | (with_reducible refine i_bm ?_)
  | (with_reducible refine i_sl ?_)
  | (with_reducible refine i_part ?_)
  | (with_reducible refine i_i ?_)
  | (with_reducible refine i_nopart ?_)
  | (with_reducible refine i_isN ?_)
  | (with_reducible refine i_par ?_)
  | (with_reducible refine i_vw ?_)
  | (with_reducible refine i_par3 ?_)
  | (with_reducible refine i_uvw ?_)
  | (with_reducible refine i_gc ?_)
  | (with_reducible refine i_gn ?_)
  | (with_reducible refine i_for ?_)
  | (with_reducible refine i_lc ?_)
  | (with_reducible refine i_itL ?_)
  | (with_reducible refine i_itT ?_)
  | (with_reducible refine i_itR ?_)
  | (with_reducible refine i_itV ?_)
  | (with_reducible refine i_itZ ?_)
  | (with_reducible refine i_lstRev ?_)
  | (with_reducible refine i_tyes ?_)
  | (with_reducible refine iteT ?_)
  | (with_reducible refine i_one ?_)
  | (with_reducible refine i_two ?_))
/-- rows of sums that are new -/
def RNew (H H' : Hp) (u : V) (rows : List Sum3) : Prop := ∃ vs l, u = .ref l ∧ H l = none ∧ H' l = some (.lst vs) ∧ All2 (fun v q => Off l H' fun H'' => RSum H'' v q) vs rows
def sp_sums : Sp := fun vs H Q _ => ∃ (v : V) (x : GivenTask) (q : V) (before : List Nat) (r : V) (plans : List Way) (k : Nat) (sc e c : Int), vs = [v, q, r, .int sc, .int e, .int c] ∧ RTask H v x ∧ Fit x ∧ RL H q (vN before) ∧ (∀ a ∈ before, a < nA x) ∧
  RWays H r plans ∧ plans.length ≤ 100000 ∧ (∀ p ∈ plans, p.2.2.length = x.rewards.length ∧ p.1.length ≤ 10) ∧ sc = 100 ^ k ∧ k + before.length ≤ 8 ∧ 0 ≤ e ∧ e ≤ 100 ∧ 0 ≤ c ∧ c ≤ 99 ∧
  ∀ H' u, Same H H' → RNew H H' u (sumsM x before plans sc e c) → Q u H'
def sp_all_sums : Sp := fun vs H Q _ => ∃ (v : V) (x : GivenTask) (q : V) (before : List Nat) (e c : Int), vs = [v, q, .int e, .int c] ∧ RTask H v x ∧ Fit x ∧ RL H q (vN before) ∧ before.Nodup ∧ (∀ a ∈ before, a < nA x) ∧ 0 ≤ e ∧ e ≤ 100 ∧ 0 ≤ c ∧ c ≤ 99 ∧
  ∀ H' u, Same H H' → RSums H' u (allM x (nA x) before e c) → Q u H'
def sp_best_plan : Sp := fun vs H Q _ => ∃ (v : V) (x : GivenTask) (q : V) (before : List Nat) (e c : Int), vs = [v, q, .int e, .int c] ∧ RTask H v x ∧ Fit x ∧ RL H q (vN before) ∧ before.Nodup ∧ (∀ a ∈ before, a < nA x) ∧ 0 ≤ e ∧ e ≤ 100 ∧ 0 ≤ c ∧ c ≤ 99 ∧
  ∀ H' u, Same H H' → RSum H' u (bestM (allM x (nA x) before e c)) → Q u H'
def sp_told_best : Sp := fun vs H Q _ => ∃ (v : V) (x : GivenTask) (q : V) (before : List Nat) (e c : Nat), vs = [v, q, .int (e : Int), .int (c : Int)] ∧ RTask H v x ∧ Fit x ∧ RL H q (vN before) ∧ before.Nodup ∧ (∀ a ∈ before, a < nA x) ∧ e ≤ 100 ∧ c ≤ 99 ∧
  ∀ H' u, Same H H' → New H H' u (vN (0 :: toldBytes (.best (bestBehind (caseOf x) (percent e) (costOf c) before) (sureOf (caseOf x) (percent e) (costOf c) (bestBehind (caseOf x) (percent e) (costOf c) before))))) → Q u H'
/-! ### how many, how great -/
theorem rowsL_count (acts : List Nat) (h4 : acts.length ≤ 4) : ∀ k, (rowsL acts k).length ≤ 4 ^ k
  | 0 => by simp [rowsL]
  | k + 1 => by
    have ih := rowsL_count acts h4 k
    have key : ∀ A : List Nat, (A.flatMap fun a => ((rowsL acts k).filter fun l => !l.contains a).map fun l => a :: l).length ≤ A.length * 4 ^ k := fun A => by
      induction A with
      | nil => simp
      | cons a A hi =>
        rw [List.flatMap_cons, List.length_append, List.length_map, List.length_cons, Nat.succ_mul]
        have := List.length_filter_le (fun l => !l.contains a) (rowsL acts k)
        omega
    have := key acts
    show (acts.flatMap _).length ≤ 4 ^ (k + 1)
    rw [Nat.pow_succ]
    have h : acts.length * 4 ^ k ≤ 4 * 4 ^ k := Nat.mul_le_mul_right _ h4
    omega
theorem levels_facts (x : GivenTask) (m : Nat) (acts : List Nat) (e c : Int) (h4 : acts.length ≤ 4) (m4 : m ≤ 4) (k : Nat) (hk : k ≤ 4) :
    (levelsM x.rewards m acts e c k).length ≤ 100000 ∧ ∀ p ∈ levelsM x.rewards m acts e c k, p.2.2.length = x.rewards.length ∧ p.1.length = k := by
  rw [levelsM_eq]
  constructor
  · have h1 := rowsL_count acts h4 k
    have key : ∀ R : List (List Nat), (R.flatMap fun l => (endingsOf m).map fun en => ((l, en, aheadsM x.rewards l (endM x.rewards en) 1 e c) : Way)).length = R.length * (m + 1) := fun R => by
      induction R with
      | nil => simp
      | cons a R hi =>
        rw [List.flatMap_cons, List.length_append, hi, List.length_map, List.length_cons, Nat.succ_mul]
        have : (endingsOf m).length = m + 1 := by simp [endingsOf]
        omega
    rw [key]
    have h2 : (4 : Nat) ^ k ≤ 4 ^ 4 := Nat.pow_le_pow_right (by decide) hk
    have h3 : (rowsL acts k).length * (m + 1) ≤ 256 * 5 := Nat.mul_le_mul (by omega) (by omega)
    omega
  · intro p hp
    obtain ⟨l, hl, hp⟩ := List.mem_flatMap.mp hp
    obtain ⟨en, _, rfl⟩ := List.mem_map.mp hp
    exact ⟨by rw [aheadsM_length, endM_length], rowsL_length hl⟩
theorem plansL_facts {m : Nat} {before : List Nat} (hn : before.Nodup) (hm : ∀ a ∈ before, a < m) {p : List Nat × Option Nat} (hp : p ∈ plansL m before) : p.1.length ≤ m ∧ (∀ a ∈ p.1, a < m) ∧ ∀ a, p.2 = some a → a < m := by
  unfold plansL at hp
  obtain ⟨k, hk, hp⟩ := List.mem_flatMap.mp hp
  obtain ⟨l, hl, hp⟩ := List.mem_flatMap.mp hp
  obtain ⟨en, hen, rfl⟩ := List.mem_map.mp hp
  have hk := List.mem_range.mp hk
  have h1 := acts_length m before hn hm
  have h2 := rowsL_length hl
  refine ⟨by simp; omega, fun a ha => ?_, fun a ha => ?_⟩
  · rcases List.mem_append.mp ha with ha | ha
    · exact hm a ha
    · have := rowsL_mem hl a ha
      exact List.mem_range.mp (List.mem_filter.mp this).1
  · have ha : en = some a := ha
    subst ha
    unfold endingsOf at hen
    rcases List.mem_cons.mp hen with z | z
    · cases z
    · obtain ⟨b, hb, e⟩ := List.mem_map.mp z
      cases e
      exact List.mem_range.mp hb
theorem over_lt {x : GivenTask} (hf : Fit x) {l : List Nat} (h : l.length ≤ 4) : overM x l < 2 ^ 64 := by
  unfold overM
  have h7 : (100 : Int) ^ l.length ≤ 100 ^ 4 := pow100_le h
  have u2 := hf.u2
  have h8 : (x.unit : Int) * 100 ^ l.length ≤ 99 * 100 ^ 4 := Int.mul_le_mul (by omega) h7 (Int.le_of_lt (pow_pos100 _)) (by omega)
  omega
theorem all_facts {x : GivenTask} (hf : Fit x) {before : List Nat} (hn : before.Nodup) (hm : ∀ a ∈ before, a < nA x) {e c : Int} {q : Sum3} (hq : q ∈ allM x (nA x) before e c) : 0 < q.2.2 ∧ q.2.2 < 2 ^ 64 := by
  rw [allM_eq] at hq
  obtain ⟨p, hp, rfl⟩ := List.mem_map.mp hq
  have h1 := plansL_facts hn hm hp
  have m4 := hf.m4
  exact ⟨over_pos x (by have := hf.u1; omega) _, over_lt hf (by have := h1.1; omega)⟩
theorem bestFrom_mem (f : Askfirst.Plan → Rat) : ∀ (l : List Askfirst.Plan) (p : Askfirst.Plan), Askfirst.bestFrom f p l ∈ p :: l
  | [], p => List.mem_cons_self
  | q :: l, p => by
    unfold Askfirst.bestFrom
    split
    · exact List.mem_cons_of_mem _ (bestFrom_mem f l q)
    · rcases List.mem_cons.mp (bestFrom_mem f l p) with h | h
      · rw [h]; exact List.mem_cons_self
      · exact List.mem_cons_of_mem _ (List.mem_cons_of_mem _ h)
theorem bestBehind_facts {x : GivenTask} (before : List Nat) (hn : before.Nodup) (hm : ∀ a ∈ before, a < nA x) (e c : Rat) :
    (bestBehind (caseOf x) e c before).asks.length ≤ nA x ∧ (∀ a ∈ (bestBehind (caseOf x) e c before).asks, a < nA x) ∧ ∀ a, (bestBehind (caseOf x) e c before).ending = some a → a < nA x := by
  have e1 : Askfirst.plansBehind (caseOf x) before = (plansL (nA x) before).map fun q => (⟨q.1, q.2⟩ : Askfirst.Plan) := by
    have e0 : ∀ L : List (List Nat × Option Nat), (L.filter fun q => Askfirst.beginsWith before q.1).map (fun q => (⟨q.1, q.2⟩ : Askfirst.Plan)) = (L.map fun q => (⟨q.1, q.2⟩ : Askfirst.Plan)).filter fun p => Askfirst.beginsWith before p.asks := fun L => by
      rw [List.filter_map]
      rfl
    unfold Askfirst.plansBehind Askfirst.plansOf
    rw [actionsIn_is, ← plansL_eq (nA x) before hn hm, e0, List.map_flatMap]
    simp only [List.map_map]
    rfl
  obtain ⟨r, hr⟩ := plansL_cons (nA x) before
  have hb : bestBehind (caseOf x) e c before ∈ Askfirst.plansBehind (caseOf x) before := by
    unfold bestBehind
    rw [e1, hr, List.map_cons]
    exact bestFrom_mem _ _ _
  rw [e1] at hb
  obtain ⟨p, hp, hpe⟩ := List.mem_map.mp hb
  rw [← hpe]
  exact plansL_facts hn hm hp
/-- a plan's octets, its numbers below 256 -/
theorem flatMap_one (l : List Nat) (h : ∀ a ∈ l, a < 256) : l.flatMap Askfirst.one = l := by
  induction l with
  | nil => rfl
  | cons a l ih =>
    rw [List.flatMap_cons, ih fun b hb => h b (List.mem_cons_of_mem _ hb)]
    show [a % 256] ++ l = a :: l
    rw [Nat.mod_eq_of_lt (h a List.mem_cons_self)]
    rfl
theorem maybe_one (o : Option Nat) (h : ∀ a, o = some a → a < 256) : Askfirst.optionOut Askfirst.one o = maybeM o := by
  cases o with
  | none => rfl
  | some a =>
    show 1 :: [a % 256] = [1, a]
    rw [Nat.mod_eq_of_lt (h a rfl)]
theorem planOut_is (p : Askfirst.Plan) (h1 : ∀ a ∈ p.asks, a < 256) (h2 : ∀ a, p.ending = some a → a < 256) : planOut p = two p.asks.length ++ p.asks ++ maybeM p.ending := by
  unfold planOut Askfirst.listOut
  rw [flatMap_one _ h1, maybe_one _ h2]
section
variable {P : Program} {w : World} {K : PySem.W.Frag} {mg : Str → Option Value} {base : Heap} {d : Addr} {as : Nat → Addr} {C : Addr}
theorem ok_sums (T : Txt K mg d as C) : Ok P w K mg base CX0 5 "sums" ["task", "before", "plans", "scale", "error", "cost"] sp_sums := by
  have G_put_all_ahead := ok_put_all_ahead (P := P) (w := w) (base := base) T
  have G_weighed := ok_weighed (P := P) (w := w) (base := base) T
  refine T.d_sums.ok sc_sums (fun vs H Q E h => ?_) fun f cdv A outer s H vs Q E hr h => ⟨_, (pss_cons (ps_set (i := 6) sc_sums.nd rfl (Or.inl rfl) (pe_lst pa_nil))
      (pss_cons (ps_for PassesOwn.never rfl (pi_list (pv 2)) (pg_tup rfl (pgs_cons (pg_name (i := 7) sc_sums.nd rfl (Or.inl rfl)) (pgs_cons (pg_name (i := 8) sc_sums.nd rfl (Or.inl rfl)) (pgs_cons (pg_name (i := 9) sc_sums.nd rfl (Or.inl rfl)) pgs_nil))))
      (pss_cons (ps_asg (pe_cl (E := fun _ => E0) G_put_all_ahead (hr.mono (by decide)) (fun σ => pass00 σ) (pa_cons (pv 0) (pa_cons (pv 1) (pa_cons (pv 9) (pa_cons (pv 3) (pa_cons (pv 4) (pa_cons (pv 5) pa_nil))))))) (pg_tup rfl (pgs_cons (pg_name (i := 10) sc_sums.nd rfl (Or.inl rfl)) (pgs_cons (pg_name (i := 11) sc_sums.nd rfl (Or.inl rfl)) pgs_nil))))
      (pss_one (ps_expr (pe_bm PySem.F.plainAttrs_list PySem.F.slot_list_append PySem.F.type_list_append mt_append (pv 6) (pa_cons (pe_tup (pa_cons (pe_tup (pa_cons (pe_op op_cat (pv 1) (pv 7)) (pa_cons (pv 8) pa_nil))) (pa_cons (pe_cl (E := fun _ => E0) G_weighed (hr.mono (by decide)) (fun σ => pass00 σ) (pa_cons (pv 0) (pa_cons (pv 10) pa_nil))) (pa_cons (pe_op op_mul (pe_ix ix_tup (pv 0) pe_int (fun _ _ => rfl)) (pv 11)) pa_nil)))) pa_nil))))))
      (pss_one (ps_ret (pv 6))))), ?_⟩
  · obtain ⟨v, x, q, before, r, plans, n, sc, e, c, rfl, _⟩ := h
    rfl
  obtain ⟨v, x, q, before, r, plans, n, sc, e, c, rfl, hT, hf, ⟨pq, rfl, hq⟩, hb, ⟨pvs, ⟨pr, rfl, hr1⟩, hpl⟩, hplen, hpw, rfl, hn8, h3, h4, h5, h6, k⟩ := h
  repeat walk_at "af"
  intro l H1 hl s1 q1
  repeat walk_at "af"
  refine i_wL (SqL.of (s1 _ _ hr1)) ?_
  refine i_forW (walk_list (xs := pvs)) (fun i σ H' => ∃ (a1 a2 a3 a4 a5 : Option V) (vs : List V), σ = [some v, some (.ref pq), some (.ref pr), some (.int (100 ^ n)), some (.int e), some (.int c), some (.ref l), a1, a2, a3, a4, a5] ∧ Same H H' ∧ H' l = some (.lst vs) ∧
      All2 (fun v q => Off l H' fun H'' => RSum H'' v q) vs (sumsM x before (plans.take i) (100 ^ n) e c))
    ⟨none, none, none, none, none, [], rfl, s1, q1, All2.nil⟩ (fun i σ H' _ hP => ?_) (fun i y σ H2 H3 hi hP hy => ?_) fun σ H2 hP => ?_
  · obtain ⟨a1, a2, a3, a4, a5, vs, _, s2, _⟩ := hP
    exact SqL.of (s2 _ _ hr1)
  · obtain ⟨a1, a2, a3, a4, a5, vs, rfl, s2, q2, h2⟩ := hP
    obtain ⟨rfl, hy⟩ := hy
    obtain ⟨wy, hwy, ⟨pa, pb, hRT, hRa, hRb⟩⟩ := hpl.of hy
    obtain ⟨pt, rfl, qt⟩ := hRT.up s2
    obtain ⟨pa, rfl, qa⟩ := hRa.up s2
    have hRb2 := hRb.up s2
    have hwm := List.mem_of_getElem? hwy
    obtain ⟨w1, w2⟩ := hpw _ hwm
    have hil : i < plans.length := (List.getElem?_eq_some_iff.mp hwy).1
    have ei : plans[i] = wy := by
      rw [List.getElem?_eq_getElem hil] at hwy
      exact Option.some.inj hwy
    refine i_gT (SqT.of qt) rfl ?_
    repeat walk_at "af"
    refine ⟨_, x, _, before, _, wy.2.2, n, _, _, _, rfl, hT.up s2, hf, ⟨pq, rfl, s2 _ _ hq⟩, hb, hRb2, w1, rfl, hn8, h3, h4, h5, h6, fun H4 u4 s4 r4 => ?_⟩
    obtain ⟨g, ⟨p4, rfl, q4⟩, hg⟩ := r4
    repeat walk_at "af"
    refine i_gT (SqT.of q4) rfl ?_
    repeat walk_at "af"
    refine ⟨tyl (s4 _ _ q2), ?_⟩
    repeat walk_at "af"
    have s24 := Same.trans s2 s4
    have nl : ∀ {b : Addr} {Hx : Hp}, Same H3 Hx → Hx b = none → b ≠ l := fun sx hb z => by
      rw [z, sx l _ q2] at hb
      cases hb
    have hbl : before.length ≤ 8 := by omega
    refine i_cat (s24 _ _ hq) (s4 _ _ qa) (size_of (by simp; omega)) fun p5 H5 hp5 s5 q5 => ?_
    repeat walk_at "af"
    intro p6 H6 hp6 s6 q6
    repeat walk_at "af"
    have s46 := Same.trans s5 s6
    refine ⟨_, x, _, _, rfl, hT.up (Same.trans s24 s46), hf, hg.up s46, by rw [aheadsM_length, w1], fun H7 s7 => ?_⟩
    obtain ⟨wv, rv, ⟨tp, rfl, ht⟩, _, _⟩ := hT
    have s07 := Same.trans (Same.trans s24 s46) s7
    repeat walk_at "af"
    refine i_ixT (j := 0) (SqT.of (s07 _ _ ht)) rfl rfl ?_
    have u1 := hf.u1
    have u2 := hf.u2
    repeat walk_at "af"
    intro p8 H8 hp8 s8 q8
    repeat walk_at "af"
    have s38 := Same.trans (Same.trans (Same.trans s4 s46) s7) s8
    have hvl : vs.length = i := by
      have h9 := h2.1
      unfold sumsM at h9
      rw [List.length_map, List.length_take] at h9
      omega
    refine i_app (s38 _ _ q2) (size_lt (by omega)) ?_
    refine ⟨_, _, _, _, _, vs ++ [.ref p8], rfl, Same.mut (Same.trans s2 s38) hl, upd_same, ?_⟩
    have es : sumsM x before (plans.take (i + 1)) (100 ^ n) e c = sumsM x before (plans.take i) (100 ^ n) e c ++ [((before ++ wy.1, wy.2.1), weighedM x.weights (aheadsM x.rewards before wy.2.2 (100 ^ n) e c), (x.unit : Int) * (100 ^ before.length * 100 ^ n))] := by
      unfold sumsM
      rw [take_snoc hil, List.map_append, ei]
      rfl
    rw [es]
    refine All2.snoc (h2.imp fun v p hv => (hv.up s38).mut) (Off.mut fun H'' hH => ?_)
    refine ⟨.ref p6, ⟨p8, rfl, hH _ _ (nl (Same.trans (Same.trans s4 s46) s7) hp8) q8⟩, .ref p5, ⟨p6, rfl, hH _ _ (nl (Same.trans s4 s5) hp6) ((Same.trans s7 s8) _ _ q6)⟩, ⟨p5, rfl, ?_⟩⟩
    rw [vN_append]
    exact hH _ _ (nl s4 hp5) ((Same.trans (Same.trans s6 s7) s8) _ _ q5)
  · obtain ⟨a1, a2, a3, a4, a5, vs, rfl, s2, q2, h2⟩ := hP
    repeat walk_at "af"
    rw [hpl.1, List.take_length] at h2
    exact k _ _ s2 ⟨vs, l, rfl, hl, q2, h2⟩
end
end Af
set_option Elab.async false
set_option linter.all false
set_option maxRecDepth 100000
set_option maxHeartbeats 2000000
/-! # choice.py, third part; told_best -/
namespace Af
open PySem PySem.Spec PyProof.Rows L2
open Askfirst (GivenTask GivenPlan isTask isPlanFor caseOf areDifferent actionsIn endingsOf fractionOut toldBytes sureOf percent costOf bestBehind planOut two)
local macro_rules | `(tactic| walk_at "af") => `(tactic| first
  | (with_reducible refine i_seq ?_)
  | (with_reducible refine i_asg ?_)
  | (with_reducible refine i_name ?_)
  | (with_reducible refine i_var (by with_unfolding_all rfl) ?_)
  | (with_reducible refine i_C ?_)
  | (with_reducible refine i_op ?_)
  | (with_reducible refine i_rI0 ?_)
  | (with_reducible refine i_cons ?_)
  | (with_reducible refine i_nil ?_)
  | (with_reducible refine i_callS ?_)
  | (with_reducible refine i_cb ?_)
  | (with_reducible refine i_if ?_)
  | (with_reducible refine i_test ?_)
  | (with_reducible refine i_B ?_)
  | (with_reducible refine i_bl ?_)
  | (with_reducible refine i_cmp ?_)
  | (with_reducible refine i_ij ?_)
  | (with_reducible refine i_not ?_)
  | (with_reducible refine i_and ?_)
  | (with_reducible refine i_or ?_)
  | (with_reducible refine i_andV ?_)
  | (with_reducible refine i_orV ?_)
  | (with_reducible refine i_ret ?_)
  | (with_reducible refine i_drop ?_)
  | (with_reducible refine i_next ?_)
  | (with_reducible refine i_un ?_)
  | (with_reducible refine i_rU ?_)
  | ((with_reducible refine i_rI (C := CMul) ?hc ?_); (case hc => first | exact Or.inl ⟨by omega, by omega⟩ | exact Or.inr ⟨by omega, by omega⟩))
  | ((with_reducible refine i_rI (C := fun _ j => 0 < j) ?hc ?_); (case hc => (show (0 : Int) < _; omega)))
  | ((with_reducible refine i_rI (C := CDiv) ?hc ?_); (case hc => exact ⟨by omega, by omega⟩))
  | (with_reducible refine i_tup ?_)
  | (with_reducible refine i_lst ?_)
  | (with_reducible refine i_newT (by with_unfolding_all exact Nat.le_of_ble_eq_true rfl) ?_)
  | (with_reducible refine i_newL (by with_unfolding_all exact Nat.le_of_ble_eq_true rfl) ?_)
  | (with_reducible refine i_bm ?_)
  | (with_reducible refine i_sl ?_)
  | (with_reducible refine i_part ?_)
  | (with_reducible refine i_i ?_)
  | (with_reducible refine i_nopart ?_)
  | (with_reducible refine i_isN ?_)
  | (with_reducible refine i_par ?_)
  | (with_reducible refine i_vw ?_)
  | (with_reducible refine i_par3 ?_)
  | (with_reducible refine i_uvw ?_)
  | (with_reducible refine i_gc ?_)
  | (with_reducible refine i_gn ?_)
  | (with_reducible refine i_for ?_)
  | (with_reducible refine i_lc ?_)
  | (with_reducible refine i_itL ?_)
  | (with_reducible refine i_itT ?_)
  | (with_reducible refine i_itR ?_)
  | (with_reducible refine i_itV ?_)
  | (with_reducible refine i_itZ ?_)
  | (with_reducible refine i_lstRev ?_)
  | (with_reducible refine i_tyes ?_)
  | (with_reducible refine iteT ?_)
  | (with_reducible refine i_one ?_)
  | (with_reducible refine i_two ?_))
theorem off_sum {H : Hp} {l b : Addr} {vs0 : List V} {v : V} {q : Sum3} (hl : H l = some (.lst (.ref b :: vs0))) (h : RSum H v q) : Off l H fun H'' => RSum H'' v q := by
  intro H'' hH
  obtain ⟨p, ⟨t, rfl, ht⟩, a, ⟨s, rfl, hs⟩, ⟨z, rfl, hz⟩⟩ := h
  refine ⟨_, ⟨t, rfl, hH _ _ (fun e => ?_) ht⟩, _, ⟨s, rfl, hH _ _ (fun e => ?_) hs⟩, ⟨z, rfl, hH _ _ (fun e => ?_) hz⟩⟩
  · rw [e, hl] at ht
    cases ht
  · rw [e, hl] at hs
    cases hs
  · rw [e, hl] at hz
    have hz : (V.ref b :: vs0) = vN q.1.1 := HO.lst.inj (Option.some.inj hz)
    cases hq : q.1.1 with
    | nil => rw [hq] at hz; cases hz
    | cons n ns => rw [hq] at hz; cases hz
theorem off_ways {H : Hp} {l : Addr} {v0 : V} {vs0 : List V} {u : V} {q0 : Sum3} {ways : List Way} (hl : H l = some (.lst (v0 :: vs0))) (h0 : RSum H v0 q0) (h : RWays H u ways) : Off l H fun H'' => RWays H'' u ways := by
  intro H'' hH
  obtain ⟨p0, ⟨t0, rfl, ht0⟩, _⟩ := h0
  obtain ⟨vs, ⟨a, rfl, ha⟩, hv⟩ := h
  refine ⟨vs, ⟨a, rfl, hH _ _ (fun e => ?_) ha⟩, hv.imp fun v p hp => ?_⟩
  · rw [e, hl] at ha
    have ha : V.ref t0 :: vs0 = vs := by cases ha; rfl
    obtain ⟨x, _, ⟨a1, b1, ⟨t1, e1, ht1⟩, _, ⟨z, rfl, _⟩⟩⟩ := hv.of (i := 0) (v := .ref t0) (by rw [← ha]; rfl)
    cases e1
    rw [ht0] at ht1
    have ht1 := congrArg (fun l : List V => l[2]?) (HO.tup.inj (Option.some.inj ht1))
    cases ht1
  · obtain ⟨a1, b1, ⟨t, rfl, ht⟩, ⟨s, rfl, hs⟩, ⟨z, rfl, hz⟩⟩ := hp
    refine ⟨_, _, ⟨t, rfl, hH _ _ (fun e => ?_) ht⟩, ⟨s, rfl, hH _ _ (fun e => ?_) hs⟩, ⟨z, rfl, hH _ _ (fun e => ?_) hz⟩⟩
    · rw [e, hl] at ht
      cases ht
    · rw [e, hl] at hs
      have hs : (V.ref t0 :: vs0) = vN p.1 := HO.lst.inj (Option.some.inj hs)
      cases hq : p.1 with
      | nil => rw [hq] at hs; cases hs
      | cons n ns => rw [hq] at hs; cases hs
    · rw [e, hl] at hz
      have hz : (V.ref t0 :: vs0) = vI p.2.2 := HO.lst.inj (Option.some.inj hz)
      cases hq : p.2.2 with
      | nil => rw [hq] at hz; cases hz
      | cons n ns => rw [hq] at hz; cases hz
theorem acts_snoc (before : List Nat) (i : Nat) : actsM (i + 1) before = actsM i before ++ if before.contains i then [] else [i] := by
  unfold actsM
  rw [List.range_succ, List.filter_append]
  congr 1
  rw [List.filter_cons, List.filter_nil]
  cases before.contains i <;> rfl
theorem acts_le (before : List Nat) : ∀ i, (actsM i before).length ≤ i := fun i => by
  unfold actsM
  have := List.length_filter_le (fun a => !before.contains a) (List.range i)
  rw [List.length_range] at this
  exact this
section
variable {P : Program} {w : World} {K : PySem.W.Frag} {mg : Str → Option Value} {base : Heap} {d : Addr} {as : Nat → Addr} {C : Addr}
theorem ok_all_sums (T : Txt K mg d as C) : Ok P w K mg base CX0 6 "all_sums" ["task", "before", "error", "cost"] sp_all_sums := by
  have G_action_count := ok_action_count (P := P) (w := w) (base := base) T
  have G_endings := ok_endings (P := P) (w := w) (base := base) T
  have G_sums := ok_sums (P := P) (w := w) (base := base) T
  have G_longer := ok_longer (P := P) (w := w) (base := base) T
  refine T.d_all_sums.ok sc_all_sums (fun vs H Q E h => ?_) fun f cdv A outer s H vs Q E hr h => ⟨_, (pss_cons (ps_setLc (i := 4) (own := [("action", 9)]) (g := (gName 9)) (tt := (tTest (tOp (rIn K true) (tVar 9) (tVar 1)))) (te := (tVar 9)) rfl sc_all_sums.nd rfl rfl (sw_true rfl rfl rfl (by decide +kernel)) (pi_range1 (by rfl) T.brange (pa_cons (pe_cl (E := fun _ => E0) G_action_count (hr.mono (by decide)) (fun σ => pass00 σ) (pa_cons (pv 0) pa_nil)) pa_nil)) (blkOk_by (N := N_all_sums) (sc := defScope s_all_sums) (by decide +kernel)) (fun _ _ _ _ _ => (pg_name (i := 9) sc_all_sums.nd rfl (Or.inl rfl))) (fun _ _ _ _ _ => (pts_one (pt_cmpR op_notIn_seq (pv 9) (pv 1) (by rfl)))) (fun _ _ _ _ _ => (pv 9)))
      (pss_cons (ps_set (i := 5) sc_all_sums.nd rfl (Or.inl rfl) (pe_cl (E := fun _ => E0) G_endings (hr.mono (by decide)) (fun σ => pass00 σ) (pa_cons (pv 0) pa_nil)))
      (pss_cons (ps_set (i := 6) sc_all_sums.nd rfl (Or.inl rfl) pe_int)
      (pss_cons (ps_set (i := 7) sc_all_sums.nd rfl (Or.inl rfl) (pe_cl (E := fun _ => E0) G_sums (hr.mono (by decide)) (fun σ => pass00 σ) (pa_cons (pv 0) (pa_cons (pv 1) (pa_cons (pv 5) (pa_cons (pv 6) (pa_cons (pv 2) (pa_cons (pv 3) pa_nil))))))))
      (pss_cons (ps_for PassesOwn.never rfl (pi_range1 (by rfl) T.brange (pa_cons (pe_callB call_len_seq (by rfl) T.blen PySem.boot_len (pa_cons (pv 4) pa_nil)) pa_nil)) (pg_name (i := 8) sc_all_sums.nd rfl (Or.inl rfl))
      (pss_cons (ps_set (i := 5) sc_all_sums.nd rfl (Or.inl rfl) (pe_cl (E := fun _ => E0) G_longer (hr.mono (by decide)) (fun σ => pass00 σ) (pa_cons (pv 0) (pa_cons (pv 4) (pa_cons (pv 5) (pa_cons (pv 6) (pa_cons (pv 2) (pa_cons (pv 3) pa_nil))))))))
      (pss_cons (ps_set (i := 6) sc_all_sums.nd rfl (Or.inl rfl) (pe_op op_mul pe_int (pv 6)))
      (pss_one (ps_expr (pe_bm PySem.F.plainAttrs_list PySem.F.slot_list_extend PySem.F.type_list_extend mt_extend (pv 7) (pa_cons (pe_cl (E := fun _ => E0) G_sums (hr.mono (by decide)) (fun σ => pass00 σ) (pa_cons (pv 0) (pa_cons (pv 1) (pa_cons (pv 5) (pa_cons (pv 6) (pa_cons (pv 2) (pa_cons (pv 3) pa_nil))))))) pa_nil)))))))
      (pss_one (ps_ret (pv 7)))))))), ?_⟩
  · obtain ⟨v, x, q, before, e, c, rfl, _⟩ := h
    rfl
  obtain ⟨v, x, q, before, e, c, rfl, hT, hf, ⟨pq, rfl, hq⟩, hnd, hb, h3, h4, h5, h6, k⟩ := h
  have m4 := hf.m4
  have hal := acts_length (nA x) before hnd hb
  repeat walk_at "af"
  refine ⟨_, x, rfl, hT, hf, ?_⟩
  repeat walk_at "af"
  refine i_wR (by omega) ?_
  refine i_lcW walk_range (fun i => vN (actsM i before)) rfl (fun i hi => ?_) (fun H' s' => trivial) (fun i y H1 H' N1 N0 hi s1 hy n1 n0 => ?_) fun D H1 hD s1 q1 => ?_
  · have := acts_le before i
    exact size_lt (by rw [List.length_map]; omega)
  · obtain ⟨rfl, hyv⟩ := hy
    have hyv : y = V.int (i : Int) := hyv.trans (congrArg V.int (by omega))
    subst hyv
    repeat walk_at "af"
    refine ⟨rfl, ?_⟩
    repeat walk_at "af"
    refine i_in (SqL.of (s1 _ _ hq)) rfl (flat_vN _) ?_
    repeat walk_at "af"
    rw [inV_nat]
    refine i_bool (fun h8 => ?_) fun h8 => ?_
    · have h8 : (!before.contains i) = true := h8
      repeat walk_at "af"
      refine n1 _ _ (Same.refl _) ?_
      rw [acts_snoc, if_neg (by simpa using h8), vN_append]
      rfl
    · have h8 : (!before.contains i) = false := h8
      refine n0 _ (Same.refl _) ?_
      rw [acts_snoc, if_pos (by simpa using h8), List.append_nil]
  repeat walk_at "af"
  refine ⟨_, x, rfl, hT.up s1, hf, fun H2 u2 s2 r2 => ?_⟩
  have s02 := Same.trans s1 s2
  have hlev := levels_facts x (nA x) (actsM (nA x) before) e c (by omega) m4
  have hlev0 := hlev 0 (by omega)
  repeat walk_at "af"
  refine ⟨_, x, _, before, _, levelsM x.rewards (nA x) (actsM (nA x) before) e c 0, 0, _, _, _, rfl, hT.up s02, hf, ⟨pq, rfl, s02 _ _ hq⟩, hb, r2, hlev0.1, (fun p hp => ⟨(hlev0.2 p hp).1, by rw [(hlev0.2 p hp).2]; omega⟩), rfl, by omega, h3, h4, h5, h6, fun H3 u3 s3 r3 => ?_⟩
  obtain ⟨vs0, l, rfl, hl, q3, h30⟩ := r3
  have s03 := Same.trans s02 s3
  have hne : ∃ v0 vt q0, vs0 = v0 :: vt ∧ RSum H3 v0 q0 := by
    have hlen : 0 < vs0.length := by
      rw [h30.1]
      unfold sumsM
      rw [List.length_map]
      exact Nat.zero_lt_succ _
    cases vs0 with
    | nil => simp at hlen
    | cons v0 vt =>
      obtain ⟨q0, _, hq0⟩ := h30.of (i := 0) (v := v0) rfl
      exact ⟨v0, vt, q0, rfl, hq0.now⟩
  have e0 : (vN (actsM (nA x) before)).length = (actsM (nA x) before).length := by simp
  have hal4 : (actsM (nA x) before).length ≤ 4 := by omega
  repeat walk_at "af"
  refine i_len (SqL.of ((Same.trans s2 s3) _ _ q1)) ?_
  repeat walk_at "af"
  rw [e0]
  refine i_wR (by omega) ?_
  refine i_forW walk_range (fun i σ H' => ∃ (a1 : Option V) (r : V) (vs : List V), σ = [some v, some (.ref pq), some (.int e), some (.int c), some (.ref D), some r, some (.int (100 ^ i)), some (.ref l), a1, none] ∧ Same H2 H' ∧ RWays H' r (levelsM x.rewards (nA x) (actsM (nA x) before) e c i) ∧ H' l = some (.lst vs) ∧ vs.length ≤ (i + 1) * 100000 ∧
      (∃ b vt, vs = .ref b :: vt) ∧ (∃ v0 vt q0, vs = v0 :: vt ∧ RSum H' v0 q0) ∧ All2 (fun v q => Off l H' fun H'' => RSum H'' v q) vs ((List.range (i + 1)).flatMap fun k => sumsM x before (levelsM x.rewards (nA x) (actsM (nA x) before) e c k) (100 ^ k) e c))
    ⟨none, u2, vs0, rfl, s3, r2.up s3, q3, ?_, ?_, hne, ?_⟩ (fun _ _ _ _ _ => trivial) (fun i y σ H4 H5 hi hP hy => ?_) fun σ H4 hP => ?_
  · have := h30.1
    unfold sumsM at this
    rw [List.length_map] at this
    have := hlev0.1
    omega
  · obtain ⟨v0, vt, q0, e1, ⟨_, ⟨b, rfl, _⟩, _⟩⟩ := hne
    exact ⟨b, vt, e1⟩
  · have e1 : ((List.range 1).flatMap fun k => sumsM x before (levelsM x.rewards (nA x) (actsM (nA x) before) e c k) (100 ^ k) e c) = sumsM x before (levelsM x.rewards (nA x) (actsM (nA x) before) e c 0) 1 e c := by
      rw [List.range_succ, List.range_zero]
      simp
    rw [Nat.zero_add, e1]
    exact h30
  · obtain ⟨a1, r, vs, rfl, s4, r4, q4, hvl, ⟨b, vt, eb⟩, hne4, h7⟩ := hP
    obtain ⟨rfl, hyv⟩ := hy
    subst hyv
    have hli := hlev i (by omega)
    have hli1 := hlev (i + 1) (by omega)
    have s05 := Same.trans s02 s4
    have hp0 : (0 : Int) < 100 ^ i := pow_pos100 _
    have hp8 : (100 : Int) ^ i ≤ 100 ^ 8 := pow100_le (by omega)
    repeat walk_at "af"
    refine ⟨_, x, _, actsM (nA x) before, _, levelsM x.rewards (nA x) (actsM (nA x) before) e c i, i, _, _, _, rfl, hT.up s05, hf, ⟨D, rfl, (Same.trans s2 s4) _ _ q1⟩, (fun a ha => List.mem_range.mp (List.mem_filter.mp ha).1), hal4, r4, hli.1, (fun p hp => ⟨(hli.2 p hp).1, by rw [(hli.2 p hp).2]; omega⟩), rfl, by omega, h3, h4, h5, h6, fun H6 u6 s6 r6 => ?_⟩
    repeat walk_at "af"
    have s06 := Same.trans s05 s6
    have es : (100 : Int) * 100 ^ i = 100 ^ (i + 1) := by rw [Int.pow_succ]; exact Int.mul_comm _ _
    rw [es]
    refine ⟨tyl (s6 _ _ q4), ?_⟩
    repeat walk_at "af"
    refine ⟨_, x, _, before, _, levelsM x.rewards (nA x) (actsM (nA x) before) e c (i + 1), i + 1, _, _, _, rfl, hT.up s06, hf, ⟨pq, rfl, s06 _ _ hq⟩, hb, r6, hli1.1, (fun p hp => ⟨(hli1.2 p hp).1, by rw [(hli1.2 p hp).2]; omega⟩), rfl, by omega, h3, h4, h5, h6, fun H7 u7 s7 r7 => ?_⟩
    obtain ⟨vs7, l7, rfl, hl7, q7, h77⟩ := r7
    have s57 := Same.trans s6 s7
    have q47 := s57 _ _ q4
    have hl7' : vs7.length ≤ 100000 := by
      have := h77.1
      unfold sumsM at this
      rw [List.length_map] at this
      have := hli1.1
      omega
    have hvl' : vs.length ≤ 500000 := by
      have : (i + 1) * 100000 ≤ 5 * 100000 := Nat.mul_le_mul_right _ (by omega)
      omega
    repeat walk_at "af"
    refine i_ext q47 q7 (size_of (by omega)) ?_
    obtain ⟨v0, vt0, q0, e40, h40⟩ := hne4
    have o0 : Off l H7 fun H'' => RSum H'' v0 q0 := off_sum (by rw [q47, eb]) (h40.up s57)
    refine ⟨_, _, vs ++ vs7, rfl, Same.mut (Same.trans s4 s57) hl, ?_, upd_same, ?_, ⟨b, vt ++ vs7, by rw [eb]; rfl⟩, ⟨v0, vt0 ++ vs7, q0, by rw [e40]; rfl, ?_⟩, ?_⟩
    · exact ((off_ways (by rw [q47, e40]) (h40.up s57) (r6.up s7)).mut).now
    · rw [List.length_append, Nat.add_mul]
      omega
    · exact o0.mut.now
    · rw [List.range_succ (n := i + 1), List.flatMap_append]
      refine All2.append (h7.imp fun v p hv => (hv.up s57).mut) ?_
      have e1 : (List.flatMap (fun k => sumsM x before (levelsM x.rewards (nA x) (actsM (nA x) before) e c k) (100 ^ k) e c) [i + 1]) = sumsM x before (levelsM x.rewards (nA x) (actsM (nA x) before) e c (i + 1)) (100 ^ (i + 1)) e c := by simp
      rw [e1]
      exact h77.imp fun v p hv => (off_sum (by rw [q47, eb]) hv.now).mut
  · obtain ⟨a1, r, vs, rfl, s4, r4, q4, hvl, _, _, h7⟩ := hP
    repeat walk_at "af"
    exact k _ _ (Same.trans s02 s4) ⟨vs, ⟨l, rfl, q4⟩, h7.imp fun v p hv => hv.now⟩
theorem best_step (x : GivenTask) (e c : Int) (before : List Nat) (hf : Fit x) (hn : before.Nodup) (hm : ∀ a ∈ before, a < nA x) : ∀ i, i ≤ (allM x (nA x) before e c).length → ∀ b, b ∈ allM x (nA x) before e c → ((allM x (nA x) before e c).take i).foldl betterM b ∈ allM x (nA x) before e c
  | 0, _, b, hb => by simpa using hb
  | i + 1, hi, b, hb => by
    rw [take_snoc (by omega), List.foldl_append]
    have := best_step x e c before hf hn hm i (by omega) b hb
    show betterM _ _ ∈ _
    unfold betterM
    split
    · exact List.getElem_mem _
    · exact this
theorem headD_is {L : List Sum3} {b : Sum3} (h : 0 < L.length) : L.headD b = L[0] := by
  cases L with
  | nil => simp at h
  | cons a l => simp
theorem ok_best_plan (T : Txt K mg d as C) : Ok P w K mg base CX0 7 "best_plan" ["task", "before", "error", "cost"] sp_best_plan := by
  have G_all_sums := ok_all_sums (P := P) (w := w) (base := base) T
  refine T.d_best_plan.ok sc_best_plan (fun vs H Q E h => ?_) fun f cdv A outer s H vs Q E hr h => ⟨_, (pss_cons (ps_set (i := 4) sc_best_plan.nd rfl (Or.inl rfl) (pe_cl (E := fun _ => E0) G_all_sums (hr.mono (by decide)) (fun σ => pass00 σ) (pa_cons (pv 0) (pa_cons (pv 1) (pa_cons (pv 2) (pa_cons (pv 3) pa_nil))))))
      (pss_cons (ps_asg (pe_ix ix_list (pv 4) pe_int (fun _ _ => rfl)) (pg_tup rfl (pgs_cons (pg_name (i := 5) sc_best_plan.nd rfl (Or.inl rfl)) (pgs_cons (pg_name (i := 6) sc_best_plan.nd rfl (Or.inl rfl)) (pgs_cons (pg_name (i := 7) sc_best_plan.nd rfl (Or.inl rfl)) pgs_nil)))))
      (pss_cons (ps_for PassesOwn.never rfl (pi_list (pv 4)) (pg_tup rfl (pgs_cons (pg_name (i := 8) sc_best_plan.nd rfl (Or.inl rfl)) (pgs_cons (pg_name (i := 9) sc_best_plan.nd rfl (Or.inl rfl)) (pgs_cons (pg_name (i := 10) sc_best_plan.nd rfl (Or.inl rfl)) pgs_nil))))
      (pss_one (ps_if (pt_cmpR op_gt (pe_op op_mul (pv 9) (pv 7)) (pe_op op_mul (pv 6) (pv 10)) (nomark _)) (pss_one (ps_par3 (i := 5) (j := 6) (l := 7) rfl sc_best_plan.nd rfl rfl rfl (by decide) (by decide) (by decide) rfl rfl rfl (pa_cons (pv 8) (pa_cons (pv 9) (pa_cons (pv 10) pa_nil))) (by rfl))) pss_nil)))
      (pss_one (ps_ret (pe_tup (pa_cons (pv 5) (pa_cons (pv 6) (pa_cons (pv 7) pa_nil))))))))), ?_⟩
  · obtain ⟨v, x, q, before, e, c, rfl, _⟩ := h
    rfl
  obtain ⟨v, x, q, before, e, c, rfl, hT, hf, hq, hnd, hb, h3, h4, h5, h6, k⟩ := h
  repeat walk_at "af"
  refine ⟨_, x, _, before, _, _, rfl, hT, hf, hq, hnd, hb, h3, h4, h5, h6, fun H1 u1 s1 r1 => ?_⟩
  obtain ⟨vs, ⟨l, rfl, hl⟩, hv⟩ := r1
  have hne : 0 < (allM x (nA x) before e c).length := by
    obtain ⟨r, hr⟩ := plansL_cons (nA x) before
    rw [allM_eq, hr]
    simp
  obtain ⟨v0, hv0, r0⟩ := hv.get hne
  obtain ⟨p0, ⟨t0, rfl, ht0⟩, hp0⟩ := r0
  repeat walk_at "af"
  refine i_ixL (j := 0) (SqL.of hl) rfl hv0 ?_
  refine i_gT (SqT.of ht0) rfl ?_
  repeat walk_at "af"
  refine i_wL (SqL.of hl) ?_
  have hmem : (allM x (nA x) before e c)[0] ∈ allM x (nA x) before e c := List.getElem_mem _
  have ehd : (allM x (nA x) before e c).headD (([], none), 0, 1) = (allM x (nA x) before e c)[0] := by
    exact headD_is hne
  refine i_forW (walk_list (xs := vs)) (fun i σ H' => ∃ (a1 a2 a3 : Option V) (p : V) (b : Sum3), σ = [some v, some q, some (.int e), some (.int c), some (.ref l), some p, some (.int b.2.1), some (.int b.2.2), a1, a2, a3] ∧ H' = H1 ∧ RPlan H1 p ⟨b.1.1, b.1.2⟩ ∧ b = ((allM x (nA x) before e c).take i).foldl betterM (allM x (nA x) before e c)[0])
    ⟨none, none, none, p0, _, rfl, rfl, hp0, rfl⟩ (fun i σ H' _ hP => ?_) (fun i y σ H2 H3 hi hP hy => ?_) fun σ H2 hP => ?_
  · obtain ⟨a1, a2, a3, p, b, _, rfl, _⟩ := hP
    exact SqL.of hl
  · obtain ⟨a1, a2, a3, p, b, rfl, rfl, hp, eb⟩ := hP
    obtain ⟨rfl, hy⟩ := hy
    have hil : i < (allM x (nA x) before e c).length := by rw [← hv.1]; exact hi
    obtain ⟨g, hg, ⟨py, ⟨ty, rfl, hty⟩, hpy⟩⟩ := hv.of hy
    have eg : (allM x (nA x) before e c)[i] = g := by
      rw [List.getElem?_eq_getElem hil] at hg
      exact Option.some.inj hg
    have hbm : b ∈ allM x (nA x) before e c := by rw [eb]; exact best_step x e c before hf hnd hb i (by omega) _ hmem
    obtain ⟨b1, b2⟩ := all_facts hf hnd hb hbm
    obtain ⟨g1, g2⟩ := all_facts hf hnd hb (List.mem_of_getElem? hg)
    refine i_gT (SqT.of hty) rfl ?_
    repeat walk_at "af"
    have e1 : ((allM x (nA x) before e c).take (i + 1)).foldl betterM (allM x (nA x) before e c)[0] = betterM b g := by
      rw [take_snoc hil, List.foldl_append, ← eb, eg]
      rfl
    refine i_dec (fun h7 => ?_) fun h7 => ?_
    · repeat walk_at "af"
      refine ⟨_, _, _, py, g, rfl, rfl, hpy, ?_⟩
      rw [e1]
      unfold betterM
      rw [if_pos h7]
    · repeat walk_at "af"
      refine ⟨_, _, _, p, b, rfl, rfl, hp, ?_⟩
      rw [e1]
      unfold betterM
      rw [if_neg h7]
  · obtain ⟨a1, a2, a3, p, b, rfl, rfl, hp, eb⟩ := hP
    repeat walk_at "af"
    intro p8 H8 hp8 s8 q8
    refine k _ _ (Same.trans s1 s8) ?_
    rw [hv.1, List.take_length] at eb
    have e2 : bestM (allM x (nA x) before e c) = b := by
      unfold bestM
      rw [ehd, ← eb]
    rw [e2]
    exact ⟨p, ⟨p8, rfl, q8⟩, hp.up s8⟩
theorem ok_told_best (T : Txt K mg d as C) : Ok P w K mg base CX0 8 "told_best" ["task", "before", "error", "cost"] sp_told_best := by
  have G_best_plan := ok_best_plan (P := P) (w := w) (base := base) T
  have G_put_plan := ok_put_plan (P := P) (w := w) (base := base) T
  have G_put_fraction := ok_put_fraction (P := P) (w := w) (base := base) T
  have G_lowest := ok_lowest (P := P) (w := w) (base := base) T
  have G_done := ok_done (P := P) (w := w) (base := base) T
  refine T.d_told_best.ok sc_told_best (fun vs H Q E h => ?_) fun f cdv A outer s H vs Q E hr h => ⟨_, (pss_cons (ps_asg (pe_cl (E := fun _ => E0) G_best_plan (hr.mono (by decide)) (fun σ => pass00 σ) (pa_cons (pv 0) (pa_cons (pv 1) (pa_cons (pv 2) (pa_cons (pv 3) pa_nil))))) (pg_tup rfl (pgs_cons (pg_name (i := 4) sc_told_best.nd rfl (Or.inl rfl)) (pgs_cons (pg_name (i := 5) sc_told_best.nd rfl (Or.inl rfl)) (pgs_cons (pg_name (i := 6) sc_told_best.nd rfl (Or.inl rfl)) pgs_nil)))))
      (pss_one (ps_ret (pe_cl (E := fun _ => E0) G_done (hr.mono (by decide)) (fun σ => pass00 σ) (pa_cons (pe_op op_cat (pe_cl (E := fun _ => E0) G_put_plan (hr.mono (by decide)) (fun σ => pass00 σ) (pa_cons (pv 4) pa_nil)) (pe_cl (E := fun _ => E0) G_put_fraction (hr.mono (by decide)) (fun σ => pass00 σ) (pa_cons (pe_cl (E := fun _ => E0) G_lowest (hr.mono (by decide)) (fun σ => pass00 σ) (pa_cons (pv 5) (pa_cons (pv 6) pa_nil))) pa_nil))) pa_nil))))), ?_⟩
  · obtain ⟨v, x, q, before, e, c, rfl, _⟩ := h
    rfl
  obtain ⟨v, x, q, before, e, c, rfl, hT, hf, hq, hnd, hb, h3, h4, k⟩ := h
  repeat walk_at "af"
  refine ⟨_, x, _, before, _, _, rfl, hT, hf, hq, hnd, hb, by omega, by omega, by omega, by omega, fun H1 u1 s1 r1 => ?_⟩
  obtain ⟨p, ⟨t, rfl, ht⟩, hp⟩ := r1
  refine i_gT (SqT.of ht) rfl ?_
  repeat walk_at "af"
  have hbb := bestBehind_facts before hnd hb (percent e) (costOf c)
  have hsd := sure_div x hf.u1 hf.rl (bestBehind (caseOf x) (percent e) (costOf c) before).asks (bestBehind (caseOf x) (percent e) (costOf c) before).ending e c
  rw [bestM_is x hf.u1 hf.rl (nA x) rfl e c before hnd hb] at ht hp
  simp only [bestM_is x hf.u1 hf.rl (nA x) rfl e c before hnd hb]
  generalize bestBehind (caseOf x) (percent e) (costOf c) before = B at ht hp hbb hsd k ⊢
  have m4 := hf.m4
  obtain ⟨b1, b2, b3⟩ := hbb
  refine ⟨_, _, rfl, hp, Nat.le_trans b1 (by omega), fun H2 u2 s2 n2 => ?_⟩
  obtain ⟨p2, rfl, hp2, q2⟩ := n2
  repeat walk_at "af"
  refine ⟨_, _, rfl, over_pos x hf.u1 _, over_lt hf (by omega), fun H3 u3 s3 r3 => ?_⟩
  repeat walk_at "af"
  refine ⟨_, _, _, rfl, r3, over_pos x hf.u1 _, fun H4 u4 s4 n4 => ?_⟩
  obtain ⟨p4, rfl, hp4, q4⟩ := n4
  repeat walk_at "af"
  have ef := fractionOut_length (((sumM x B.asks B.ending e c : Int) : Rat) / ((overM x B.asks : Int) : Rat))
  have hml : (maybeM B.ending).length ≤ 2 := by cases B.ending <;> simp [maybeM]
  have h2l : (two B.asks.length).length = 2 := rfl
  refine i_cat ((Same.trans s3 s4) _ _ q2) q4 (size_of (by simp only [List.length_map, List.length_append, ef, h2l]; omega)) fun p5 H5 hp5 s5 q5 => ?_
  repeat walk_at "af"
  refine ⟨_, two B.asks.length ++ B.asks ++ maybeM B.ending ++ fractionOut (((sumM x B.asks B.ending e c : Int) : Rat) / ((overM x B.asks : Int) : Rat)), rfl, ⟨p5, rfl, by rw [vN_append]; exact q5⟩, by simp only [List.length_append, ef, h2l]; omega, fun H6 u6 s6 n6 => ?_⟩
  have s06 := Same.trans (Same.trans (Same.trans (Same.trans (Same.trans s1 s2) s3) s4) s5) s6
  refine k _ _ s06 ?_
  obtain ⟨p6, rfl, hp6, q6⟩ := n6
  refine ⟨p6, rfl, (Same.trans (Same.trans (Same.trans (Same.trans s1 s2) s3) s4) s5).free hp6, ?_⟩
  rw [q6]
  have e9 : toldBytes (.best B (sureOf (caseOf x) (percent e) (costOf c) B)) = planOut B ++ fractionOut (sureOf (caseOf x) (percent e) (costOf c) B) := rfl
  rw [e9, planOut_is B (fun a ha => by have := b2 a ha; omega) (fun a ha => by have := b3 a ha; omega)]
  have e10 : sureOf (caseOf x) (percent e) (costOf c) B = _ := hsd
  rw [e10]
end
end Af
set_option Elab.async false
set_option linter.all false
set_option maxRecDepth 100000
set_option maxHeartbeats 2000000
/-! # commands.py -/
namespace Af
open PySem PySem.Spec PyProof.Rows L2
open Askfirst (GivenTask GivenPlan isTask isPlanFor caseOf areDifferent actionsIn endingsOf fractionOut toldBytes sureOf percent costOf bestBehind planOut two answerBytes sureFn bestFn worthFn upToFn inTask inPlan provided withChance withCost withLevel sureTold bestTold worthTold worthUpTo errorFor greatestOf goodOf badOf answersOf tastesIn)
local macro_rules | `(tactic| walk_at "af") => `(tactic| first
  | (with_reducible refine i_seq ?_)
  | (with_reducible refine i_asg ?_)
  | (with_reducible refine i_name ?_)
  | (with_reducible refine i_var (by with_unfolding_all rfl) ?_)
  | (with_reducible refine i_C ?_)
  | (with_reducible refine i_op ?_)
  | (with_reducible refine i_rI0 ?_)
  | (with_reducible refine i_cons ?_)
  | (with_reducible refine i_nil ?_)
  | (with_reducible refine i_callS ?_)
  | (with_reducible refine i_cb ?_)
  | (with_reducible refine i_if ?_)
  | (with_reducible refine i_test ?_)
  | (with_reducible refine i_B ?_)
  | (with_reducible refine i_bl ?_)
  | (with_reducible refine i_cmp ?_)
  | (with_reducible refine i_ij ?_)
  | (with_reducible refine i_not ?_)
  | (with_reducible refine i_and ?_)
  | (with_reducible refine i_or ?_)
  | (with_reducible refine i_andV ?_)
  | (with_reducible refine i_orV ?_)
  | (with_reducible refine i_ret ?_)
  | (with_reducible refine i_drop ?_)
  | (with_reducible refine i_next ?_)
  | (with_reducible refine i_un ?_)
  | (with_reducible refine i_rU ?_)
  | ((with_reducible refine i_rI (C := CMul) ?hc ?_); (case hc => first | exact Or.inl ⟨by omega, by omega⟩ | exact Or.inr ⟨by omega, by omega⟩))
  | ((with_reducible refine i_rI (C := fun _ j => 0 < j) ?hc ?_); (case hc => (show (0 : Int) < _; omega)))
  | ((with_reducible refine i_rI (C := CDiv) ?hc ?_); (case hc => exact ⟨by omega, by omega⟩))
  | (with_reducible refine i_tup ?_)
  | (with_reducible refine i_lst ?_)
  | (with_reducible refine i_newT (by with_unfolding_all exact Nat.le_of_ble_eq_true rfl) ?_)
  | (with_reducible refine i_newL (by with_unfolding_all exact Nat.le_of_ble_eq_true rfl) ?_)
  | (with_reducible refine i_bm ?_)
  | (with_reducible refine i_sl ?_)
  | (with_reducible refine i_part ?_)
  | (with_reducible refine i_i ?_)
  | (with_reducible refine i_nopart ?_)
  | (with_reducible refine i_isN ?_)
  | (with_reducible refine i_par ?_)
  | (with_reducible refine i_vw ?_)
  | (with_reducible refine i_par3 ?_)
  | (with_reducible refine i_uvw ?_)
  | (with_reducible refine i_gc ?_)
  | (with_reducible refine i_gn ?_)
  | (with_reducible refine i_for ?_)
  | (with_reducible refine i_lc ?_)
  | (with_reducible refine i_itL ?_)
  | (with_reducible refine i_itT ?_)
  | (with_reducible refine i_itR ?_)
  | (with_reducible refine i_itV ?_)
  | (with_reducible refine i_itZ ?_)
  | (with_reducible refine i_lstRev ?_)
  | (with_reducible refine i_tyes ?_)
  | (with_reducible refine iteT ?_)
  | (with_reducible refine i_one ?_)
  | (with_reducible refine i_two ?_))
def sp_right_sum : Sp := fun vs H Q _ => ∃ (v : V) (x : GivenTask) (a : Nat), vs = [v, .int (a : Int)] ∧ RTask H v x ∧ Fit x ∧ a < nA x ∧ ∀ H', Same H H' → Q (.int (rightM x a)) H'
def sp_wrong_sum : Sp := fun vs H Q _ => ∃ (v : V) (x : GivenTask) (a : Nat), vs = [v, .int (a : Int)] ∧ RTask H v x ∧ Fit x ∧ a < nA x ∧ ∀ H', Same H H' → Q (.int (wrongM x a)) H'
def sp_sure : Sp := fun vs H Q _ => ∃ (v : V) (x : GivenTask) (q : V) (p : GivenPlan) (e c : Nat), vs = [v, q, .int (e : Int), .int (c : Int)] ∧ RTask H v x ∧ RPlan H q p ∧ p.asks.length ≤ 100000 ∧
  ∀ H' u, Same H H' → New H H' u (vN (answerBytes (sureFn x p e c))) → Q u H'
def sp_best : Sp := fun vs H Q _ => ∃ (v : V) (x : GivenTask) (e c : Nat), vs = [v, .int (e : Int), .int (c : Int)] ∧ RTask H v x ∧ ∀ H' u, Same H H' → New H H' u (vN (answerBytes (bestFn x e c))) → Q u H'
def sp_worth : Sp := fun vs H Q _ => ∃ (v : V) (x : GivenTask) (a c : Nat), vs = [v, .int (a : Int), .int (c : Int)] ∧ RTask H v x ∧ ∀ H' u, Same H H' → New H H' u (vN (answerBytes (worthFn x a c))) → Q u H'
def sp_up_to : Sp := fun vs H Q _ => ∃ (v : V) (x : GivenTask) (q : V) (p : GivenPlan) (c : Nat) (m : Int), vs = [v, q, .int (c : Int), .int m] ∧ RTask H v x ∧ RPlan H q p ∧ p.asks.length ≤ 100000 ∧
  ∀ H' u, Same H H' → New H H' u (vN (answerBytes (upToFn x p c m))) → Q u H'
theorem inTask_no {β : Type} {x : GivenTask} (h : isTask x = false) (f : Askfirst.Case → Askfirst.Did β) : inTask x f = .error .task := by
  unfold inTask Askfirst.caseFrom
  rw [h]
  rfl
theorem inTask_yes {β : Type} {x : GivenTask} (h : isTask x = true) (f : Askfirst.Case → Askfirst.Did β) : inTask x f = f (caseOf x) := by
  unfold inTask Askfirst.caseFrom
  rw [h]
  rfl
theorem inPlan_no {β : Type} {z : Askfirst.Case} {p : GivenPlan} (h : isPlanFor z p = false) (f : Askfirst.Plan → Askfirst.Did β) : inPlan z p f = .error .plan := by
  unfold inPlan Askfirst.planFrom
  rw [h]
  rfl
theorem inPlan_yes {β : Type} {z : Askfirst.Case} {p : GivenPlan} (h : isPlanFor z p = true) (f : Askfirst.Plan → Askfirst.Did β) : inPlan z p f = f ⟨p.asks, p.ending⟩ := by
  unfold inPlan Askfirst.planFrom
  rw [h]
  rfl
theorem prov_no {β : Type} {b : Bool} {e : Askfirst.Fail} {r : Askfirst.Did β} (h : b = false) : provided b e r = .error e := by
  rw [h]
  rfl
theorem prov_yes {β : Type} {b : Bool} {e : Askfirst.Fail} {r : Askfirst.Did β} (h : b = true) : provided b e r = r := by
  rw [h]
  rfl
theorem New.back {H H1 H2 : Hp} {u : V} {xs : List V} (s : Same H H1) (n : New H1 H2 u xs) : New H H2 u xs := let ⟨p, e, f, q⟩ := n; ⟨p, e, s.free f, q⟩
theorem weigh_le : ∀ (ws : List Nat) (w : List Int), (∀ i ∈ w, i ≤ 99) → weighedM ws w ≤ 99 * (ws.sum : Nat)
  | [], w, _ => by simp [weighedM]
  | a :: ws, [], _ => by simp [weighedM]; omega
  | a :: ws, b :: w, h => by
    have ih := weigh_le ws w fun i hi => h i (List.mem_cons_of_mem _ hi)
    have hb := h b List.mem_cons_self
    have e : weighedM (a :: ws) (b :: w) = (a : Int) * b + weighedM ws w := by simp [weighedM]
    have hab : (a : Int) * b ≤ a * 99 := Int.mul_le_mul_of_nonneg_left hb (by omega)
    rw [e, List.sum_cons]
    omega
theorem sums_le {x : GivenTask} (hf : Fit x) (a : Nat) (ha : a < nA x) : rightM x a ≤ 9801 ∧ wrongM x a ≤ 9801 := by
  have hs : 99 * ((x.weights.sum : Nat) : Int) ≤ 9801 := by have := hf.ws; have := hf.u2; omega
  have key : ∀ r ∈ x.rewards, -99 ≤ r.getD a 0 ∧ r.getD a 0 ≤ 99 := fun r hr => by
    have := hf.row r hr
    refine hf.rew r hr _ ?_
    rw [List.getD_eq_getElem?_getD, List.getElem?_eq_getElem (by omega)]
    exact List.getElem_mem _
  constructor
  · refine Int.le_trans (weigh_le _ _ fun i hi => ?_) hs
    obtain ⟨r, hr, rfl⟩ := List.mem_map.mp hi
    have := key r hr
    split <;> omega
  · refine Int.le_trans (weigh_le _ _ fun i hi => ?_) hs
    obtain ⟨r, hr, rfl⟩ := List.mem_map.mp hi
    have := key r hr
    split <;> omega
section
variable {P : Program} {w : World} {K : PySem.W.Frag} {mg : Str → Option Value} {base : Heap} {d : Addr} {as : Nat → Addr} {C : Addr}
theorem ok_right_sum (T : Txt K mg d as C) : Ok P w K mg base CX0 1 "right_sum" ["task", "action"] sp_right_sum := by
  refine T.d_right_sum.ok sc_right_sum (fun vs H Q E h => ?_) fun f cdv A outer s H vs Q E hr h => ⟨_, (pss_cons (ps_asg (pv 0) (pg_tup rfl (pgs_cons (pg_name (i := 2) sc_right_sum.nd rfl (Or.inl rfl)) (pgs_cons (pg_name (i := 3) sc_right_sum.nd rfl (Or.inl rfl)) (pgs_cons (pg_name (i := 4) sc_right_sum.nd rfl (Or.inl rfl)) pgs_nil)))))
      (pss_one (ps_ret (pe_callB (cr_sum rfl) (by rfl) T.bsum (by decide +kernel) (pa_cons (pe_lc (own := [("weight", 6), ("row", 5)]) (g := (gTup K 2 (gCons (gName 6) (gCons (gName 5) gNil)))) (tt := tYes) (te := (tOp oMul (tVar 6) (tCB oMax (tCons (tOp (rIxL K) (tVar 5) (tVar 1)) (tCons (tC (.int 0)) tNil))))) rfl sc_right_sum.nd (pi_zip (by rfl) T.bzip (pa_cons (pv 3) (pa_cons (pv 4) pa_nil))) (blkOk_by (N := N_right_sum) (sc := defScope s_right_sum) (by decide +kernel)) (fun _ _ _ _ _ => (pg_tup rfl (pgs_cons (pg_name (i := 6) sc_right_sum.nd rfl (Or.inl rfl)) (pgs_cons (pg_name (i := 5) sc_right_sum.nd rfl (Or.inl rfl)) pgs_nil)))) (fun _ _ _ _ _ => pts_nil) (fun _ _ _ _ _ => (pe_op op_mul (pv 6) (pe_callB (call_max2 rfl) (by rfl) T.bmax (by decide +kernel) (pa_cons (pe_ix ix_list (pv 5) (pv 1) (fun _ _ => rfl)) (pa_cons pe_int pa_nil)))))) pa_nil))))), ?_⟩
  · obtain ⟨v, x, a, rfl, _⟩ := h
    rfl
  obtain ⟨v, x, a, rfl, ⟨wv, rv, ⟨tp, rfl, ht⟩, ⟨pw, rfl, hw⟩, ⟨rs, ⟨pr, rfl, hr1⟩, hrs⟩⟩, hf, ha, k⟩ := h
  have w4 := hf.w4
  have hl := hf.rl
  have hrl := hrs.1
  repeat walk_at "af"
  refine i_gT (SqT.of ht) rfl ?_
  repeat walk_at "af"
  refine i_wZ (SqL.of hw) (SqL.of hr1) ?_
  refine i_lcW (walk_zip (n := x.weights.length) (by simp; omega)) (fun i => vI ((List.zipWith (fun (a : Nat) b => (a : Int) * b) x.weights (x.rewards.map fun r : List Int => if r.getD a 0 < 0 then 0 else r.getD a 0)).take i)) rfl (fun i hi => ?_) (fun H' s' => ⟨SqL.of (s' _ _ hw), SqL.of (s' _ _ hr1)⟩) (fun i y H1 H' N1 N0 hi s1 hy n1 n0 => ?_) fun D H' hD s' hq => ?_
  · exact size_lt (by simp; omega)
  · obtain ⟨t, x1, x2, rfl, hn, rfl, e1, e2⟩ := hy
    have e1 : (vN x.weights)[i]? = some x1 := e1
    have e2 : rs[i]? = some x2 := e2
    rw [vN_get (by omega)] at e1
    cases e1
    obtain ⟨r, hri, p2, rfl, hp2⟩ := hrs.of e2
    have hrm := List.mem_of_getElem? hri
    have hb : x.weights.getD i 0 ≤ 99 := by
      have h1 : x.weights.getD i 0 ∈ x.weights := by
        rw [List.getD_eq_getElem?_getD, List.getElem?_eq_getElem (by omega)]
        exact List.getElem_mem _
      have h2 := mem_le_sum h1
      have := hf.ws
      have := hf.u2
      omega
    have hrl2 := hf.row r hrm
    have hrw := hf.rew r hrm (r.getD a 0) (by
      rw [List.getD_eq_getElem?_getD, List.getElem?_eq_getElem (by omega)]
      exact List.getElem_mem _)
    refine i_gT (SqT.of upd_same) rfl ?_
    repeat walk_at "af"
    refine ⟨rfl, ?_⟩
    repeat walk_at "af"
    refine i_ixL (j := a) (SqL.of ((Same.trans s1 (Same.new hn)) _ _ hp2)) rfl (vI_get (by omega)) ?_
    have hmx : 0 ≤ (if (0:Int) > r.getD a 0 then 0 else r.getD a 0) ∧ (if (0:Int) > r.getD a 0 then 0 else r.getD a 0) ≤ 99 := by split <;> omega
    repeat walk_at "af"
    refine n1 _ _ (Same.new hn) ?_
    rw [vI_snoc (by simp; omega)]
    congr 3
    have hz : i < (List.zipWith (fun (a : Nat) b => (a : Int) * b) x.weights (x.rewards.map fun r : List Int => if r.getD a 0 < 0 then 0 else r.getD a 0)).length := by simp; omega
    rw [List.getD_eq_getElem?_getD, List.getElem?_eq_getElem hz]
    have hi2 : i < x.rewards.length := by omega
    have er : x.rewards[i] = r := by
      rw [List.getElem?_eq_getElem hi2] at hri
      exact Option.some.inj hri
    simp only [List.getElem_zipWith, List.getElem_map, er, Option.getD_some]
    have ew : x.weights.getD i 0 = x.weights[i] := by simp [List.getD_eq_getElem?_getD, List.getElem?_eq_getElem (show i < x.weights.length by omega)]
    rw [ew]
  · rw [List.take_of_length_le (by simp; omega)] at hq
    exact i_sum (SqL.of hq) (k _ s')
theorem ok_wrong_sum (T : Txt K mg d as C) : Ok P w K mg base CX0 1 "wrong_sum" ["task", "action"] sp_wrong_sum := by
  refine T.d_wrong_sum.ok sc_wrong_sum (fun vs H Q E h => ?_) fun f cdv A outer s H vs Q E hr h => ⟨_, (pss_cons (ps_asg (pv 0) (pg_tup rfl (pgs_cons (pg_name (i := 2) sc_wrong_sum.nd rfl (Or.inl rfl)) (pgs_cons (pg_name (i := 3) sc_wrong_sum.nd rfl (Or.inl rfl)) (pgs_cons (pg_name (i := 4) sc_wrong_sum.nd rfl (Or.inl rfl)) pgs_nil)))))
      (pss_one (ps_ret (pe_callB (cr_sum rfl) (by rfl) T.bsum (by decide +kernel) (pa_cons (pe_lc (own := [("weight", 6), ("row", 5)]) (g := (gTup K 2 (gCons (gName 6) (gCons (gName 5) gNil)))) (tt := tYes) (te := (tOp oMul (tVar 6) (tCB oMax (tCons (tUn oNeg (tOp (rIxL K) (tVar 5) (tVar 1))) (tCons (tC (.int 0)) tNil))))) rfl sc_wrong_sum.nd (pi_zip (by rfl) T.bzip (pa_cons (pv 3) (pa_cons (pv 4) pa_nil))) (blkOk_by (N := N_wrong_sum) (sc := defScope s_wrong_sum) (by decide +kernel)) (fun _ _ _ _ _ => (pg_tup rfl (pgs_cons (pg_name (i := 6) sc_wrong_sum.nd rfl (Or.inl rfl)) (pgs_cons (pg_name (i := 5) sc_wrong_sum.nd rfl (Or.inl rfl)) pgs_nil)))) (fun _ _ _ _ _ => pts_nil) (fun _ _ _ _ _ => (pe_op op_mul (pv 6) (pe_callB (call_max2 rfl) (by rfl) T.bmax (by decide +kernel) (pa_cons (pe_un un_neg (pe_ix ix_list (pv 5) (pv 1) (fun _ _ => rfl))) (pa_cons pe_int pa_nil)))))) pa_nil))))), ?_⟩
  · obtain ⟨v, x, a, rfl, _⟩ := h
    rfl
  obtain ⟨v, x, a, rfl, ⟨wv, rv, ⟨tp, rfl, ht⟩, ⟨pw, rfl, hw⟩, ⟨rs, ⟨pr, rfl, hr1⟩, hrs⟩⟩, hf, ha, k⟩ := h
  have w4 := hf.w4
  have hl := hf.rl
  have hrl := hrs.1
  repeat walk_at "af"
  refine i_gT (SqT.of ht) rfl ?_
  repeat walk_at "af"
  refine i_wZ (SqL.of hw) (SqL.of hr1) ?_
  refine i_lcW (walk_zip (n := x.weights.length) (by simp; omega)) (fun i => vI ((List.zipWith (fun (a : Nat) b => (a : Int) * b) x.weights (x.rewards.map fun r : List Int => if -(r.getD a 0) < 0 then 0 else -(r.getD a 0))).take i)) rfl (fun i hi => ?_) (fun H' s' => ⟨SqL.of (s' _ _ hw), SqL.of (s' _ _ hr1)⟩) (fun i y H1 H' N1 N0 hi s1 hy n1 n0 => ?_) fun D H' hD s' hq => ?_
  · exact size_lt (by simp; omega)
  · obtain ⟨t, x1, x2, rfl, hn, rfl, e1, e2⟩ := hy
    have e1 : (vN x.weights)[i]? = some x1 := e1
    have e2 : rs[i]? = some x2 := e2
    rw [vN_get (by omega)] at e1
    cases e1
    obtain ⟨r, hri, p2, rfl, hp2⟩ := hrs.of e2
    have hrm := List.mem_of_getElem? hri
    have hb : x.weights.getD i 0 ≤ 99 := by
      have h1 : x.weights.getD i 0 ∈ x.weights := by
        rw [List.getD_eq_getElem?_getD, List.getElem?_eq_getElem (by omega)]
        exact List.getElem_mem _
      have h2 := mem_le_sum h1
      have := hf.ws
      have := hf.u2
      omega
    have hrl2 := hf.row r hrm
    have hrw := hf.rew r hrm (r.getD a 0) (by
      rw [List.getD_eq_getElem?_getD, List.getElem?_eq_getElem (by omega)]
      exact List.getElem_mem _)
    refine i_gT (SqT.of upd_same) rfl ?_
    repeat walk_at "af"
    refine ⟨rfl, ?_⟩
    repeat walk_at "af"
    refine i_ixL (j := a) (SqL.of ((Same.trans s1 (Same.new hn)) _ _ hp2)) rfl (vI_get (by omega)) ?_
    have hmx : 0 ≤ (if (0:Int) > -(r.getD a 0) then 0 else -(r.getD a 0)) ∧ (if (0:Int) > -(r.getD a 0) then 0 else -(r.getD a 0)) ≤ 99 := by split <;> omega
    repeat walk_at "af"
    refine n1 _ _ (Same.new hn) ?_
    rw [vI_snoc (by simp; omega)]
    congr 3
    have hz : i < (List.zipWith (fun (a : Nat) b => (a : Int) * b) x.weights (x.rewards.map fun r : List Int => if -(r.getD a 0) < 0 then 0 else -(r.getD a 0))).length := by simp; omega
    rw [List.getD_eq_getElem?_getD, List.getElem?_eq_getElem hz]
    have hi2 : i < x.rewards.length := by omega
    have er : x.rewards[i] = r := by
      rw [List.getElem?_eq_getElem hi2] at hri
      exact Option.some.inj hri
    simp only [List.getElem_zipWith, List.getElem_map, er, Option.getD_some]
    have ew : x.weights.getD i 0 = x.weights[i] := by simp [List.getD_eq_getElem?_getD, List.getElem?_eq_getElem (show i < x.weights.length by omega)]
    rw [ew]
  · rw [List.take_of_length_le (by simp; omega)] at hq
    exact i_sum (SqL.of hq) (k _ s')
theorem ok_best (T : Txt K mg d as C) : Ok P w K mg base CX0 9 "best" ["task", "error", "cost"] sp_best := by
  have G_is_task := ok_is_task (P := P) (w := w) (base := base) T
  have G_is_error := ok_is_error (P := P) (w := w) (base := base) T
  have G_is_cost := ok_is_cost (P := P) (w := w) (base := base) T
  have G_refused := ok_refused (P := P) (w := w) (base := base) T
  have G_told_best := ok_told_best (P := P) (w := w) (base := base) T
  refine T.d_best.ok sc_best (fun vs H Q E h => ?_) fun f cdv A outer s H vs Q E hr h => ⟨_, (pss_cons (ps_if (pt_not (pt_val (pe_cl (E := fun _ => E0) G_is_task (hr.mono (by decide)) (fun σ => pass00 σ) (pa_cons (pv 0) pa_nil)))) (pss_one (ps_ret (pe_cl (E := fun _ => E0) G_refused (hr.mono (by decide)) (fun σ => pass00 σ) (pa_cons (pe_const T.cBAD_TASK) pa_nil)))) pss_nil)
      (pss_cons (ps_if (pt_not (pt_val (pe_cl (E := fun _ => E0) G_is_error (hr.mono (by decide)) (fun σ => pass00 σ) (pa_cons (pv 1) pa_nil)))) (pss_one (ps_ret (pe_cl (E := fun _ => E0) G_refused (hr.mono (by decide)) (fun σ => pass00 σ) (pa_cons (pe_const T.cBAD_ERROR) pa_nil)))) pss_nil)
      (pss_cons (ps_if (pt_not (pt_val (pe_cl (E := fun _ => E0) G_is_cost (hr.mono (by decide)) (fun σ => pass00 σ) (pa_cons (pv 2) pa_nil)))) (pss_one (ps_ret (pe_cl (E := fun _ => E0) G_refused (hr.mono (by decide)) (fun σ => pass00 σ) (pa_cons (pe_const T.cBAD_COST) pa_nil)))) pss_nil)
      (pss_one (ps_ret (pe_cl (E := fun _ => E0) G_told_best (hr.mono (by decide)) (fun σ => pass00 σ) (pa_cons (pv 0) (pa_cons (pe_lst pa_nil) (pa_cons (pv 1) (pa_cons (pv 2) pa_nil)))))))))), ?_⟩
  · obtain ⟨v, x, e, c, rfl, _⟩ := h
    rfl
  obtain ⟨v, x, e, c, rfl, hT, k⟩ := h
  repeat walk_at "af"
  refine ⟨_, x, rfl, hT, ?_⟩
  repeat walk_at "af"
  refine i_nbool (fun h1 => ?_) fun h1 => ?_
  · repeat walk_at "af"
    refine ⟨3, rfl, fun H9 u9 s9 n9 => k _ _ s9 ?_⟩
    unfold bestFn
    rw [inTask_no h1]
    exact n9
  repeat walk_at "af"
  refine ⟨e, rfl, ?_⟩
  repeat walk_at "af"
  refine i_nbool (fun h2 => ?_) fun h2 => ?_
  · repeat walk_at "af"
    refine ⟨6, rfl, fun H9 u9 s9 n9 => k _ _ s9 ?_⟩
    unfold bestFn
    rw [inTask_yes h1]
    unfold withChance
    rw [prov_no h2]
    exact n9
  repeat walk_at "af"
  refine ⟨c, rfl, ?_⟩
  repeat walk_at "af"
  refine i_nbool (fun h3 => ?_) fun h3 => ?_
  · repeat walk_at "af"
    refine ⟨7, rfl, fun H9 u9 s9 n9 => k _ _ s9 ?_⟩
    unfold bestFn
    rw [inTask_yes h1]
    unfold withChance withCost
    rw [prov_yes h2, prov_no h3]
    exact n9
  repeat walk_at "af"
  intro p1 H1 hp1 s1 q1
  repeat walk_at "af"
  refine ⟨_, x, _, [], e, c, rfl, hT.up s1, (fit_iff x).mp h1, ⟨p1, rfl, q1⟩, List.nodup_nil, (fun a z => (nomatch z)), of_decide_eq_true h2, of_decide_eq_true h3, fun H2 u2 s2 n2 => k _ _ (Same.trans s1 s2) ?_⟩
  unfold bestFn
  rw [inTask_yes h1]
  unfold withChance withCost
  rw [prov_yes h2, prov_yes h3]
  obtain ⟨p2, rfl, hp2, q2⟩ := n2
  refine ⟨p2, rfl, s1.free hp2, ?_⟩
  rw [q2]
  have e1 : answerBytes (.ok (bestTold (caseOf x) (percent e) (costOf c))) = 0 :: toldBytes (bestTold (caseOf x) (percent e) (costOf c)) := rfl
  rw [e1]
  unfold bestTold
  rw [bestPlan_behind]
theorem ok_up_to (T : Txt K mg d as C) : Ok P w K mg base CX0 9 "up_to" ["task", "plan", "cost", "level"] sp_up_to := by
  have G_is_task := ok_is_task (P := P) (w := w) (base := base) T
  have G_is_plan := ok_is_plan (P := P) (w := w) (base := base) T
  have G_is_cost := ok_is_cost (P := P) (w := w) (base := base) T
  have G_is_level := ok_is_level (P := P) (w := w) (base := base) T
  have G_refused := ok_refused (P := P) (w := w) (base := base) T
  have G_greatest_error := ok_greatest_error (P := P) (w := w) (base := base) T
  have G_put_maybe := ok_put_maybe (P := P) (w := w) (base := base) T
  have G_done := ok_done (P := P) (w := w) (base := base) T
  refine T.d_up_to.ok sc_up_to (fun vs H Q E h => ?_) fun f cdv A outer s H vs Q E hr h => ⟨_, (pss_cons (ps_if (pt_not (pt_val (pe_cl (E := fun _ => E0) G_is_task (hr.mono (by decide)) (fun σ => pass00 σ) (pa_cons (pv 0) pa_nil)))) (pss_one (ps_ret (pe_cl (E := fun _ => E0) G_refused (hr.mono (by decide)) (fun σ => pass00 σ) (pa_cons (pe_const T.cBAD_TASK) pa_nil)))) pss_nil)
      (pss_cons (ps_if (pt_not (pt_val (pe_cl (E := fun _ => E0) G_is_plan (hr.mono (by decide)) (fun σ => pass00 σ) (pa_cons (pv 0) (pa_cons (pv 1) pa_nil))))) (pss_one (ps_ret (pe_cl (E := fun _ => E0) G_refused (hr.mono (by decide)) (fun σ => pass00 σ) (pa_cons (pe_const T.cBAD_PLAN) pa_nil)))) pss_nil)
      (pss_cons (ps_if (pt_not (pt_val (pe_cl (E := fun _ => E0) G_is_cost (hr.mono (by decide)) (fun σ => pass00 σ) (pa_cons (pv 2) pa_nil)))) (pss_one (ps_ret (pe_cl (E := fun _ => E0) G_refused (hr.mono (by decide)) (fun σ => pass00 σ) (pa_cons (pe_const T.cBAD_COST) pa_nil)))) pss_nil)
      (pss_cons (ps_if (pt_not (pt_val (pe_cl (E := fun _ => E0) G_is_level (hr.mono (by decide)) (fun σ => pass00 σ) (pa_cons (pv 3) pa_nil)))) (pss_one (ps_ret (pe_cl (E := fun _ => E0) G_refused (hr.mono (by decide)) (fun σ => pass00 σ) (pa_cons (pe_const T.cBAD_LEVEL) pa_nil)))) pss_nil)
      (pss_one (ps_ret (pe_cl (E := fun _ => E0) G_done (hr.mono (by decide)) (fun σ => pass00 σ) (pa_cons (pe_cl (E := fun _ => E0) G_put_maybe (hr.mono (by decide)) (fun σ => pass00 σ) (pa_cons (pe_cl (E := fun _ => E0) G_greatest_error (hr.mono (by decide)) (fun σ => pass00 σ) (pa_cons (pv 0) (pa_cons (pv 1) (pa_cons (pv 2) (pa_cons (pv 3) pa_nil))))) pa_nil)) pa_nil)))))))), ?_⟩
  · obtain ⟨v, x, q, p, c, m, rfl, _⟩ := h
    rfl
  obtain ⟨v, x, q, p, c, m, rfl, hT, hP, hpl, k⟩ := h
  repeat walk_at "af"
  refine ⟨_, x, rfl, hT, ?_⟩
  repeat walk_at "af"
  refine i_nbool (fun h1 => ?_) fun h1 => ?_
  · repeat walk_at "af"
    refine ⟨3, rfl, fun H9 u9 s9 n9 => k _ _ s9 ?_⟩
    unfold upToFn
    rw [inTask_no h1]
    exact n9
  have hf := (fit_iff x).mp h1
  repeat walk_at "af"
  refine ⟨_, _, x, p, rfl, hT, hf, hP, hpl, fun H1 s1 => ?_⟩
  repeat walk_at "af"
  refine i_nbool (fun h2 => ?_) fun h2 => ?_
  · repeat walk_at "af"
    refine ⟨4, rfl, fun H9 u9 s9 n9 => k _ _ (Same.trans s1 s9) ?_⟩
    unfold upToFn
    rw [inTask_yes h1, inPlan_no h2]
    exact n9.back s1
  have pf := (planFit_iff x p).mp h2
  repeat walk_at "af"
  refine ⟨c, rfl, ?_⟩
  repeat walk_at "af"
  refine i_nbool (fun h3 => ?_) fun h3 => ?_
  · repeat walk_at "af"
    refine ⟨7, rfl, fun H9 u9 s9 n9 => k _ _ (Same.trans s1 s9) ?_⟩
    unfold upToFn
    rw [inTask_yes h1, inPlan_yes h2]
    unfold withCost
    rw [prov_no h3]
    exact n9.back s1
  have hc := of_decide_eq_true h3
  repeat walk_at "af"
  refine ⟨m, rfl, ?_⟩
  repeat walk_at "af"
  refine i_nbool (fun h4 => ?_) fun h4 => ?_
  · repeat walk_at "af"
    refine ⟨8, rfl, fun H9 u9 s9 n9 => k _ _ (Same.trans s1 s9) ?_⟩
    unfold upToFn
    rw [inTask_yes h1, inPlan_yes h2]
    unfold withCost withLevel Askfirst.mostReward
    rw [prov_yes h3, prov_no h4]
    exact n9.back s1
  have hm : -99 ≤ m ∧ m ≤ 99 := by simpa using h4
  repeat walk_at "af"
  refine ⟨_, x, _, p, _, _, rfl, hT.up s1, hf, hP.up s1, pf, by omega, by omega, hm.1, hm.2, fun H2 s2 => ?_⟩
  repeat walk_at "af"
  refine ⟨_, rfl, fun H3 u3 s3 n3 => ?_⟩
  repeat walk_at "af"
  have hml : (maybeM (greatestM x p.asks p.ending c m)).length ≤ 2 := by cases (greatestM x p.asks p.ending c m) <;> simp [maybeM]
  refine ⟨_, _, rfl, n3.rl, by omega, fun H4 u4 s4 n4 => ?_⟩
  have s13 := Same.trans (Same.trans s1 s2) s3
  refine k _ _ (Same.trans s13 s4) ?_
  unfold upToFn
  rw [inTask_yes h1, inPlan_yes h2]
  unfold withCost withLevel Askfirst.mostReward
  rw [prov_yes h3, prov_yes h4]
  have n4 := n4.back s13
  rw [greatest_is x hf.u1 hf.rl] at n4
  have hlt : ∀ a, greatestOf (errorFor (caseOf x) (costOf c) ⟨p.asks, p.ending⟩ (m : Rat)) = some a → a < 256 := fun a ha => by
    rw [← greatest_is x hf.u1 hf.rl] at ha
    have := List.mem_of_find?_eq_some ha
    have := List.mem_range.mp (List.mem_reverse.mp this)
    omega
  rw [← maybe_one _ hlt] at n4
  exact n4
theorem off_frs {H : Hp} {l : Addr} {i : Int} {r : List V} {v : V} {cols : List (List Int)} {t : Nat} (hl : H l = some (.lst (.int i :: r))) (h : RFrs H v cols t) : Off l H fun H'' => RFrs H'' v cols t := by
  intro H'' hH
  obtain ⟨vs, ⟨a, rfl, ha⟩, hv⟩ := h
  refine ⟨vs, ⟨a, rfl, hH _ _ (fun e => ?_) ha⟩, hv.imp fun u c hu => ?_⟩
  · rw [e, hl] at ha
    have ha : (V.int i :: r) = vs := HO.lst.inj (Option.some.inj ha)
    obtain ⟨c, _, ⟨b, hb, _⟩⟩ := hv.of (i := 0) (v := .int i) (by rw [← ha]; rfl)
    cases hb
  · obtain ⟨b, rfl, hb⟩ := hu
    refine ⟨b, rfl, hH _ _ (fun e => ?_) hb⟩
    rw [e, hl] at hb
    cases hb
theorem ok_sure (T : Txt K mg d as C) : Ok P w K mg base CX0 9 "sure" ["task", "plan", "error", "cost"] sp_sure := by
  have G_is_task := ok_is_task (P := P) (w := w) (base := base) T
  have G_is_plan := ok_is_plan (P := P) (w := w) (base := base) T
  have G_is_error := ok_is_error (P := P) (w := w) (base := base) T
  have G_is_cost := ok_is_cost (P := P) (w := w) (base := base) T
  have G_refused := ok_refused (P := P) (w := w) (base := base) T
  have G_sure_of := ok_sure_of (P := P) (w := w) (base := base) T
  have G_worst_answers := ok_worst_answers (P := P) (w := w) (base := base) T
  have G_put_fraction := ok_put_fraction (P := P) (w := w) (base := base) T
  have G_put_count := ok_put_count (P := P) (w := w) (base := base) T
  have G_put_fractions := ok_put_fractions (P := P) (w := w) (base := base) T
  have G_done := ok_done (P := P) (w := w) (base := base) T
  refine T.d_sure.ok sc_sure (fun vs H Q E h => ?_) fun f cdv A outer s H vs Q E hr h => ⟨_, (pss_cons (ps_if (pt_not (pt_val (pe_cl (E := fun _ => E0) G_is_task (hr.mono (by decide)) (fun σ => pass00 σ) (pa_cons (pv 0) pa_nil)))) (pss_one (ps_ret (pe_cl (E := fun _ => E0) G_refused (hr.mono (by decide)) (fun σ => pass00 σ) (pa_cons (pe_const T.cBAD_TASK) pa_nil)))) pss_nil)
      (pss_cons (ps_if (pt_not (pt_val (pe_cl (E := fun _ => E0) G_is_plan (hr.mono (by decide)) (fun σ => pass00 σ) (pa_cons (pv 0) (pa_cons (pv 1) pa_nil))))) (pss_one (ps_ret (pe_cl (E := fun _ => E0) G_refused (hr.mono (by decide)) (fun σ => pass00 σ) (pa_cons (pe_const T.cBAD_PLAN) pa_nil)))) pss_nil)
      (pss_cons (ps_if (pt_not (pt_val (pe_cl (E := fun _ => E0) G_is_error (hr.mono (by decide)) (fun σ => pass00 σ) (pa_cons (pv 2) pa_nil)))) (pss_one (ps_ret (pe_cl (E := fun _ => E0) G_refused (hr.mono (by decide)) (fun σ => pass00 σ) (pa_cons (pe_const T.cBAD_ERROR) pa_nil)))) pss_nil)
      (pss_cons (ps_if (pt_not (pt_val (pe_cl (E := fun _ => E0) G_is_cost (hr.mono (by decide)) (fun σ => pass00 σ) (pa_cons (pv 3) pa_nil)))) (pss_one (ps_ret (pe_cl (E := fun _ => E0) G_refused (hr.mono (by decide)) (fun σ => pass00 σ) (pa_cons (pe_const T.cBAD_COST) pa_nil)))) pss_nil)
      (pss_cons (ps_set (i := 4) sc_sure.nd rfl (Or.inl rfl) (pe_cl (E := fun _ => E0) G_put_fraction (hr.mono (by decide)) (fun σ => pass00 σ) (pa_cons (pe_cl (E := fun _ => E0) G_sure_of (hr.mono (by decide)) (fun σ => pass00 σ) (pa_cons (pv 0) (pa_cons (pv 1) (pa_cons (pv 2) (pa_cons (pv 3) pa_nil))))) pa_nil)))
      (pss_cons (ps_set (i := 5) sc_sure.nd rfl (Or.inl rfl) (pe_cl (E := fun _ => E0) G_worst_answers (hr.mono (by decide)) (fun σ => pass00 σ) (pa_cons (pv 0) (pa_cons (pv 1) (pa_cons (pv 2) (pa_cons (pv 3) pa_nil))))))
      (pss_cons (ps_expr (pe_bm PySem.F.plainAttrs_list PySem.F.slot_list_extend PySem.F.type_list_extend mt_extend (pv 4) (pa_cons (pe_cl (E := fun _ => E0) G_put_count (hr.mono (by decide)) (fun σ => pass00 σ) (pa_cons (pe_callB call_len_seq (by rfl) T.blen PySem.boot_len (pa_cons (pv 5) pa_nil)) pa_nil)) pa_nil)))
      (pss_cons (ps_for PassesOwn.never rfl (pi_list (pv 5)) (pg_name (i := 6) sc_sure.nd rfl (Or.inl rfl))
      (pss_one (ps_expr (pe_bm PySem.F.plainAttrs_list PySem.F.slot_list_extend PySem.F.type_list_extend mt_extend (pv 4) (pa_cons (pe_cl (E := fun _ => E0) G_put_fractions (hr.mono (by decide)) (fun σ => pass00 σ) (pa_cons (pv 6) pa_nil)) pa_nil)))))
      (pss_one (ps_ret (pe_cl (E := fun _ => E0) G_done (hr.mono (by decide)) (fun σ => pass00 σ) (pa_cons (pv 4) pa_nil)))))))))))), ?_⟩
  · obtain ⟨v, x, q, p, e, c, rfl, _⟩ := h
    rfl
  obtain ⟨v, x, q, p, e, c, rfl, hT, hP, hpl, k⟩ := h
  repeat walk_at "af"
  refine ⟨_, x, rfl, hT, ?_⟩
  repeat walk_at "af"
  refine i_nbool (fun h1 => ?_) fun h1 => ?_
  · repeat walk_at "af"
    refine ⟨3, rfl, fun H9 u9 s9 n9 => k _ _ s9 ?_⟩
    unfold sureFn
    rw [inTask_no h1]
    exact n9
  have hf := (fit_iff x).mp h1
  repeat walk_at "af"
  refine ⟨_, _, x, p, rfl, hT, hf, hP, hpl, fun H1 s1 => ?_⟩
  repeat walk_at "af"
  refine i_nbool (fun h2 => ?_) fun h2 => ?_
  · repeat walk_at "af"
    refine ⟨4, rfl, fun H9 u9 s9 n9 => k _ _ (Same.trans s1 s9) ?_⟩
    unfold sureFn
    rw [inTask_yes h1, inPlan_no h2]
    exact n9.back s1
  have pf := (planFit_iff x p).mp h2
  repeat walk_at "af"
  refine ⟨e, rfl, ?_⟩
  repeat walk_at "af"
  refine i_nbool (fun h3 => ?_) fun h3 => ?_
  · repeat walk_at "af"
    refine ⟨6, rfl, fun H9 u9 s9 n9 => k _ _ (Same.trans s1 s9) ?_⟩
    unfold sureFn
    rw [inTask_yes h1, inPlan_yes h2]
    unfold withChance
    rw [prov_no h3]
    exact n9.back s1
  have he := of_decide_eq_true h3
  repeat walk_at "af"
  refine ⟨c, rfl, ?_⟩
  repeat walk_at "af"
  refine i_nbool (fun h4 => ?_) fun h4 => ?_
  · repeat walk_at "af"
    refine ⟨7, rfl, fun H9 u9 s9 n9 => k _ _ (Same.trans s1 s9) ?_⟩
    unfold sureFn
    rw [inTask_yes h1, inPlan_yes h2]
    unfold withChance withCost
    rw [prov_yes h3, prov_no h4]
    exact n9.back s1
  have hc := of_decide_eq_true h4
  have l4 := pf.le hf
  have w4 := hf.w4
  repeat walk_at "af"
  refine ⟨_, x, _, p, _, _, rfl, hT.up s1, hf, hP.up s1, pf, by omega, by omega, by omega, by omega, fun H2 u2 s2 r2 => ?_⟩
  repeat walk_at "af"
  refine ⟨_, _, _, rfl, r2, over_pos x hf.u1 _, fun H3 u3 s3 n3 => ?_⟩
  obtain ⟨l, rfl, hl, q3⟩ := n3
  have s02 := Same.trans s1 s2
  have s03 := Same.trans s02 s3
  repeat walk_at "af"
  refine ⟨_, x, _, p, _, _, rfl, hT.up s03, hf, hP.up s03, pf, by omega, by omega, by omega, by omega, fun H4 u4 s4 r4 => ?_⟩
  obtain ⟨vs, ⟨pr, rfl, hpr⟩, hvs⟩ := r4
  rw [← sure_div x hf.u1 hf.rl] at q3
  generalize hS : sureOf (caseOf x) (percent e) (costOf c) ⟨p.asks, p.ending⟩ = S at q3
  have q4 := s4 _ _ q3
  obtain ⟨i0, r0, e0⟩ : ∃ (i : Int) (r : List V), vN (fractionOut S) = .int i :: r := by
    cases h : fractionOut S with
    | nil =>
      have := fractionOut_length S
      rw [h] at this
      simp at this
    | cons i r => exact ⟨_, _, rfl⟩
  have npl : pr ≠ l := fun z => by
    rw [z, q4] at hpr
    have hz : vN (fractionOut S) = vs := HO.lst.inj (Option.some.inj hpr)
    obtain ⟨t, _, ⟨_, ⟨b, hb, _⟩, _⟩⟩ := hvs.of (i := 0) (v := .int i0) (by rw [← hz, e0]; rfl)
    cases hb
  have hvs := hvs.imp fun v t hv => off_frs (by rw [q4, e0]) hv
  have s24 := Same.trans s3 s4
  have elv := hvs.1
  rw [List.length_range] at elv
  repeat walk_at "af"
  refine ⟨tyl q4, ?_⟩
  repeat walk_at "af"
  refine i_len (SqL.of hpr) ?_
  repeat walk_at "af"
  refine ⟨vs.length, rfl, fun H5 u5 s5 n5 => ?_⟩
  obtain ⟨p5, rfl, hp5, q5⟩ := n5
  repeat walk_at "af"
  refine i_ext (s5 _ _ q4) q5 (size_of (by have : (two vs.length).length = 2 := rfl; simp only [List.length_map, fractionOut_length, this]; omega)) ?_
  repeat walk_at "af"
  refine i_wL (SqL.of (by rw [upd_ne npl]; exact s5 _ _ hpr)) ?_
  refine i_forW (walk_list (xs := vs)) (fun i σ H' => ∃ (a1 : Option V), σ = [some v, some q, some (.int (e : Int)), some (.int (c : Int)), some (.ref l), some (.ref pr), a1] ∧ Same H2 H' ∧ H' pr = some (.lst vs) ∧ All2 (fun v t => Off l H' fun H'' => RFrs H'' v (columnsM x.rewards p.ending e c p.asks) t) vs (List.range x.weights.length) ∧
      ∃ L : List Nat, H' l = some (.lst (vN L)) ∧ L = fractionOut S ++ (two vs.length ++ (List.range i).flatMap fun t => Askfirst.listOut fractionOut (answersOf (caseOf x) (percent e) (costOf c) ⟨p.asks, p.ending⟩ t)) ∧ L.length ≤ 18 + i * 100)
    ⟨none, rfl, Same.mut (Same.trans s24 s5) hl, by rw [upd_ne npl]; exact s5 _ _ hpr, hvs.imp fun v t hv => (hv.up s5).mut, fractionOut S ++ two vs.length, by rw [upd_same, ← vN_append], by simp, by have : (two vs.length).length = 2 := rfl; rw [List.length_append, fractionOut_length, this]; omega⟩ (fun i σ H' _ hP => ?_) (fun i y σ H6 H7 hi hP hy => ?_) fun σ H6 hP => ?_
  · obtain ⟨a1, _, _, hq, _⟩ := hP
    exact SqL.of hq
  · obtain ⟨a1, rfl, s6, hq6, hv6, L, hL, eL, eLl⟩ := hP
    obtain ⟨rfl, hy⟩ := hy
    obtain ⟨t, ht, hrt⟩ := hv6.of hy
    have hti : t = i ∧ i < x.weights.length := by
      have h7 : i < x.weights.length := by omega
      rw [List.getElem?_eq_getElem (by rw [List.length_range]; exact h7), List.getElem_range] at ht
      exact ⟨(Option.some.inj ht).symm, h7⟩
    obtain ⟨rfl, hti⟩ := hti
    obtain ⟨ws, hws, hfr⟩ := hrt.now
    repeat walk_at "af"
    refine ⟨tyl hL, ?_⟩
    repeat walk_at "af"
    refine ⟨_, ws, (columnsM x.rewards p.ending e c p.asks).map fun ch => (ch.getD t 0, 100), rfl, hws, ⟨by rw [List.length_map]; exact hfr.1, fun j v y a b => ?_⟩, (fun y hy => ?_), (by rw [List.length_map, columnsM_length]; omega), fun H8 u8 s8 n8 => ?_⟩
    · rw [List.getElem?_map] at b
      cases hj : (columnsM x.rewards p.ending e c p.asks)[j]? with
      | none => rw [hj] at b; cases b
      | some ch =>
        rw [hj] at b
        cases b
        exact hfr.2 j v ch a hj
    · obtain ⟨ch, _, rfl⟩ := List.mem_map.mp hy
      exact (by decide : (0 : Int) < 100)
    obtain ⟨p8, rfl, hp8, q8⟩ := n8
    have eans := answers_is x p.ending e c t (by have := hf.rl; omega) p.asks
    have e8 : (two ((columnsM x.rewards p.ending e c p.asks).map fun ch => (ch.getD t 0, (100 : Int))).length ++ ((columnsM x.rewards p.ending e c p.asks).map fun ch => (ch.getD t 0, (100 : Int))).flatMap fun p => fractionOut ((p.1 : Rat) / (p.2 : Rat))) = Askfirst.listOut fractionOut (answersOf (caseOf x) (percent e) (costOf c) ⟨p.asks, p.ending⟩ t) := by
      rw [← eans]
      unfold Askfirst.listOut
      rw [List.length_map, List.length_map, List.flatMap_map, List.flatMap_map]
      rfl
    rw [e8] at q8
    have l8 : (Askfirst.listOut fractionOut (answersOf (caseOf x) (percent e) (costOf c) ⟨p.asks, p.ending⟩ t)).length ≤ 66 := by
      have e1 : ∀ L : List Rat, (L.flatMap fractionOut).length = 16 * L.length := fun L => by
        induction L with
        | nil => rfl
        | cons a L ih => rw [List.flatMap_cons, List.length_append, ih, fractionOut_length, List.length_cons]; omega
      unfold Askfirst.listOut
      have h2 : ∀ n, (two n).length = 2 := fun _ => rfl
      rw [List.length_append, e1, h2, ← eans, List.length_map, columnsM_length]
      omega
    repeat walk_at "af"
    refine i_ext (s8 _ _ hL) q8 (size_of (by simp only [List.length_map]; omega)) ?_
    refine ⟨_, rfl, Same.mut (Same.trans s6 s8) hl, by rw [upd_ne npl]; exact s8 _ _ hq6, hv6.imp fun v t hv => (hv.up s8).mut, L ++ Askfirst.listOut fractionOut (answersOf (caseOf x) (percent e) (costOf c) ⟨p.asks, p.ending⟩ t), by rw [upd_same, ← vN_append], ?_, by rw [List.length_append]; omega⟩
    rw [eL, List.range_succ, List.flatMap_append, List.append_assoc, List.append_assoc]
    simp
  · obtain ⟨a1, rfl, s6, hq6, hv6, L, hL, eL, eLl⟩ := hP
    repeat walk_at "af"
    refine ⟨_, L, rfl, ⟨l, rfl, hL⟩, by omega, fun H7 u7 s7 n7 => ?_⟩
    have s06 := Same.trans s02 s6
    refine k _ _ (Same.trans s06 s7) ?_
    have n7 := n7.back s06
    unfold sureFn
    rw [inTask_yes h1, inPlan_yes h2]
    unfold withChance withCost
    rw [prov_yes h3, prov_yes h4]
    have e9 : answerBytes (.ok (sureTold (caseOf x) (percent e) (costOf c) ⟨p.asks, p.ending⟩)) = 0 :: L := by
      rw [eL, elv]
      show 0 :: (fractionOut (sureOf (caseOf x) (percent e) (costOf c) ⟨p.asks, p.ending⟩) ++ Askfirst.listOut (Askfirst.listOut fractionOut) ((List.range (tastesIn (caseOf x))).map (answersOf (caseOf x) (percent e) (costOf c) ⟨p.asks, p.ending⟩))) = _
      rw [hS]
      unfold Askfirst.listOut
      rw [List.length_map, List.length_range, List.flatMap_map]
      rfl
    rw [e9]
    exact n7
theorem ok_worth (T : Txt K mg d as C) : Ok P w K mg base CX0 9 "worth" ["task", "action", "cost"] sp_worth := by
  have G_is_task := ok_is_task (P := P) (w := w) (base := base) T
  have G_is_action := ok_is_action (P := P) (w := w) (base := base) T
  have G_is_cost := ok_is_cost (P := P) (w := w) (base := base) T
  have G_refused := ok_refused (P := P) (w := w) (base := base) T
  have G_right_sum := ok_right_sum (P := P) (w := w) (base := base) T
  have G_wrong_sum := ok_wrong_sum (P := P) (w := w) (base := base) T
  have G_put_fraction := ok_put_fraction (P := P) (w := w) (base := base) T
  have G_lowest := ok_lowest (P := P) (w := w) (base := base) T
  have G_done := ok_done (P := P) (w := w) (base := base) T
  refine T.d_worth.ok sc_worth (fun vs H Q E h => ?_) fun f cdv A outer s H vs Q E hr h => ⟨_, (pss_cons (ps_if (pt_not (pt_val (pe_cl (E := fun _ => E0) G_is_task (hr.mono (by decide)) (fun σ => pass00 σ) (pa_cons (pv 0) pa_nil)))) (pss_one (ps_ret (pe_cl (E := fun _ => E0) G_refused (hr.mono (by decide)) (fun σ => pass00 σ) (pa_cons (pe_const T.cBAD_TASK) pa_nil)))) pss_nil)
      (pss_cons (ps_if (pt_not (pt_val (pe_cl (E := fun _ => E0) G_is_action (hr.mono (by decide)) (fun σ => pass00 σ) (pa_cons (pv 0) (pa_cons (pv 1) pa_nil))))) (pss_one (ps_ret (pe_cl (E := fun _ => E0) G_refused (hr.mono (by decide)) (fun σ => pass00 σ) (pa_cons (pe_const T.cBAD_ACTION) pa_nil)))) pss_nil)
      (pss_cons (ps_if (pt_not (pt_val (pe_cl (E := fun _ => E0) G_is_cost (hr.mono (by decide)) (fun σ => pass00 σ) (pa_cons (pv 2) pa_nil)))) (pss_one (ps_ret (pe_cl (E := fun _ => E0) G_refused (hr.mono (by decide)) (fun σ => pass00 σ) (pa_cons (pe_const T.cBAD_COST) pa_nil)))) pss_nil)
      (pss_cons (ps_set (i := 3) sc_worth.nd rfl (Or.inl rfl) (pe_ix ix_tup (pv 0) pe_int (fun _ _ => rfl)))
      (pss_cons (ps_set (i := 4) sc_worth.nd rfl (Or.inl rfl) (pe_cl (E := fun _ => E0) G_right_sum (hr.mono (by decide)) (fun σ => pass00 σ) (pa_cons (pv 0) (pa_cons (pv 1) pa_nil))))
      (pss_cons (ps_set (i := 5) sc_worth.nd rfl (Or.inl rfl) (pe_cl (E := fun _ => E0) G_wrong_sum (hr.mono (by decide)) (fun σ => pass00 σ) (pa_cons (pv 0) (pa_cons (pv 1) pa_nil))))
      (pss_cons (ps_set (i := 6) sc_worth.nd rfl (Or.inl rfl) (pe_op op_cat (pe_cl (E := fun _ => E0) G_put_fraction (hr.mono (by decide)) (fun σ => pass00 σ) (pa_cons (pe_cl (E := fun _ => E0) G_lowest (hr.mono (by decide)) (fun σ => pass00 σ) (pa_cons (pv 4) (pa_cons (pv 3) pa_nil))) pa_nil)) (pe_cl (E := fun _ => E0) G_put_fraction (hr.mono (by decide)) (fun σ => pass00 σ) (pa_cons (pe_cl (E := fun _ => E0) G_lowest (hr.mono (by decide)) (fun σ => pass00 σ) (pa_cons (pv 5) (pa_cons (pv 3) pa_nil))) pa_nil))))
      (pss_cons (ps_set (i := 7) sc_worth.nd rfl (Or.inl rfl) (pe_op op_sub (pv 5) (pe_op op_mul (pv 2) (pv 3))))
      (pss_cons (ps_if (PW.pt (pw_or (pt_cmp (pc_eqI (pe_op op_add (pv 4) (pv 5)) pe_int)) (pw_or1 (pt_cmpR op_lt (pv 7) pe_int (nomark _))))) (pss_one (ps_ret (pe_cl (E := fun _ => E0) G_done (hr.mono (by decide)) (fun σ => pass00 σ) (pa_cons (pe_op op_cat (pv 6) (pe_lst (pa_cons pe_int pa_nil))) pa_nil)))) pss_nil)
      (pss_one (ps_ret (pe_cl (E := fun _ => E0) G_done (hr.mono (by decide)) (fun σ => pass00 σ) (pa_cons (pe_op op_cat (pe_op op_cat (pv 6) (pe_lst (pa_cons pe_int pa_nil))) (pe_cl (E := fun _ => E0) G_put_fraction (hr.mono (by decide)) (fun σ => pass00 σ) (pa_cons (pe_cl (E := fun _ => E0) G_lowest (hr.mono (by decide)) (fun σ => pass00 σ) (pa_cons (pv 7) (pa_cons (pe_op op_add (pv 4) (pv 5)) pa_nil))) pa_nil))) pa_nil))))))))))))), ?_⟩
  · obtain ⟨v, x, a, c, rfl, _⟩ := h
    rfl
  obtain ⟨v, x, a, c, rfl, hT, k⟩ := h
  repeat walk_at "af"
  refine ⟨_, x, rfl, hT, ?_⟩
  repeat walk_at "af"
  refine i_nbool (fun h1 => ?_) fun h1 => ?_
  · repeat walk_at "af"
    refine ⟨3, rfl, fun H9 u9 s9 n9 => k _ _ s9 ?_⟩
    unfold worthFn
    rw [inTask_no h1]
    exact n9
  have hf := (fit_iff x).mp h1
  have ena := actionsIn_is x
  repeat walk_at "af"
  refine ⟨_, x, a, rfl, hT, hf, ?_⟩
  repeat walk_at "af"
  refine i_nbool (fun h2 => ?_) fun h2 => ?_
  · repeat walk_at "af"
    refine ⟨5, rfl, fun H9 u9 s9 n9 => k _ _ s9 ?_⟩
    unfold worthFn
    rw [inTask_yes h1, ena, prov_no h2]
    exact n9
  have ha := of_decide_eq_true h2
  repeat walk_at "af"
  refine ⟨c, rfl, ?_⟩
  repeat walk_at "af"
  refine i_nbool (fun h3 => ?_) fun h3 => ?_
  · repeat walk_at "af"
    refine ⟨7, rfl, fun H9 u9 s9 n9 => k _ _ s9 ?_⟩
    unfold worthFn withCost
    rw [inTask_yes h1, ena, prov_yes h2, prov_no h3]
    exact n9
  have hc := of_decide_eq_true h3
  have hT0 := hT
  obtain ⟨wv, rv, ⟨tp, rfl, ht⟩, _, _⟩ := hT0
  have u1 := hf.u1
  have u2 := hf.u2
  repeat walk_at "af"
  refine i_ixT (j := 0) (SqT.of ht) rfl rfl ?_
  repeat walk_at "af"
  refine ⟨_, x, a, rfl, hT, hf, ha, fun H1 s1 => ?_⟩
  repeat walk_at "af"
  refine ⟨_, x, a, rfl, hT.up s1, hf, ha, fun H2 s2 => ?_⟩
  repeat walk_at "af"
  refine ⟨_, _, rfl, by omega, by omega, fun H3 u3 s3 r3 => ?_⟩
  repeat walk_at "af"
  refine ⟨_, _, _, rfl, r3, by omega, fun H4 u4 s4 n4 => ?_⟩
  repeat walk_at "af"
  refine ⟨_, _, rfl, by omega, by omega, fun H5 u5 s5 r5 => ?_⟩
  repeat walk_at "af"
  refine ⟨_, _, _, rfl, r5, by omega, fun H6 u6 s6 n6 => ?_⟩
  obtain ⟨p4, rfl, hp4, q4⟩ := n4
  obtain ⟨p6, rfl, hp6, q6⟩ := n6
  have ug : (((x.unit : Nat) : Int) : Rat) = ((x.unit : Nat) : Rat) := rfl
  have u0 := unit_ne hf.u1
  have er : ((rightM x a : Int) : Rat) / (((x.unit : Nat) : Int) : Rat) = goodOf (caseOf x) a := by
    rw [right_is x hf.u1 hf.rl, ug, Rat.mul_div_cancel u0]
  have ew : ((wrongM x a : Int) : Rat) / (((x.unit : Nat) : Int) : Rat) = badOf (caseOf x) a := by
    rw [wrong_is x hf.u1 hf.rl, ug, Rat.mul_div_cancel u0]
  rw [er] at q4
  rw [ew] at q6
  repeat walk_at "af"
  refine i_cat ((Same.trans s5 s6) _ _ q4) q6 (size_of (by simp only [List.length_map, fractionOut_length]; omega)) fun p7 H7 hp7 s7 q7 => ?_
  have s07 := Same.trans (Same.trans (Same.trans (Same.trans (Same.trans (Same.trans s1 s2) s3) s4) s5) s6) s7
  have b1 := right_nonneg x a
  have b2 := wrong_nonneg x a
  have b3 := sums_le hf a ha
  repeat walk_at "af"
  have ewt := worth_is x hf.u1 hf.rl a c
  have end_ : ∀ {Hx Hy : Hp} {u : V}, Same H Hx → New Hx Hy u (vN (0 :: (fractionOut (goodOf (caseOf x) a) ++ fractionOut (badOf (caseOf x) a) ++ Askfirst.optionOut fractionOut (worthUpTo (caseOf x) (costOf c) a)))) → New H Hy u (vN (answerBytes (worthFn x a c))) := fun sx n => by
    have n := n.back sx
    unfold worthFn withCost
    rw [inTask_yes h1, ena, prov_yes h2, prov_yes h3]
    rw [List.append_assoc] at n
    exact n
  refine i_dec (fun h5 => ?_) fun h5 => ?_
  · repeat walk_at "af"
    intro p8 H8 hp8 s8 q8
    repeat walk_at "af"
    refine i_cat (s8 _ _ q7) q8 (size_of (by simp only [List.length_map, List.length_append, fractionOut_length, List.length_cons, List.length_nil]; omega)) fun p9 H9 hp9 s9 q9 => ?_
    repeat walk_at "af"
    refine ⟨_, fractionOut (goodOf (caseOf x) a) ++ fractionOut (badOf (caseOf x) a) ++ [0], rfl, ⟨p9, rfl, by rw [q9, vN_append, vN_append]; rfl⟩, by simp only [List.length_append, fractionOut_length, List.length_cons, List.length_nil]; omega, fun Ha ua sa na => k _ _ (Same.trans (Same.trans (Same.trans s07 s8) s9) sa) (end_ (Same.trans (Same.trans s07 s8) s9) ?_)⟩
    rw [ewt, if_pos (Or.inl h5)]
    exact na
  repeat walk_at "af"
  refine i_dec (fun h6 => ?_) fun h6 => ?_
  · repeat walk_at "af"
    intro p8 H8 hp8 s8 q8
    repeat walk_at "af"
    refine i_cat (s8 _ _ q7) q8 (size_of (by simp only [List.length_map, List.length_append, fractionOut_length, List.length_cons, List.length_nil]; omega)) fun p9 H9 hp9 s9 q9 => ?_
    repeat walk_at "af"
    refine ⟨_, fractionOut (goodOf (caseOf x) a) ++ fractionOut (badOf (caseOf x) a) ++ [0], rfl, ⟨p9, rfl, by rw [q9, vN_append, vN_append]; rfl⟩, by simp only [List.length_append, fractionOut_length, List.length_cons, List.length_nil]; omega, fun Ha ua sa na => k _ _ (Same.trans (Same.trans (Same.trans s07 s8) s9) sa) (end_ (Same.trans (Same.trans s07 s8) s9) ?_)⟩
    rw [ewt, if_pos (Or.inr h6)]
    exact na
  repeat walk_at "af"
  intro p8 H8 hp8 s8 q8
  repeat walk_at "af"
  refine i_cat (s8 _ _ q7) q8 (size_of (by simp only [List.length_map, List.length_append, fractionOut_length, List.length_cons, List.length_nil]; omega)) fun p9 H9 hp9 s9 q9 => ?_
  repeat walk_at "af"
  refine ⟨_, _, rfl, by omega, by omega, fun Ha ua sa ra => ?_⟩
  repeat walk_at "af"
  refine ⟨_, _, _, rfl, ra, by omega, fun Hb ub sb nb => ?_⟩
  obtain ⟨pb, rfl, hpb, qb⟩ := nb
  repeat walk_at "af"
  refine i_cat ((Same.trans sa sb) _ _ q9) qb (size_of (by simp only [List.length_map, List.length_append, fractionOut_length, List.length_cons, List.length_nil]; omega)) fun pc Hc hpc sc qc => ?_
  repeat walk_at "af"
  have s0c := Same.trans (Same.trans (Same.trans (Same.trans (Same.trans s07 s8) s9) sa) sb) sc
  refine ⟨_, fractionOut (goodOf (caseOf x) a) ++ fractionOut (badOf (caseOf x) a) ++ [1] ++ fractionOut (((wrongM x a - c * x.unit : Int) : Rat) / ((rightM x a + wrongM x a : Int) : Rat)), rfl, ⟨pc, rfl, by rw [qc, vN_append, vN_append, vN_append]; rfl⟩, by simp only [List.length_append, fractionOut_length, List.length_cons, List.length_nil]; omega, fun Hd ud sd nd => k _ _ (Same.trans s0c sd) (end_ s0c ?_)⟩
  rw [ewt, if_neg (fun z => z.elim h5 h6)]
  rw [List.append_assoc _ [1]] at nd
  exact nd
end
end Af
set_option Elab.async false
set_option linter.all false
set_option maxRecDepth 100000
set_option maxHeartbeats 2000000
/-! # reading.py -/
namespace Af
open PySem PySem.Spec PyProof.Rows L2
open Askfirst (GivenTask GivenPlan Getter takeOne takeTwo takeInt takeList takeFlag takeTask takePlan takeMaybe getThen getMap getIf getSome getBoth flagFrom maybeFrom getNo getUnit)
local macro_rules | `(tactic| walk_at "af") => `(tactic| first
  | (with_reducible refine i_seq ?_)
  | (with_reducible refine i_asg ?_)
  | (with_reducible refine i_name ?_)
  | (with_reducible refine i_var (by with_unfolding_all rfl) ?_)
  | (with_reducible refine i_C ?_)
  | (with_reducible refine i_op ?_)
  | (with_reducible refine i_rI0 ?_)
  | (with_reducible refine i_cons ?_)
  | (with_reducible refine i_nil ?_)
  | (with_reducible refine i_callS ?_)
  | (with_reducible refine i_cb ?_)
  | (with_reducible refine i_if ?_)
  | (with_reducible refine i_test ?_)
  | (with_reducible refine i_B ?_)
  | (with_reducible refine i_bl ?_)
  | (with_reducible refine i_cmp ?_)
  | (with_reducible refine i_ij ?_)
  | (with_reducible refine i_not ?_)
  | (with_reducible refine i_and ?_)
  | (with_reducible refine i_or ?_)
  | (with_reducible refine i_andV ?_)
  | (with_reducible refine i_orV ?_)
  | (with_reducible refine i_ret ?_)
  | (with_reducible refine i_drop ?_)
  | (with_reducible refine i_next ?_)
  | (with_reducible refine i_un ?_)
  | (with_reducible refine i_rU ?_)
  | ((with_reducible refine i_rI (C := CMul) ?hc ?_); (case hc => first | exact Or.inl ⟨by omega, by omega⟩ | exact Or.inr ⟨by omega, by omega⟩))
  | ((with_reducible refine i_rI (C := fun _ j => 0 < j) ?hc ?_); (case hc => (show (0 : Int) < _; omega)))
  | ((with_reducible refine i_rI (C := CDiv) ?hc ?_); (case hc => exact ⟨by omega, by omega⟩))
  | (with_reducible refine i_tup ?_)
  | (with_reducible refine i_lst ?_)
  | (with_reducible refine i_newT (by with_unfolding_all exact Nat.le_of_ble_eq_true rfl) ?_)
  | (with_reducible refine i_newL (by with_unfolding_all exact Nat.le_of_ble_eq_true rfl) ?_)
  | (with_reducible refine i_bm ?_)
  | (with_reducible refine i_sl ?_)
  | (with_reducible refine i_part ?_)
  | (with_reducible refine i_i ?_)
  | (with_reducible refine i_nopart ?_)
  | (with_reducible refine i_isN ?_)
  | (with_reducible refine i_par ?_)
  | (with_reducible refine i_vw ?_)
  | (with_reducible refine i_par3 ?_)
  | (with_reducible refine i_uvw ?_)
  | (with_reducible refine i_gc ?_)
  | (with_reducible refine i_gn ?_)
  | (with_reducible refine i_for ?_)
  | (with_reducible refine i_lc ?_)
  | (with_reducible refine i_itL ?_)
  | (with_reducible refine i_itT ?_)
  | (with_reducible refine i_itR ?_)
  | (with_reducible refine i_itV ?_)
  | (with_reducible refine i_itZ ?_)
  | (with_reducible refine i_lstRev ?_)
  | (with_reducible refine i_tyes ?_)
  | (with_reducible refine iteT ?_)
  | (with_reducible refine i_one ?_)
  | (with_reducible refine i_two ?_))
def Oct (l : List Nat) : Prop := ∀ a ∈ l, a < 256
/-- R of the heap, by the objects at S alone -/
def Dep (S : Addr → Prop) (H : Hp) (R : Hp → Prop) : Prop := ∀ H'', (∀ b o, S b → H b = some o → H'' b = some o) → R H''
theorem Dep.up {S : Addr → Prop} {H H' : Hp} {R : Hp → Prop} (h : Dep S H R) (s : Same H H') : Dep S H' R := fun H'' hH => h H'' fun b o sb e => hH b o sb (s b o e)
theorem Dep.mut {S : Addr → Prop} {l : Addr} {H : Hp} {R : Hp → Prop} {o : HO} (h : Dep S H R) (nl : ¬ S l) : Dep S (upd H l o) R := fun H'' hH => h H'' fun b o sb e => hH b o sb (by rw [upd_ne fun z : b = l => nl (z ▸ sb)]; exact e)
theorem Dep.now {S : Addr → Prop} {H : Hp} {R : Hp → Prop} (h : Dep S H R) : R H := h H fun _ _ _ e => e
theorem Dep.mono {S S' : Addr → Prop} {H : Hp} {R : Hp → Prop} (h : Dep S H R) (f : ∀ b, S b → S' b) : Dep S' H R := fun H'' hH => h H'' fun b o sb e => hH b o (f b sb) e
theorem Dep.imp {S : Addr → Prop} {H : Hp} {R R' : Hp → Prop} (h : Dep S H R) (f : ∀ H, R H → R' H) : Dep S H R' := fun H'' hH => f _ (h H'' hH)
abbrev Fresh (H H' : Hp) (R : Hp → Prop) : Prop := Dep (fun b => H b = none) H' R
theorem Fresh.back {H0 H H' : Hp} {R : Hp → Prop} (h : Fresh H H' R) (s : Same H0 H) : Fresh H0 H' R := h.mono fun _ e => s.free e
/-- what is read at i, and where it ends; or Unreadable -/
def Rd (C : Addr) {α : Type} (g : Getter α) (Rep : Hp → Hp → V → α → Prop) (l : List Nat) (i : Nat) (H : Hp) (Q : VK) (E : XK) : Prop :=
  (g (l.drop i) = none → ∀ H', Same H H' → E (.ref C) none H') ∧
  ∀ x j, g (l.drop i) = some (x, l.drop j) → j ≤ l.length → ∀ H' t u, Same H H' → H' t = some (.tup [u, .int (j : Int)]) → Rep H H' u x → Q (.ref t) H'
def spRd (C : Addr) {α : Type} (g : Getter α) (Rep : Hp → Hp → V → α → Prop) : Sp := fun vs H Q E => ∃ (o : V) (l : List Nat) (i : Nat), vs = [o, .int (i : Int)] ∧ RL H o (vN l) ∧ Oct l ∧ i ≤ l.length ∧ Rd C g Rep l i H Q E
def ROct (_ _ : Hp) (v : V) (n : Nat) : Prop := v = .int (n : Int) ∧ n < 256
def RFlag (_ _ : Hp) (v : V) (b : Bool) : Prop := v = .int (yesI b)
def RCnt (_ _ : Hp) (v : V) (n : Nat) : Prop := v = .int (n : Int) ∧ n < 65536
def ROcts (H H' : Hp) (v : V) (l : List Nat) : Prop := New H H' v (vN l) ∧ l.length < 65536 ∧ Oct l
def RInt (_ _ : Hp) (v : V) (i : Int) : Prop := v = .int i
def RInts (H H' : Hp) (v : V) (l : List Int) : Prop := New H H' v (vI l)
def RRowsF (H H' : Hp) (v : V) (rs : List (List Int)) : Prop := Fresh H H' fun H'' => RRows H'' v rs
def RTaskF (H H' : Hp) (v : V) (x : GivenTask) : Prop := Fresh H H' fun H'' => RTask H'' v x
def RPlanF (H H' : Hp) (v : V) (p : GivenPlan) : Prop := (Fresh H H' fun H'' => RPlan H'' v p) ∧ p.asks.length < 65536
theorem one_none {l : List Nat} {i : Nat} (h : l.length ≤ i) : takeOne (l.drop i) = none := by
  rw [List.drop_eq_nil_of_le h]
  rfl
theorem one_some {l : List Nat} {i : Nat} (h : i < l.length) : takeOne (l.drop i) = some (l.getD i 0, l.drop (i + 1)) := by
  rw [List.drop_eq_getElem_cons h]
  have e : l[i] = l.getD i 0 := by simp [List.getD_eq_getElem?_getD, List.getElem?_eq_getElem h]
  rw [e]
  rfl
theorem oct_get {l : List Nat} {i : Nat} (ho : Oct l) (h : i < l.length) : l.getD i 0 < 256 := by
  refine ho _ ?_
  rw [List.getD_eq_getElem?_getD, List.getElem?_eq_getElem h]
  exact List.getElem_mem _
theorem cut_vN {l : List Nat} {i n : Nat} (h : i + n ≤ l.length) : cutV (vN l) (some (i : Int)) (some ((i + n : Nat) : Int)) = vN ((l.drop i).take n) := by
  unfold cutV
  rw [HT.sIx_nat, HT.sIx_nat, List.length_map, Nat.min_eq_left (show i ≤ l.length by omega), Nat.min_eq_left h, ← List.map_drop, ← List.map_take]
  congr 2
  omega
section
variable {P : Program} {w : World} {K : PySem.W.Frag} {mg : Str → Option Value} {base : Heap} {d : Addr} {as : Nat → Addr} {C : Addr}
theorem ok_octet_at (T : Txt K mg d as C) : Ok P w K mg base (L2N.CX P w) 1 "octet_at" ["octets", "at"] (spRd C takeOne ROct) := by
  refine T.d_octet_at.okN sc_octet_at (fun vs H Q E h => ?_) fun f cdv A outer s H vs Q E hr h => ⟨_, (pss_cons (ps_if (pt_cmpR op_ge (pv 1) (pe_callB call_len_seq (by rfl) T.blen PySem.boot_len (pa_cons (pv 0) pa_nil)) (nomark _)) (pss_one (L2N.ps_raise rfl (L2N.takes_of rfl rfl rfl rfl) (pmk_own0 PySem.F.excBase_Exception T.xU T.gU T.kU (raises_own T.bU T.tU) (by exact rfl)))) pss_nil)
      (pss_one (ps_ret (pe_tup (pa_cons (pe_ix ix_list (pv 0) (pv 1) (fun _ _ => rfl)) (pa_cons (pe_op op_add (pv 1) pe_int) pa_nil)))))), ?_⟩
  · obtain ⟨o, l, i, rfl, _⟩ := h
    rfl
  obtain ⟨o, l, i, rfl, ⟨p, rfl, hp⟩, ho, hi, k⟩ := h
  repeat walk_at "af"
  refine i_len (SqL.of hp) ?_
  repeat walk_at "af"
  have e0 : (vN l).length = l.length := by simp
  refine i_dec (fun h1 => ?_) fun h1 => ?_
  · repeat walk_at "af"
    exact k.1 (one_none (by omega)) _ (Same.refl _)
  repeat walk_at "af"
  have hil : i < l.length := by omega
  refine i_ixL (j := i) (SqL.of hp) rfl (vN_get hil) ?_
  repeat walk_at "af"
  intro t H1 ht s1 q1
  exact k.2 _ (i + 1) (one_some hil) hil _ _ _ s1 q1 ⟨rfl, oct_get ho hil⟩
theorem ok_flag_at (T : Txt K mg d as C) : Ok P w K mg base (L2N.CX P w) 2 "flag_at" ["octets", "at"] (spRd C takeFlag RFlag) := by
  have G_octet_at := ok_octet_at (P := P) (w := w) (base := base) T
  refine T.d_flag_at.okN sc_flag_at (fun vs H Q E h => ?_) fun f cdv A outer s H vs Q E hr h => ⟨_, (pss_cons (ps_asg (pe_cl G_octet_at (hr.mono (by decide)) (fun σ => passN (L2N.takes_of rfl rfl rfl rfl) σ) (pa_cons (pv 0) (pa_cons (pv 1) pa_nil))) (pg_tup rfl (pgs_cons (pg_name (i := 2) sc_flag_at.nd rfl (Or.inl rfl)) (pgs_cons (pg_name (i := 3) sc_flag_at.nd rfl (Or.inl rfl)) pgs_nil))))
      (pss_cons (ps_if (pt_cmpR op_gt (pv 2) pe_int (nomark _)) (pss_one (L2N.ps_raise rfl (L2N.takes_of rfl rfl rfl rfl) (pmk_own0 PySem.F.excBase_Exception T.xU T.gU T.kU (raises_own T.bU T.tU) (by exact rfl)))) pss_nil)
      (pss_one (ps_ret (pe_tup (pa_cons (pv 2) (pa_cons (pv 3) pa_nil))))))), ?_⟩
  · obtain ⟨o, l, i, rfl, _⟩ := h
    rfl
  obtain ⟨o, l, i, rfl, hl, ho, hi, k⟩ := h
  repeat walk_at "af"
  refine ⟨_, l, i, rfl, hl, ho, hi, fun hn H1 s1 => k.1 ?_ _ s1, fun x j hx hj H1 t u s1 ht hu => ?_⟩
  · unfold takeFlag getIf
    rw [hn]
    rfl
  obtain ⟨rfl, hx2⟩ := hu
  refine i_gT (SqT.of ht) rfl ?_
  repeat walk_at "af"
  have ef : takeFlag (l.drop i) = (flagFrom x).map fun b => (b, l.drop j) := by
    unfold takeFlag getIf
    rw [hx]
    rfl
  unfold flagFrom at ef
  refine i_dec (fun h1 => ?_) fun h1 => ?_
  · repeat walk_at "af"
    refine k.1 ?_ _ s1
    rw [ef, if_neg (by omega), if_neg (by omega)]
    rfl
  repeat walk_at "af"
  intro t2 H2 ht2 s2 q2
  have hx3 : x = 0 ∨ x = 1 := by omega
  rcases hx3 with rfl | rfl
  · exact k.2 false j ef hj _ _ _ (Same.trans s1 s2) q2 rfl
  · exact k.2 true j ef hj _ _ _ (Same.trans s1 s2) q2 rfl
theorem ok_count_at (T : Txt K mg d as C) : Ok P w K mg base (L2N.CX P w) 2 "count_at" ["octets", "at"] (spRd C takeTwo RCnt) := by
  have G_octet_at := ok_octet_at (P := P) (w := w) (base := base) T
  refine T.d_count_at.okN sc_count_at (fun vs H Q E h => ?_) fun f cdv A outer s H vs Q E hr h => ⟨_, (pss_cons (ps_asg (pe_cl G_octet_at (hr.mono (by decide)) (fun σ => passN (L2N.takes_of rfl rfl rfl rfl) σ) (pa_cons (pv 0) (pa_cons (pv 1) pa_nil))) (pg_tup rfl (pgs_cons (pg_name (i := 2) sc_count_at.nd rfl (Or.inl rfl)) (pgs_cons (pg_name (i := 3) sc_count_at.nd rfl (Or.inl rfl)) pgs_nil))))
      (pss_cons (ps_asg (pe_cl G_octet_at (hr.mono (by decide)) (fun σ => passN (L2N.takes_of rfl rfl rfl rfl) σ) (pa_cons (pv 0) (pa_cons (pv 3) pa_nil))) (pg_tup rfl (pgs_cons (pg_name (i := 4) sc_count_at.nd rfl (Or.inl rfl)) (pgs_cons (pg_name (i := 5) sc_count_at.nd rfl (Or.inl rfl)) pgs_nil))))
      (pss_one (ps_ret (pe_tup (pa_cons (pe_op op_add (pv 2) (pe_op op_mul pe_int (pv 4))) (pa_cons (pv 5) pa_nil))))))), ?_⟩
  · obtain ⟨o, l, i, rfl, _⟩ := h
    rfl
  obtain ⟨o, l, i, rfl, hl, ho, hi, k⟩ := h
  rw [takeTwo_is] at k
  repeat walk_at "af"
  refine ⟨_, l, i, rfl, hl, ho, hi, fun hn H1 s1 => k.1 ?_ _ s1, fun x j hx hj H1 t u s1 ht hu => ?_⟩
  · unfold getThen
    rw [hn]
    rfl
  obtain ⟨rfl, hx2⟩ := hu
  refine i_gT (SqT.of ht) rfl ?_
  repeat walk_at "af"
  refine ⟨_, l, j, rfl, hl.up s1, ho, hj, fun hn H2 s2 => k.1 ?_ _ (Same.trans s1 s2), fun y j2 hy hj2 H2 t2 u2 s2 ht2 hu2 => ?_⟩
  · unfold getThen getMap
    rw [hx]
    show (takeOne (l.drop j)).map _ = none
    rw [hn]
    rfl
  obtain ⟨rfl, hy2⟩ := hu2
  refine i_gT (SqT.of ht2) rfl ?_
  repeat walk_at "af"
  intro t3 H3 ht3 s3 q3
  refine k.2 (x + 256 * y) j2 ?_ hj2 _ _ _ (Same.trans (Same.trans s1 s2) s3) q3 ⟨congrArg V.int (by omega), by omega⟩
  unfold getThen getMap
  rw [hx]
  show (takeOne (l.drop j)).map _ = _
  rw [hy]
  rfl
theorem ok_octets_at (T : Txt K mg d as C) : Ok P w K mg base (L2N.CX P w) 3 "octets_at" ["octets", "at"] (spRd C (takeList takeOne) ROcts) := by
  have G_count_at := ok_count_at (P := P) (w := w) (base := base) T
  refine T.d_octets_at.okN sc_octets_at (fun vs H Q E h => ?_) fun f cdv A outer s H vs Q E hr h => ⟨_, (pss_cons (ps_asg (pe_cl G_count_at (hr.mono (by decide)) (fun σ => passN (L2N.takes_of rfl rfl rfl rfl) σ) (pa_cons (pv 0) (pa_cons (pv 1) pa_nil))) (pg_tup rfl (pgs_cons (pg_name (i := 2) sc_octets_at.nd rfl (Or.inl rfl)) (pgs_cons (pg_name (i := 3) sc_octets_at.nd rfl (Or.inl rfl)) pgs_nil))))
      (pss_cons (ps_set (i := 4) sc_octets_at.nd rfl (Or.inl rfl) (pe_op op_add (pv 3) (pv 2)))
      (pss_cons (ps_if (pt_cmpR op_gt (pv 4) (pe_callB call_len_seq (by rfl) T.blen PySem.boot_len (pa_cons (pv 0) pa_nil)) (nomark _)) (pss_one (L2N.ps_raise rfl (L2N.takes_of rfl rfl rfl rfl) (pmk_own0 PySem.F.excBase_Exception T.xU T.gU T.kU (raises_own T.bU T.tU) (by exact rfl)))) pss_nil)
      (pss_one (ps_ret (pe_tup (pa_cons (pe_slice sl_list (pv 0) (po_some (pv 3)) (po_some (pv 4))) (pa_cons (pv 4) pa_nil)))))))), ?_⟩
  · obtain ⟨o, l, i, rfl, _⟩ := h
    rfl
  obtain ⟨o, l, i, rfl, ⟨p, rfl, hp⟩, ho, hi, k⟩ := h
  repeat walk_at "af"
  refine ⟨_, l, i, rfl, ⟨p, rfl, hp⟩, ho, hi, fun hn H1 s1 => k.1 ?_ _ s1, fun x j hx hj H1 t u s1 ht hu => ?_⟩
  · unfold takeList getThen
    rw [hn]
    rfl
  obtain ⟨rfl, hx2⟩ := hu
  refine i_gT (SqT.of ht) rfl ?_
  repeat walk_at "af"
  refine i_len (SqL.of (s1 _ _ hp)) ?_
  repeat walk_at "af"
  have e0 : (vN l).length = l.length := by simp
  have el : takeList takeOne (l.drop i) = if x ≤ (l.drop j).length then some ((l.drop j).take x, (l.drop j).drop x) else none := by
    unfold takeList getThen
    rw [hx]
    exact some_one x (l.drop j)
  rw [List.length_drop, List.drop_drop] at el
  refine i_dec (fun h1 => ?_) fun h1 => ?_
  · repeat walk_at "af"
    refine k.1 ?_ _ s1
    rw [el, if_neg (by omega)]
  have h2 : j + x ≤ l.length := by omega
  repeat walk_at "af"
  have ec : ((j : Int) + (x : Int)) = ((j + x : Nat) : Int) := by omega
  rw [ec]
  refine i_slL (SqL.of (s1 _ _ hp)) fun p2 H2 hp2 s2 q2 => ?_
  rw [cut_vN h2] at q2
  repeat walk_at "af"
  intro t3 H3 ht3 s3 q3
  refine k.2 ((l.drop j).take x) (j + x) ?_ h2 _ _ _ (Same.trans (Same.trans s1 s2) s3) q3 ⟨⟨p2, rfl, s1.free hp2, s3 _ _ q2⟩, ?_, fun a ha => ho a (List.mem_of_mem_drop (List.mem_of_mem_take ha))⟩
  · rw [el, if_pos (by omega)]
  · rw [List.length_take]
    omega
theorem ok_integer_at (T : Txt K mg d as C) : Ok P w K mg base (L2N.CX P w) 1 "integer_at" ["octets", "at"] (spRd C takeInt RInt) := by
  refine T.d_integer_at.okN sc_integer_at (fun vs H Q E h => ?_) fun f cdv A outer s H vs Q E hr h => ⟨_, (pss_cons (ps_set (i := 2) sc_integer_at.nd rfl (Or.inl rfl) (pe_op op_add (pv 1) pe_int))
      (pss_cons (ps_if (pt_cmpR op_gt (pv 2) (pe_callB call_len_seq (by rfl) T.blen PySem.boot_len (pa_cons (pv 0) pa_nil)) (nomark _)) (pss_one (L2N.ps_raise rfl (L2N.takes_of rfl rfl rfl rfl) (pmk_own0 PySem.F.excBase_Exception T.xU T.gU T.kU (raises_own T.bU T.tU) (by exact rfl)))) pss_nil)
      (pss_cons (ps_set (i := 3) sc_integer_at.nd rfl (Or.inl rfl) pe_int)
      (pss_cons (ps_for PassesOwn.leaving rfl (pi_reversed (by rfl) T.breversed (pa_cons (pe_slice sl_list (pv 0) (po_some (pv 1)) (po_some (pv 2))) pa_nil)) (pg_name (i := 4) sc_integer_at.nd rfl (Or.inl rfl))
      (pss_one (ps_set (i := 3) sc_integer_at.nd rfl (Or.inl rfl) (pe_op op_add (pe_op op_mul (pv 3) pe_int) (pv 4)))))
      (pss_cons (ps_if (pt_cmpR op_ge (pe_ix ix_list (pv 0) (pe_op op_sub (pv 2) pe_int) (fun _ _ => rfl)) pe_int (nomark _)) (pss_one (ps_set (i := 3) sc_integer_at.nd rfl (Or.inl rfl) (pe_op op_sub (pv 3) (pe_op op_pow pe_int pe_int)))) pss_nil)
      (pss_cons (ps_if (PW.pt (pw_or (pt_cmpR op_lt (pv 3) (pe_un un_neg (pe_const T.cBOUND)) (nomark _)) (pw_or1 (pt_cmpR op_gt (pv 3) (pe_const T.cBOUND) (nomark _))))) (pss_one (L2N.ps_raise rfl (L2N.takes_of rfl rfl rfl rfl) (pmk_own0 PySem.F.excBase_Exception T.xU T.gU T.kU (raises_own T.bU T.tU) (by exact rfl)))) pss_nil)
      (pss_one (ps_ret (pe_tup (pa_cons (pv 3) (pa_cons (pv 2) pa_nil))))))))))), ?_⟩
  · obtain ⟨o, l, i, rfl, _⟩ := h
    rfl
  obtain ⟨o, l, i, rfl, ⟨p, rfl, hp⟩, ho, hi, k⟩ := h
  repeat walk_at "af"
  refine i_len (SqL.of hp) ?_
  repeat walk_at "af"
  have e0 : (vN l).length = l.length := by simp
  refine i_dec (fun h1 => ?_) fun h1 => ?_
  · repeat walk_at "af"
    exact k.1 (takeInt_short (by rw [List.length_drop]; omega)) _ (Same.refl _)
  have h2 : i + 8 ≤ l.length := by omega
  have ho8 : Oct ((l.drop i).take 8) := fun a ha => ho a (List.mem_of_mem_drop (List.mem_of_mem_take ha))
  have l8 : ((l.drop i).take 8).length = 8 := by rw [List.length_take, List.length_drop]; omega
  have hti := takeInt_long (l := l.drop i) (by rw [List.length_drop]; omega) (fun a ha => ho a (List.mem_of_mem_drop ha))
  repeat walk_at "af"
  have ec : ((i : Int) + 8) = ((i + 8 : Nat) : Int) := by omega
  rw [ec]
  refine i_slL (SqL.of hp) fun p2 H2 hp2 s2 q2 => ?_
  rw [cut_vN h2] at q2
  generalize hz : (l.drop i).take 8 = z at hti ho8 l8 q2
  repeat walk_at "af"
  refine i_wV (SqL.of q2) ?_
  have ez : (vN z).length = 8 := by rw [List.length_map]; exact l8
  refine i_forW (walk_rev (xs := vN z)) (fun n σ H' => ∃ (a1 : Option V), σ = [some (.ref p), some (.int (i : Int)), some (.int ((i + 8 : Nat) : Int)), some (.int (numM (z.drop (8 - n)) : Int)), a1] ∧ H' = H2)
    ⟨none, by rw [← l8, Nat.sub_zero, List.drop_length]; rfl, rfl⟩ (fun i σ H' _ hP => ?_) (fun n y σ H3 H4 hn hP hy => ?_) fun σ H3 hP => ?_
  · obtain ⟨a1, _, rfl⟩ := hP
    exact SqL.of q2
  · obtain ⟨a1, rfl, rfl⟩ := hP
    obtain ⟨rfl, hy⟩ := hy
    rw [ez] at hn
    have hnz : z.length - 1 - n < z.length := by omega
    rw [List.length_map, vN_get hnz] at hy
    cases hy
    have hb := numM_lt (z.drop (8 - n)) fun a ha => ho8 a (List.mem_of_mem_drop ha)
    have hb2 : 256 ^ (z.drop (8 - n)).length ≤ 256 ^ 7 := Nat.pow_le_pow_right (by decide) (by rw [List.length_drop]; omega)
    have hb3 := oct_get ho8 hnz
    have hlt : ((numM (z.drop (8 - n)) : Nat) : Int) < 256 ^ 7 := by
      have e : ((256 : Int) ^ 7) = ((256 ^ 7 : Nat) : Int) := rfl
      rw [e]
      omega
    repeat walk_at "af"
    refine ⟨some (.int ((z.getD (z.length - 1 - n) 0 : Nat) : Int)), ?_, rfl⟩
    have hd := drop_more (l := z) (i := n) (by omega)
    rw [l8] at hd ⊢
    have e4 : ((numM (z.drop (8 - (n + 1))) : Nat) : Int) = (numM (z.drop (8 - n)) : Int) * 256 + (z.getD (8 - 1 - n) 0 : Nat) := by
      rw [hd]
      show ((numM (z.drop (8 - n)) * 256 + z.getD (8 - 1 - n) 0 : Nat) : Int) = _
      omega
    rw [e4]
    rfl
  · obtain ⟨a1, rfl, rfl⟩ := hP
    rw [ez, Nat.sub_self, List.drop_zero]
    have hgd : (l.drop i).getD 7 0 = l.getD (i + 7) 0 := by
      rw [List.getD_eq_getElem?_getD, List.getElem?_drop, ← List.getD_eq_getElem?_getD]
    rw [hgd] at hti
    have hlt := numM_lt z ho8
    rw [l8] at hlt
    generalize hk : numM z = kz at hti hlt
    repeat walk_at "af"
    have ei : (((i + 8 : Nat) : Int) - 1) = ((i + 7 : Nat) : Int) := by omega
    rw [ei]
    refine i_ixL (j := i + 7) (SqL.of (s2 _ _ hp)) rfl (vN_get (by omega)) ?_
    repeat walk_at "af"
    refine i_dec (fun h3 => ?_) fun h3 => ?_
    · repeat walk_at "af"
      refine i_rI (C := CPow) ⟨by omega, by omega, by decide⟩ ?_
      repeat walk_at "af"
      refine i_dec (fun h4 => ?_) fun h4 => ?_
      · repeat walk_at "af"
        refine k.1 ?_ _ s2
        rw [hti, if_pos]
        unfold intM
        rw [if_pos (by omega)]
        exact Or.inl h4
      repeat walk_at "af"
      refine i_dec (fun h5 => ?_) fun h5 => ?_
      · repeat walk_at "af"
        refine k.1 ?_ _ s2
        rw [hti, if_pos]
        unfold intM
        rw [if_pos (by omega)]
        exact Or.inr h5
      repeat walk_at "af"
      intro t5 H5 ht5 s5 q5
      refine k.2 _ (i + 8) ?_ h2 _ _ _ (Same.trans s2 s5) q5 rfl
      rw [hti, if_neg, List.drop_drop]
      · unfold intM
        rw [if_pos (by omega)]
        rfl
      · unfold intM
        rw [if_pos (by omega)]
        exact fun z => z.elim h4 h5
    · repeat walk_at "af"
      refine i_dec (fun h4 => ?_) fun h4 => ?_
      · repeat walk_at "af"
        refine k.1 ?_ _ s2
        rw [hti, if_pos]
        unfold intM
        rw [if_neg (by omega)]
        exact Or.inl h4
      repeat walk_at "af"
      refine i_dec (fun h5 => ?_) fun h5 => ?_
      · repeat walk_at "af"
        refine k.1 ?_ _ s2
        rw [hti, if_pos]
        unfold intM
        rw [if_neg (by omega)]
        exact Or.inr h5
      repeat walk_at "af"
      intro t5 H5 ht5 s5 q5
      refine k.2 _ (i + 8) ?_ h2 _ _ _ (Same.trans s2 s5) q5 rfl
      rw [hti, if_neg, List.drop_drop]
      · unfold intM
        rw [if_neg (by omega)]
      · unfold intM
        rw [if_neg (by omega)]
        exact fun z => z.elim h4 h5
end
end Af
set_option Elab.async false
set_option linter.all false
set_option maxRecDepth 100000
set_option maxHeartbeats 2000000
/-! # reading.py, second part -/
namespace Af
open PySem PySem.Spec PyProof.Rows L2
open Askfirst (GivenTask GivenPlan Getter takeOne takeTwo takeInt takeList takeFlag takeTask takePlan takeMaybe getThen getMap getIf getSome getBoth flagFrom maybeFrom getNo getUnit)
local macro_rules | `(tactic| walk_at "af") => `(tactic| first
  | (with_reducible refine i_seq ?_)
  | (with_reducible refine i_asg ?_)
  | (with_reducible refine i_name ?_)
  | (with_reducible refine i_var (by with_unfolding_all rfl) ?_)
  | (with_reducible refine i_C ?_)
  | (with_reducible refine i_op ?_)
  | (with_reducible refine i_rI0 ?_)
  | (with_reducible refine i_cons ?_)
  | (with_reducible refine i_nil ?_)
  | (with_reducible refine i_callS ?_)
  | (with_reducible refine i_cb ?_)
  | (with_reducible refine i_if ?_)
  | (with_reducible refine i_test ?_)
  | (with_reducible refine i_B ?_)
  | (with_reducible refine i_bl ?_)
  | (with_reducible refine i_cmp ?_)
  | (with_reducible refine i_ij ?_)
  | (with_reducible refine i_not ?_)
  | (with_reducible refine i_and ?_)
  | (with_reducible refine i_or ?_)
  | (with_reducible refine i_andV ?_)
  | (with_reducible refine i_orV ?_)
  | (with_reducible refine i_ret ?_)
  | (with_reducible refine i_drop ?_)
  | (with_reducible refine i_next ?_)
  | (with_reducible refine i_un ?_)
  | (with_reducible refine i_rU ?_)
  | ((with_reducible refine i_rI (C := CMul) ?hc ?_); (case hc => first | exact Or.inl ⟨by omega, by omega⟩ | exact Or.inr ⟨by omega, by omega⟩))
  | ((with_reducible refine i_rI (C := fun _ j => 0 < j) ?hc ?_); (case hc => (show (0 : Int) < _; omega)))
  | ((with_reducible refine i_rI (C := CDiv) ?hc ?_); (case hc => exact ⟨by omega, by omega⟩))
  | (with_reducible refine i_tup ?_)
  | (with_reducible refine i_lst ?_)
  | (with_reducible refine i_newT (by with_unfolding_all exact Nat.le_of_ble_eq_true rfl) ?_)
  | (with_reducible refine i_newL (by with_unfolding_all exact Nat.le_of_ble_eq_true rfl) ?_)
  | (with_reducible refine i_bm ?_)
  | (with_reducible refine i_sl ?_)
  | (with_reducible refine i_part ?_)
  | (with_reducible refine i_i ?_)
  | (with_reducible refine i_nopart ?_)
  | (with_reducible refine i_isN ?_)
  | (with_reducible refine i_par ?_)
  | (with_reducible refine i_vw ?_)
  | (with_reducible refine i_par3 ?_)
  | (with_reducible refine i_uvw ?_)
  | (with_reducible refine i_gc ?_)
  | (with_reducible refine i_gn ?_)
  | (with_reducible refine i_for ?_)
  | (with_reducible refine i_lc ?_)
  | (with_reducible refine i_itL ?_)
  | (with_reducible refine i_itT ?_)
  | (with_reducible refine i_itR ?_)
  | (with_reducible refine i_itV ?_)
  | (with_reducible refine i_itZ ?_)
  | (with_reducible refine i_lstRev ?_)
  | (with_reducible refine i_tyes ?_)
  | (with_reducible refine iteT ?_)
  | (with_reducible refine i_one ?_)
  | (with_reducible refine i_two ?_))
section
variable {P : Program} {w : World} {K : PySem.W.Frag} {mg : Str → Option Value} {base : Heap} {d : Addr} {as : Nat → Addr} {C : Addr}
theorem ok_integers_at (T : Txt K mg d as C) : Ok P w K mg base (L2N.CX P w) 3 "integers_at" ["octets", "at"] (spRd C (takeList takeInt) RInts) := by
  have G_count_at := ok_count_at (P := P) (w := w) (base := base) T
  have G_integer_at := ok_integer_at (P := P) (w := w) (base := base) T
  refine T.d_integers_at.okN sc_integers_at (fun vs H Q E h => ?_) fun f cdv A outer s H vs Q E hr h => ⟨_, (pss_cons (ps_asg (pe_cl G_count_at (hr.mono (by decide)) (fun σ => passN (L2N.takes_of rfl rfl rfl rfl) σ) (pa_cons (pv 0) (pa_cons (pv 1) pa_nil))) (pg_tup rfl (pgs_cons (pg_name (i := 2) sc_integers_at.nd rfl (Or.inl rfl)) (pgs_cons (pg_name (i := 3) sc_integers_at.nd rfl (Or.inl rfl)) pgs_nil))))
      (pss_cons (ps_set (i := 4) sc_integers_at.nd rfl (Or.inl rfl) (pe_lst pa_nil))
      (pss_cons (ps_for PassesOwn.leaving rfl (pi_range1 (by rfl) T.brange (pa_cons (pv 2) pa_nil)) (pg_name (i := 5) sc_integers_at.nd rfl (Or.inl rfl))
      (pss_cons (ps_asg (pe_cl G_integer_at (hr.mono (by decide)) (fun σ => passN (L2N.takes_of rfl rfl rfl rfl) σ) (pa_cons (pv 0) (pa_cons (pv 3) pa_nil))) (pg_tup rfl (pgs_cons (pg_name (i := 6) sc_integers_at.nd rfl (Or.inl rfl)) (pgs_cons (pg_name (i := 3) sc_integers_at.nd rfl (Or.inl rfl)) pgs_nil))))
      (pss_one (ps_expr (pe_bm PySem.F.plainAttrs_list PySem.F.slot_list_append PySem.F.type_list_append mt_append (pv 4) (pa_cons (pv 6) pa_nil))))))
      (pss_one (ps_ret (pe_tup (pa_cons (pv 4) (pa_cons (pv 3) pa_nil)))))))), ?_⟩
  · obtain ⟨o, l, i, rfl, _⟩ := h
    rfl
  obtain ⟨o, l, i, rfl, hl, ho, hi, k⟩ := h
  repeat walk_at "af"
  refine ⟨_, l, i, rfl, hl, ho, hi, fun hn H1 s1 => k.1 ?_ _ s1, fun m j0 hx hj0 H1 t u s1 ht hu => ?_⟩
  · unfold takeList getThen
    rw [hn]
    rfl
  obtain ⟨rfl, hm⟩ := hu
  have el : takeList takeInt (l.drop i) = getSome takeInt m (l.drop j0) := by
    unfold takeList getThen
    rw [hx]
    rfl
  rw [Rd, el] at k
  refine i_gT (SqT.of ht) rfl ?_
  repeat walk_at "af"
  intro ln H2 hln s2 q2
  repeat walk_at "af"
  refine i_wR (by omega) ?_
  refine i_forW walk_range (fun n σ H' => ∃ (a1 a2 : Option V) (j : Nat) (pre : List Int), σ = [some o, some (.int (i : Int)), some (.int (m : Int)), some (.int (j : Int)), some (.ref ln), a1, a2] ∧ Same H1 H' ∧ H' ln = some (.lst (vI pre)) ∧ pre.length = n ∧ j ≤ l.length ∧
      getSome takeInt m (l.drop j0) = (getSome takeInt (m - n) (l.drop j)).map fun q => (pre ++ q.1, q.2))
    ⟨none, none, j0, [], rfl, s2, q2, rfl, hj0, by cases getSome takeInt m (l.drop j0) <;> rfl⟩ (fun _ _ _ _ _ => trivial) (fun n y σ H3 H4 hn hP hy => ?_) fun σ H3 hP => ?_
  · obtain ⟨a1, a2, j, pre, rfl, s3, q3, hpl, hj, hg⟩ := hP
    obtain ⟨rfl, hyv⟩ := hy
    subst hyv
    obtain ⟨m', hm'⟩ : ∃ m', m - n = m' + 1 := ⟨m - n - 1, by omega⟩
    rw [hm'] at hg
    have hm2 : m - (n + 1) = m' := by omega
    repeat walk_at "af"
    refine ⟨_, l, j, rfl, hl.up (Same.trans s1 s3), ho, hj, fun hn5 H5 s5 => k.1 ?_ _ (Same.trans (Same.trans s1 s3) s5), fun x j5 hx5 hj5 H5 t5 u5 s5 ht5 hu5 => ?_⟩
    · rw [hg, some_none hn5]
      rfl
    obtain rfl := hu5
    refine i_gT (SqT.of ht5) rfl ?_
    repeat walk_at "af"
    refine ⟨tyl (s5 _ _ q3), ?_⟩
    repeat walk_at "af"
    refine i_app (s5 _ _ q3) (size_lt (by simp; omega)) ?_
    refine ⟨some (.int (0 + (n : Int))), some (.int x), j5, pre ++ [x], rfl, Same.mut (Same.trans s3 s5) hln, by rw [upd_same, vI_append]; rfl, by simp [hpl], hj5, ?_⟩
    rw [hg, some_more hx5, hm2]
    cases getSome takeInt m' (l.drop j5) with
    | none => rfl
    | some q => simp
  · obtain ⟨a1, a2, j, pre, rfl, s3, q3, hpl, hj, hg⟩ := hP
    repeat walk_at "af"
    intro t4 H4 ht4 s4 q4
    rw [Nat.sub_self] at hg
    refine k.2 pre j ?_ hj _ _ _ (Same.trans (Same.trans s1 s3) s4) q4 ⟨ln, rfl, s1.free hln, s4 _ _ q3⟩
    rw [hg]
    show some (pre ++ [], l.drop j) = _
    rw [List.append_nil]
theorem ok_rows_at (T : Txt K mg d as C) : Ok P w K mg base (L2N.CX P w) 4 "rows_at" ["octets", "at"] (spRd C (takeList (takeList takeInt)) RRowsF) := by
  have G_count_at := ok_count_at (P := P) (w := w) (base := base) T
  have G_integers_at := ok_integers_at (P := P) (w := w) (base := base) T
  refine T.d_rows_at.okN sc_rows_at (fun vs H Q E h => ?_) fun f cdv A outer s H vs Q E hr h => ⟨_, (pss_cons (ps_asg (pe_cl G_count_at (hr.mono (by decide)) (fun σ => passN (L2N.takes_of rfl rfl rfl rfl) σ) (pa_cons (pv 0) (pa_cons (pv 1) pa_nil))) (pg_tup rfl (pgs_cons (pg_name (i := 2) sc_rows_at.nd rfl (Or.inl rfl)) (pgs_cons (pg_name (i := 3) sc_rows_at.nd rfl (Or.inl rfl)) pgs_nil))))
      (pss_cons (ps_set (i := 4) sc_rows_at.nd rfl (Or.inl rfl) (pe_lst pa_nil))
      (pss_cons (ps_for PassesOwn.leaving rfl (pi_range1 (by rfl) T.brange (pa_cons (pv 2) pa_nil)) (pg_name (i := 5) sc_rows_at.nd rfl (Or.inl rfl))
      (pss_cons (ps_asg (pe_cl G_integers_at (hr.mono (by decide)) (fun σ => passN (L2N.takes_of rfl rfl rfl rfl) σ) (pa_cons (pv 0) (pa_cons (pv 3) pa_nil))) (pg_tup rfl (pgs_cons (pg_name (i := 6) sc_rows_at.nd rfl (Or.inl rfl)) (pgs_cons (pg_name (i := 3) sc_rows_at.nd rfl (Or.inl rfl)) pgs_nil))))
      (pss_one (ps_expr (pe_bm PySem.F.plainAttrs_list PySem.F.slot_list_append PySem.F.type_list_append mt_append (pv 4) (pa_cons (pv 6) pa_nil))))))
      (pss_one (ps_ret (pe_tup (pa_cons (pv 4) (pa_cons (pv 3) pa_nil)))))))), ?_⟩
  · obtain ⟨o, l, i, rfl, _⟩ := h
    rfl
  obtain ⟨o, l, i, rfl, hl, ho, hi, k⟩ := h
  repeat walk_at "af"
  refine ⟨_, l, i, rfl, hl, ho, hi, fun hn H1 s1 => k.1 ?_ _ s1, fun m j0 hx hj0 H1 t u s1 ht hu => ?_⟩
  · unfold takeList getThen
    rw [hn]
    rfl
  obtain ⟨rfl, hm⟩ := hu
  have el : takeList (takeList takeInt) (l.drop i) = getSome (takeList takeInt) m (l.drop j0) := by
    show (takeTwo (l.drop i)).bind _ = _
    rw [hx]
    rfl
  rw [Rd, el] at k
  refine i_gT (SqT.of ht) rfl ?_
  repeat walk_at "af"
  intro ln H2 hln s2 q2
  repeat walk_at "af"
  refine i_wR (by omega) ?_
  refine i_forW walk_range (fun n σ H' => ∃ (a1 a2 : Option V) (j : Nat) (pre : List (List Int)) (vs : List V), σ = [some o, some (.int (i : Int)), some (.int (m : Int)), some (.int (j : Int)), some (.ref ln), a1, a2] ∧ Same H1 H' ∧ H' ln = some (.lst vs) ∧ pre.length = n ∧ j ≤ l.length ∧
      All2 (fun v (r : List Int) => ∃ p, v = .ref p ∧ H1 p = none ∧ p ≠ ln ∧ H' p = some (.lst (vI r))) vs pre ∧
      getSome (takeList takeInt) m (l.drop j0) = (getSome (takeList takeInt) (m - n) (l.drop j)).map fun q => (pre ++ q.1, q.2))
    ⟨none, none, j0, [], [], rfl, s2, q2, rfl, hj0, All2.nil, by cases getSome (takeList takeInt) m (l.drop j0) <;> rfl⟩ (fun _ _ _ _ _ => trivial) (fun n y σ H3 H4 hn hP hy => ?_) fun σ H3 hP => ?_
  · obtain ⟨a1, a2, j, pre, vs, rfl, s3, q3, hpl, hj, ha, hg⟩ := hP
    obtain ⟨rfl, hyv⟩ := hy
    subst hyv
    obtain ⟨m', hm'⟩ : ∃ m', m - n = m' + 1 := ⟨m - n - 1, by omega⟩
    rw [hm'] at hg
    have hm2 : m - (n + 1) = m' := by omega
    repeat walk_at "af"
    refine ⟨_, l, j, rfl, hl.up (Same.trans s1 s3), ho, hj, fun hn5 H5 s5 => k.1 ?_ _ (Same.trans (Same.trans s1 s3) s5), fun x j5 hx5 hj5 H5 t5 u5 s5 ht5 hu5 => ?_⟩
    · rw [hg, some_none hn5]
      rfl
    obtain ⟨p5, rfl, hp5, q5⟩ := hu5
    refine i_gT (SqT.of ht5) rfl ?_
    repeat walk_at "af"
    refine ⟨tyl (s5 _ _ q3), ?_⟩
    repeat walk_at "af"
    have hvl := ha.1
    refine i_app (s5 _ _ q3) (size_lt (by omega)) ?_
    have npl : p5 ≠ ln := fun z => by
      rw [z, q3] at hp5
      cases hp5
    refine ⟨some (.int (0 + (n : Int))), some (.ref p5), j5, pre ++ [x], vs ++ [.ref p5], rfl, Same.mut (Same.trans s3 s5) hln, upd_same, by simp [hpl], hj5, ?_, ?_⟩
    · refine All2.snoc (ha.imp fun v r hv => ?_) ⟨p5, rfl, s3.free hp5, npl, by rw [upd_ne npl]; exact q5⟩
      obtain ⟨p, rfl, h1, h2, h3⟩ := hv
      exact ⟨p, rfl, h1, h2, by rw [upd_ne h2]; exact s5 _ _ h3⟩
    · rw [hg, some_more hx5, hm2]
      cases getSome (takeList takeInt) m' (l.drop j5) with
      | none => rfl
      | some q => simp
  · obtain ⟨a1, a2, j, pre, vs, rfl, s3, q3, hpl, hj, ha, hg⟩ := hP
    repeat walk_at "af"
    intro t4 H4 ht4 s4 q4
    rw [Nat.sub_self] at hg
    refine k.2 pre j ?_ hj _ _ _ (Same.trans (Same.trans s1 s3) s4) q4 fun H'' hH => ?_
    · rw [hg]
      show some (pre ++ [], l.drop j) = _
      rw [List.append_nil]
    · refine ⟨vs, ⟨ln, rfl, hH _ _ (s1.free hln) (s4 _ _ q3)⟩, ha.imp fun v r hv => ?_⟩
      obtain ⟨p, rfl, h1, h2, h3⟩ := hv
      exact ⟨p, rfl, hH _ _ (s1.free h1) (s4 _ _ h3)⟩
theorem both_none {α β : Type} {f : Getter α} {g : Getter β} {l : List Nat} (h : f l = none) : getBoth f g l = none := by
  show (f l).bind _ = none
  rw [h]
  rfl
theorem both_some {α β : Type} {f : Getter α} {g : Getter β} {l r : List Nat} {x : α} (h : f l = some (x, r)) : getBoth f g l = (g r).map fun q => ((x, q.1), q.2) := by
  show (f l).bind _ = _
  rw [h]
  rfl
theorem ok_task_at (T : Txt K mg d as C) : Ok P w K mg base (L2N.CX P w) 5 "task_at" ["octets", "at"] (spRd C takeTask RTaskF) := by
  have G_octet_at := ok_octet_at (P := P) (w := w) (base := base) T
  have G_octets_at := ok_octets_at (P := P) (w := w) (base := base) T
  have G_rows_at := ok_rows_at (P := P) (w := w) (base := base) T
  refine T.d_task_at.okN sc_task_at (fun vs H Q E h => ?_) fun f cdv A outer s H vs Q E hr h => ⟨_, (pss_cons (ps_asg (pe_cl G_octet_at (hr.mono (by decide)) (fun σ => passN (L2N.takes_of rfl rfl rfl rfl) σ) (pa_cons (pv 0) (pa_cons (pv 1) pa_nil))) (pg_tup rfl (pgs_cons (pg_name (i := 2) sc_task_at.nd rfl (Or.inl rfl)) (pgs_cons (pg_name (i := 3) sc_task_at.nd rfl (Or.inl rfl)) pgs_nil))))
      (pss_cons (ps_asg (pe_cl G_octets_at (hr.mono (by decide)) (fun σ => passN (L2N.takes_of rfl rfl rfl rfl) σ) (pa_cons (pv 0) (pa_cons (pv 3) pa_nil))) (pg_tup rfl (pgs_cons (pg_name (i := 4) sc_task_at.nd rfl (Or.inl rfl)) (pgs_cons (pg_name (i := 3) sc_task_at.nd rfl (Or.inl rfl)) pgs_nil))))
      (pss_cons (ps_asg (pe_cl G_rows_at (hr.mono (by decide)) (fun σ => passN (L2N.takes_of rfl rfl rfl rfl) σ) (pa_cons (pv 0) (pa_cons (pv 3) pa_nil))) (pg_tup rfl (pgs_cons (pg_name (i := 5) sc_task_at.nd rfl (Or.inl rfl)) (pgs_cons (pg_name (i := 3) sc_task_at.nd rfl (Or.inl rfl)) pgs_nil))))
      (pss_one (ps_ret (pe_tup (pa_cons (pe_tup (pa_cons (pv 2) (pa_cons (pv 4) (pa_cons (pv 5) pa_nil)))) (pa_cons (pv 3) pa_nil)))))))), ?_⟩
  · obtain ⟨o, l, i, rfl, _⟩ := h
    rfl
  obtain ⟨o, l, i, rfl, hl, ho, hi, k⟩ := h
  rw [Rd, show takeTask (l.drop i) = (getBoth takeOne (getBoth (takeList takeOne) (takeList (takeList takeInt))) (l.drop i)).map (fun p => ((⟨p.1.1, p.1.2.1, p.1.2.2⟩ : GivenTask), p.2)) from rfl] at k
  repeat walk_at "af"
  refine ⟨_, l, i, rfl, hl, ho, hi, fun hn H1 s1 => k.1 (by rw [both_none hn]; rfl) _ s1, fun x1 j1 hx1 hj1 H1 t1 u1 s1 ht1 hu1 => ?_⟩
  obtain ⟨rfl, hb1⟩ := hu1
  rw [both_some hx1] at k
  refine i_gT (SqT.of ht1) rfl ?_
  repeat walk_at "af"
  refine ⟨_, l, j1, rfl, hl.up s1, ho, hj1, fun hn H2 s2 => k.1 (by rw [both_none hn]; rfl) _ (Same.trans s1 s2), fun x2 j2 hx2 hj2 H2 t2 u2 s2 ht2 hu2 => ?_⟩
  obtain ⟨⟨p2, rfl, hp2, q2⟩, _, _⟩ := hu2
  rw [both_some hx2] at k
  refine i_gT (SqT.of ht2) rfl ?_
  repeat walk_at "af"
  have s12 := Same.trans s1 s2
  refine ⟨_, l, j2, rfl, hl.up s12, ho, hj2, fun hn H3 s3 => k.1 (by rw [hn]; rfl) _ (Same.trans s12 s3), fun x3 j3 hx3 hj3 H3 t3 u3 s3 ht3 hu3 => ?_⟩
  rw [hx3] at k
  refine i_gT (SqT.of ht3) rfl ?_
  repeat walk_at "af"
  intro t4 H4 ht4 s4 q4
  repeat walk_at "af"
  intro t5 H5 ht5 s5 q5
  have s13 := Same.trans s12 s3
  have s15 := Same.trans (Same.trans s13 s4) s5
  refine k.2 ⟨x1, x2, x3⟩ j3 rfl hj3 _ _ _ s15 q5 fun H'' hH => ?_
  refine ⟨_, _, ⟨t4, rfl, hH _ _ (s13.free ht4) (s5 _ _ q4)⟩, ⟨p2, rfl, hH _ _ (s1.free hp2) ((Same.trans (Same.trans s3 s4) s5) _ _ q2)⟩, ?_⟩
  exact ((Fresh.back hu3 s12).up (Same.trans s4 s5)) H'' hH
theorem ok_plan_at (T : Txt K mg d as C) : Ok P w K mg base (L2N.CX P w) 4 "plan_at" ["octets", "at"] (spRd C takePlan RPlanF) := by
  have G_octet_at := ok_octet_at (P := P) (w := w) (base := base) T
  have G_octets_at := ok_octets_at (P := P) (w := w) (base := base) T
  have G_flag_at := ok_flag_at (P := P) (w := w) (base := base) T
  refine T.d_plan_at.okN sc_plan_at (fun vs H Q E h => ?_) fun f cdv A outer s H vs Q E hr h => ⟨_, (pss_cons (ps_asg (pe_cl G_octets_at (hr.mono (by decide)) (fun σ => passN (L2N.takes_of rfl rfl rfl rfl) σ) (pa_cons (pv 0) (pa_cons (pv 1) pa_nil))) (pg_tup rfl (pgs_cons (pg_name (i := 2) sc_plan_at.nd rfl (Or.inl rfl)) (pgs_cons (pg_name (i := 3) sc_plan_at.nd rfl (Or.inl rfl)) pgs_nil))))
      (pss_cons (ps_asg (pe_cl G_flag_at (hr.mono (by decide)) (fun σ => passN (L2N.takes_of rfl rfl rfl rfl) σ) (pa_cons (pv 0) (pa_cons (pv 3) pa_nil))) (pg_tup rfl (pgs_cons (pg_name (i := 4) sc_plan_at.nd rfl (Or.inl rfl)) (pgs_cons (pg_name (i := 3) sc_plan_at.nd rfl (Or.inl rfl)) pgs_nil))))
      (pss_cons (ps_if (pt_cmp (pc_eqI (pv 4) pe_int)) (pss_one (ps_ret (pe_tup (pa_cons (pe_tup (pa_cons (pv 2) (pa_cons pe_non pa_nil))) (pa_cons (pv 3) pa_nil))))) pss_nil)
      (pss_cons (ps_asg (pe_cl G_octet_at (hr.mono (by decide)) (fun σ => passN (L2N.takes_of rfl rfl rfl rfl) σ) (pa_cons (pv 0) (pa_cons (pv 3) pa_nil))) (pg_tup rfl (pgs_cons (pg_name (i := 5) sc_plan_at.nd rfl (Or.inl rfl)) (pgs_cons (pg_name (i := 3) sc_plan_at.nd rfl (Or.inl rfl)) pgs_nil))))
      (pss_one (ps_ret (pe_tup (pa_cons (pe_tup (pa_cons (pv 2) (pa_cons (pv 5) pa_nil))) (pa_cons (pv 3) pa_nil))))))))), ?_⟩
  · obtain ⟨o, l, i, rfl, _⟩ := h
    rfl
  obtain ⟨o, l, i, rfl, hl, ho, hi, k⟩ := h
  rw [Rd, show takePlan (l.drop i) = (getBoth (takeList takeOne) takeMaybe (l.drop i)).map (fun p => ((⟨p.1.1, p.1.2⟩ : GivenPlan), p.2)) from rfl] at k
  repeat walk_at "af"
  refine ⟨_, l, i, rfl, hl, ho, hi, fun hn H1 s1 => k.1 (by rw [both_none hn]; rfl) _ s1, fun x1 j1 hx1 hj1 H1 t1 u1 s1 ht1 hu1 => ?_⟩
  obtain ⟨⟨p1, rfl, hp1, q1⟩, hb1, _⟩ := hu1
  rw [both_some hx1] at k
  refine i_gT (SqT.of ht1) rfl ?_
  repeat walk_at "af"
  have em : takeMaybe (l.drop j1) = (takeOne (l.drop j1)).bind fun p => maybeFrom p.1 p.2 := rfl
  have ef : takeFlag (l.drop j1) = (takeOne (l.drop j1)).bind fun p => (flagFrom p.1).map fun b => (b, p.2) := rfl
  refine ⟨_, l, j1, rfl, hl.up s1, ho, hj1, fun hn H2 s2 => k.1 ?_ _ (Same.trans s1 s2), fun x2 j2 hx2 hj2 H2 t2 u2 s2 ht2 hu2 => ?_⟩
  · rw [em]
    rw [ef] at hn
    cases h1 : takeOne (l.drop j1) with
    | none => rfl
    | some q =>
      rw [h1] at hn
      have hn : (flagFrom q.1).map (fun b => (b, q.2)) = none := hn
      show ((maybeFrom q.1 q.2).map _).map _ = none
      unfold flagFrom at hn
      unfold maybeFrom
      by_cases h2 : q.1 = 0
      · rw [if_pos h2] at hn
        cases hn
      · rw [if_neg h2] at hn
        by_cases h3 : q.1 = 1
        · rw [if_pos h3] at hn
          cases hn
        · rw [if_neg h2, if_neg h3]
          rfl
  obtain rfl := hu2
  have em2 : takeMaybe (l.drop j1) = if x2 then getMap takeOne some (l.drop j2) else some (none, l.drop j2) := by
    rw [em]
    rw [ef] at hx2
    cases h1 : takeOne (l.drop j1) with
    | none => rw [h1] at hx2; cases hx2
    | some q =>
      rw [h1] at hx2
      have hx2 : (flagFrom q.1).map (fun b => (b, q.2)) = some (x2, l.drop j2) := hx2
      show maybeFrom q.1 q.2 = _
      unfold flagFrom at hx2
      unfold maybeFrom
      by_cases h2 : q.1 = 0
      · rw [if_pos h2] at hx2
        have hx2 : some (false, q.2) = some (x2, l.drop j2) := hx2
        rw [if_pos h2]
        injection hx2 with e
        injection e with e1 e2
        subst e1
        rw [← e2]
        rfl
      · rw [if_neg h2] at hx2
        by_cases h3 : q.1 = 1
        · rw [if_pos h3] at hx2
          have hx2 : some (true, q.2) = some (x2, l.drop j2) := hx2
          rw [if_neg h2, if_pos h3]
          injection hx2 with e
          injection e with e1 e2
          subst e1
          rw [← e2]
          rfl
        · rw [if_neg h3] at hx2
          cases hx2
  rw [em2] at k
  refine i_gT (SqT.of ht2) rfl ?_
  have s12 := Same.trans s1 s2
  cases x2 with
  | false =>
    repeat walk_at "af"
    refine i_dec (fun _ => ?_) (fun z => absurd rfl z)
    repeat walk_at "af"
    intro t4 H4 ht4 s4 q4
    repeat walk_at "af"
    intro t5 H5 ht5 s5 q5
    refine k.2 ⟨x1, none⟩ j2 rfl hj2 _ _ _ (Same.trans (Same.trans s12 s4) s5) q5 ⟨fun H'' hH => ?_, hb1⟩
    exact ⟨_, ⟨t4, rfl, hH _ _ (s12.free ht4) (s5 _ _ q4)⟩, ⟨p1, rfl, hH _ _ hp1 ((Same.trans (Same.trans s2 s4) s5) _ _ q1)⟩⟩
  | true =>
    repeat walk_at "af"
    refine i_dec (fun z => absurd z (by decide)) (fun _ => ?_)
    repeat walk_at "af"
    have k : Rd C (fun _ => ((getMap takeOne some (l.drop j2)).map fun q => ((x1, q.1), q.2)).map (fun p => ((⟨p.1.1, p.1.2⟩ : GivenPlan), p.2))) RPlanF l i H Q E := k
    refine ⟨_, l, j2, rfl, hl.up s12, ho, hj2, fun hn H3 s3 => k.1 ?_ _ (Same.trans s12 s3), fun x3 j3 hx3 hj3 H3 t3 u3 s3 ht3 hu3 => ?_⟩
    · unfold getMap
      rw [hn]
      rfl
    obtain ⟨rfl, hb3⟩ := hu3
    refine i_gT (SqT.of ht3) rfl ?_
    repeat walk_at "af"
    intro t4 H4 ht4 s4 q4
    repeat walk_at "af"
    intro t5 H5 ht5 s5 q5
    have s13 := Same.trans s12 s3
    refine k.2 ⟨x1, some x3⟩ j3 ?_ hj3 _ _ _ (Same.trans (Same.trans s13 s4) s5) q5 ⟨fun H'' hH => ?_, hb1⟩
    · unfold getMap
      rw [hx3]
      rfl
    · exact ⟨_, ⟨t4, rfl, hH _ _ (s13.free ht4) (s5 _ _ q4)⟩, ⟨p1, rfl, hH _ _ hp1 ((Same.trans (Same.trans (Same.trans s2 s3) s4) s5) _ _ q1)⟩⟩
end
end Af
set_option Elab.async false
set_option linter.all false
set_option maxRecDepth 100000
set_option maxHeartbeats 2000000
/-! # reading.py, third part; command_answer -/
namespace Af
open PySem PySem.Spec PyProof.Rows L2
open Askfirst (GivenTask GivenPlan Getter takeOne takeTwo takeInt takeList takeFlag takeTask takePlan takeMaybe getThen getMap getIf getSome getBoth flagFrom maybeFrom getNo getUnit answerBytes sureFn bestFn worthFn upToFn Call)
local macro_rules | `(tactic| walk_at "af") => `(tactic| first
  | (with_reducible refine i_seq ?_)
  | (with_reducible refine i_asg ?_)
  | (with_reducible refine i_name ?_)
  | (with_reducible refine i_var (by with_unfolding_all rfl) ?_)
  | (with_reducible refine i_C ?_)
  | (with_reducible refine i_op ?_)
  | (with_reducible refine i_rI0 ?_)
  | (with_reducible refine i_cons ?_)
  | (with_reducible refine i_nil ?_)
  | (with_reducible refine i_callS ?_)
  | (with_reducible refine i_cb ?_)
  | (with_reducible refine i_if ?_)
  | (with_reducible refine i_test ?_)
  | (with_reducible refine i_B ?_)
  | (with_reducible refine i_bl ?_)
  | (with_reducible refine i_cmp ?_)
  | (with_reducible refine i_ij ?_)
  | (with_reducible refine i_not ?_)
  | (with_reducible refine i_and ?_)
  | (with_reducible refine i_or ?_)
  | (with_reducible refine i_andV ?_)
  | (with_reducible refine i_orV ?_)
  | (with_reducible refine i_ret ?_)
  | (with_reducible refine i_drop ?_)
  | (with_reducible refine i_next ?_)
  | (with_reducible refine i_un ?_)
  | (with_reducible refine i_rU ?_)
  | ((with_reducible refine i_rI (C := CMul) ?hc ?_); (case hc => first | exact Or.inl ⟨by omega, by omega⟩ | exact Or.inr ⟨by omega, by omega⟩))
  | ((with_reducible refine i_rI (C := fun _ j => 0 < j) ?hc ?_); (case hc => (show (0 : Int) < _; omega)))
  | ((with_reducible refine i_rI (C := CDiv) ?hc ?_); (case hc => exact ⟨by omega, by omega⟩))
  | (with_reducible refine i_tup ?_)
  | (with_reducible refine i_lst ?_)
  | (with_reducible refine i_newT (by with_unfolding_all exact Nat.le_of_ble_eq_true rfl) ?_)
  | (with_reducible refine i_newL (by with_unfolding_all exact Nat.le_of_ble_eq_true rfl) ?_)
  | (with_reducible refine i_bm ?_)
  | (with_reducible refine i_sl ?_)
  | (with_reducible refine i_part ?_)
  | (with_reducible refine i_i ?_)
  | (with_reducible refine i_nopart ?_)
  | (with_reducible refine i_isN ?_)
  | (with_reducible refine i_par ?_)
  | (with_reducible refine i_vw ?_)
  | (with_reducible refine i_par3 ?_)
  | (with_reducible refine i_uvw ?_)
  | (with_reducible refine i_gc ?_)
  | (with_reducible refine i_gn ?_)
  | (with_reducible refine i_for ?_)
  | (with_reducible refine i_lc ?_)
  | (with_reducible refine i_itL ?_)
  | (with_reducible refine i_itT ?_)
  | (with_reducible refine i_itR ?_)
  | (with_reducible refine i_itV ?_)
  | (with_reducible refine i_itZ ?_)
  | (with_reducible refine i_lstRev ?_)
  | (with_reducible refine i_tyes ?_)
  | (with_reducible refine iteT ?_)
  | (with_reducible refine i_one ?_)
  | (with_reducible refine i_two ?_))
def RItem (H : Hp) (v : V) : Item → Prop
  | .task x => RTask H v x
  | .plan p => RPlan H v p ∧ p.asks.length < 65536
  | .num n => v = .int (n : Int) ∧ n < 256
  | .flag b => v = .int (yesI b)
  | .int i => v = .int i
def RItemF (H H' : Hp) (v : V) (it : Item) : Prop := Fresh H H' fun H'' => RItem H'' v it
def partS : Part → Str
  | .task => "task"
  | .plan => "plan"
  | .octet => "octet"
  | .flag => "flag"
  | .integer => "integer"
theorem parts_form (c : Nat) : formM c = (partsM c).map partS := by
  match c with
  | 0 => rfl
  | 1 => rfl
  | 2 => rfl
  | 3 => rfl
  | 4 => rfl
  | 5 => rfl
  | 6 => rfl
  | 7 => rfl
  | c + 8 => rfl
def sp_part_at (C : Addr) : Sp := fun vs H Q E => ∃ (p : Part) (o : V) (l : List Nat) (i : Nat), vs = [.str (partS p), o, .int (i : Int)] ∧ RL H o (vN l) ∧ Oct l ∧ i ≤ l.length ∧ Rd C (getPart p) RItemF l i H Q E
/-- a list of a request's parts -/
def RGiven (H : Hp) (v : V) (its : List Item) : Prop := ∃ vs, RL H v vs ∧ All2 (fun v it => RItem H v it) vs its
def sp_read_request (C : Addr) : Sp := fun vs H Q E => ∃ (o : V) (l : List Nat), vs = [o] ∧ RL H o (vN l) ∧ Oct l ∧ (requestOf l = none → ∀ H', Same H H' → E (.ref C) none H') ∧
  ∀ x, requestOf l = some x → ∀ H' t u, Same H H' → H' t = some (.tup [.int (numOf x : Int), u]) → (Fresh H H' fun H'' => RGiven H'' u (itemsOf x)) → Q (.ref t) H'
section
variable {P : Program} {w : World} {K : PySem.W.Frag} {mg : Str → Option Value} {base : Heap} {d : Addr} {as : Nat → Addr} {C : Addr}
theorem rd_map {α β : Type} {g : Getter α} {f : α → β} {Rep : Hp → Hp → V → α → Prop} {Rep' : Hp → Hp → V → β → Prop} {l : List Nat} {i : Nat} {H : Hp} {Q : VK} {E : XK}
    (k : Rd C (getMap g f) Rep' l i H Q E) (hR : ∀ H' u x, Rep H H' u x → Rep' H H' u (f x)) : Rd C g Rep l i H Q E := by
  refine ⟨fun hn => k.1 ?_, fun x j hx hj H' t u s ht hu => k.2 (f x) j ?_ hj H' t u s ht (hR _ _ _ hu)⟩
  · unfold getMap
    rw [hn]
    rfl
  · unfold getMap
    rw [hx]
    rfl
theorem ok_part_at (T : Txt K mg d as C) : Ok P w K mg base (L2N.CX P w) 6 "part_at" ["part", "octets", "at"] (sp_part_at C) := by
  have G_task_at := ok_task_at (P := P) (w := w) (base := base) T
  have G_plan_at := ok_plan_at (P := P) (w := w) (base := base) T
  have G_integer_at := ok_integer_at (P := P) (w := w) (base := base) T
  have G_flag_at := ok_flag_at (P := P) (w := w) (base := base) T
  have G_octet_at := ok_octet_at (P := P) (w := w) (base := base) T
  refine T.d_part_at.okN sc_part_at (fun vs H Q E h => ?_) fun f cdv A outer s H vs Q E hr h => ⟨_, (pss_cons (ps_if (pt_cmpR op_eq (pv 0) pe_str (nomark _)) (pss_one (ps_ret (pe_cl G_task_at (hr.mono (by decide)) (fun σ => passN (L2N.takes_of rfl rfl rfl rfl) σ) (pa_cons (pv 1) (pa_cons (pv 2) pa_nil))))) pss_nil)
      (pss_cons (ps_if (pt_cmpR op_eq (pv 0) pe_str (nomark _)) (pss_one (ps_ret (pe_cl G_plan_at (hr.mono (by decide)) (fun σ => passN (L2N.takes_of rfl rfl rfl rfl) σ) (pa_cons (pv 1) (pa_cons (pv 2) pa_nil))))) pss_nil)
      (pss_cons (ps_if (pt_cmpR op_eq (pv 0) pe_str (nomark _)) (pss_one (ps_ret (pe_cl G_integer_at (hr.mono (by decide)) (fun σ => passN (L2N.takes_of rfl rfl rfl rfl) σ) (pa_cons (pv 1) (pa_cons (pv 2) pa_nil))))) pss_nil)
      (pss_cons (ps_if (pt_cmpR op_eq (pv 0) pe_str (nomark _)) (pss_one (ps_ret (pe_cl G_flag_at (hr.mono (by decide)) (fun σ => passN (L2N.takes_of rfl rfl rfl rfl) σ) (pa_cons (pv 1) (pa_cons (pv 2) pa_nil))))) pss_nil)
      (pss_one (ps_ret (pe_cl G_octet_at (hr.mono (by decide)) (fun σ => passN (L2N.takes_of rfl rfl rfl rfl) σ) (pa_cons (pv 1) (pa_cons (pv 2) pa_nil))))))))), ?_⟩
  · obtain ⟨p, o, l, i, rfl, _⟩ := h
    rfl
  obtain ⟨p, o, l, i, rfl, hl, ho, hi, k⟩ := h
  cases p with
  | task =>
    repeat walk_at "af"
    refine ⟨rfl, _, rfl, ?_⟩
    refine i_dec (fun _ => ?_) (fun z => absurd rfl z)
    repeat walk_at "af"
    exact ⟨_, l, i, rfl, hl, ho, hi, rd_map k fun H' u x h => h⟩
  | plan =>
    repeat walk_at "af"
    refine ⟨rfl, _, rfl, ?_⟩
    refine i_dec (fun z => absurd z (by decide)) (fun _ => ?_)
    repeat walk_at "af"
    refine ⟨rfl, _, rfl, ?_⟩
    refine i_dec (fun _ => ?_) (fun z => absurd rfl z)
    repeat walk_at "af"
    exact ⟨_, l, i, rfl, hl, ho, hi, rd_map k fun H' u x h => fun H'' hH => ⟨h.1 H'' hH, h.2⟩⟩
  | octet =>
    repeat walk_at "af"
    refine ⟨rfl, _, rfl, ?_⟩
    refine i_dec (fun z => absurd z (by decide)) (fun _ => ?_)
    repeat walk_at "af"
    refine ⟨rfl, _, rfl, ?_⟩
    refine i_dec (fun z => absurd z (by decide)) (fun _ => ?_)
    repeat walk_at "af"
    refine ⟨rfl, _, rfl, ?_⟩
    refine i_dec (fun z => absurd z (by decide)) (fun _ => ?_)
    repeat walk_at "af"
    refine ⟨rfl, _, rfl, ?_⟩
    refine i_dec (fun z => absurd z (by decide)) (fun _ => ?_)
    repeat walk_at "af"
    exact ⟨_, l, i, rfl, hl, ho, hi, rd_map k fun H' u x h => fun H'' hH => h⟩
  | flag =>
    repeat walk_at "af"
    refine ⟨rfl, _, rfl, ?_⟩
    refine i_dec (fun z => absurd z (by decide)) (fun _ => ?_)
    repeat walk_at "af"
    refine ⟨rfl, _, rfl, ?_⟩
    refine i_dec (fun z => absurd z (by decide)) (fun _ => ?_)
    repeat walk_at "af"
    refine ⟨rfl, _, rfl, ?_⟩
    refine i_dec (fun z => absurd z (by decide)) (fun _ => ?_)
    repeat walk_at "af"
    refine ⟨rfl, _, rfl, ?_⟩
    refine i_dec (fun _ => ?_) (fun z => absurd rfl z)
    repeat walk_at "af"
    exact ⟨_, l, i, rfl, hl, ho, hi, rd_map k fun H' u x h => fun H'' hH => h⟩
  | integer =>
    repeat walk_at "af"
    refine ⟨rfl, _, rfl, ?_⟩
    refine i_dec (fun z => absurd z (by decide)) (fun _ => ?_)
    repeat walk_at "af"
    refine ⟨rfl, _, rfl, ?_⟩
    refine i_dec (fun z => absurd z (by decide)) (fun _ => ?_)
    repeat walk_at "af"
    refine ⟨rfl, _, rfl, ?_⟩
    refine i_dec (fun _ => ?_) (fun z => absurd rfl z)
    repeat walk_at "af"
    exact ⟨_, l, i, rfl, hl, ho, hi, rd_map k fun H' u x h => fun H'' hH => h⟩
theorem ok_read_request (T : Txt K mg d as C) : Ok P w K mg base (L2N.CX P w) 7 "read_request" ["octets"] (sp_read_request C) := by
  have G_octet_at := ok_octet_at (P := P) (w := w) (base := base) T
  have G_part_at := ok_part_at (P := P) (w := w) (base := base) T
  refine T.d_read_request.okN sc_read_request (fun vs H Q E h => ?_) fun f cdv A outer s H vs Q E hr h => ⟨_, (pss_cons (ps_asg (pe_cl G_octet_at (hr.mono (by decide)) (fun σ => passN (L2N.takes_of rfl rfl rfl rfl) σ) (pa_cons (pv 0) (pa_cons pe_int pa_nil))) (pg_tup rfl (pgs_cons (pg_name (i := 1) sc_read_request.nd rfl (Or.inl rfl)) (pgs_cons (pg_name (i := 2) sc_read_request.nd rfl (Or.inl rfl)) pgs_nil))))
      (pss_cons (ps_if (pt_cmpR (op_notF T.forms) (pv 1) (pe_glob (v := V.ref d) rfl T.forms.g rfl) (by rfl)) (pss_one (L2N.ps_raise rfl (L2N.takes_of rfl rfl rfl rfl) (pmk_own0 PySem.F.excBase_Exception T.xU T.gU T.kU (raises_own T.bU T.tU) (by exact rfl)))) pss_nil)
      (pss_cons (ps_set (i := 3) sc_read_request.nd rfl (Or.inl rfl) (pe_lst pa_nil))
      (pss_cons (ps_for PassesOwn.leaving rfl (pi_tup (pe_ix (ix_F T.forms) (pe_glob (v := V.ref d) rfl T.forms.g rfl) (pv 1) (fun _ _ => rfl))) (pg_name (i := 4) sc_read_request.nd rfl (Or.inl rfl))
      (pss_cons (ps_asg (pe_cl G_part_at (hr.mono (by decide)) (fun σ => passN (L2N.takes_of rfl rfl rfl rfl) σ) (pa_cons (pv 4) (pa_cons (pv 0) (pa_cons (pv 2) pa_nil)))) (pg_tup rfl (pgs_cons (pg_name (i := 5) sc_read_request.nd rfl (Or.inl rfl)) (pgs_cons (pg_name (i := 2) sc_read_request.nd rfl (Or.inl rfl)) pgs_nil))))
      (pss_one (ps_expr (pe_bm PySem.F.plainAttrs_list PySem.F.slot_list_append PySem.F.type_list_append mt_append (pv 3) (pa_cons (pv 5) pa_nil))))))
      (pss_cons (ps_if (pt_cmpR op_lt (pv 2) (pe_callB call_len_seq (by rfl) T.blen PySem.boot_len (pa_cons (pv 0) pa_nil)) (nomark _)) (pss_one (L2N.ps_raise rfl (L2N.takes_of rfl rfl rfl rfl) (pmk_own0 PySem.F.excBase_Exception T.xU T.gU T.kU (raises_own T.bU T.tU) (by exact rfl)))) pss_nil)
      (pss_one (ps_ret (pe_tup (pa_cons (pv 1) (pa_cons (pv 3) pa_nil)))))))))), ?_⟩
  · obtain ⟨o, l, rfl, _⟩ := h
    rfl
  obtain ⟨o, l, rfl, hl, ho, k1, k2⟩ := h
  obtain ⟨po, rfl, hpo⟩ := id hl
  repeat walk_at "af"
  refine ⟨_, l, 0, rfl, hl, ho, Nat.zero_le _, fun hn H1 s1 => k1 ?_ _ s1, fun c j0 hx hj0 H1 t u s1 ht hu => ?_⟩
  · cases l with
    | nil => rfl
    | cons a r => cases hn
  obtain ⟨rfl, hc⟩ := hu
  obtain ⟨r, rfl, er⟩ : ∃ r, l = c :: r ∧ (c :: r).drop j0 = r := by
    cases l with
    | nil => cases hx
    | cons a r =>
      have hx : some (a, r) = some (c, (a :: r).drop j0) := hx
      injection hx with e
      injection e with e1 e2
      subst e1
      exact ⟨r, rfl, e2.symm⟩
  refine i_gT (SqT.of ht) rfl ?_
  repeat walk_at "af"
  refine ⟨c, rfl, rfl, ?_⟩
  repeat walk_at "af"
  refine i_ndec (fun h1 => ?_) fun h1 => ?_
  · repeat walk_at "af"
    exact k1 (request_none h1) _ s1
  repeat walk_at "af"
  intro g H2 hg s2 q2
  repeat walk_at "af"
  refine ⟨c, rfl, rfl, h1.1, h1.2, ?_⟩
  have htp := T.forms.tp c h1.1 h1.2
  rw [parts_form] at htp
  have s12 := Same.trans s1 s2
  refine i_wT (htp.at _) ?_
  refine i_forW (walk_tup (xs := ((partsM c).map partS).map V.str)) (fun n σ H' => ∃ (a1 a2 : Option V) (j : Nat) (its : List Item) (vs : List V), σ = [some (.ref po), some (.int (c : Int)), some (.int (j : Int)), some (.ref g), a1, a2] ∧ Same H1 H' ∧ H' g = some (.lst vs) ∧ its.length = n ∧ j ≤ (c :: r).length ∧
      All2 (fun v it => Dep (fun b => H1 b = none ∧ b ≠ g) H' fun H'' => RItem H'' v it) vs its ∧ getParts (partsM c) r = (getParts ((partsM c).drop n) ((c :: r).drop j)).map fun q => (its ++ q.1, q.2))
    ⟨none, none, j0, [], [], rfl, s2, q2, rfl, hj0, All2.nil, by rw [er]; cases h : getParts (partsM c) r <;> simp [h]⟩ (fun n σ H' _ hP => htp.at _) (fun n y σ H3 H4 hn hP hy => ?_) fun σ H3 hP => ?_
  · obtain ⟨a1, a2, j, its, vs, rfl, s3, q3, hpl, hj, ha, hgp⟩ := hP
    obtain ⟨rfl, hy⟩ := hy
    have hn2 : n < (partsM c).length := by simpa using hn
    have hy : y = .str (partS (partsM c)[n]) := by
      rw [List.getElem?_map, List.getElem?_map, List.getElem?_eq_getElem hn2] at hy
      exact (Option.some.inj hy).symm
    subst hy
    rw [List.drop_eq_getElem_cons hn2] at hgp
    generalize (partsM c)[n] = pt at hgp
    repeat walk_at "af"
    refine ⟨pt, _, c :: r, j, rfl, hl.up (Same.trans s1 s3), ho, hj, fun hn5 H5 s5 => k1 (request_bad h1.1 h1.2 (by rw [hgp, parts_none hn5]; rfl)) _ (Same.trans (Same.trans s1 s3) s5), fun x j5 hx5 hj5 H5 t5 u5 s5 ht5 hu5 => ?_⟩
    refine i_gT (SqT.of ht5) rfl ?_
    repeat walk_at "af"
    refine ⟨tyl (s5 _ _ q3), ?_⟩
    repeat walk_at "af"
    have hvl := ha.1
    have hp10 : (partsM c).length ≤ 10 := by
      match c with
      | 0 => decide
      | 1 => decide
      | 2 => decide
      | 3 => decide
      | 4 => decide
      | 5 => decide
      | 6 => decide
      | 7 => decide
      | c + 8 => exact Nat.zero_le _
    refine i_app (s5 _ _ q3) (size_lt (by omega)) ?_
    refine ⟨some (.str (partS pt)), some u5, j5, its ++ [x], vs ++ [u5], rfl, Same.mut (Same.trans s3 s5) hg, upd_same, by simp [hpl], hj5, ?_, ?_⟩
    · refine All2.snoc (ha.imp fun v it hv => (hv.up s5).mut fun z => z.2 rfl) ?_
      refine Dep.mut (Dep.mono hu5 fun b hb => ⟨s3.free hb, fun z => ?_⟩) fun z => z.2 rfl
      rw [z, q3] at hb
      cases hb
    · rw [hgp, parts_more hx5]
      cases getParts ((partsM c).drop (n + 1)) ((c :: r).drop j5) with
      | none => rfl
      | some q => simp
  · obtain ⟨a1, a2, j, its, vs, rfl, s3, q3, hpl, hj, ha, hgp⟩ := hP
    rw [List.drop_of_length_le (by simp)] at hgp
    have hgp : getParts (partsM c) r = some (its, (c :: r).drop j) := by
      rw [hgp]
      show some (its ++ [], _) = _
      rw [List.append_nil]
    repeat walk_at "af"
    refine i_len (SqL.of ((Same.trans s1 s3) _ _ hpo)) ?_
    repeat walk_at "af"
    have e0 : (vN (c :: r)).length = (c :: r).length := by simp
    rw [e0]
    refine i_dec (fun h5 => ?_) fun h5 => ?_
    · repeat walk_at "af"
      refine k1 (request_long h1.1 h1.2 hgp fun z => ?_) _ (Same.trans s1 s3)
      have := List.drop_eq_nil_iff.mp z
      omega
    repeat walk_at "af"
    rw [List.drop_of_length_le (by omega)] at hgp
    obtain ⟨x, hx1, hx2, hx3⟩ := request_some h1.1 h1.2 hgp
    intro t6 H6 ht6 s6 q6
    have s13 := Same.trans s1 s3
    refine k2 x hx1 _ _ _ (Same.trans s13 s6) (by rw [hx2]; exact q6) fun H'' hH => ?_
    rw [hx3]
    refine ⟨vs, ⟨g, rfl, hH _ _ (s1.free hg) (s6 _ _ q3)⟩, ha.imp fun v it hv => ?_⟩
    exact ((hv.up s6).mono fun b hb => s1.free hb.1) H'' hH
/-- the answer of a request about a task -/
def tellM : Call → Askfirst.Did Askfirst.Told
  | .sure x y e c => sureFn x y e c
  | .best x e c => bestFn x e c
  | .worth x a c => worthFn x a c
  | .upTo x y c m => upToFn x y c m
  | _ => .error .unread
def sp_command_answer : Sp := fun vs H Q _ => ∃ (x : Call) (v : V), vs = [.int (numOf x : Int), v] ∧ numOf x ≤ 4 ∧ RGiven H v (itemsOf x) ∧ ∀ H' u, Same H H' → New H H' u (vN (answerBytes (tellM x))) → Q u H'
theorem all2_one {α : Type} {R : V → α → Prop} {vs : List V} {x : α} {xs : List α} (h : All2 R vs (x :: xs)) : ∃ v ws, vs = v :: ws ∧ R v x ∧ All2 R ws xs := by
  cases vs with
  | nil =>
    have := h.1
    simp at this
  | cons v ws => exact ⟨v, ws, rfl, h.2 0 v x rfl rfl, by have := h.1; simpa using this, fun i a b ha hb => h.2 (i + 1) a b ha hb⟩
theorem all2_nil {α : Type} {R : V → α → Prop} {vs : List V} (h : All2 R vs []) : vs = [] := List.length_eq_zero_iff.mp h.1
theorem ok_command_answer (T : Txt K mg d as C) : Ok P w K mg base CX0 10 "command_answer" ["command", "given"] sp_command_answer := by
  have G_sure := ok_sure (P := P) (w := w) (base := base) T
  have G_best := ok_best (P := P) (w := w) (base := base) T
  have G_worth := ok_worth (P := P) (w := w) (base := base) T
  have G_up_to := ok_up_to (P := P) (w := w) (base := base) T
  refine T.d_command_answer.ok sc_command_answer (fun vs H Q E h => ?_) fun f cdv A outer s H vs Q E hr h => ⟨_, (pss_cons (ps_if (pt_cmp (pc_eqI (pv 0) pe_int)) (pss_cons (ps_asg (pv 1) (pg_lst rfl (pgs_cons (pg_name (i := 2) sc_command_answer.nd rfl (Or.inl rfl)) (pgs_cons (pg_name (i := 3) sc_command_answer.nd rfl (Or.inl rfl)) (pgs_cons (pg_name (i := 4) sc_command_answer.nd rfl (Or.inl rfl)) (pgs_cons (pg_name (i := 5) sc_command_answer.nd rfl (Or.inl rfl)) pgs_nil))))))
      (pss_one (ps_ret (pe_cl (E := fun _ => E0) G_sure (hr.mono (by decide)) (fun σ => pass00 σ) (pa_cons (pv 2) (pa_cons (pv 3) (pa_cons (pv 4) (pa_cons (pv 5) pa_nil)))))))) pss_nil)
      (pss_cons (ps_if (pt_cmp (pc_eqI (pv 0) pe_int)) (pss_cons (ps_asg (pv 1) (pg_lst rfl (pgs_cons (pg_name (i := 2) sc_command_answer.nd rfl (Or.inl rfl)) (pgs_cons (pg_name (i := 4) sc_command_answer.nd rfl (Or.inl rfl)) (pgs_cons (pg_name (i := 5) sc_command_answer.nd rfl (Or.inl rfl)) pgs_nil)))))
      (pss_one (ps_ret (pe_cl (E := fun _ => E0) G_best (hr.mono (by decide)) (fun σ => pass00 σ) (pa_cons (pv 2) (pa_cons (pv 4) (pa_cons (pv 5) pa_nil))))))) pss_nil)
      (pss_cons (ps_if (pt_cmp (pc_eqI (pv 0) pe_int)) (pss_cons (ps_asg (pv 1) (pg_lst rfl (pgs_cons (pg_name (i := 2) sc_command_answer.nd rfl (Or.inl rfl)) (pgs_cons (pg_name (i := 6) sc_command_answer.nd rfl (Or.inl rfl)) (pgs_cons (pg_name (i := 5) sc_command_answer.nd rfl (Or.inl rfl)) pgs_nil)))))
      (pss_one (ps_ret (pe_cl (E := fun _ => E0) G_worth (hr.mono (by decide)) (fun σ => pass00 σ) (pa_cons (pv 2) (pa_cons (pv 6) (pa_cons (pv 5) pa_nil))))))) pss_nil)
      (pss_cons (ps_asg (pv 1) (pg_lst rfl (pgs_cons (pg_name (i := 2) sc_command_answer.nd rfl (Or.inl rfl)) (pgs_cons (pg_name (i := 3) sc_command_answer.nd rfl (Or.inl rfl)) (pgs_cons (pg_name (i := 5) sc_command_answer.nd rfl (Or.inl rfl)) (pgs_cons (pg_name (i := 7) sc_command_answer.nd rfl (Or.inl rfl)) pgs_nil))))))
      (pss_one (ps_ret (pe_cl (E := fun _ => E0) G_up_to (hr.mono (by decide)) (fun σ => pass00 σ) (pa_cons (pv 2) (pa_cons (pv 3) (pa_cons (pv 5) (pa_cons (pv 7) pa_nil))))))))))), ?_⟩
  · obtain ⟨x, v, rfl, _⟩ := h
    rfl
  obtain ⟨x, v, rfl, h4, ⟨vs, ⟨p, rfl, hp⟩, ha⟩, k⟩ := h
  cases x with
  | sure x y e c =>
    obtain ⟨v1, _, rfl, r1, ha⟩ := all2_one ha
    obtain ⟨v2, _, rfl, r2, ha⟩ := all2_one ha
    obtain ⟨v3, _, rfl, r3, ha⟩ := all2_one ha
    obtain ⟨v4, _, rfl, r4, ha⟩ := all2_one ha
    obtain rfl := all2_nil ha
    obtain ⟨rfl, _⟩ := r3
    obtain ⟨rfl, _⟩ := r4
    repeat walk_at "af"
    refine i_dec (fun _ => ?_) (fun z => absurd rfl z)
    repeat walk_at "af"
    refine i_gL (SqL.of hp) rfl ?_
    repeat walk_at "af"
    exact ⟨_, x, _, y, e, c, rfl, r1, r2.1, by have := r2.2; omega, k⟩
  | best x e c =>
    obtain ⟨v1, _, rfl, r1, ha⟩ := all2_one ha
    obtain ⟨v3, _, rfl, r3, ha⟩ := all2_one ha
    obtain ⟨v4, _, rfl, r4, ha⟩ := all2_one ha
    obtain rfl := all2_nil ha
    obtain ⟨rfl, _⟩ := r3
    obtain ⟨rfl, _⟩ := r4
    repeat walk_at "af"
    refine i_dec (fun z => absurd (show (2 : Int) = 1 from z) (by decide)) (fun _ => ?_)
    repeat walk_at "af"
    refine i_dec (fun _ => ?_) (fun z => absurd rfl z)
    repeat walk_at "af"
    refine i_gL (SqL.of hp) rfl ?_
    repeat walk_at "af"
    exact ⟨_, x, e, c, rfl, r1, k⟩
  | worth x a c =>
    obtain ⟨v1, _, rfl, r1, ha⟩ := all2_one ha
    obtain ⟨v3, _, rfl, r3, ha⟩ := all2_one ha
    obtain ⟨v4, _, rfl, r4, ha⟩ := all2_one ha
    obtain rfl := all2_nil ha
    obtain ⟨rfl, _⟩ := r3
    obtain ⟨rfl, _⟩ := r4
    repeat walk_at "af"
    refine i_dec (fun z => absurd (show (3 : Int) = 1 from z) (by decide)) (fun _ => ?_)
    repeat walk_at "af"
    refine i_dec (fun z => absurd (show (3 : Int) = 2 from z) (by decide)) (fun _ => ?_)
    repeat walk_at "af"
    refine i_dec (fun _ => ?_) (fun z => absurd rfl z)
    repeat walk_at "af"
    refine i_gL (SqL.of hp) rfl ?_
    repeat walk_at "af"
    exact ⟨_, x, a, c, rfl, r1, k⟩
  | upTo x y c m =>
    obtain ⟨v1, _, rfl, r1, ha⟩ := all2_one ha
    obtain ⟨v2, _, rfl, r2, ha⟩ := all2_one ha
    obtain ⟨v3, _, rfl, r3, ha⟩ := all2_one ha
    obtain ⟨v4, _, rfl, r4, ha⟩ := all2_one ha
    obtain rfl := all2_nil ha
    obtain ⟨rfl, _⟩ := r3
    obtain rfl := r4
    repeat walk_at "af"
    refine i_dec (fun z => absurd (show (4 : Int) = 1 from z) (by decide)) (fun _ => ?_)
    repeat walk_at "af"
    refine i_dec (fun z => absurd (show (4 : Int) = 2 from z) (by decide)) (fun _ => ?_)
    repeat walk_at "af"
    refine i_dec (fun z => absurd (show (4 : Int) = 3 from z) (by decide)) (fun _ => ?_)
    repeat walk_at "af"
    refine i_gL (SqL.of hp) rfl ?_
    repeat walk_at "af"
    exact ⟨_, x, _, y, c, m, rfl, r1, r2.1, by have := r2.2; omega, k⟩
  | make x => exact absurd h4 (by show ¬ 5 ≤ 4; decide)
  | propose a y => exact absurd h4 (by show ¬ 6 ≤ 4; decide)
  | advice e c => exact absurd h4 (by show ¬ 7 ≤ 4; decide)
  | undo => exact absurd h4 (by show ¬ 8 ≤ 4; decide)
  | answers => exact absurd h4 (by show ¬ 9 ≤ 4; decide)
  | tastes => exact absurd h4 (by show ¬ 10 ≤ 4; decide)
end
end Af
set_option Elab.async false
set_option linter.all false
set_option maxRecDepth 100000
set_option maxHeartbeats 2000000
/-! # talk.py -/
namespace Af
open PySem PySem.Spec PyProof.Rows L2
open Askfirst (GivenTask GivenPlan answerBytes toldBytes Call Did Told isTask caseOf Talk run_ tastesBehind canBe agrees chanceAt rewardAt bestBehind sureOf percent costOf two one listOut flagOut)
local macro_rules | `(tactic| walk_at "af") => `(tactic| first
  | (with_reducible refine i_seq ?_)
  | (with_reducible refine i_asg ?_)
  | (with_reducible refine i_name ?_)
  | (with_reducible refine i_var (by with_unfolding_all rfl) ?_)
  | (with_reducible refine i_C ?_)
  | (with_reducible refine i_op ?_)
  | (with_reducible refine i_rI0 ?_)
  | (with_reducible refine i_cons ?_)
  | (with_reducible refine i_nil ?_)
  | (with_reducible refine i_callS ?_)
  | (with_reducible refine i_cb ?_)
  | (with_reducible refine i_if ?_)
  | (with_reducible refine i_test ?_)
  | (with_reducible refine i_B ?_)
  | (with_reducible refine i_bl ?_)
  | (with_reducible refine i_cmp ?_)
  | (with_reducible refine i_ij ?_)
  | (with_reducible refine i_not ?_)
  | (with_reducible refine i_and ?_)
  | (with_reducible refine i_or ?_)
  | (with_reducible refine i_andV ?_)
  | (with_reducible refine i_orV ?_)
  | (with_reducible refine i_ret ?_)
  | (with_reducible refine i_drop ?_)
  | (with_reducible refine i_next ?_)
  | (with_reducible refine i_un ?_)
  | (with_reducible refine i_rU ?_)
  | ((with_reducible refine i_rI (C := CMul) ?hc ?_); (case hc => first | exact Or.inl ⟨by omega, by omega⟩ | exact Or.inr ⟨by omega, by omega⟩))
  | ((with_reducible refine i_rI (C := fun _ j => 0 < j) ?hc ?_); (case hc => (show (0 : Int) < _; omega)))
  | ((with_reducible refine i_rI (C := CDiv) ?hc ?_); (case hc => exact ⟨by omega, by omega⟩))
  | (with_reducible refine i_tup ?_)
  | (with_reducible refine i_lst ?_)
  | (with_reducible refine i_newT (by with_unfolding_all exact Nat.le_of_ble_eq_true rfl) ?_)
  | (with_reducible refine i_newL (by with_unfolding_all exact Nat.le_of_ble_eq_true rfl) ?_)
  | (with_reducible refine i_bm ?_)
  | (with_reducible refine i_sl ?_)
  | (with_reducible refine i_part ?_)
  | (with_reducible refine i_i ?_)
  | (with_reducible refine i_nopart ?_)
  | (with_reducible refine i_isN ?_)
  | (with_reducible refine i_par ?_)
  | (with_reducible refine i_vw ?_)
  | (with_reducible refine i_par3 ?_)
  | (with_reducible refine i_uvw ?_)
  | (with_reducible refine i_gc ?_)
  | (with_reducible refine i_gn ?_)
  | (with_reducible refine i_for ?_)
  | (with_reducible refine i_lc ?_)
  | (with_reducible refine i_itL ?_)
  | (with_reducible refine i_itT ?_)
  | (with_reducible refine i_itR ?_)
  | (with_reducible refine i_itV ?_)
  | (with_reducible refine i_itZ ?_)
  | (with_reducible refine i_lstRev ?_)
  | (with_reducible refine i_tyes ?_)
  | (with_reducible refine iteT ?_)
  | (with_reducible refine i_one ?_)
  | (with_reducible refine i_two ?_))
abbrev Pairs := List (Nat × Bool)
abbrev TSt := Option (GivenTask × Pairs)
def tastesM (x : GivenTask) (ps : Pairs) : List Nat := (List.range x.weights.length).filter fun t => decide (0 < x.weights.getD t 0) && ps.all fun q => decide (0 ≤ (x.rewards.getD t []).getD q.1 0) == q.2
structure Good (x : GivenTask) (ps : Pairs) : Prop where
  fit : Fit x
  lt : ∀ a ∈ ps.map Prod.fst, a < nA x
  nd : (ps.map Prod.fst).Nodup
def GoodSt : TSt → Prop
  | none => True
  | some (x, ps) => Good x ps
def bestToldM (x : GivenTask) (ps : Pairs) (e c : Nat) : Told := .best (bestBehind (caseOf x) (percent e) (costOf c) (ps.map Prod.fst)) (sureOf (caseOf x) (percent e) (costOf c) (bestBehind (caseOf x) (percent e) (costOf c) (ps.map Prod.fst)))
def proposeM (x : GivenTask) (ps : Pairs) (a : Nat) (y : Bool) : TSt × Did Told :=
  if a < nA x then (if ps.any (fun q => q.2) = true then (some (x, ps), .error .decided) else if (ps.map Prod.fst).contains a = true then (some (x, ps), .error .again) else (some (x, ps ++ [(a, y)]), .ok (.count (tastesM x (ps ++ [(a, y)])).length))) else (some (x, ps), .error .action)
def adviceM (x : GivenTask) (ps : Pairs) (e c : Nat) : Did Told := if e ≤ 100 then (if c ≤ 99 then (if ps.any (fun q => q.2) = true then .error .decided else .ok (bestToldM x ps e c)) else .error .cost) else .error .chance
def undoM (x : GivenTask) (ps : Pairs) : TSt × Did Told := if ps.length = 0 then (some (x, ps), .error .nothing) else (some (x, ps.dropLast), .ok .done)
/-- a request about a talk -/
def talkM (x : GivenTask) (ps : Pairs) : Call → TSt × Did Told
  | .propose a y => proposeM x ps a y
  | .advice e c => (some (x, ps), adviceM x ps e c)
  | .undo => undoM x ps
  | .answers => (some (x, ps), .ok (.answers ps))
  | .tastes => (some (x, ps), .ok (.tastes (tastesM x ps)))
  | _ => (some (x, ps), .error .unread)
def beginM (st : TSt) (x : GivenTask) : TSt × Did Told := if isTask x = true then (some (x, []), .ok .done) else (st, .error .task)
def stepM' (st : TSt) (c : Call) : TSt × Did Told := match c with
  | .sure _ _ _ _ => (st, tellM c)
  | .best _ _ _ => (st, tellM c)
  | .worth _ _ _ => (st, tellM c)
  | .upTo _ _ _ _ => (st, tellM c)
  | .make x => beginM st x
  | c => match st with
    | none => (none, .error .noTalk)
    | some (x, ps) => talkM x ps c
/-! ### as the document has it -/
def pastM (z : Askfirst.Case) (ps : Pairs) : List Talk := (List.range ps.length).reverse.map fun i => ⟨z, ps.take i⟩
def worldOf : TSt → Askfirst.World
  | none => none
  | some (x, ps) => some ⟨⟨caseOf x, ps⟩, pastM (caseOf x) ps⟩
theorem past_snoc (z : Askfirst.Case) (ps : Pairs) (q : Nat × Bool) : pastM z (ps ++ [q]) = ⟨z, ps⟩ :: pastM z ps := by
  unfold pastM
  rw [List.length_append, List.length_singleton, List.range_succ, List.reverse_append, List.reverse_singleton, List.singleton_append, List.map_cons, List.take_left]
  congr 1
  refine List.map_congr_left fun i hi => ?_
  have hi := List.mem_range.mp (List.mem_reverse.mp hi)
  rw [List.take_append_of_le_length (by omega)]
theorem tastes_is {x : GivenTask} (hu : 0 < x.unit) (ps : Pairs) : tastesBehind (caseOf x) ps = tastesM x ps := by
  unfold tastesBehind tastesM
  show (List.range x.weights.length).filter _ = _
  refine List.filter_congr fun t _ => ?_
  unfold canBe
  congr 1
  · refine decide_eq_decide.mpr ?_
    show (0 : Rat) < ((x.weights.getD t 0 : Nat) : Rat) / ((x.unit : Nat) : Rat) ↔ _
    have hpos : (0 : Rat) < ((x.unit : Nat) : Rat) := Rat.natCast_pos.mpr hu
    rw [Rat.lt_div_iff hpos, Rat.zero_mul]
    exact Rat.natCast_pos
  · refine congrArg (fun f => ps.all f) (funext fun q => ?_)
    unfold agrees
    congr 1
    refine decide_eq_decide.mpr ?_
    rw [rewardAt_caseOf]
    have := Rat.intCast_le_intCast (a := 0) (b := (x.rewards.getD t []).getD q.1 0)
    simpa using this
theorem decided_is (x : GivenTask) (ps : Pairs) : Askfirst.isDecided ⟨caseOf x, ps⟩ = ps.any fun q => q.2 := rfl
theorem run_is (st : TSt) (hg : GoodSt st) (c : Call) : run_ (worldOf st) c = (worldOf (stepM' st c).1, (stepM' st c).2) := by
  cases c with
  | sure x y e c => rfl
  | best x e c => rfl
  | worth x a c => rfl
  | upTo x y c m => rfl
  | make x =>
    show Askfirst.making (worldOf st) (Askfirst.openFn x) = _
    unfold Askfirst.openFn
    show _ = (worldOf (beginM st x).1, (beginM st x).2)
    unfold beginM
    cases h : isTask x with
    | false =>
      rw [inTask_no h]
      rfl
    | true =>
      rw [inTask_yes h]
      rfl
  | propose a y =>
    cases st with
    | none => rfl
    | some q =>
      obtain ⟨x, ps⟩ := q
      show Askfirst.changing (worldOf (some (x, ps))) (fun u => Askfirst.proposeFn u a y) = (worldOf (proposeM x ps a y).1, (proposeM x ps a y).2)
      unfold worldOf Askfirst.changing
      unfold Askfirst.proposeFn proposeM
      dsimp only
      rw [show Askfirst.actionsIn (⟨⟨caseOf x, ps⟩, pastM (caseOf x) ps⟩  : Askfirst.Kept).now.about = nA x from actionsIn_is x]
      by_cases h1 : a < nA x
      · rw [prov_yes (decide_eq_true h1), if_pos h1]
        cases h2 : ps.any fun q => q.2 with
        | true =>
          rw [prov_no (show (!Askfirst.isDecided ⟨caseOf x, ps⟩) = false by rw [decided_is, h2]; rfl), if_pos rfl]
        | false =>
          rw [prov_yes (show (!Askfirst.isDecided ⟨caseOf x, ps⟩) = true by rw [decided_is, h2]; rfl), if_neg Bool.false_ne_true]
          cases h3 : (ps.map Prod.fst).contains a with
          | true =>
            rw [prov_no (show (!(Askfirst.proposed ⟨caseOf x, ps⟩).contains a) = false by show (!(ps.map Prod.fst).contains a) = false; rw [h3]; rfl), if_pos rfl]
          | false =>
            rw [prov_yes (show (!(Askfirst.proposed ⟨caseOf x, ps⟩).contains a) = true by show (!(ps.map Prod.fst).contains a) = true; rw [h3]; rfl), if_neg Bool.false_ne_true]
            show (some (Askfirst.movedTo _ (Askfirst.afterAnswer ⟨caseOf x, ps⟩ a y)), Except.ok (Told.count (tastesBehind (caseOf x) (ps ++ [(a, y)])).length)) = (some ⟨⟨caseOf x, ps ++ [(a, y)]⟩, pastM (caseOf x) (ps ++ [(a, y)])⟩, Except.ok (Told.count (tastesM x (ps ++ [(a, y)])).length))
            rw [tastes_is hg.fit.u1, past_snoc]
            rfl
      · rw [prov_no (decide_eq_false h1), if_neg h1]
  | advice e c =>
    cases st with
    | none => rfl
    | some q =>
      obtain ⟨x, ps⟩ := q
      show (worldOf (some (x, ps)), Askfirst.adviceFn ⟨⟨caseOf x, ps⟩, pastM (caseOf x) ps⟩ e c) = (worldOf (some (x, ps)), adviceM x ps e c)
      unfold Askfirst.adviceFn adviceM Askfirst.withChance Askfirst.withCost
      by_cases h1 : e ≤ 100
      · rw [prov_yes (decide_eq_true h1), if_pos h1]
        by_cases h2 : c ≤ 99
        · rw [prov_yes (decide_eq_true h2), if_pos h2]
          cases h3 : ps.any fun q => q.2 with
          | true => rw [prov_no (show (!Askfirst.isDecided ⟨caseOf x, ps⟩) = false by rw [decided_is, h3]; rfl), if_pos rfl]
          | false =>
            rw [prov_yes (show (!Askfirst.isDecided ⟨caseOf x, ps⟩) = true by rw [decided_is, h3]; rfl), if_neg Bool.false_ne_true]
            rfl
        · rw [prov_no (decide_eq_false h2), if_neg h2]
      · rw [prov_no (decide_eq_false h1), if_neg h1]
  | undo =>
    cases st with
    | none => rfl
    | some q =>
      obtain ⟨x, ps⟩ := q
      show Askfirst.changing (worldOf (some (x, ps))) Askfirst.undoFn = (worldOf (undoM x ps).1, (undoM x ps).2)
      rcases List.eq_nil_or_concat ps with rfl | ⟨ps', q, rfl⟩
      · rfl
      · rw [List.concat_eq_append]
        unfold undoM
        rw [if_neg (by simp), List.dropLast_concat]
        show Askfirst.changing (some ⟨⟨caseOf x, ps' ++ [q]⟩, pastM (caseOf x) (ps' ++ [q])⟩) Askfirst.undoFn = _
        rw [past_snoc]
        rfl
  | answers =>
    cases st with
    | none => rfl
    | some q => rfl
  | tastes =>
    cases st with
    | none => rfl
    | some q =>
      obtain ⟨x, ps⟩ := q
      show (worldOf (some (x, ps)), Except.ok (Told.tastes (tastesBehind (caseOf x) ps))) = _
      rw [tastes_is hg.fit.u1]
      rfl
theorem step_good (st : TSt) (hg : GoodSt st) (c : Call) : GoodSt (stepM' st c).1 := by
  cases c with
  | sure x y e c => exact hg
  | best x e c => exact hg
  | worth x a c => exact hg
  | upTo x y c m => exact hg
  | make x =>
    show GoodSt (beginM st x).1
    unfold beginM
    split
    · rename_i h
      exact ⟨(fit_iff x).mp h, fun a z => (nomatch z), List.nodup_nil⟩
    · exact hg
  | propose a y =>
    cases st with
    | none => exact trivial
    | some q =>
      obtain ⟨x, ps⟩ := q
      show GoodSt (proposeM x ps a y).1
      unfold proposeM
      by_cases h1 : a < nA x
      · rw [if_pos h1]
        by_cases h2 : (ps.any fun q => q.2) = true
        · rw [if_pos h2]; exact hg
        · rw [if_neg h2]
          by_cases h3 : (ps.map Prod.fst).contains a = true
          · rw [if_pos h3]; exact hg
          · rw [if_neg h3]
            refine ⟨hg.fit, fun b hb => ?_, ?_⟩
            · rw [List.map_append] at hb
              rcases List.mem_append.mp hb with hb | hb
              · exact hg.lt b hb
              · have : b = a := by simpa using hb
                rw [this]; exact h1
            · rw [List.map_append]
              refine List.nodup_append.mpr ⟨hg.nd, by simp, fun b hb c hc z => ?_⟩
              have hc : c = a := by simpa using hc
              subst hc
              subst z
              exact h3 (by simpa using hb)
      · rw [if_neg h1]; exact hg
  | advice e c =>
    cases st with
    | none => exact trivial
    | some q => exact hg
  | undo =>
    cases st with
    | none => exact trivial
    | some q =>
      obtain ⟨x, ps⟩ := q
      show GoodSt (undoM x ps).1
      unfold undoM
      by_cases h1 : ps.length = 0
      · rw [if_pos h1]; exact hg
      · rw [if_neg h1]
        refine ⟨hg.fit, fun b hb => hg.lt b ?_, ?_⟩
        · rw [List.map_dropLast] at hb
          exact (List.dropLast_sublist _).subset hb
        · show (ps.dropLast.map Prod.fst).Nodup
          rw [List.map_dropLast]
          exact hg.nd.sublist (List.dropLast_sublist _)
  | answers =>
    cases st with
    | none => exact trivial
    | some q => exact hg
  | tastes =>
    cases st with
    | none => exact trivial
    | some q => exact hg
theorem Good.le {x : GivenTask} {ps : Pairs} (h : Good x ps) : ps.length ≤ 4 := by
  have := acts_length _ _ h.nd h.lt
  rw [List.length_map] at this
  have := h.fit.m4
  omega
end Af
set_option Elab.async false
set_option linter.all false
set_option maxRecDepth 100000
set_option maxHeartbeats 2000000
/-! # talk.py, walked -/
namespace Af
open PySem PySem.Spec PyProof.Rows L2
open Askfirst (GivenTask GivenPlan answerBytes toldBytes Call Did Told isTask caseOf Talk run_ tastesBehind canBe agrees chanceAt rewardAt bestBehind sureOf percent costOf two one listOut flagOut)
local macro_rules | `(tactic| walk_at "af") => `(tactic| first
  | (with_reducible refine i_seq ?_)
  | (with_reducible refine i_asg ?_)
  | (with_reducible refine i_name ?_)
  | (with_reducible refine i_var (by with_unfolding_all rfl) ?_)
  | (with_reducible refine i_C ?_)
  | (with_reducible refine i_op ?_)
  | (with_reducible refine i_rI0 ?_)
  | (with_reducible refine i_cons ?_)
  | (with_reducible refine i_nil ?_)
  | (with_reducible refine i_callS ?_)
  | (with_reducible refine i_cb ?_)
  | (with_reducible refine i_if ?_)
  | (with_reducible refine i_test ?_)
  | (with_reducible refine i_B ?_)
  | (with_reducible refine i_bl ?_)
  | (with_reducible refine i_cmp ?_)
  | (with_reducible refine i_ij ?_)
  | (with_reducible refine i_not ?_)
  | (with_reducible refine i_and ?_)
  | (with_reducible refine i_or ?_)
  | (with_reducible refine i_andV ?_)
  | (with_reducible refine i_orV ?_)
  | (with_reducible refine i_ret ?_)
  | (with_reducible refine i_drop ?_)
  | (with_reducible refine i_next ?_)
  | (with_reducible refine i_un ?_)
  | (with_reducible refine i_rU ?_)
  | ((with_reducible refine i_rI (C := CMul) ?hc ?_); (case hc => first | exact Or.inl ⟨by omega, by omega⟩ | exact Or.inr ⟨by omega, by omega⟩))
  | ((with_reducible refine i_rI (C := fun _ j => 0 < j) ?hc ?_); (case hc => (show (0 : Int) < _; omega)))
  | ((with_reducible refine i_rI (C := CDiv) ?hc ?_); (case hc => exact ⟨by omega, by omega⟩))
  | (with_reducible refine i_tup ?_)
  | (with_reducible refine i_lst ?_)
  | (with_reducible refine i_newT (by with_unfolding_all exact Nat.le_of_ble_eq_true rfl) ?_)
  | (with_reducible refine i_newL (by with_unfolding_all exact Nat.le_of_ble_eq_true rfl) ?_)
  | (with_reducible refine i_bm ?_)
  | (with_reducible refine i_sl ?_)
  | (with_reducible refine i_part ?_)
  | (with_reducible refine i_i ?_)
  | (with_reducible refine i_nopart ?_)
  | (with_reducible refine i_isN ?_)
  | (with_reducible refine i_par ?_)
  | (with_reducible refine i_vw ?_)
  | (with_reducible refine i_par3 ?_)
  | (with_reducible refine i_uvw ?_)
  | (with_reducible refine i_gc ?_)
  | (with_reducible refine i_gn ?_)
  | (with_reducible refine i_for ?_)
  | (with_reducible refine i_lc ?_)
  | (with_reducible refine i_itL ?_)
  | (with_reducible refine i_itT ?_)
  | (with_reducible refine i_itR ?_)
  | (with_reducible refine i_itV ?_)
  | (with_reducible refine i_itZ ?_)
  | (with_reducible refine i_lstRev ?_)
  | (with_reducible refine i_tyes ?_)
  | (with_reducible refine iteT ?_)
  | (with_reducible refine i_one ?_)
  | (with_reducible refine i_two ?_))
/-- what a def about a talk gives: the talk from now on, the answer -/
def TkR (S : Addr → Prop) (H : Hp) (Q : VK) (r : TSt × Did Told) : Prop := ∀ H' t tv' u, Same H H' → H' t = some (.tup [tv', u]) → New H H' u (vN (answerBytes r.2)) → Dep (fun b => S b ∨ H b = none) H' (fun H'' => RTalk H'' tv' r.1) → Q (.ref t) H'
theorem TkR.keep {S : Addr → Prop} {H H1 H2 H3 : Hp} {Q : VK} {st : TSt} {o : Did Told} {tv u : V} {t : Addr} {xs : List Nat} (k : TkR S H Q (st, o)) (D : Dep S H fun H'' => RTalk H'' tv st) (s1 : Same H H1) (n : New H1 H2 u (vN xs)) (s2 : Same H1 H2) (s3 : Same H2 H3)
    (ht : H3 t = some (.tup [tv, u])) (e : xs = answerBytes o) : Q (.ref t) H3 := by
  subst e
  obtain ⟨p, rfl, hp, q⟩ := n
  have s := Same.trans (Same.trans s1 s2) s3
  exact k H3 t tv _ s ht ⟨p, rfl, s1.free hp, s3 _ _ q⟩ ((D.up s).mono fun b h => .inl h)
def sp_begin : Sp := fun vs H Q _ => ∃ (S : Addr → Prop) (tv v : V) (st : TSt) (x : GivenTask), vs = [tv, v] ∧ (Dep S H fun H'' => RTalk H'' tv st) ∧ (Dep S H fun H'' => RTask H'' v x) ∧ TkR S H Q (beginM st x)
def sp_is_decided : Sp := fun vs H Q _ => ∃ (v : V) (ps : Pairs), vs = [v] ∧ RPairs H v ps ∧ Q (.bl (ps.any fun q => q.2)) H
def sp_proposed : Sp := fun vs H Q _ => ∃ (v : V) (ps : Pairs), vs = [v] ∧ RPairs H v ps ∧ ps.length ≤ 100 ∧ ∀ H' u, Same H H' → New H H' u (vN (ps.map Prod.fst)) → Q u H'
def fitsM (r : List Int) (ps : Pairs) : Bool := ps.all fun q => decide (0 ≤ r.getD q.1 0) == q.2
def sp_fits : Sp := fun vs H Q _ => ∃ (u v : V) (r : List Int) (ps : Pairs), vs = [u, v] ∧ RL H u (vI r) ∧ RPairs H v ps ∧ (∀ a ∈ ps.map Prod.fst, a < r.length) ∧ Q (.bl (fitsM r ps)) H
def tastesUp (x : GivenTask) (ps : Pairs) (n : Nat) : List Nat := (List.range n).filter fun t => decide (0 < x.weights.getD t 0) && fitsM (x.rewards.getD t []) ps
def sp_tastes_left : Sp := fun vs H Q _ => ∃ (u v : V) (x : GivenTask) (ps : Pairs), vs = [u, v] ∧ RTask H u x ∧ Fit x ∧ RPairs H v ps ∧ (∀ a ∈ ps.map Prod.fst, a < nA x) ∧ ∀ H' z, Same H H' → New H H' z (vN (tastesM x ps)) → Q z H'
def spTalk (c : Call) (as_ : List V) : Sp := fun vs H Q _ => ∃ (S : Addr → Prop) (tv : V) (x : GivenTask) (ps : Pairs), vs = tv :: as_ ∧ (Dep S H fun H'' => RTalk H'' tv (some (x, ps))) ∧ Good x ps ∧ TkR S H Q (talkM x ps c)
def sp_propose : Sp := fun vs H Q E => ∃ a y, spTalk (.propose a y) [.int (a : Int), .int (yesI y)] vs H Q E
def sp_advice : Sp := fun vs H Q E => ∃ e c, spTalk (.advice e c) [.int (e : Int), .int (c : Int)] vs H Q E
def sp_undo : Sp := spTalk .undo []
def sp_told_answers : Sp := spTalk .answers []
def sp_told_tastes : Sp := spTalk .tastes []
theorem pair_of {H : Hp} {vs : List V} {ps : Pairs} {i : Nat} {y : V} (h : All2 (fun v (p : Nat × Bool) => RT H v [.int (p.1 : Int), .int (yesI p.2)]) vs ps) (hy : vs[i]? = some y) : ∃ (hi : i < ps.length) (t : Addr), y = .ref t ∧ H t = some (.tup [.int ((ps[i]).1 : Int), .int (yesI (ps[i]).2)]) := by
  obtain ⟨p, hp, t, rfl, ht⟩ := h.of hy
  have hi := (List.getElem?_eq_some_iff.mp hp).1
  rw [List.getElem?_eq_getElem hi] at hp
  cases hp
  exact ⟨hi, t, rfl, ht⟩
theorem talk_split {S : Addr → Prop} {H : Hp} {tv : V} {x : GivenTask} {ps : Pairs} (h : Dep S H fun H'' => RTalk H'' tv (some (x, ps))) : ∃ tp tk pv, tv = .ref tp ∧ S tp ∧ H tp = some (.tup [tk, pv]) ∧ (Dep S H fun H'' => RTask H'' tk x) ∧ Dep S H fun H'' => RPairs H'' pv ps := by
  obtain ⟨tk, pv, ⟨tp, rfl, ht⟩, _, _⟩ := h.now
  have hS : S tp := Classical.byContradiction fun ns => by
    obtain ⟨_, _, ⟨t', e, h'⟩, _, _⟩ := h (fun b => if b = tp then none else H b) fun b o sb e => by
      rw [if_neg fun z : b = tp => ns (z ▸ sb)]
      exact e
    cases e
    simp at h'
  have key : ∀ H'', (∀ b o, S b → H b = some o → H'' b = some o) → RTask H'' tk x ∧ RPairs H'' pv ps := fun H'' hH => by
    obtain ⟨tk', pv', ⟨tp', e, h'⟩, hT, hP⟩ := h H'' hH
    cases e
    rw [hH _ _ hS ht] at h'
    have h' := HO.tup.inj (Option.some.inj h')
    injection h' with e1 h'
    injection h' with e2 _
    subst e1
    subst e2
    exact ⟨hT, hP⟩
  exact ⟨tp, tk, pv, rfl, hS, ht, fun H'' hH => (key H'' hH).1, fun H'' hH => (key H'' hH).2⟩
theorem pairs_split {S : Addr → Prop} {H : Hp} {pv : V} {ps : Pairs} (h : Dep S H fun H'' => RPairs H'' pv ps) : ∃ pp vs, pv = .ref pp ∧ S pp ∧ H pp = some (.lst vs) ∧ All2 (fun v (q : Nat × Bool) => Dep S H fun H'' => RT H'' v [.int (q.1 : Int), .int (yesI q.2)]) vs ps := by
  obtain ⟨vs, ⟨pp, rfl, hp⟩, ha⟩ := h.now
  have hS : S pp := Classical.byContradiction fun ns => by
    obtain ⟨_, ⟨t', e, h'⟩, _⟩ := h (fun b => if b = pp then none else H b) fun b o sb e => by
      rw [if_neg fun z : b = pp => ns (z ▸ sb)]
      exact e
    cases e
    simp at h'
  refine ⟨pp, vs, rfl, hS, hp, ha.1, fun i v q hv hq H'' hH => ?_⟩
  obtain ⟨vs', ⟨pp', e, h'⟩, ha'⟩ := h H'' hH
  cases e
  rw [hH _ _ hS hp] at h'
  have h' := HO.lst.inj (Option.some.inj h')
  subst h'
  exact ha'.2 i v q hv hq
theorem yes_dec (b : Bool) : decide (yesI b = 1) = b := by cases b <;> rfl
section
variable {P : Program} {w : World} {K : PySem.W.Frag} {mg : Str → Option Value} {base : Heap} {d : Addr} {as : Nat → Addr} {C : Addr}
theorem ok_begin (T : Txt K mg d as C) : Ok P w K mg base CX0 3 "begin" ["talk", "task"] sp_begin := by
  have G_is_task := ok_is_task (P := P) (w := w) (base := base) T
  have G_refused := ok_refused (P := P) (w := w) (base := base) T
  have G_done := ok_done (P := P) (w := w) (base := base) T
  refine T.d_begin.ok sc_begin (fun vs H Q E h => ?_) fun f cdv A outer s H vs Q E hr h => ⟨_, (pss_cons (ps_if (pt_not (pt_val (pe_cl (E := fun _ => E0) G_is_task (hr.mono (by decide)) (fun σ => pass00 σ) (pa_cons (pv 1) pa_nil)))) (pss_one (ps_ret (pe_tup (pa_cons (pv 0) (pa_cons (pe_cl (E := fun _ => E0) G_refused (hr.mono (by decide)) (fun σ => pass00 σ) (pa_cons (pe_const T.cBAD_TASK) pa_nil)) pa_nil))))) pss_nil)
      (pss_one (ps_ret (pe_tup (pa_cons (pe_tup (pa_cons (pv 1) (pa_cons (pe_lst pa_nil) pa_nil))) (pa_cons (pe_cl (E := fun _ => E0) G_done (hr.mono (by decide)) (fun σ => pass00 σ) (pa_cons (pe_lst pa_nil) pa_nil)) pa_nil)))))), ?_⟩
  · obtain ⟨S, tv, v, st, x, rfl, _⟩ := h
    rfl
  obtain ⟨S, tv, v, st, x, rfl, hD, hX, k⟩ := h
  repeat walk_at "af"
  refine ⟨_, x, rfl, hX.now, ?_⟩
  repeat walk_at "af"
  unfold beginM at k
  refine i_nbool (fun h1 => ?_) fun h1 => ?_
  · rw [if_neg (by rw [h1]; exact Bool.false_ne_true)] at k
    repeat walk_at "af"
    refine ⟨3, rfl, fun H9 u9 s9 n9 => ?_⟩
    repeat walk_at "af"
    intro t2 H2 ht2 s2 q2
    exact k.keep hD (Same.refl _) n9 s9 s2 q2 rfl
  rw [if_pos h1] at k
  repeat walk_at "af"
  intro p1 H1 hp1 s1 q1
  repeat walk_at "af"
  intro t2 H2 ht2 s2 q2
  repeat walk_at "af"
  intro p3 H3 hp3 s3 q3
  repeat walk_at "af"
  refine ⟨_, [], rfl, ⟨p3, rfl, q3⟩, by simp, fun H4 u4 s4 n4 => ?_⟩
  obtain ⟨p4, rfl, hp4, q4⟩ := n4
  repeat walk_at "af"
  intro t5 H5 ht5 s5 q5
  have s13 := Same.trans (Same.trans s1 s2) s3
  have s15 := Same.trans (Same.trans s13 s4) s5
  refine k _ _ _ _ s15 q5 ⟨p4, rfl, s13.free hp4, s5 _ _ q4⟩ fun H'' hH => ?_
  have s25 := Same.trans (Same.trans s3 s4) s5
  refine ⟨v, .ref p1, ⟨t2, rfl, hH _ _ (.inr (s1.free ht2)) (s25 _ _ q2)⟩, ?_, ⟨[], ⟨p1, rfl, hH _ _ (.inr hp1) ((Same.trans s2 s25) _ _ q1)⟩, All2.nil⟩⟩
  exact (hX.up s15) H'' fun b o sb e => hH b o (.inl sb) e
theorem ok_is_decided (T : Txt K mg d as C) : Ok P w K mg base CX0 1 "is_decided" ["pairs"] sp_is_decided := by
  refine T.d_is_decided.ok sc_is_decided (fun vs H Q E h => ?_) fun f cdv A outer s H vs Q E hr h => ⟨_, (pss_cons (ps_for PassesOwn.never rfl (pi_list (pv 0)) (pg_tup rfl (pgs_cons (pg_name (i := 1) sc_is_decided.nd rfl (Or.inl rfl)) (pgs_cons (pg_name (i := 2) sc_is_decided.nd rfl (Or.inl rfl)) pgs_nil)))
      (pss_one (ps_if (pt_cmp (pc_eqI (pv 2) pe_int)) (pss_one (ps_ret pe_bl)) pss_nil)))
      (pss_one (ps_ret pe_bl))), ?_⟩
  · obtain ⟨v, ps, rfl, _⟩ := h
    rfl
  obtain ⟨v, ps, rfl, ⟨vs, ⟨p, rfl, hp⟩, ha⟩, k⟩ := h
  repeat walk_at "af"
  refine i_wL (SqL.of hp) ?_
  refine i_forW (walk_list (xs := vs)) (fun i σ H' => ∃ (a1 a2 : Option V), σ = [some (.ref p), a1, a2] ∧ H' = H ∧ (ps.take i).any (fun q => q.2) = false)
    ⟨none, none, rfl, rfl, rfl⟩ (fun i σ H' _ hP => ?_) (fun i y σ H2 H3 hi hP hy => ?_) fun σ H2 hP => ?_
  · obtain ⟨a1, a2, _, rfl, _⟩ := hP
    exact SqL.of hp
  · obtain ⟨a1, a2, rfl, rfl, h2⟩ := hP
    obtain ⟨rfl, hy⟩ := hy
    obtain ⟨hil, t, rfl, ht⟩ := pair_of ha hy
    refine i_gT (SqT.of ht) rfl ?_
    repeat walk_at "af"
    rw [yes_dec]
    refine i_bool (fun h3 => ?_) fun h3 => ?_
    · repeat walk_at "af"
      have : (ps.any fun q => q.2) = true := List.any_eq_true.mpr ⟨ps[i], List.getElem_mem _, h3⟩
      rw [this] at k
      exact k
    · repeat walk_at "af"
      refine ⟨_, _, rfl, rfl, ?_⟩
      rw [take_snoc hil, List.any_append, h2]
      simp [h3]
  · obtain ⟨a1, a2, rfl, rfl, h2⟩ := hP
    repeat walk_at "af"
    rw [ha.1, List.take_length] at h2
    rw [h2] at k
    exact k
theorem ok_proposed (T : Txt K mg d as C) : Ok P w K mg base CX0 1 "proposed" ["pairs"] sp_proposed := by
  refine T.d_proposed.ok sc_proposed (fun vs H Q E h => ?_) fun f cdv A outer s H vs Q E hr h => ⟨_, (pss_one (ps_ret (pe_lc (own := [("action", 1), ("yes", 2)]) (g := (gTup K 2 (gCons (gName 1) (gCons (gName 2) gNil)))) (tt := tYes) (te := (tVar 1)) rfl sc_proposed.nd (pi_list (pv 0)) (blkOk_by (N := N_proposed) (sc := defScope s_proposed) (by decide +kernel)) (fun _ _ _ _ _ => (pg_tup rfl (pgs_cons (pg_name (i := 1) sc_proposed.nd rfl (Or.inl rfl)) (pgs_cons (pg_name (i := 2) sc_proposed.nd rfl (Or.inl rfl)) pgs_nil)))) (fun _ _ _ _ _ => pts_nil) (fun _ _ _ _ _ => (pv 1))))), ?_⟩
  · obtain ⟨v, ps, rfl, _⟩ := h
    rfl
  obtain ⟨v, ps, rfl, ⟨vs, ⟨p, rfl, hp⟩, ha⟩, hlen, k⟩ := h
  repeat walk_at "af"
  refine i_wL (SqL.of hp) ?_
  refine i_lcW (walk_list (xs := vs)) (fun i => vN ((ps.take i).map Prod.fst)) rfl (fun i hi => ?_) (fun H' s' => SqL.of (s' _ _ hp)) (fun i y H1 H' N1 N0 hi s1 hy n1 n0 => ?_) fun D H1 hD s1 q1 => ?_
  · exact size_lt (by simp; omega)
  · obtain ⟨rfl, hy⟩ := hy
    obtain ⟨hil, t, rfl, ht⟩ := pair_of ha hy
    refine i_gT (SqT.of (s1 _ _ ht)) rfl ?_
    repeat walk_at "af"
    refine ⟨rfl, ?_⟩
    repeat walk_at "af"
    refine n1 _ _ (Same.refl _) ?_
    rw [take_snoc hil, List.map_append, vN_append]
    rfl
  · rw [ha.1, List.take_length] at q1
    exact k _ _ s1 ⟨D, rfl, hD, q1⟩
theorem ok_fits (T : Txt K mg d as C) : Ok P w K mg base CX0 1 "fits" ["row", "pairs"] sp_fits := by
  refine T.d_fits.ok sc_fits (fun vs H Q E h => ?_) fun f cdv A outer s H vs Q E hr h => ⟨_, (pss_cons (ps_for PassesOwn.never rfl (pi_list (pv 1)) (pg_tup rfl (pgs_cons (pg_name (i := 2) sc_fits.nd rfl (Or.inl rfl)) (pgs_cons (pg_name (i := 3) sc_fits.nd rfl (Or.inl rfl)) pgs_nil)))
      (pss_cons (ps_set (i := 4) sc_fits.nd rfl (Or.inl rfl) (pe_cmpR op_ge (pe_ix ix_list (pv 0) (pv 2) (fun _ _ => rfl)) pe_int (nomark _)))
      (pss_one (ps_if (pt_cmpR op_ne (pv 4) (pe_cmp (pc_eqI (pv 3) pe_int)) (nomark _)) (pss_one (ps_ret pe_bl)) pss_nil))))
      (pss_one (ps_ret pe_bl))), ?_⟩
  · obtain ⟨u, v, r, ps, rfl, _⟩ := h
    rfl
  obtain ⟨u, v, r, ps, rfl, ⟨pr, rfl, hpr⟩, ⟨vs, ⟨p, rfl, hp⟩, ha⟩, hlt, k⟩ := h
  repeat walk_at "af"
  refine i_wL (SqL.of hp) ?_
  refine i_forW (walk_list (xs := vs)) (fun i σ H' => ∃ (a1 a2 a3 : Option V), σ = [some (.ref pr), some (.ref p), a1, a2, a3] ∧ H' = H ∧ fitsM r (ps.take i) = true)
    ⟨none, none, none, rfl, rfl, rfl⟩ (fun i σ H' _ hP => ?_) (fun i y σ H2 H3 hi hP hy => ?_) fun σ H2 hP => ?_
  · obtain ⟨a1, a2, a3, _, rfl, _⟩ := hP
    exact SqL.of hp
  · obtain ⟨a1, a2, a3, rfl, rfl, h2⟩ := hP
    obtain ⟨rfl, hy⟩ := hy
    obtain ⟨hil, t, rfl, ht⟩ := pair_of ha hy
    have hal := hlt _ (List.mem_map_of_mem (List.getElem_mem hil))
    refine i_gT (SqT.of ht) rfl ?_
    repeat walk_at "af"
    refine i_ixL (SqL.of hpr) rfl (vI_get hal) ?_
    repeat walk_at "af"
    refine ⟨rfl, _, rfl, ?_⟩
    rw [yes_dec]
    refine i_ndec (fun h3 => ?_) fun h3 => ?_
    · repeat walk_at "af"
      have : fitsM r ps = false := by
        rw [← Bool.not_eq_true]
        intro z
        have z := List.all_eq_true.mp z _ (List.getElem_mem hil)
        exact h3 (congrArg V.bl (by simpa using z))
      rw [this] at k
      exact k
    · repeat walk_at "af"
      refine ⟨_, _, _, rfl, rfl, ?_⟩
      unfold fitsM at h2 ⊢
      rw [take_snoc hil, List.all_append, h2]
      have h3 : decide ((0 : Int) ≤ r.getD (ps[i]).1 0) = (ps[i]).2 := by
        injection h3
      simp only [List.all_cons, List.all_nil, Bool.and_true, Bool.true_and, h3]
      exact beq_self_eq_true _
  · obtain ⟨a1, a2, a3, rfl, rfl, h2⟩ := hP
    repeat walk_at "af"
    rw [ha.1, List.take_length] at h2
    rw [h2] at k
    exact k
theorem ok_tastes_left (T : Txt K mg d as C) : Ok P w K mg base CX0 2 "tastes_left" ["task", "pairs"] sp_tastes_left := by
  have G_fits := ok_fits (P := P) (w := w) (base := base) T
  refine T.d_tastes_left.ok sc_tastes_left (fun vs H Q E h => ?_) fun f cdv A outer s H vs Q E hr h => ⟨_, (pss_cons (ps_asg (pv 0) (pg_tup rfl (pgs_cons (pg_name (i := 2) sc_tastes_left.nd rfl (Or.inl rfl)) (pgs_cons (pg_name (i := 3) sc_tastes_left.nd rfl (Or.inr rfl)) (pgs_cons (pg_name (i := 4) sc_tastes_left.nd rfl (Or.inr rfl)) pgs_nil)))))
      (pss_one (ps_ret (pe_lc (own := [("taste", 5)]) (g := (gName 5)) (tt := (tAnd (tTest (tOp oGt (tOp (rIxL K) (tVar 3) (tVar 5)) (tC (.int 0)))) (tB (tCallS sp_fits (fun _ => E0) (tCons (tOp (rIxL K) (tVar 4) (tVar 5)) (tCons (tVar 1) tNil)))))) (te := (tVar 5)) rfl sc_tastes_left.nd (pi_range1 (by rfl) T.brange (pa_cons (pe_callB call_len_seq (by rfl) T.blen PySem.boot_len (pa_cons (pv 3) pa_nil)) pa_nil)) (blkOk_by (N := N_tastes_left) (sc := defScope s_tastes_left) (by decide +kernel)) (fun _ _ _ _ _ => (pg_name (i := 5) sc_tastes_left.nd rfl (Or.inl rfl))) (fun _ _ _ _ _ => (pts_one (PW.pt (pw_and (pt_cmpR op_gt (pe_ix ix_list (pv 3) (pv 5) (fun _ _ => rfl)) pe_int (nomark _)) (pw_and1 (pt_val (pe_cl (E := fun _ => E0) G_fits (hr.mono (by decide)) (fun σ => pass00 σ) (pa_cons (pe_ix ix_list (pv 4) (pv 5) (fun _ _ => rfl)) (pa_cons (pv 1) pa_nil))))))))) (fun _ _ _ _ _ => (pv 5)))))), ?_⟩
  · obtain ⟨u, v, x, ps, rfl, _⟩ := h
    rfl
  obtain ⟨u, v, x, ps, rfl, ⟨wv, rv, ⟨tp, rfl, ht⟩, ⟨pw, rfl, hw⟩, ⟨rs, ⟨pr, rfl, hr1⟩, hrs⟩⟩, hf, hps, hlt, k⟩ := h
  have w4 := hf.w4
  have hrl := hf.rl
  repeat walk_at "af"
  refine i_gT (SqT.of ht) rfl ?_
  repeat walk_at "af"
  refine i_len (SqL.of hw) ?_
  repeat walk_at "af"
  have e0 : (vN x.weights).length = x.weights.length := by simp
  rw [e0]
  refine i_wR (by omega) ?_
  have snoc : ∀ i, tastesUp x ps (i + 1) = tastesUp x ps i ++ if (decide (0 < x.weights.getD i 0) && fitsM (x.rewards.getD i []) ps) = true then [i] else [] := fun i => by
    unfold tastesUp
    rw [List.range_succ, List.filter_append]
    congr 1
    rw [List.filter_cons]
    rfl
  refine i_lcW walk_range (fun i => vN (tastesUp x ps i)) rfl (fun i hi => ?_) (fun H' s' => trivial) (fun i y H1 H' N1 N0 hi s1 hy n1 n0 => ?_) fun D H1 hD s1 q1 => ?_
  · have h9 : (tastesUp x ps i).length ≤ i := by
      unfold tastesUp
      have := List.length_filter_le (fun t => decide (0 < x.weights.getD t 0) && fitsM (x.rewards.getD t []) ps) (List.range i)
      rw [List.length_range] at this
      exact this
    exact size_lt (by rw [List.length_map]; omega)
  · obtain ⟨rfl, hyv⟩ := hy
    have hyv : y = V.int (i : Int) := hyv.trans (congrArg V.int (by omega))
    subst hyv
    have hir : i < x.rewards.length := by omega
    obtain ⟨rv, hrv, hr2⟩ := hrs.get hir
    have er : x.rewards[i] = x.rewards.getD i [] := by simp [List.getD_eq_getElem?_getD, List.getElem?_eq_getElem hir]
    have hrm : x.rewards[i] ∈ x.rewards := List.getElem_mem _
    rw [er] at hr2 hrm
    have hrow := hf.row _ hrm
    repeat walk_at "af"
    refine ⟨rfl, ?_⟩
    repeat walk_at "af"
    refine i_ixL (j := i) (SqL.of (s1 _ _ hw)) rfl (vN_get hi) ?_
    repeat walk_at "af"
    refine i_dec (fun h3 => ?_) fun h3 => ?_
    · have h3 : 0 < x.weights.getD i 0 := by omega
      repeat walk_at "af"
      refine i_ixL (j := i) (SqL.of (s1 _ _ hr1)) rfl hrv ?_
      repeat walk_at "af"
      refine ⟨_, _, _, ps, rfl, hr2.up s1, hps.up s1, fun a ha => by rw [hrow]; exact hlt a ha, _, rfl, ?_⟩
      refine i_bool (fun h4 => ?_) fun h4 => ?_
      · repeat walk_at "af"
        refine n1 _ _ (Same.refl _) ?_
        rw [snoc, if_pos (by rw [decide_eq_true h3, h4]; rfl), vN_append]
        rfl
      · refine n0 _ (Same.refl _) ?_
        rw [snoc, if_neg (by rw [h4, Bool.and_false]; exact Bool.false_ne_true), List.append_nil]
    · repeat walk_at "af"
      refine n0 _ (Same.refl _) ?_
      rw [snoc, if_neg (by rw [decide_eq_false (show ¬ 0 < x.weights.getD i 0 by omega), Bool.false_and]; exact Bool.false_ne_true), List.append_nil]
  · exact k _ _ s1 ⟨D, rfl, hD, q1⟩
theorem ok_propose (T : Txt K mg d as C) : Ok P w K mg base CX0 4 "propose" ["talk", "action", "yes"] sp_propose := by
  have G_is_action := ok_is_action (P := P) (w := w) (base := base) T
  have G_refused := ok_refused (P := P) (w := w) (base := base) T
  have G_is_decided := ok_is_decided (P := P) (w := w) (base := base) T
  have G_proposed := ok_proposed (P := P) (w := w) (base := base) T
  have G_done := ok_done (P := P) (w := w) (base := base) T
  have G_tastes_left := ok_tastes_left (P := P) (w := w) (base := base) T
  refine T.d_propose.ok sc_propose (fun vs H Q E h => ?_) fun f cdv A outer s H vs Q E hr h => ⟨_, (pss_cons (ps_asg (pv 0) (pg_tup rfl (pgs_cons (pg_name (i := 3) sc_propose.nd rfl (Or.inl rfl)) (pgs_cons (pg_name (i := 4) sc_propose.nd rfl (Or.inl rfl)) pgs_nil))))
      (pss_cons (ps_if (pt_not (pt_val (pe_cl (E := fun _ => E0) G_is_action (hr.mono (by decide)) (fun σ => pass00 σ) (pa_cons (pv 3) (pa_cons (pv 1) pa_nil))))) (pss_one (ps_ret (pe_tup (pa_cons (pv 0) (pa_cons (pe_cl (E := fun _ => E0) G_refused (hr.mono (by decide)) (fun σ => pass00 σ) (pa_cons (pe_const T.cBAD_ACTION) pa_nil)) pa_nil))))) pss_nil)
      (pss_cons (ps_if (pt_val (pe_cl (E := fun _ => E0) G_is_decided (hr.mono (by decide)) (fun σ => pass00 σ) (pa_cons (pv 4) pa_nil))) (pss_one (ps_ret (pe_tup (pa_cons (pv 0) (pa_cons (pe_cl (E := fun _ => E0) G_refused (hr.mono (by decide)) (fun σ => pass00 σ) (pa_cons (pe_const T.cDECIDED) pa_nil)) pa_nil))))) pss_nil)
      (pss_cons (ps_if (pt_cmpR op_in_seq (pv 1) (pe_cl (E := fun _ => E0) G_proposed (hr.mono (by decide)) (fun σ => pass00 σ) (pa_cons (pv 4) pa_nil)) (by rfl)) (pss_one (ps_ret (pe_tup (pa_cons (pv 0) (pa_cons (pe_cl (E := fun _ => E0) G_refused (hr.mono (by decide)) (fun σ => pass00 σ) (pa_cons (pe_const T.cPROPOSED) pa_nil)) pa_nil))))) pss_nil)
      (pss_cons (ps_set (i := 5) sc_propose.nd rfl (Or.inl rfl) (pe_op op_cat (pv 4) (pe_lst (pa_cons (pe_tup (pa_cons (pv 1) (pa_cons (pv 2) pa_nil))) pa_nil))))
      (pss_one (ps_ret (pe_tup (pa_cons (pe_tup (pa_cons (pv 3) (pa_cons (pv 5) pa_nil))) (pa_cons (pe_cl (E := fun _ => E0) G_done (hr.mono (by decide)) (fun σ => pass00 σ) (pa_cons (pe_lst (pa_cons (pe_callB call_len_seq (by rfl) T.blen PySem.boot_len (pa_cons (pe_cl (E := fun _ => E0) G_tastes_left (hr.mono (by decide)) (fun σ => pass00 σ) (pa_cons (pv 3) (pa_cons (pv 5) pa_nil))) pa_nil)) pa_nil)) pa_nil)) pa_nil)))))))))), ?_⟩
  · obtain ⟨a, y, S, tv, x, ps, rfl, _⟩ := h
    rfl
  obtain ⟨a, y, S, tv, x, ps, rfl, hD, hg, k⟩ := h
  obtain ⟨tp, tk, pv, rfl, hStp, ht, hDT, hDP⟩ := talk_split hD
  have hT := hDT.now
  have hP := hDP.now
  obtain ⟨pp, vs, rfl, hSpp, hp, ha⟩ := pairs_split hDP
  have l4 := hg.le
  have hf := hg.fit
  have k : TkR S H Q (proposeM x ps a y) := k
  unfold proposeM at k
  repeat walk_at "af"
  refine i_gT (SqT.of ht) rfl ?_
  repeat walk_at "af"
  refine ⟨_, x, a, rfl, hT, hf, ?_⟩
  repeat walk_at "af"
  refine i_ndec (fun h1 => ?_) fun h1 => ?_
  · rw [if_neg h1] at k
    repeat walk_at "af"
    refine ⟨5, rfl, fun H9 u9 s9 n9 => ?_⟩
    repeat walk_at "af"
    intro t2 H2 ht2 s2 q2
    exact k.keep hD (Same.refl _) n9 s9 s2 q2 rfl
  rw [if_pos h1] at k
  repeat walk_at "af"
  refine ⟨_, ps, rfl, hP, ?_⟩
  repeat walk_at "af"
  refine i_bool (fun h2 => ?_) fun h2 => ?_
  · rw [if_pos h2] at k
    repeat walk_at "af"
    refine ⟨9, rfl, fun H9 u9 s9 n9 => ?_⟩
    repeat walk_at "af"
    intro t2 H2 ht2 s2 q2
    exact k.keep hD (Same.refl _) n9 s9 s2 q2 rfl
  rw [if_neg (by rw [h2]; exact Bool.false_ne_true)] at k
  repeat walk_at "af"
  refine ⟨_, ps, rfl, hP, by omega, fun H1 u1 s1 n1 => ?_⟩
  obtain ⟨p1, rfl, hp1, q1⟩ := n1
  repeat walk_at "af"
  refine i_in (SqL.of q1) rfl (flat_vN _) ?_
  repeat walk_at "af"
  rw [inV_nat]
  refine i_bool (fun h3 => ?_) fun h3 => ?_
  · have h3 : (ps.map Prod.fst).contains a = true := h3
    rw [if_pos h3] at k
    repeat walk_at "af"
    refine ⟨10, rfl, fun H9 u9 s9 n9 => ?_⟩
    repeat walk_at "af"
    intro t2 H2 ht2 s2 q2
    exact k.keep hD s1 n9 s9 s2 q2 rfl
  have h3 : (ps.map Prod.fst).contains a = false := h3
  rw [if_neg (by rw [h3]; exact Bool.false_ne_true)] at k
  repeat walk_at "af"
  intro t2 H2 ht2 s2 q2
  repeat walk_at "af"
  intro p3 H3 hp3 s3 q3
  repeat walk_at "af"
  have s13 := Same.trans (Same.trans s1 s2) s3
  have hvl := ha.1
  refine i_cat (s13 _ _ hp) q3 (size_of (by simp; omega)) fun p4 H4 hp4 s4 q4 => ?_
  repeat walk_at "af"
  intro t5 H5 ht5 s5 q5
  repeat walk_at "af"
  have s14 := Same.trans s13 s4
  have s15 := Same.trans s14 s5
  have hlt : ∀ b ∈ (ps ++ [(a, y)]).map Prod.fst, b < nA x := fun b hb => by
    rw [List.map_append] at hb
    rcases List.mem_append.mp hb with hb | hb
    · exact hg.lt b hb
    · have : b = a := by simpa using hb
      rw [this]; exact h1
  have hP5 : RPairs H5 (.ref p4) (ps ++ [(a, y)]) := by
    refine ⟨vs ++ [.ref t2], ⟨p4, rfl, s5 _ _ q4⟩, All2.snoc (ha.imp fun v q hv => hv.now.up s15) ⟨t2, rfl, ?_⟩⟩
    exact (Same.trans (Same.trans s3 s4) s5) _ _ q2
  refine ⟨_, _, x, ps ++ [(a, y)], rfl, hT.up s15, hf, hP5, hlt, fun H6 u6 s6 n6 => ?_⟩
  obtain ⟨p6, rfl, hp6, q6⟩ := n6
  repeat walk_at "af"
  refine i_len (SqL.of q6) ?_
  repeat walk_at "af"
  intro p7 H7 hp7 s7 q7
  repeat walk_at "af"
  have e6 : (vN (tastesM x (ps ++ [(a, y)]))).length = (tastesM x (ps ++ [(a, y)])).length := by simp
  rw [e6] at q7
  refine ⟨_, [(tastesM x (ps ++ [(a, y)])).length], rfl, ⟨p7, rfl, q7⟩, by simp, fun H8 u8 s8 n8 => ?_⟩
  obtain ⟨p8, rfl, hp8, q8⟩ := n8
  repeat walk_at "af"
  intro t9 H9 ht9 s9 q9
  have s17 := Same.trans (Same.trans s15 s6) s7
  have s19 := Same.trans (Same.trans s17 s8) s9
  have s69 := Same.trans (Same.trans (Same.trans s6 s7) s8) s9
  have e8 : (tastesM x (ps ++ [(a, y)])).length % 256 = (tastesM x (ps ++ [(a, y)])).length := by
    refine Nat.mod_eq_of_lt ?_
    have := List.length_filter_le (fun t => decide (0 < x.weights.getD t 0) && (ps ++ [(a, y)]).all fun q => decide (0 ≤ (x.rewards.getD t []).getD q.1 0) == q.2) (List.range x.weights.length)
    rw [List.length_range] at this
    have hw4 := hf.w4
    show (List.filter _ _).length < 256
    omega
  refine k _ _ _ _ s19 q9 ⟨p8, rfl, s17.free hp8, ?_⟩ fun H'' hH => ?_
  · rw [s9 _ _ q8]
    show some (HO.lst (vN [0, (tastesM x (ps ++ [(a, y)])).length])) = some (HO.lst (vN [0, (tastesM x (ps ++ [(a, y)])).length % 256]))
    rw [e8]
  · have hS : ∀ b o, S b → H9 b = some o → H'' b = some o := fun b o sb e => hH b o (.inl sb) e
    refine ⟨tk, .ref p4, ⟨t5, rfl, hH _ _ (.inr (s14.free ht5)) (s69 _ _ q5)⟩, (hDT.up s19) H'' hS, ⟨vs ++ [.ref t2], ⟨p4, rfl, hH _ _ (.inr (s13.free hp4)) ((Same.trans s5 s69) _ _ q4)⟩, ?_⟩⟩
    exact All2.snoc (ha.imp fun v q hv => (hv.up s19) H'' hS) ⟨t2, rfl, hH _ _ (.inr (s1.free ht2)) ((Same.trans (Same.trans (Same.trans s3 s4) s5) s69) _ _ q2)⟩
theorem ok_advice (T : Txt K mg d as C) : Ok P w K mg base CX0 9 "advice" ["talk", "error", "cost"] sp_advice := by
  have G_is_error := ok_is_error (P := P) (w := w) (base := base) T
  have G_is_cost := ok_is_cost (P := P) (w := w) (base := base) T
  have G_refused := ok_refused (P := P) (w := w) (base := base) T
  have G_is_decided := ok_is_decided (P := P) (w := w) (base := base) T
  have G_proposed := ok_proposed (P := P) (w := w) (base := base) T
  have G_told_best := ok_told_best (P := P) (w := w) (base := base) T
  refine T.d_advice.ok sc_advice (fun vs H Q E h => ?_) fun f cdv A outer s H vs Q E hr h => ⟨_, (pss_cons (ps_asg (pv 0) (pg_tup rfl (pgs_cons (pg_name (i := 3) sc_advice.nd rfl (Or.inl rfl)) (pgs_cons (pg_name (i := 4) sc_advice.nd rfl (Or.inl rfl)) pgs_nil))))
      (pss_cons (ps_if (pt_not (pt_val (pe_cl (E := fun _ => E0) G_is_error (hr.mono (by decide)) (fun σ => pass00 σ) (pa_cons (pv 1) pa_nil)))) (pss_one (ps_ret (pe_tup (pa_cons (pv 0) (pa_cons (pe_cl (E := fun _ => E0) G_refused (hr.mono (by decide)) (fun σ => pass00 σ) (pa_cons (pe_const T.cBAD_ERROR) pa_nil)) pa_nil))))) pss_nil)
      (pss_cons (ps_if (pt_not (pt_val (pe_cl (E := fun _ => E0) G_is_cost (hr.mono (by decide)) (fun σ => pass00 σ) (pa_cons (pv 2) pa_nil)))) (pss_one (ps_ret (pe_tup (pa_cons (pv 0) (pa_cons (pe_cl (E := fun _ => E0) G_refused (hr.mono (by decide)) (fun σ => pass00 σ) (pa_cons (pe_const T.cBAD_COST) pa_nil)) pa_nil))))) pss_nil)
      (pss_cons (ps_if (pt_val (pe_cl (E := fun _ => E0) G_is_decided (hr.mono (by decide)) (fun σ => pass00 σ) (pa_cons (pv 4) pa_nil))) (pss_one (ps_ret (pe_tup (pa_cons (pv 0) (pa_cons (pe_cl (E := fun _ => E0) G_refused (hr.mono (by decide)) (fun σ => pass00 σ) (pa_cons (pe_const T.cDECIDED) pa_nil)) pa_nil))))) pss_nil)
      (pss_one (ps_ret (pe_tup (pa_cons (pv 0) (pa_cons (pe_cl (E := fun _ => E0) G_told_best (hr.mono (by decide)) (fun σ => pass00 σ) (pa_cons (pv 3) (pa_cons (pe_cl (E := fun _ => E0) G_proposed (hr.mono (by decide)) (fun σ => pass00 σ) (pa_cons (pv 4) pa_nil)) (pa_cons (pv 1) (pa_cons (pv 2) pa_nil))))) pa_nil))))))))), ?_⟩
  · obtain ⟨e, c, S, tv, x, ps, rfl, _⟩ := h
    rfl
  obtain ⟨e, c, S, tv, x, ps, rfl, hD, hg, k⟩ := h
  obtain ⟨tp, tk, pv, rfl, hStp, ht, hDT, hDP⟩ := talk_split hD
  have hT := hDT.now
  have hP := hDP.now
  obtain ⟨pp, vs, rfl, hSpp, hp, ha⟩ := pairs_split hDP
  have l4 := hg.le
  have hf := hg.fit
  have k : TkR S H Q (some (x, ps), adviceM x ps e c) := k
  unfold adviceM at k
  repeat walk_at "af"
  refine i_gT (SqT.of ht) rfl ?_
  repeat walk_at "af"
  refine ⟨e, rfl, ?_⟩
  repeat walk_at "af"
  refine i_ndec (fun h1 => ?_) fun h1 => ?_
  · rw [if_neg h1] at k
    repeat walk_at "af"
    refine ⟨6, rfl, fun H9 u9 s9 n9 => ?_⟩
    repeat walk_at "af"
    intro t2 H2 ht2 s2 q2
    exact k.keep hD (Same.refl _) n9 s9 s2 q2 rfl
  rw [if_pos h1] at k
  repeat walk_at "af"
  refine ⟨c, rfl, ?_⟩
  repeat walk_at "af"
  refine i_ndec (fun h2 => ?_) fun h2 => ?_
  · rw [if_neg h2] at k
    repeat walk_at "af"
    refine ⟨7, rfl, fun H9 u9 s9 n9 => ?_⟩
    repeat walk_at "af"
    intro t2 H2 ht2 s2 q2
    exact k.keep hD (Same.refl _) n9 s9 s2 q2 rfl
  rw [if_pos h2] at k
  repeat walk_at "af"
  refine ⟨_, ps, rfl, hP, ?_⟩
  repeat walk_at "af"
  refine i_bool (fun h3 => ?_) fun h3 => ?_
  · rw [if_pos h3] at k
    repeat walk_at "af"
    refine ⟨9, rfl, fun H9 u9 s9 n9 => ?_⟩
    repeat walk_at "af"
    intro t2 H2 ht2 s2 q2
    exact k.keep hD (Same.refl _) n9 s9 s2 q2 rfl
  rw [if_neg (by rw [h3]; exact Bool.false_ne_true)] at k
  repeat walk_at "af"
  refine ⟨_, ps, rfl, hP, by omega, fun H1 u1 s1 n1 => ?_⟩
  repeat walk_at "af"
  refine ⟨_, x, _, ps.map Prod.fst, e, c, rfl, hT.up s1, hf, n1.rl, hg.nd, hg.lt, h1, h2, fun H2 u2 s2 n2 => ?_⟩
  repeat walk_at "af"
  intro t3 H3 ht3 s3 q3
  exact k.keep hD s1 n2 s2 s3 q3 rfl
theorem ok_undo (T : Txt K mg d as C) : Ok P w K mg base CX0 2 "undo" ["talk"] sp_undo := by
  have G_refused := ok_refused (P := P) (w := w) (base := base) T
  have G_done := ok_done (P := P) (w := w) (base := base) T
  refine T.d_undo.ok sc_undo (fun vs H Q E h => ?_) fun f cdv A outer s H vs Q E hr h => ⟨_, (pss_cons (ps_asg (pv 0) (pg_tup rfl (pgs_cons (pg_name (i := 1) sc_undo.nd rfl (Or.inl rfl)) (pgs_cons (pg_name (i := 2) sc_undo.nd rfl (Or.inl rfl)) pgs_nil))))
      (pss_cons (ps_if (pt_cmp (pc_eqI (pe_callB call_len_seq (by rfl) T.blen PySem.boot_len (pa_cons (pv 2) pa_nil)) pe_int)) (pss_one (ps_ret (pe_tup (pa_cons (pv 0) (pa_cons (pe_cl (E := fun _ => E0) G_refused (hr.mono (by decide)) (fun σ => pass00 σ) (pa_cons (pe_const T.cNOTHING_TO_UNDO) pa_nil)) pa_nil))))) pss_nil)
      (pss_one (ps_ret (pe_tup (pa_cons (pe_tup (pa_cons (pv 1) (pa_cons (pe_slice sl_list (pv 2) po_none (po_some (pe_un un_neg pe_int))) pa_nil))) (pa_cons (pe_cl (E := fun _ => E0) G_done (hr.mono (by decide)) (fun σ => pass00 σ) (pa_cons (pe_lst pa_nil) pa_nil)) pa_nil))))))), ?_⟩
  · obtain ⟨S, tv, x, ps, rfl, _⟩ := h
    rfl
  obtain ⟨S, tv, x, ps, rfl, hD, hg, k⟩ := h
  obtain ⟨tp, tk, pv, rfl, hStp, ht, hDT, hDP⟩ := talk_split hD
  have hT := hDT.now
  have hP := hDP.now
  obtain ⟨pp, vs, rfl, hSpp, hp, ha⟩ := pairs_split hDP
  have l4 := hg.le
  have hf := hg.fit
  have k : TkR S H Q (undoM x ps) := k
  unfold undoM at k
  have hvl := ha.1
  repeat walk_at "af"
  refine i_gT (SqT.of ht) rfl ?_
  repeat walk_at "af"
  refine i_len (SqL.of hp) ?_
  repeat walk_at "af"
  refine i_dec (fun h1 => ?_) fun h1 => ?_
  · rw [if_pos (by omega)] at k
    repeat walk_at "af"
    refine ⟨11, rfl, fun H9 u9 s9 n9 => ?_⟩
    repeat walk_at "af"
    intro t2 H2 ht2 s2 q2
    exact k.keep hD (Same.refl _) n9 s9 s2 q2 rfl
  rw [if_neg (by omega)] at k
  repeat walk_at "af"
  refine i_slL (SqL.of hp) fun p1 H1 hp1 s1 q1 => ?_
  have ec : cutV vs none (some (-1)) = vs.dropLast := by
    unfold cutV
    rw [HT.sIx_none, List.drop_zero, List.dropLast_eq_take, Nat.sub_zero]
    congr 1
    show (if (-1 : Int) < 0 then ((-1 : Int) + (vs.length : Int)).toNat else min (-1 : Int).toNat vs.length) = _
    rw [if_pos (by decide)]
    omega
  rw [ec] at q1
  repeat walk_at "af"
  intro t2 H2 ht2 s2 q2
  repeat walk_at "af"
  intro p3 H3 hp3 s3 q3
  repeat walk_at "af"
  refine ⟨_, [], rfl, ⟨p3, rfl, q3⟩, by simp, fun H4 u4 s4 n4 => ?_⟩
  obtain ⟨p4, rfl, hp4, q4⟩ := n4
  repeat walk_at "af"
  intro t5 H5 ht5 s5 q5
  have s13 := Same.trans (Same.trans s1 s2) s3
  have s15 := Same.trans (Same.trans s13 s4) s5
  have s25 := Same.trans (Same.trans s3 s4) s5
  refine k _ _ _ _ s15 q5 ⟨p4, rfl, s13.free hp4, s5 _ _ q4⟩ fun H'' hH => ?_
  have hS : ∀ b o, S b → H5 b = some o → H'' b = some o := fun b o sb e => hH b o (.inl sb) e
  refine ⟨tk, .ref p1, ⟨t2, rfl, hH _ _ (.inr (s1.free ht2)) (s25 _ _ q2)⟩, (hDT.up s15) H'' hS, ⟨vs.dropLast, ⟨p1, rfl, hH _ _ (.inr hp1) ((Same.trans s2 s25) _ _ q1)⟩, ?_⟩⟩
  exact (ha.imp fun v q hv => (hv.up s15) H'' hS).dropLast
theorem ok_told_answers (T : Txt K mg d as C) : Ok P w K mg base CX0 3 "told_answers" ["talk"] sp_told_answers := by
  have G_put_count := ok_put_count (P := P) (w := w) (base := base) T
  have G_done := ok_done (P := P) (w := w) (base := base) T
  refine T.d_told_answers.ok sc_told_answers (fun vs H Q E h => ?_) fun f cdv A outer s H vs Q E hr h => ⟨_, (pss_cons (ps_asg (pv 0) (pg_tup rfl (pgs_cons (pg_name (i := 1) sc_told_answers.nd rfl (Or.inl rfl)) (pgs_cons (pg_name (i := 2) sc_told_answers.nd rfl (Or.inl rfl)) pgs_nil))))
      (pss_cons (ps_set (i := 3) sc_told_answers.nd rfl (Or.inl rfl) (pe_cl (E := fun _ => E0) G_put_count (hr.mono (by decide)) (fun σ => pass00 σ) (pa_cons (pe_callB call_len_seq (by rfl) T.blen PySem.boot_len (pa_cons (pv 2) pa_nil)) pa_nil)))
      (pss_cons (ps_for PassesOwn.never rfl (pi_list (pv 2)) (pg_tup rfl (pgs_cons (pg_name (i := 4) sc_told_answers.nd rfl (Or.inl rfl)) (pgs_cons (pg_name (i := 5) sc_told_answers.nd rfl (Or.inl rfl)) pgs_nil)))
      (pss_cons (ps_expr (pe_bm PySem.F.plainAttrs_list PySem.F.slot_list_append PySem.F.type_list_append mt_append (pv 3) (pa_cons (pv 4) pa_nil)))
      (pss_one (ps_expr (pe_bm PySem.F.plainAttrs_list PySem.F.slot_list_append PySem.F.type_list_append mt_append (pv 3) (pa_cons (pv 5) pa_nil))))))
      (pss_one (ps_ret (pe_tup (pa_cons (pv 0) (pa_cons (pe_cl (E := fun _ => E0) G_done (hr.mono (by decide)) (fun σ => pass00 σ) (pa_cons (pv 3) pa_nil)) pa_nil)))))))), ?_⟩
  · obtain ⟨S, tv, x, ps, rfl, _⟩ := h
    rfl
  obtain ⟨S, tv, x, ps, rfl, hD, hg, k⟩ := h
  obtain ⟨tp, tk, pv, rfl, hStp, ht, hDT, hDP⟩ := talk_split hD
  have hT := hDT.now
  have hP := hDP.now
  obtain ⟨pp, vs, rfl, hSpp, hp, ha⟩ := pairs_split hDP
  have l4 := hg.le
  have hf := hg.fit
  have k : TkR S H Q (some (x, ps), .ok (.answers ps)) := k
  have hvl := ha.1
  repeat walk_at "af"
  refine i_gT (SqT.of ht) rfl ?_
  repeat walk_at "af"
  refine i_len (SqL.of hp) ?_
  repeat walk_at "af"
  refine ⟨vs.length, rfl, fun H1 u1 s1 n1 => ?_⟩
  obtain ⟨l, rfl, hl, q1⟩ := n1
  repeat walk_at "af"
  refine i_wL (SqL.of (s1 _ _ hp)) ?_
  refine i_forW (walk_list (xs := vs)) (fun i σ H' => ∃ (a1 a2 : Option V), σ = [some (.ref tp), some tk, some (.ref pp), some (.ref l), a1, a2] ∧ Same H H' ∧ H' l = some (.lst (vN (two vs.length ++ (ps.take i).flatMap fun q => [q.1, if q.2 then 1 else 0]))))
    ⟨none, none, rfl, s1, by rw [q1]; simp⟩ (fun i σ H' _ hP => ?_) (fun i y σ H2 H3 hi hP hy => ?_) fun σ H2 hP => ?_
  · obtain ⟨a1, a2, _, s2, _⟩ := hP
    exact SqL.of (s2 _ _ hp)
  · obtain ⟨a1, a2, rfl, s2, q2⟩ := hP
    obtain ⟨rfl, hy⟩ := hy
    obtain ⟨hil, t, rfl, ht3⟩ := pair_of (ha.imp fun v q hv => hv.now.up s2) hy
    refine i_gT (SqT.of ht3) rfl ?_
    have hsz : ∀ L : Pairs, (L.flatMap fun q => [q.1, if q.2 then 1 else 0]).length = 2 * L.length := fun L => by
      induction L with
      | nil => rfl
      | cons q L ih => rw [List.flatMap_cons, List.length_append, ih, List.length_cons]; simp; omega
    have h2l : (two vs.length).length = 2 := rfl
    repeat walk_at "af"
    refine ⟨tyl q2, ?_⟩
    repeat walk_at "af"
    refine i_app q2 (size_lt (by simp only [List.length_map, List.length_append, hsz, h2l, List.length_take]; omega)) ?_
    repeat walk_at "af"
    refine ⟨tyl upd_same, ?_⟩
    repeat walk_at "af"
    refine i_app upd_same (size_lt (by simp only [List.length_map, List.length_append, hsz, h2l, List.length_take, List.length_singleton]; omega)) ?_
    refine ⟨some (.int ((ps[i]).1 : Int)), some (.int (yesI (ps[i]).2)), rfl, Same.mut (Same.mut s2 hl) hl, ?_⟩
    rw [upd_same, take_snoc hil, List.flatMap_append, ← List.append_assoc, vN_append]
    have e1 : (List.flatMap (fun q : Nat × Bool => [q.1, if q.2 then 1 else 0]) [ps[i]]) = [(ps[i]).1, if (ps[i]).2 then 1 else 0] := by simp
    rw [e1]
    cases (ps[i]).2 <;> simp [yesI]
  · obtain ⟨a1, a2, rfl, s2, q2⟩ := hP
    rw [hvl, List.take_length] at q2
    repeat walk_at "af"
    have hsz : ∀ L : Pairs, (L.flatMap fun q => [q.1, if q.2 then 1 else 0]).length = 2 * L.length := fun L => by
      induction L with
      | nil => rfl
      | cons q L ih => rw [List.flatMap_cons, List.length_append, ih, List.length_cons]; simp; omega
    have h2l : (two ps.length).length = 2 := rfl
    refine ⟨_, _, rfl, ⟨l, rfl, q2⟩, by simp only [List.length_append, hsz, h2l]; omega, fun H4 u4 s4 n4 => ?_⟩
    repeat walk_at "af"
    intro t5 H5 ht5 s5 q5
    refine k.keep hD s2 n4 s4 s5 q5 ?_
    show _ = 0 :: (two ps.length ++ ps.flatMap fun e => one e.1 ++ flagOut e.2)
    have e2 : ∀ L : Pairs, (∀ q ∈ L, q.1 < 256) → (L.flatMap fun q => [q.1, if q.2 then 1 else 0]) = L.flatMap fun e => one e.1 ++ flagOut e.2 := fun L hL => by
      induction L with
      | nil => rfl
      | cons q L ih =>
        rw [List.flatMap_cons, List.flatMap_cons, ih fun q hq => hL q (List.mem_cons_of_mem _ hq)]
        have e3 : one q.1 = [q.1] := by
          show [q.1 % 256] = _
          rw [Nat.mod_eq_of_lt (hL q List.mem_cons_self)]
        rw [e3]
        rfl
    have m4 := hf.m4
    rw [e2 ps fun q hq => by have := hg.lt _ (List.mem_map_of_mem hq); omega]
theorem ok_told_tastes (T : Txt K mg d as C) : Ok P w K mg base CX0 4 "told_tastes" ["talk"] sp_told_tastes := by
  have G_put_octets := ok_put_octets (P := P) (w := w) (base := base) T
  have G_done := ok_done (P := P) (w := w) (base := base) T
  have G_tastes_left := ok_tastes_left (P := P) (w := w) (base := base) T
  refine T.d_told_tastes.ok sc_told_tastes (fun vs H Q E h => ?_) fun f cdv A outer s H vs Q E hr h => ⟨_, (pss_cons (ps_asg (pv 0) (pg_tup rfl (pgs_cons (pg_name (i := 1) sc_told_tastes.nd rfl (Or.inl rfl)) (pgs_cons (pg_name (i := 2) sc_told_tastes.nd rfl (Or.inl rfl)) pgs_nil))))
      (pss_one (ps_ret (pe_tup (pa_cons (pv 0) (pa_cons (pe_cl (E := fun _ => E0) G_done (hr.mono (by decide)) (fun σ => pass00 σ) (pa_cons (pe_cl (E := fun _ => E0) G_put_octets (hr.mono (by decide)) (fun σ => pass00 σ) (pa_cons (pe_cl (E := fun _ => E0) G_tastes_left (hr.mono (by decide)) (fun σ => pass00 σ) (pa_cons (pv 1) (pa_cons (pv 2) pa_nil))) pa_nil)) pa_nil)) pa_nil)))))), ?_⟩
  · obtain ⟨S, tv, x, ps, rfl, _⟩ := h
    rfl
  obtain ⟨S, tv, x, ps, rfl, hD, hg, k⟩ := h
  obtain ⟨tp, tk, pv, rfl, hStp, ht, hDT, hDP⟩ := talk_split hD
  have hT := hDT.now
  have hP := hDP.now
  obtain ⟨pp, vs, rfl, hSpp, hp, ha⟩ := pairs_split hDP
  have l4 := hg.le
  have hf := hg.fit
  have k : TkR S H Q (some (x, ps), .ok (.tastes (tastesM x ps))) := k
  repeat walk_at "af"
  refine i_gT (SqT.of ht) rfl ?_
  repeat walk_at "af"
  refine ⟨_, _, x, ps, rfl, hT, hf, hP, hg.lt, fun H1 u1 s1 n1 => ?_⟩
  have htl : (tastesM x ps).length ≤ 4 := by
    have := List.length_filter_le (fun t => decide (0 < x.weights.getD t 0) && ps.all fun q => decide (0 ≤ (x.rewards.getD t []).getD q.1 0) == q.2) (List.range x.weights.length)
    rw [List.length_range] at this
    have hw4 := hf.w4
    show (List.filter _ _).length ≤ 4
    omega
  repeat walk_at "af"
  refine ⟨_, _, rfl, n1.rl, by omega, fun H2 u2 s2 n2 => ?_⟩
  repeat walk_at "af"
  have h2l : (two (tastesM x ps).length).length = 2 := rfl
  refine ⟨_, _, rfl, n2.rl, by rw [List.length_append, h2l]; omega, fun H3 u3 s3 n3 => ?_⟩
  repeat walk_at "af"
  intro t5 H5 ht5 s5 q5
  refine k.keep hD (Same.trans s1 s2) n3 s3 s5 q5 ?_
  show _ = 0 :: (two (tastesM x ps).length ++ (tastesM x ps).flatMap one)
  rw [flatMap_one _ fun a ha => ?_]
  have := List.mem_range.mp (List.mem_filter.mp ha).1
  have hw4 := hf.w4
  omega
/-- the talk's requests -/
def sp_talk_answer : Sp := fun vs H Q _ => ∃ (c : Call) (v : V) (S : Addr → Prop) (tv : V) (x : GivenTask) (ps : Pairs), vs = [.int (numOf c : Int), tv, v] ∧ 6 ≤ numOf c ∧ RGiven H v (itemsOf c) ∧ (Dep S H fun H'' => RTalk H'' tv (some (x, ps))) ∧ Good x ps ∧ TkR S H Q (talkM x ps c)
theorem ok_talk_answer (T : Txt K mg d as C) : Ok P w K mg base CX0 10 "talk_answer" ["command", "talk", "given"] sp_talk_answer := by
  have G_propose := ok_propose (P := P) (w := w) (base := base) T
  have G_advice := ok_advice (P := P) (w := w) (base := base) T
  have G_undo := ok_undo (P := P) (w := w) (base := base) T
  have G_told_answers := ok_told_answers (P := P) (w := w) (base := base) T
  have G_told_tastes := ok_told_tastes (P := P) (w := w) (base := base) T
  refine T.d_talk_answer.ok sc_talk_answer (fun vs H Q E h => ?_) fun f cdv A outer s H vs Q E hr h => ⟨_, (pss_cons (ps_if (pt_cmp (pc_eqI (pv 0) pe_int)) (pss_cons (ps_asg (pv 2) (pg_lst rfl (pgs_cons (pg_name (i := 3) sc_talk_answer.nd rfl (Or.inl rfl)) (pgs_cons (pg_name (i := 4) sc_talk_answer.nd rfl (Or.inl rfl)) pgs_nil))))
      (pss_one (ps_ret (pe_cl (E := fun _ => E0) G_propose (hr.mono (by decide)) (fun σ => pass00 σ) (pa_cons (pv 1) (pa_cons (pv 3) (pa_cons (pv 4) pa_nil))))))) pss_nil)
      (pss_cons (ps_if (pt_cmp (pc_eqI (pv 0) pe_int)) (pss_cons (ps_asg (pv 2) (pg_lst rfl (pgs_cons (pg_name (i := 5) sc_talk_answer.nd rfl (Or.inl rfl)) (pgs_cons (pg_name (i := 6) sc_talk_answer.nd rfl (Or.inl rfl)) pgs_nil))))
      (pss_one (ps_ret (pe_cl (E := fun _ => E0) G_advice (hr.mono (by decide)) (fun σ => pass00 σ) (pa_cons (pv 1) (pa_cons (pv 5) (pa_cons (pv 6) pa_nil))))))) pss_nil)
      (pss_cons (ps_if (pt_cmp (pc_eqI (pv 0) pe_int)) (pss_one (ps_ret (pe_cl (E := fun _ => E0) G_undo (hr.mono (by decide)) (fun σ => pass00 σ) (pa_cons (pv 1) pa_nil)))) pss_nil)
      (pss_cons (ps_if (pt_cmp (pc_eqI (pv 0) pe_int)) (pss_one (ps_ret (pe_cl (E := fun _ => E0) G_told_answers (hr.mono (by decide)) (fun σ => pass00 σ) (pa_cons (pv 1) pa_nil)))) pss_nil)
      (pss_one (ps_ret (pe_cl (E := fun _ => E0) G_told_tastes (hr.mono (by decide)) (fun σ => pass00 σ) (pa_cons (pv 1) pa_nil)))))))), ?_⟩
  · obtain ⟨c, v, S, tv, x, ps, rfl, _⟩ := h
    rfl
  obtain ⟨c, v, S, tv, x, ps, rfl, h6, ⟨vs, ⟨p, rfl, hp⟩, ha⟩, hD, hg, k⟩ := h
  cases c with
  | sure x y e c => exact absurd h6 (by show ¬ 6 ≤ 1; decide)
  | best x e c => exact absurd h6 (by show ¬ 6 ≤ 2; decide)
  | worth x a c => exact absurd h6 (by show ¬ 6 ≤ 3; decide)
  | upTo x y c m => exact absurd h6 (by show ¬ 6 ≤ 4; decide)
  | make x => exact absurd h6 (by show ¬ 6 ≤ 5; decide)
  | propose a y =>
    obtain ⟨v1, _, rfl, r1, ha⟩ := all2_one ha
    obtain ⟨v2, _, rfl, r2, ha⟩ := all2_one ha
    obtain rfl := all2_nil ha
    obtain ⟨rfl, _⟩ := r1
    obtain rfl := r2
    repeat walk_at "af"
    refine i_dec (fun _ => ?_) (fun z => absurd rfl z)
    repeat walk_at "af"
    refine i_gL (SqL.of hp) rfl ?_
    repeat walk_at "af"
    exact ⟨a, y, S, tv, x, ps, rfl, hD, hg, k⟩
  | advice e c =>
    obtain ⟨v1, _, rfl, r1, ha⟩ := all2_one ha
    obtain ⟨v2, _, rfl, r2, ha⟩ := all2_one ha
    obtain rfl := all2_nil ha
    obtain ⟨rfl, _⟩ := r1
    obtain ⟨rfl, _⟩ := r2
    repeat walk_at "af"
    refine i_dec (fun z => absurd (show (7 : Int) = 6 from z) (by decide)) (fun _ => ?_)
    repeat walk_at "af"
    refine i_dec (fun _ => ?_) (fun z => absurd rfl z)
    repeat walk_at "af"
    refine i_gL (SqL.of hp) rfl ?_
    repeat walk_at "af"
    exact ⟨e, c, S, tv, x, ps, rfl, hD, hg, k⟩
  | undo =>
    repeat walk_at "af"
    refine i_dec (fun z => absurd (show (8 : Int) = 6 from z) (by decide)) (fun _ => ?_)
    repeat walk_at "af"
    refine i_dec (fun z => absurd (show (8 : Int) = 7 from z) (by decide)) (fun _ => ?_)
    repeat walk_at "af"
    refine i_dec (fun _ => ?_) (fun z => absurd rfl z)
    repeat walk_at "af"
    exact ⟨S, tv, x, ps, rfl, hD, hg, k⟩
  | answers =>
    repeat walk_at "af"
    refine i_dec (fun z => absurd (show (9 : Int) = 6 from z) (by decide)) (fun _ => ?_)
    repeat walk_at "af"
    refine i_dec (fun z => absurd (show (9 : Int) = 7 from z) (by decide)) (fun _ => ?_)
    repeat walk_at "af"
    refine i_dec (fun z => absurd (show (9 : Int) = 8 from z) (by decide)) (fun _ => ?_)
    repeat walk_at "af"
    refine i_dec (fun _ => ?_) (fun z => absurd rfl z)
    repeat walk_at "af"
    exact ⟨S, tv, x, ps, rfl, hD, hg, k⟩
  | tastes =>
    repeat walk_at "af"
    refine i_dec (fun z => absurd (show (10 : Int) = 6 from z) (by decide)) (fun _ => ?_)
    repeat walk_at "af"
    refine i_dec (fun z => absurd (show (10 : Int) = 7 from z) (by decide)) (fun _ => ?_)
    repeat walk_at "af"
    refine i_dec (fun z => absurd (show (10 : Int) = 8 from z) (by decide)) (fun _ => ?_)
    repeat walk_at "af"
    refine i_dec (fun z => absurd (show (10 : Int) = 9 from z) (by decide)) (fun _ => ?_)
    repeat walk_at "af"
    exact ⟨S, tv, x, ps, rfl, hD, hg, k⟩
end
end Af
set_option Elab.async false
set_option linter.all false
set_option maxRecDepth 100000
set_option maxHeartbeats 2000000
/-! # session.py: reply -/
namespace Af
open PySem PySem.Spec PyProof.Rows L2
open Askfirst (GivenTask GivenPlan answerBytes toldBytes Call Did Told isTask caseOf)
local macro_rules | `(tactic| walk_at "af") => `(tactic| first
  | (with_reducible refine i_seq ?_)
  | (with_reducible refine i_asg ?_)
  | (with_reducible refine i_name ?_)
  | (with_reducible refine i_var (by with_unfolding_all rfl) ?_)
  | (with_reducible refine i_C ?_)
  | (with_reducible refine i_op ?_)
  | (with_reducible refine i_rI0 ?_)
  | (with_reducible refine i_cons ?_)
  | (with_reducible refine i_nil ?_)
  | (with_reducible refine i_callS ?_)
  | (with_reducible refine i_cb ?_)
  | (with_reducible refine i_if ?_)
  | (with_reducible refine i_test ?_)
  | (with_reducible refine i_B ?_)
  | (with_reducible refine i_bl ?_)
  | (with_reducible refine i_cmp ?_)
  | (with_reducible refine i_ij ?_)
  | (with_reducible refine i_not ?_)
  | (with_reducible refine i_and ?_)
  | (with_reducible refine i_or ?_)
  | (with_reducible refine i_andV ?_)
  | (with_reducible refine i_orV ?_)
  | (with_reducible refine i_ret ?_)
  | (with_reducible refine i_drop ?_)
  | (with_reducible refine i_next ?_)
  | (with_reducible refine i_un ?_)
  | (with_reducible refine i_rU ?_)
  | ((with_reducible refine i_rI (C := CMul) ?hc ?_); (case hc => first | exact Or.inl ⟨by omega, by omega⟩ | exact Or.inr ⟨by omega, by omega⟩))
  | ((with_reducible refine i_rI (C := fun _ j => 0 < j) ?hc ?_); (case hc => (show (0 : Int) < _; omega)))
  | ((with_reducible refine i_rI (C := CDiv) ?hc ?_); (case hc => exact ⟨by omega, by omega⟩))
  | (with_reducible refine i_tup ?_)
  | (with_reducible refine i_lst ?_)
  | (with_reducible refine i_newT (by with_unfolding_all exact Nat.le_of_ble_eq_true rfl) ?_)
  | (with_reducible refine i_newL (by with_unfolding_all exact Nat.le_of_ble_eq_true rfl) ?_)
  | (with_reducible refine i_bm ?_)
  | (with_reducible refine i_sl ?_)
  | (with_reducible refine i_part ?_)
  | (with_reducible refine i_i ?_)
  | (with_reducible refine i_nopart ?_)
  | (with_reducible refine i_isN ?_)
  | (with_reducible refine i_par ?_)
  | (with_reducible refine i_vw ?_)
  | (with_reducible refine i_par3 ?_)
  | (with_reducible refine i_uvw ?_)
  | (with_reducible refine i_gc ?_)
  | (with_reducible refine i_gn ?_)
  | (with_reducible refine i_for ?_)
  | (with_reducible refine i_lc ?_)
  | (with_reducible refine i_itL ?_)
  | (with_reducible refine i_itT ?_)
  | (with_reducible refine i_itR ?_)
  | (with_reducible refine i_itV ?_)
  | (with_reducible refine i_itZ ?_)
  | (with_reducible refine i_lstRev ?_)
  | (with_reducible refine i_tyes ?_)
  | (with_reducible refine iteT ?_)
  | (with_reducible refine i_one ?_)
  | (with_reducible refine i_two ?_))
def replyM (st : TSt) (l : List Nat) : TSt × Did Told := match requestOf l with
  | none => (st, .error .unread)
  | some c => stepM' st c
def sp_reply : Sp := fun vs H Q _ => ∃ (S : Addr → Prop) (tv o : V) (st : TSt) (l : List Nat), vs = [tv, o] ∧ (Dep S H fun H'' => RTalk H'' tv st) ∧ GoodSt st ∧ RL H o (vN l) ∧ Oct l ∧ TkR S H Q (replyM st l)
theorem TkR.later {S : Addr → Prop} {H H1 : Hp} {Q : VK} {r : TSt × Did Told} (k : TkR S H Q r) (s : Same H H1) : TkR (fun b => S b ∨ H b = none) H1 Q r := fun H' t tv' u s' ht n D =>
  k H' t tv' u (Same.trans s s') ht (n.back s) (D.mono fun b hb => hb.elim id fun e => .inr (s.free e))
theorem given_split {S : Addr → Prop} {H : Hp} {pv : V} {its : List Item} (h : Dep S H fun H'' => RGiven H'' pv its) : ∃ pp vs, pv = .ref pp ∧ S pp ∧ H pp = some (.lst vs) ∧ All2 (fun v (it : Item) => Dep S H fun H'' => RItem H'' v it) vs its := by
  obtain ⟨vs, ⟨pp, rfl, hp⟩, ha⟩ := h.now
  have hS : S pp := Classical.byContradiction fun ns => by
    obtain ⟨_, ⟨t', e, h'⟩, _⟩ := h (fun b => if b = pp then none else H b) fun b o sb e => by
      rw [if_neg fun z : b = pp => ns (z ▸ sb)]
      exact e
    cases e
    simp at h'
  refine ⟨pp, vs, rfl, hS, hp, ha.1, fun i v q hv hq H'' hH => ?_⟩
  obtain ⟨vs', ⟨pp', e, h'⟩, ha'⟩ := h H'' hH
  cases e
  rw [hH _ _ hS hp] at h'
  have h' := HO.lst.inj (Option.some.inj h')
  subst h'
  exact ha'.2 i v q hv hq
theorem step_low (st : TSt) {c : Call} (h : numOf c ≤ 4) : stepM' st c = (st, tellM c) := by
  cases c with
  | sure x y e c => rfl
  | best x e c => rfl
  | worth x a c => rfl
  | upTo x y c m => rfl
  | make x => exact absurd h (by show ¬ 5 ≤ 4; decide)
  | propose a y => exact absurd h (by show ¬ 6 ≤ 4; decide)
  | advice e c => exact absurd h (by show ¬ 7 ≤ 4; decide)
  | undo => exact absurd h (by show ¬ 8 ≤ 4; decide)
  | answers => exact absurd h (by show ¬ 9 ≤ 4; decide)
  | tastes => exact absurd h (by show ¬ 10 ≤ 4; decide)
theorem step_none {c : Call} (h : 6 ≤ numOf c) : stepM' none c = (none, .error .noTalk) := by
  cases c with
  | sure x y e c => exact absurd h (by show ¬ 6 ≤ 1; decide)
  | best x e c => exact absurd h (by show ¬ 6 ≤ 2; decide)
  | worth x a c => exact absurd h (by show ¬ 6 ≤ 3; decide)
  | upTo x y c m => exact absurd h (by show ¬ 6 ≤ 4; decide)
  | make x => exact absurd h (by show ¬ 6 ≤ 5; decide)
  | propose a y => rfl
  | advice e c => rfl
  | undo => rfl
  | answers => rfl
  | tastes => rfl
theorem step_talk (x : GivenTask) (ps : Pairs) {c : Call} (h : 6 ≤ numOf c) : stepM' (some (x, ps)) c = talkM x ps c := by
  cases c with
  | sure x y e c => exact absurd h (by show ¬ 6 ≤ 1; decide)
  | best x e c => exact absurd h (by show ¬ 6 ≤ 2; decide)
  | worth x a c => exact absurd h (by show ¬ 6 ≤ 3; decide)
  | upTo x y c m => exact absurd h (by show ¬ 6 ≤ 4; decide)
  | make x => exact absurd h (by show ¬ 6 ≤ 5; decide)
  | propose a y => rfl
  | advice e c => rfl
  | undo => rfl
  | answers => rfl
  | tastes => rfl
theorem step_mid {c : Call} (h : numOf c = 5) : ∃ x, c = .make x := by
  cases c with
  | sure x y e c => exact absurd h (by show ¬ 1 = 5; decide)
  | best x e c => exact absurd h (by show ¬ 2 = 5; decide)
  | worth x a c => exact absurd h (by show ¬ 3 = 5; decide)
  | upTo x y c m => exact absurd h (by show ¬ 4 = 5; decide)
  | make x => exact ⟨x, rfl⟩
  | propose a y => exact absurd h (by show ¬ 6 = 5; decide)
  | advice e c => exact absurd h (by show ¬ 7 = 5; decide)
  | undo => exact absurd h (by show ¬ 8 = 5; decide)
  | answers => exact absurd h (by show ¬ 9 = 5; decide)
  | tastes => exact absurd h (by show ¬ 10 = 5; decide)
section
variable {P : Program} {w : World} {K : PySem.W.Frag} {mg : Str → Option Value} {base : Heap} {d : Addr} {as : Nat → Addr} {C : Addr}
/-- refused, called while an exception is handled -/
theorem hot_refused (T : Txt K mg d as C) : ∃ f fd, mg "refused" = some (.ref f) ∧ PySem.W.keepIn K (.ref f) = true ∧ Binds K fd ["number"] [] ∧ L2H.FnH P w K mg base CX0 1 f fd ["number"] sp_refused := by
  obtain ⟨f, fd, g, F, b⟩ := T.d_refused.ex
  have kp := F.kp
  obtain ⟨oc, od, kV, doc, pm, an, cdv, ct, osl, rfl, lk, hcd⟩ := F.ex
  refine ⟨f, _, g, kp, b, L2H.fn_ofH lk hcd sc_refused (fun vs H Q E h => ?_) fun A outer s H vs Q E p hot hr h => ⟨_, (pss_one (ps_ret (pe_lst (pa_cons pe_int (pa_cons (pv 0) pa_nil))))), ?_⟩⟩
  · obtain ⟨n, rfl, _⟩ := h
    rfl
  obtain ⟨n, rfl, k⟩ := h
  repeat walk_at "af"
  intro l1 H1 hl1 s1 q1
  exact k _ _ s1 ⟨l1, rfl, hl1, q1⟩
theorem ok_reply (T : Txt K mg d as C) : Ok P w K mg base CX0 11 "reply" ["talk", "octets"] sp_reply := by
  have G_read_request := ok_read_request (P := P) (w := w) (base := base) T
  have G_command_answer := ok_command_answer (P := P) (w := w) (base := base) T
  have G_begin := ok_begin (P := P) (w := w) (base := base) T
  have G_refused := ok_refused (P := P) (w := w) (base := base) T
  have G_talk_answer := ok_talk_answer (P := P) (w := w) (base := base) T
  obtain ⟨f2, fd2, g2, kp2, b2, F2⟩ := hot_refused (P := P) (w := w) (base := base) T
  refine T.d_reply.ok sc_reply (fun vs H Q E h => ?_) fun f cdv A outer s H vs Q E hr h => ⟨_, (pss_cons (L2H.ps_try_onlyX (tb := fun W => tAsg (tCallS (sp_read_request C) (fun σ => WE W σ) (tCons (tVar 1) tNil)) (gTup K 2 (gCons (gName 2) (gCons (gName 3) gNil)))) (ts := fun _ _ _ => tRet (tTup (tCons (tVar 0) (tCons (tCallS sp_refused (fun _ => E0) (tCons (tC (.int 1)) tNil)) tNil)))) (Wout := fun _ _ _ _ => False) rfl rfl ⟨rfl, by decide, Or.inl T.gU⟩ (fun _ => PassesOwnAt.never) takes0 (fun W pn xe tkW _ _ => (pss_one (ps_asg (pe_cl G_read_request (hr.mono (by decide)) (fun σ => passN tkW σ) (pa_cons (pv 1) pa_nil)) (pg_tup rfl (pgs_cons (pg_name (i := 2) sc_reply.nd rfl (Or.inl rfl)) (pgs_cons (pg_name (i := 3) sc_reply.nd rfl (Or.inl rfl)) pgs_nil)))))) (fun a oe cls dd pn hz hfd tkS hot => (pss_one (ps_ret (pe_tup (pa_cons (pv 0) (pa_cons (L2H.pe_callH (E := fun _ => E0) F2 ⟨(hr.mono (by decide : 1 ≤ 10)).dp, (hr.mono (by decide : 1 ≤ 10)).un⟩ hot rfl g2 kp2 b2 (fun σ => pass00 σ) (pa_cons (pe_const T.cUNREADABLE) pa_nil)) pa_nil)))))))
      (pss_cons (ps_if (pt_cmpR op_le (pv 2) pe_int (nomark _)) (pss_one (ps_ret (pe_tup (pa_cons (pv 0) (pa_cons (pe_cl (E := fun _ => E0) G_command_answer (hr.mono (by decide)) (fun σ => pass00 σ) (pa_cons (pv 2) (pa_cons (pv 3) pa_nil))) pa_nil))))) pss_nil)
      (pss_cons (ps_if (pt_cmp (pc_eqI (pv 2) pe_int)) (pss_one (ps_ret (pe_cl (E := fun _ => E0) G_begin (hr.mono (by decide)) (fun σ => pass00 σ) (pa_cons (pv 0) (pa_cons (pe_ix ix_list (pv 3) pe_int (fun _ _ => rfl)) pa_nil))))) pss_nil)
      (pss_cons (ps_if (pt_cmp (pc_isN (pv 0))) (pss_one (ps_ret (pe_tup (pa_cons (pv 0) (pa_cons (pe_cl (E := fun _ => E0) G_refused (hr.mono (by decide)) (fun σ => pass00 σ) (pa_cons (pe_const T.cNO_TALK) pa_nil)) pa_nil))))) pss_nil)
      (pss_one (ps_ret (pe_cl (E := fun _ => E0) G_talk_answer (hr.mono (by decide)) (fun σ => pass00 σ) (pa_cons (pv 2) (pa_cons (pv 0) (pa_cons (pv 3) pa_nil)))))))))), ?_⟩
  · obtain ⟨S, tv, o, st, l, rfl, _⟩ := h
    rfl
  obtain ⟨S, tv, o, st, l, rfl, hD, hg, hl, ho, k⟩ := h
  unfold replyM at k
  repeat walk_at "af"
  refine ⟨_, l, rfl, hl, ho, fun hn H1 s1 => ?_, fun c hc H1 t u s1 ht hu => ?_⟩
  · rw [hn] at k
    refine ⟨true, T.eU, fun _ a ha => ?_, fun z => (nomatch z)⟩
    repeat walk_at "af"
    refine ⟨1, rfl, fun H9 u9 s9 n9 => ?_⟩
    repeat walk_at "af"
    intro t2 H2 ht2 s2 q2
    exact k.keep hD s1 n9 s9 s2 q2 rfl
  rw [hc] at k
  have k : TkR S H Q (stepM' st c) := k
  refine i_gT (SqT.of ht) rfl ?_
  repeat walk_at "af"
  have hD1 := hD.up s1
  obtain ⟨pg, vs, rfl, hpgn, hpg, ha⟩ := given_split hu
  refine i_dec (fun h4 => ?_) fun h4 => ?_
  · have h4n : numOf c ≤ 4 := by omega
    rw [step_low st h4n] at k
    repeat walk_at "af"
    refine ⟨c, _, rfl, h4n, hu.now, fun H9 u9 s9 n9 => ?_⟩
    repeat walk_at "af"
    intro t2 H2 ht2 s2 q2
    exact k.keep hD s1 n9 s9 s2 q2 rfl
  repeat walk_at "af"
  refine i_dec (fun h5 => ?_) fun h5 => ?_
  · obtain ⟨x, rfl⟩ := step_mid (c := c) (by omega)
    obtain ⟨v1, _, rfl, r1, _⟩ := all2_one ha
    repeat walk_at "af"
    refine i_ixL (j := 0) (SqL.of hpg) rfl rfl ?_
    repeat walk_at "af"
    exact ⟨_, tv, v1, st, x, rfl, hD1.mono fun b hb => .inl hb, Dep.mono (show Dep _ _ _ from r1) fun b hb => .inr hb, k.later s1⟩
  have h6 : 6 ≤ numOf c := by omega
  repeat walk_at "af"
  cases st with
  | none =>
    rw [step_none h6] at k
    have etv : tv = .non := hD.now
    subst etv
    refine i_dec (fun _ => ?_) (fun z => absurd rfl z)
    repeat walk_at "af"
    refine ⟨2, rfl, fun H9 u9 s9 n9 => ?_⟩
    repeat walk_at "af"
    intro t2 H2 ht2 s2 q2
    exact k.keep hD s1 n9 s9 s2 q2 rfl
  | some q =>
    obtain ⟨x, ps⟩ := q
    rw [step_talk x ps h6] at k
    obtain ⟨tp, tk, pv, rfl, _⟩ := talk_split hD
    refine i_dec (fun z => nomatch z) (fun _ => ?_)
    repeat walk_at "af"
    exact ⟨c, _, _, _, x, ps, rfl, h6, hu.now, hD1.mono fun b hb => .inl hb, hg, k.later s1⟩
end
end Af
set_option Elab.async false
set_option linter.all false
set_option maxRecDepth 100000
set_option maxHeartbeats 2000000
/-! # session.py: answers -/
namespace Af
open PySem PySem.Spec PyProof.Rows L2
open Askfirst (GivenTask GivenPlan answerBytes toldBytes Call Did Told isTask caseOf run_ commandOf fractionOut two one listOut optionOut planOut eight four flagOut failOut octets)
local macro_rules | `(tactic| walk_at "af") => `(tactic| first
  | (with_reducible refine i_seq ?_)
  | (with_reducible refine i_asg ?_)
  | (with_reducible refine i_name ?_)
  | (with_reducible refine i_var (by with_unfolding_all rfl) ?_)
  | (with_reducible refine i_C ?_)
  | (with_reducible refine i_op ?_)
  | (with_reducible refine i_rI0 ?_)
  | (with_reducible refine i_cons ?_)
  | (with_reducible refine i_nil ?_)
  | (with_reducible refine i_callS ?_)
  | (with_reducible refine i_cb ?_)
  | (with_reducible refine i_if ?_)
  | (with_reducible refine i_test ?_)
  | (with_reducible refine i_B ?_)
  | (with_reducible refine i_bl ?_)
  | (with_reducible refine i_cmp ?_)
  | (with_reducible refine i_ij ?_)
  | (with_reducible refine i_not ?_)
  | (with_reducible refine i_and ?_)
  | (with_reducible refine i_or ?_)
  | (with_reducible refine i_andV ?_)
  | (with_reducible refine i_orV ?_)
  | (with_reducible refine i_ret ?_)
  | (with_reducible refine i_drop ?_)
  | (with_reducible refine i_next ?_)
  | (with_reducible refine i_un ?_)
  | (with_reducible refine i_rU ?_)
  | ((with_reducible refine i_rI (C := CMul) ?hc ?_); (case hc => first | exact Or.inl ⟨by omega, by omega⟩ | exact Or.inr ⟨by omega, by omega⟩))
  | ((with_reducible refine i_rI (C := fun _ j => 0 < j) ?hc ?_); (case hc => (show (0 : Int) < _; omega)))
  | ((with_reducible refine i_rI (C := CDiv) ?hc ?_); (case hc => exact ⟨by omega, by omega⟩))
  | (with_reducible refine i_tup ?_)
  | (with_reducible refine i_lst ?_)
  | (with_reducible refine i_newT (by with_unfolding_all exact Nat.le_of_ble_eq_true rfl) ?_)
  | (with_reducible refine i_newL (by with_unfolding_all exact Nat.le_of_ble_eq_true rfl) ?_)
  | (with_reducible refine i_bm ?_)
  | (with_reducible refine i_sl ?_)
  | (with_reducible refine i_part ?_)
  | (with_reducible refine i_i ?_)
  | (with_reducible refine i_nopart ?_)
  | (with_reducible refine i_isN ?_)
  | (with_reducible refine i_par ?_)
  | (with_reducible refine i_vw ?_)
  | (with_reducible refine i_par3 ?_)
  | (with_reducible refine i_uvw ?_)
  | (with_reducible refine i_gc ?_)
  | (with_reducible refine i_gn ?_)
  | (with_reducible refine i_for ?_)
  | (with_reducible refine i_lc ?_)
  | (with_reducible refine i_itL ?_)
  | (with_reducible refine i_itT ?_)
  | (with_reducible refine i_itR ?_)
  | (with_reducible refine i_itV ?_)
  | (with_reducible refine i_itZ ?_)
  | (with_reducible refine i_lstRev ?_)
  | (with_reducible refine i_tyes ?_)
  | (with_reducible refine iteT ?_)
  | (with_reducible refine i_one ?_)
  | (with_reducible refine i_two ?_))
/-! ### what is asked, what is due -/
def flatM (rows : List (List Int)) : List Int := rows.flatMap fun r => 0 :: (r.length : Int) :: r
theorem calls_flat : ∀ (f : Nat) (l : List Int) (cs : List (List (List Int))), PyFlat.calls PyZz34.shape f l = some cs → ∃ rows, l = flatM rows ∧ cs.map PyZz34.whole = rows.map fun r => [r]
  | f, [], cs, h => by
    have h : some [] = some cs := by
      cases f <;> exact h
    cases h
    exact ⟨[], rfl, rfl⟩
  | 0, p :: r, cs, h => by cases h
  | f + 1, p :: r, cs, h => by
    unfold PyFlat.calls at h
    by_cases hp : p = 0
    · subst hp
      have hc : PyFlat.call PyZz34.shape ((0 : Int) :: r) = (PyFlat.row r).map fun q => ([[0], q.1], q.2) := by
        show (if r.length < 0 then none else match PyFlat.rows 1 (r.drop 0) with
          | none => none
          | some (xs, t) => some (((0 : Int) :: r.take 0) :: xs, t)) = _
        rw [if_neg (by omega), List.drop_zero]
        show (match (match PyFlat.row r with
          | none => none
          | some (x, s) => some ([x], s)) with
          | none => none
          | some (xs, t) => some (((0 : Int) :: r.take 0) :: xs, t)) = _
        cases PyFlat.row r with
        | none => rfl
        | some q => rfl
      rw [hc] at h
      cases hr : PyFlat.row r with
      | none => rw [hr] at h; cases h
      | some q =>
        obtain ⟨x, t⟩ := q
        rw [hr] at h
        have h : (match PyFlat.calls PyZz34.shape f t with
          | none => none
          | some cs => some ([[0], x] :: cs)) = some cs := h
        cases hc2 : PyFlat.calls PyZz34.shape f t with
        | none => rw [hc2] at h; cases h
        | some cs2 =>
          rw [hc2] at h
          have h : some ([[0], x] :: cs2) = some cs := h
          cases h
          obtain ⟨rows, e1, e2⟩ := calls_flat f t cs2 hc2
          refine ⟨x :: rows, ?_, ?_⟩
          · cases r with
            | nil => cases hr
            | cons n r' =>
              have hr : (if 0 ≤ n ∧ n.toNat ≤ r'.length then some (r'.take n.toNat, r'.drop n.toNat) else none) = some (x, t) := hr
              by_cases hn : 0 ≤ n ∧ n.toNat ≤ r'.length
              · rw [if_pos hn] at hr
                have hx : r'.take n.toNat = x := congrArg Prod.fst (Option.some.inj hr)
                have ht : r'.drop n.toNat = t := congrArg Prod.snd (Option.some.inj hr)
                have hl : n = (x.length : Int) := by
                  rw [← hx, List.length_take]
                  omega
                show (0 : Int) :: n :: r' = (0 :: (x.length : Int) :: x) ++ flatM rows
                rw [← e1, ← hl, ← hx, ← ht]
                show (0 : Int) :: n :: r' = 0 :: n :: (r'.take n.toNat ++ r'.drop n.toNat)
                rw [List.take_append_drop]
              · rw [if_neg hn] at hr
                cases hr
          · rw [List.map_cons, List.map_cons, e2]
            rfl
    · have hs : PyZz34.shape p = none := if_neg hp
      have hc : PyFlat.call PyZz34.shape (p :: r) = none := by
        unfold PyFlat.call
        simp only [hs]
      rw [hc] at h
      cases h
/-- one request more -/
def stepR (s : TSt × List Int) (r : List Int) : TSt × List Int :=
  ((replyM s.1 (r.map Int.toNat)).1, s.2 ++ (((answerBytes (replyM s.1 (r.map Int.toNat)).2).length : Int) :: intsOf (answerBytes (replyM s.1 (r.map Int.toNat)).2)))
theorem bytes_fraction (q : Rat) : ∀ b ∈ fractionOut q, b < 256 := by
  intro b hb
  unfold fractionOut eight four at hb
  simp only [List.mem_append, List.mem_cons, List.not_mem_nil, or_false] at hb
  omega
theorem bytes_list {α : Type} (f : α → List Nat) (l : List α) (h : ∀ a b, b ∈ f a → b < 256) : ∀ b ∈ listOut f l, b < 256 := by
  intro b hb
  rcases List.mem_append.mp hb with hb | hb
  · unfold two at hb
    simp only [List.mem_cons, List.not_mem_nil, or_false] at hb
    omega
  · obtain ⟨a, _, hb⟩ := List.mem_flatMap.mp hb
    exact h a b hb
theorem bytes_one (n b : Nat) (h : b ∈ one n) : b < 256 := by
  have : b = n % 256 := by simpa [one] using h
  omega
theorem bytes_option {α : Type} (f : α → List Nat) (o : Option α) (h : ∀ a b, b ∈ f a → b < 256) : ∀ b ∈ optionOut f o, b < 256 := by
  intro b hb
  cases o with
  | none =>
    have : b = 0 := by simpa [optionOut] using hb
    omega
  | some a =>
    rcases List.mem_cons.mp hb with hb | hb
    · omega
    · exact h a b hb
theorem bytes_told (o : Told) : ∀ b ∈ toldBytes o, b < 256 := by
  intro b hb
  cases o with
  | done => cases hb
  | sure m l =>
    rcases List.mem_append.mp hb with hb | hb
    · exact bytes_fraction _ b hb
    · exact bytes_list _ _ (fun a b h => bytes_list _ _ (fun q b h => bytes_fraction q b h) b h) b hb
  | best p m =>
    rcases List.mem_append.mp hb with hb | hb
    · rcases List.mem_append.mp hb with hb | hb
      · exact bytes_list _ _ bytes_one b hb
      · exact bytes_option _ _ bytes_one b hb
    · exact bytes_fraction _ b hb
  | worth g d o =>
    rcases List.mem_append.mp hb with hb | hb
    · exact bytes_fraction _ b hb
    · rcases List.mem_append.mp hb with hb | hb
      · exact bytes_fraction _ b hb
      · exact bytes_option _ _ (fun q b h => bytes_fraction q b h) b hb
  | percents o => exact bytes_option _ _ bytes_one b hb
  | count n => exact bytes_one n b hb
  | answers l =>
    refine bytes_list _ _ (fun e b h => ?_) b hb
    rcases List.mem_append.mp h with h | h
    · exact bytes_one _ b h
    · unfold flagOut at h
      have h : b = if e.2 = true then 1 else 0 := by simpa using h
      rw [h]
      split <;> decide
  | tastes l => exact bytes_list _ _ bytes_one b hb
theorem bytes_answer (o : Did Told) : ∀ b ∈ answerBytes o, b < 256 := by
  intro b hb
  cases o with
  | ok t =>
    rcases List.mem_cons.mp hb with hb | hb
    · omega
    · exact bytes_told t b hb
  | error e =>
    rcases List.mem_cons.mp hb with hb | hb
    · omega
    · cases e <;> (have hb := List.mem_singleton.mp hb; omega)
theorem numbers_is (l : List Nat) (h : ∀ b ∈ l, b < 256) : Zz34Neutral.numbersOf (octets l) = intsOf l := by
  unfold Zz34Neutral.numbersOf octets intsOf
  rw [List.map_map]
  refine List.map_congr_left fun b hb => ?_
  show Int.ofNat (UInt8.ofNat b).toNat = (b : Int)
  rw [UInt8.toNat_ofNat']
  rw [Nat.mod_eq_of_lt (h b hb)]
  rfl
def Byt (r : List Int) : Prop := ∀ i ∈ r, 0 ≤ i ∧ i ≤ 255
theorem byt_nat {i : Int} (h : 0 ≤ i ∧ i ≤ 255) : (UInt8.ofNat i.toNat).toNat = i.toNat := by
  rw [UInt8.toNat_ofNat']
  exact Nat.mod_eq_of_lt (by omega)
theorem command_is : ∀ (r : List Int), Byt r → commandOf (Zz34Neutral.bytesOf r) = requestOf (r.map Int.toNat)
  | [], _ => rfl
  | c :: r, h => by
    have e1 := byt_nat (h c List.mem_cons_self)
    have e2 : ((r.map fun n : Int => UInt8.ofNat n.toNat).map fun b : UInt8 => b.toNat) = r.map Int.toNat := by
      rw [List.map_map]
      exact List.map_congr_left fun i hi => byt_nat (h i (List.mem_cons_of_mem _ hi))
    show (match Askfirst.takeCall (UInt8.ofNat c.toNat).toNat ((r.map fun n : Int => UInt8.ofNat n.toNat).map fun b : UInt8 => b.toNat) with
      | some (x, []) => some x
      | _ => none) = match Askfirst.takeCall c.toNat (r.map Int.toNat) with
      | some (x, []) => some x
      | _ => none
    rw [e1, e2]
theorem reply_good {st : TSt} (hg : GoodSt st) (l : List Nat) : GoodSt (replyM st l).1 := by
  unfold replyM
  cases requestOf l with
  | none => exact hg
  | some c => exact step_good st hg c
theorem step_is {st : TSt} (hg : GoodSt st) {r : List Int} (hb : Byt r) : Zz34Neutral.step (worldOf st) r = (worldOf (replyM st (r.map Int.toNat)).1, intsOf (answerBytes (replyM st (r.map Int.toNat)).2)) := by
  unfold Zz34Neutral.step Zz34Octets.step
  rw [command_is r hb]
  unfold replyM
  cases requestOf (r.map Int.toNat) with
  | none =>
    show (worldOf st, Zz34Neutral.numbersOf (octets (answerBytes (.error .unread)))) = _
    rw [numbers_is _ (bytes_answer _)]
  | some c =>
    show ((run_ (worldOf st) c).1, Zz34Neutral.numbersOf (octets (answerBytes (run_ (worldOf st) c).2))) = _
    rw [numbers_is _ (bytes_answer _), run_is st hg c]
theorem run_told : ∀ (rows : List (List Int)) (st : TSt) (acc : List Int), GoodSt st → (∀ r ∈ rows, Byt r) →
    (rows.foldl stepR (st, acc)).2 = acc ++ PyFlat.told (PyFlat.played (fun s c => Zz34Neutral.step s (c.headD [])) (worldOf st) (rows.map fun r => [r]))
  | [], st, acc, _, _ => by simp [PyFlat.played, PyFlat.told]
  | r :: rows, st, acc, hg, hb => by
    have e := step_is hg (hb r List.mem_cons_self)
    have ih := run_told rows (replyM st (r.map Int.toNat)).1 (acc ++ (((answerBytes (replyM st (r.map Int.toNat)).2).length : Int) :: intsOf (answerBytes (replyM st (r.map Int.toNat)).2))) (reply_good hg _) fun q hq => hb q (List.mem_cons_of_mem _ hq)
    show (rows.foldl stepR (stepR (st, acc) r)).2 = acc ++ PyFlat.told ((Zz34Neutral.step (worldOf st) r).2 :: PyFlat.played _ (Zz34Neutral.step (worldOf st) r).1 (rows.map fun r => [r]))
    rw [e]
    show (rows.foldl stepR ((replyM st (r.map Int.toNat)).1, acc ++ (((answerBytes (replyM st (r.map Int.toNat)).2).length : Int) :: intsOf (answerBytes (replyM st (r.map Int.toNat)).2)))).2 = _
    rw [ih, List.append_assoc]
    congr 1
    show (_ :: _) ++ _ = (((intsOf (answerBytes (replyM st (r.map Int.toNat)).2)).length : Int) :: intsOf (answerBytes (replyM st (r.map Int.toNat)).2)) ++ PyFlat.told _
    rw [List.length_map]
theorem fold_len : ∀ (rows : List (List Int)) (s : TSt × List Int), s.2.length ≤ (rows.foldl stepR s).2.length
  | [], s => Nat.le_refl _
  | r :: rows, s => by
    have ih := fold_len rows (stepR s r)
    refine Nat.le_trans ?_ ih
    show s.2.length ≤ (s.2 ++ _).length
    rw [List.length_append]
    omega
/-- what the program is asked -/
theorem asked_is {l : List Int} (h : PyZz34.answers_asked l = true) : ∃ rows : List (List Int), l = flatM rows ∧ (∀ r ∈ rows, Byt r) ∧ (rows.foldl stepR (none, [])).2 = PyZz34.answers l ∧ (PyZz34.answers l).length ≤ 10000000 := by
  unfold PyZz34.answers_asked at h
  cases hc : PyZz34.calls l with
  | none => rw [hc] at h; cases h
  | some cs =>
    rw [hc] at h
    have h : (PyFlat.atMost 1000 cs && Zz34Neutral.asked (cs.map fun c => c.headD []) && PyFlat.short 10000000 (PyZz34.answers l)) = true := h
    rw [Bool.and_eq_true, Bool.and_eq_true] at h
    obtain ⟨⟨_, h2⟩, h3⟩ := h
    have h3 := of_decide_eq_true h3
    have hc0 := hc
    unfold PyZz34.calls at hc
    cases hp : PyFlat.calls PyZz34.shape l.length l with
    | none => rw [hp] at hc; cases hc
    | some cs0 =>
      rw [hp] at hc
      have hc : some (cs0.map PyZz34.whole) = some cs := hc
      obtain ⟨rows, e1, e2⟩ := calls_flat _ _ _ hp
      rw [e2] at hc
      have hc : (rows.map fun r => [r]) = cs := Option.some.inj hc
      have hb : ∀ r ∈ rows, Byt r := fun r hr i hi => by
        unfold Zz34Neutral.asked at h2
        rw [Bool.and_eq_true] at h2
        have h4 := List.all_eq_true.mp h2.1 r (by
          rw [← hc, List.map_map]
          exact List.mem_map.mpr ⟨r, hr, rfl⟩)
        have h5 := List.all_eq_true.mp h4 i hi
        simpa using h5
      refine ⟨rows, e1, hb, ?_, h3⟩
      have := run_told rows none [] trivial hb
      rw [this, List.nil_append]
      unfold PyZz34.answers
      rw [hc0, hc]
      rfl
theorem fold_good : ∀ (rows : List (List Int)) (s : TSt × List Int), GoodSt s.1 → GoodSt (rows.foldl stepR s).1
  | [], s, h => h
  | r :: rows, s, h => fold_good rows (stepR s r) (reply_good h _)
theorem flat_at {rows : List (List Int)} {i : Nat} (hi : i < rows.length) : flatM rows = flatM (rows.take i) ++ (0 :: ((rows[i]).length : Int) :: (rows[i] ++ flatM (rows.drop (i + 1)))) := by
  have e : rows = rows.take i ++ rows[i] :: rows.drop (i + 1) := by rw [← List.drop_eq_getElem_cons hi, List.take_append_drop]
  have e2 : flatM rows = flatM (rows.take i ++ rows[i] :: rows.drop (i + 1)) := by rw [← e]
  rw [e2]
  unfold flatM
  rw [List.flatMap_append, List.flatMap_cons]
  rfl
theorem flat_take {rows : List (List Int)} {i : Nat} (hi : i < rows.length) : (flatM (rows.take (i + 1))).length = (flatM (rows.take i)).length + 2 + (rows[i]).length := by
  rw [take_snoc hi]
  unfold flatM
  rw [List.flatMap_append, List.length_append]
  simp
  omega
theorem vI_byt : ∀ {r : List Int}, Byt r → vI r = vN (r.map Int.toNat) := fun {r} h => by
  unfold vI vN
  rw [List.map_map]
  refine List.map_congr_left fun i hi => ?_
  have := h i hi
  show V.int i = V.int ((i.toNat : Nat) : Int)
  congr 1
  omega
theorem cut_vI {l : List Int} {a b : Nat} (h1 : a ≤ b) (h : b ≤ l.length) : cutV (vI l) (some (a : Int)) (some (b : Int)) = vI ((l.drop a).take (b - a)) := by
  unfold cutV
  rw [HT.sIx_nat, HT.sIx_nat, List.length_map, Nat.min_eq_left (show a ≤ l.length by omega), Nat.min_eq_left h, ← List.map_drop, ← List.map_take]
def sp_answers (K : PySem.W.Frag) : Sp := fun vs H Q _ => ∃ (a : Addr) (ns : List Int) (rows : List (List Int)), vs = [.ref a] ∧ SqL K H a (vI ns) ∧ ns = flatM rows ∧ (∀ r ∈ rows, Byt r) ∧ (rows.foldl stepR (none, [])).2.length ≤ 10000000 ∧
  ∀ (H' : Hp) (p : Addr), H' p = some (.lst (vI (rows.foldl stepR (none, [])).2)) → Q (.ref p) H'
section
variable {P : Program} {w : World} {K : PySem.W.Frag} {mg : Str → Option Value} {base : Heap} {d : Addr} {as : Nat → Addr} {C : Addr}
theorem ok_answers (T : Txt K mg d as C) {f : Addr} {fd : FuncData} (F : Fun K "answers" "answers" s_answers f fd) : FnOk P w K mg base CX0 12 f fd ["calls"] (sp_answers K) := by
  have G_reply := ok_reply (P := P) (w := w) (base := base) T
  refine F.ok sc_answers (fun vs H Q E h => ?_) fun cdv A outer s H vs Q E hr h => ⟨_, (pss_cons (ps_set (i := 1) sc_answers.nd rfl (Or.inl rfl) (pe_lst pa_nil))
      (pss_cons (ps_set (i := 2) sc_answers.nd rfl (Or.inl rfl) pe_non)
      (pss_cons (ps_set (i := 3) sc_answers.nd rfl (Or.inl rfl) pe_int)
      (pss_cons (ps_while PassesOwn.never (pt_cmpR op_lt (pv 3) (pe_callB call_len_seq (by rfl) T.blen PySem.boot_len (pa_cons (pv 0) pa_nil)) (nomark _))
      (pss_cons (ps_set (i := 4) sc_answers.nd rfl (Or.inl rfl) (pe_op op_add (pv 3) pe_int))
      (pss_cons (ps_set (i := 5) sc_answers.nd rfl (Or.inl rfl) (pe_op op_add (pv 4) (pe_ix ix_list (pv 0) (pe_op op_add (pv 3) pe_int) (fun _ _ => rfl))))
      (pss_cons (ps_asg (pe_cl (E := fun _ => E0) G_reply (hr.mono (by decide)) (fun σ => pass00 σ) (pa_cons (pv 2) (pa_cons (pe_slice sl_list (pv 0) (po_some (pv 4)) (po_some (pv 5))) pa_nil))) (pg_tup rfl (pgs_cons (pg_name (i := 2) sc_answers.nd rfl (Or.inl rfl)) (pgs_cons (pg_name (i := 6) sc_answers.nd rfl (Or.inl rfl)) pgs_nil))))
      (pss_cons (ps_expr (pe_bm PySem.F.plainAttrs_list PySem.F.slot_list_append PySem.F.type_list_append mt_append (pv 1) (pa_cons (pe_callB call_len_seq (by rfl) T.blen PySem.boot_len (pa_cons (pv 6) pa_nil)) pa_nil)))
      (pss_cons (ps_expr (pe_bm PySem.F.plainAttrs_list PySem.F.slot_list_extend PySem.F.type_list_extend mt_extend (pv 1) (pa_cons (pv 6) pa_nil)))
      (pss_one (ps_set (i := 3) sc_answers.nd rfl (Or.inl rfl) (pv 5)))))))))
      (pss_one (ps_ret (pv 1))))))), ?_⟩
  · obtain ⟨a, ns, rows, rfl, _⟩ := h
    rfl
  obtain ⟨pc, ns, rows, rfl, hs, ens, hb, hlen, k⟩ := h
  repeat walk_at "af"
  intro l H1 hl s1 q1
  repeat walk_at "af"
  have e0 : (vI ns).length = ns.length := by simp
  refine i_while (fun σ H' => ∃ (i : Nat) (tv : V) (a4 a5 a6 : Option V), σ = [some (.ref pc), some (.ref l), some tv, some (.int ((flatM (rows.take i)).length : Int)), a4, a5, a6] ∧ i ≤ rows.length ∧ Same H H' ∧ H' l = some (.lst (vI ((rows.take i).foldl stepR (none, [])).2)) ∧
      Dep (fun b => b ≠ l) H' fun H'' => RTalk H'' tv ((rows.take i).foldl stepR (none, [])).1)
    (fun σ _ => match σ with | [_, _, _, some (.int n), _, _, _] => ns.length - n.toNat | _ => 0) ⟨0, .non, none, none, none, rfl, Nat.zero_le _, s1, q1, fun H'' _ => rfl⟩ ?_ ?_
  · rintro σ H2 ⟨i, tv, a4, a5, a6, rfl, hi, s2, q2, hD⟩
    have hs2 := s2.seq hs
    repeat walk_at "af"
    refine i_len hs2 ?_
    repeat walk_at "af"
    rw [e0]
    refine i_dec (fun h3 => ?_) fun h3 => ?_
    · have hil : i < rows.length := by
        rcases Nat.lt_or_ge i rows.length with h | h
        · exact h
        · rw [List.take_of_length_le h, ← ens] at h3
          omega
      have hfa := flat_at hil
      have hft := flat_take hil
      rw [← ens] at hfa
      have hrb := hb _ (List.getElem_mem hil)
      have hln : (flatM (rows.take i)).length + 2 + (rows[i]).length ≤ ns.length := by
        have := congrArg List.length hfa
        simp only [List.length_append, List.length_cons] at this
        omega
      have hix : ns[(flatM (rows.take i)).length + 1]? = some ((rows[i]).length : Int) := by
        rw [hfa, List.getElem?_append_right (by omega), Nat.add_sub_cancel_left]
        rfl
      have hcut : (ns.drop ((flatM (rows.take i)).length + 2)).take (((flatM (rows.take i)).length + 2 + (rows[i]).length) - ((flatM (rows.take i)).length + 2)) = rows[i] := by
        rw [Nat.add_sub_cancel_left, hfa, List.drop_append, Nat.add_sub_cancel_left, List.drop_of_length_le (by omega), List.nil_append]
        show (rows[i] ++ flatM (rows.drop (i + 1))).take (rows[i]).length = _
        rw [List.take_left]
      have hst : (rows.take (i + 1)).foldl stepR (none, []) = stepR ((rows.take i).foldl stepR (none, [])) rows[i] := by
        rw [take_snoc hil, List.foldl_append]
        rfl
      have hgd : GoodSt ((rows.take i).foldl stepR (none, [])).1 := fold_good _ _ trivial
      have hsz : ((rows.take (i + 1)).foldl stepR (none, [])).2.length ≤ 10000000 := by
        refine Nat.le_trans ?_ hlen
        have e : rows.foldl stepR (none, []) = (rows.drop (i + 1)).foldl stepR ((rows.take (i + 1)).foldl stepR (none, [])) := by
          rw [← List.foldl_append, List.take_append_drop]
        rw [e]
        exact fold_len _ _
      rw [hst] at hsz
      generalize hat : (flatM (rows.take i)).length = at_ at h3 hft hln hix hcut
      generalize hrr : rows[i] = r at hft hln hix hcut hst hrb hsz
      generalize hss : (rows.take i).foldl stepR (none, []) = st at q2 hD hst hgd hsz
      repeat walk_at "af"
      refine i_ixL (j := at_ + 1) hs2 (by omega) (by rw [List.getElem?_map, hix]; rfl) ?_
      repeat walk_at "af"
      have ea : ((at_ : Int) + 2) = ((at_ + 2 : Nat) : Int) := by omega
      have eb : (((at_ + 2 : Nat) : Int) + (r.length : Int)) = ((at_ + 2 + r.length : Nat) : Int) := by omega
      rw [ea, eb]
      refine i_slL hs2 fun p3 H3 hp3 s3 q3 => ?_
      rw [cut_vI (by omega) hln, hcut, vI_byt hrb] at q3
      repeat walk_at "af"
      refine ⟨fun b => b ≠ l, tv, _, st.1, r.map Int.toNat, rfl, hD.up s3, hgd, ⟨p3, rfl, q3⟩, (fun a ha => ?_), fun H4 t tv' u s4 ht n4 D4 => ?_⟩
      · obtain ⟨z, hz, rfl⟩ := List.mem_map.mp ha
        have := hrb z hz
        omega
      refine i_gT (SqT.of ht) rfl ?_
      obtain ⟨p4, rfl, hp4, q4⟩ := n4
      have q24 := (Same.trans s3 s4) _ _ q2
      have npl : p4 ≠ l := fun z => by
        rw [z, s3 _ _ q2] at hp4
        cases hp4
      have eo : (stepR st r).2 = st.2 ++ (((answerBytes (replyM st.1 (r.map Int.toNat)).2).length : Int) :: intsOf (answerBytes (replyM st.1 (r.map Int.toNat)).2)) := rfl
      rw [eo, List.length_append, List.length_cons, List.length_map] at hsz
      repeat walk_at "af"
      refine ⟨tyl q24, ?_⟩
      repeat walk_at "af"
      refine i_len (SqL.of q4) ?_
      repeat walk_at "af"
      refine i_app q24 (size_lt (by rw [List.length_map]; omega)) ?_
      repeat walk_at "af"
      refine ⟨tyl upd_same, ?_⟩
      repeat walk_at "af"
      refine i_ext upd_same (by rw [upd_ne npl]; exact q4) (size_of (by simp only [List.length_append, List.length_map, List.length_singleton]; omega)) ?_
      repeat walk_at "af"
      have s24 := Same.trans (Same.trans s2 s3) s4
      refine ⟨⟨i + 1, tv', some (.int ((at_ + 2 : Nat) : Int)), some (.int ((at_ + 2 + r.length : Nat) : Int)), some (.ref p4), ?_, hil, Same.mut (Same.mut s24 hl) hl, ?_, ?_⟩, ?_⟩
      · rw [hft]
        rfl
      · rw [upd_same, hst, eo, vI_append, List.length_map, List.append_assoc]
        show _ = some (HO.lst (vI st.2 ++ (V.int _ :: vI (intsOf _))))
        rw [vI_intsOf]
        rfl
      · rw [hst]
        show Dep _ _ fun H'' => RTalk H'' tv' (replyM st.1 (r.map Int.toNat)).1
        refine Dep.mut (Dep.mut (D4.mono fun b hb => ?_) fun z => z rfl) fun z => z rfl
        rcases hb with hb | hb
        · exact hb
        · intro z
          rw [z, s3 _ _ q2] at hb
          cases hb
      · show ns.length - ((at_ + 2 + r.length : Nat) : Int).toNat < ns.length - (at_ : Int).toNat
        rw [Int.toNat_natCast, Int.toNat_natCast]
        omega
    · have hie : i = rows.length := by
        rcases Nat.lt_or_ge i rows.length with h | h
        · have hfa := flat_at h
          have := congrArg List.length hfa
          simp only [List.length_append, List.length_cons] at this
          rw [← ens] at this
          omega
        · omega
      subst hie
      repeat walk_at "af"
      rw [List.take_length] at q2
      exact k _ _ q2
  · rintro σ H' Q1 Q2 hq ⟨v, e, v0, e0, p, ys, e1, h, i, j, e2, e3, z, e4, q⟩
    exact ⟨v, e, v0, e0, p, ys, e1, h, i, j, e2, e3, z, e4, hq _ _ q⟩
end
end Af
set_option Elab.async false
set_option linter.all false
set_option maxRecDepth 100000
set_option maxHeartbeats 2000000
/-! # what the top has written, gathered -/
namespace Af
open PySem PySem.Spec PyProof.Rows L2
def asF (a1 a2 a3 a4 a5 a6 a7 a8 a9 a10 : Addr) : Nat → Addr
  | 1 => a1
  | 2 => a2
  | 3 => a3
  | 4 => a4
  | 5 => a5
  | 6 => a6
  | 7 => a7
  | 8 => a8
  | 9 => a9
  | 10 => a10
  | _ => 0
/-- an error of the class at S is what «except S» names -/
theorem exm_own {K : PySem.W.Frag} {S : Addr} (h1 : PySem.W.subIn K (.ref S) (.type "BaseException") = some true) (h2 : PySem.W.isClsIn K S = true) (h3 : PySem.W.typeIn K (.ref S) = some (.type "type")) (h4 : PySem.W.subIn K (.ref S) (.ref S) = some true) : PySem.W.exmOne K (.ref S) (.ref S) = some true := by
  have h2' : (PySem.W.clsIn K S).isSome = true := h2
  show (if (PySem.W.subIn K (.ref S) (.type "BaseException") == some true) = true then (if ((PySem.W.clsIn K S).isSome && PySem.W.typeIn K (.ref S) == some (.type "type")) = true then PySem.W.subIn K (.ref S) (.ref S) else none) else none) = some true
  rw [if_pos (by rw [h1]; rfl), if_pos (by rw [h2', h3]; rfl)]
  exact h4
theorem forms_mk {K : PySem.W.Frag} {h : Heap} {mg : Str → Option Value} {d a1 a2 a3 a4 a5 a6 a7 a8 a9 a10 : Addr} {t1 t2 t3 t4 t5 t6 t7 t8 t9 t10 u1_0 u1_1 u1_2 u1_3 u2_0 u2_1 u2_2 u3_0 u3_1 u3_2 u4_0 u4_1 u4_2 u4_3 u5_0 u6_0 u6_1 u7_0 u7_1 : Tok} {n n1 n2 n3 n4 n5 n6 n7 n8 n9 n10 : Nat} {o1 o2 o3 o4 o5 o6 o7 o8 o9 o10 : Option Addr} {s1 s2 s3 s4 s5 s6 s7 s8 s9 s10 : Array (Option Value)} (X : K.In h) (G : h.Ns mainGlobals mg)
    (g : PySem.W.nsIn K mainGlobals "FORMS" = some (some (.ref d))) (low : (d == sysModules) = false) (l : K.lookup d = some ⟨.type "dict", none, .dict #[⟨1, .int 1 t1, .ref a1⟩, ⟨2, .int 2 t2, .ref a2⟩, ⟨3, .int 3 t3, .ref a3⟩, ⟨4, .int 4 t4, .ref a4⟩, ⟨5, .int 5 t5, .ref a5⟩, ⟨6, .int 6 t6, .ref a6⟩, ⟨7, .int 7 t7, .ref a7⟩, ⟨8, .int 8 t8, .ref a8⟩, ⟨9, .int 9 t9, .ref a9⟩, ⟨10, .int 10 t10, .ref a10⟩] n, #[]⟩)
    (l1 : K.lookup a1 = some ⟨.type "tuple", o1, .seq #[.str "task" u1_0, .str "plan" u1_1, .str "octet" u1_2, .str "octet" u1_3] n1, s1⟩)
    (l2 : K.lookup a2 = some ⟨.type "tuple", o2, .seq #[.str "task" u2_0, .str "octet" u2_1, .str "octet" u2_2] n2, s2⟩)
    (l3 : K.lookup a3 = some ⟨.type "tuple", o3, .seq #[.str "task" u3_0, .str "octet" u3_1, .str "octet" u3_2] n3, s3⟩)
    (l4 : K.lookup a4 = some ⟨.type "tuple", o4, .seq #[.str "task" u4_0, .str "plan" u4_1, .str "octet" u4_2, .str "integer" u4_3] n4, s4⟩)
    (l5 : K.lookup a5 = some ⟨.type "tuple", o5, .seq #[.str "task" u5_0] n5, s5⟩)
    (l6 : K.lookup a6 = some ⟨.type "tuple", o6, .seq #[.str "octet" u6_0, .str "flag" u6_1] n6, s6⟩)
    (l7 : K.lookup a7 = some ⟨.type "tuple", o7, .seq #[.str "octet" u7_0, .str "octet" u7_1] n7, s7⟩)
    (l8 : K.lookup a8 = some ⟨.type "tuple", o8, .seq #[] n8, s8⟩)
    (l9 : K.lookup a9 = some ⟨.type "tuple", o9, .seq #[] n9, s9⟩)
    (l10 : K.lookup a10 = some ⟨.type "tuple", o10, .seq #[] n10, s10⟩)
    : KForms K mg d (asF a1 a2 a3 a4 a5 a6 a7 a8 a9 a10) := by
  refine ⟨PySem.W.mg_of X G g, low, ⟨fun i => [0, t1, t2, t3, t4, t5, t6, t7, t8, t9, t10].getD i 0, n, l⟩, fun i h1 h2 => ?_⟩
  have : i = 1 ∨ i = 2 ∨ i = 3 ∨ i = 4 ∨ i = 5 ∨ i = 6 ∨ i = 7 ∨ i = 8 ∨ i = 9 ∨ i = 10 := by omega
  rcases this with rfl | rfl | rfl | rfl | rfl | rfl | rfl | rfl | rfl | rfl
  · exact tp_mk l1 (Nat.le_trans (show 4 ≤ 100 by decide) (by decide)) (.cons ⟨_, rfl⟩ (.cons ⟨_, rfl⟩ (.cons ⟨_, rfl⟩ (.cons ⟨_, rfl⟩ .nil))))
  · exact tp_mk l2 (Nat.le_trans (show 3 ≤ 100 by decide) (by decide)) (.cons ⟨_, rfl⟩ (.cons ⟨_, rfl⟩ (.cons ⟨_, rfl⟩ .nil)))
  · exact tp_mk l3 (Nat.le_trans (show 3 ≤ 100 by decide) (by decide)) (.cons ⟨_, rfl⟩ (.cons ⟨_, rfl⟩ (.cons ⟨_, rfl⟩ .nil)))
  · exact tp_mk l4 (Nat.le_trans (show 4 ≤ 100 by decide) (by decide)) (.cons ⟨_, rfl⟩ (.cons ⟨_, rfl⟩ (.cons ⟨_, rfl⟩ (.cons ⟨_, rfl⟩ .nil))))
  · exact tp_mk l5 (Nat.le_trans (show 1 ≤ 100 by decide) (by decide)) (.cons ⟨_, rfl⟩ .nil)
  · exact tp_mk l6 (Nat.le_trans (show 2 ≤ 100 by decide) (by decide)) (.cons ⟨_, rfl⟩ (.cons ⟨_, rfl⟩ .nil))
  · exact tp_mk l7 (Nat.le_trans (show 2 ≤ 100 by decide) (by decide)) (.cons ⟨_, rfl⟩ (.cons ⟨_, rfl⟩ .nil))
  · exact tp_mk l8 (Nat.le_trans (show 0 ≤ 100 by decide) (by decide)) .nil
  · exact tp_mk l9 (Nat.le_trans (show 0 ≤ 100 by decide) (by decide)) .nil
  · exact tp_mk l10 (Nat.le_trans (show 0 ≤ 100 by decide) (by decide)) .nil
theorem all_mk {P : Program} {w : World} {K : PySem.W.Frag} {h : Heap} {mg : Str → Option Value} {fa f d C a1 a2 a3 a4 a5 a6 a7 a8 a9 a10 : Addr} {t1 t2 t3 t4 t5 t6 t7 t8 t9 t10 u1_0 u1_1 u1_2 u1_3 u2_0 u2_1 u2_2 u3_0 u3_1 u3_2 u4_0 u4_1 u4_2 u4_3 u5_0 u6_0 u6_1 u7_0 u7_1 : Tok} {n n1 n2 n3 n4 n5 n6 n7 n8 n9 n10 : Nat} {o1 o2 o3 o4 o5 o6 o7 o8 o9 o10 : Option Addr} {s1 s2 s3 s4 s5 s6 s7 s8 s9 s10 : Array (Option Value)}
    {tMOST_UNIT tMOST_TASTES tMOST_ACTIONS tMOST_REWARD tMOST_ERROR tMOST_COST tMOST_LEVEL tUNREADABLE tNO_TALK tBAD_TASK tBAD_PLAN tBAD_ACTION tBAD_ERROR tBAD_COST tBAD_LEVEL tDECIDED tPROPOSED tNOTHING_TO_UNDO tBOUND : Tok} {od an : Option Addr} {sl : Array (Option Value)} {oc kV dc pm cd ct : Value} (X : K.In h) (G : h.Ns mainGlobals mg) (hfa : mg "answers" = some (.ref fa))
    (aA : PySem.W.nsIn K mainGlobals "answers" = some (some (.ref f)))
    (lA : K.lookup f = some ⟨oc, od, .func (PySem.W.fnOf "answers" "answers" (defArgs s_answers) (defBody s_answers) (defScope s_answers) .none kV dc pm an cd ct), sl⟩)
    (cA : PySem.W.codeIn K cd "answers" = true)
    (kA : PySem.W.keepIn K (.ref f) = true)
    (cMOST_UNIT : PySem.W.nsIn K mainGlobals "MOST_UNIT" = some (some (.int 99 tMOST_UNIT)))
    (cMOST_TASTES : PySem.W.nsIn K mainGlobals "MOST_TASTES" = some (some (.int 4 tMOST_TASTES)))
    (cMOST_ACTIONS : PySem.W.nsIn K mainGlobals "MOST_ACTIONS" = some (some (.int 4 tMOST_ACTIONS)))
    (cMOST_REWARD : PySem.W.nsIn K mainGlobals "MOST_REWARD" = some (some (.int 99 tMOST_REWARD)))
    (cMOST_ERROR : PySem.W.nsIn K mainGlobals "MOST_ERROR" = some (some (.int 100 tMOST_ERROR)))
    (cMOST_COST : PySem.W.nsIn K mainGlobals "MOST_COST" = some (some (.int 99 tMOST_COST)))
    (cMOST_LEVEL : PySem.W.nsIn K mainGlobals "MOST_LEVEL" = some (some (.int 99 tMOST_LEVEL)))
    (cUNREADABLE : PySem.W.nsIn K mainGlobals "UNREADABLE" = some (some (.int 1 tUNREADABLE)))
    (cNO_TALK : PySem.W.nsIn K mainGlobals "NO_TALK" = some (some (.int 2 tNO_TALK)))
    (cBAD_TASK : PySem.W.nsIn K mainGlobals "BAD_TASK" = some (some (.int 3 tBAD_TASK)))
    (cBAD_PLAN : PySem.W.nsIn K mainGlobals "BAD_PLAN" = some (some (.int 4 tBAD_PLAN)))
    (cBAD_ACTION : PySem.W.nsIn K mainGlobals "BAD_ACTION" = some (some (.int 5 tBAD_ACTION)))
    (cBAD_ERROR : PySem.W.nsIn K mainGlobals "BAD_ERROR" = some (some (.int 6 tBAD_ERROR)))
    (cBAD_COST : PySem.W.nsIn K mainGlobals "BAD_COST" = some (some (.int 7 tBAD_COST)))
    (cBAD_LEVEL : PySem.W.nsIn K mainGlobals "BAD_LEVEL" = some (some (.int 8 tBAD_LEVEL)))
    (cDECIDED : PySem.W.nsIn K mainGlobals "DECIDED" = some (some (.int 9 tDECIDED)))
    (cPROPOSED : PySem.W.nsIn K mainGlobals "PROPOSED" = some (some (.int 10 tPROPOSED)))
    (cNOTHING_TO_UNDO : PySem.W.nsIn K mainGlobals "NOTHING_TO_UNDO" = some (some (.int 11 tNOTHING_TO_UNDO)))
    (cBOUND : PySem.W.nsIn K mainGlobals "BOUND" = some (some (.int 9007199254740991 tBOUND)))
    (blen : PySem.W.nsIn K mainGlobals "len" = some none)
    (bsum : PySem.W.nsIn K mainGlobals "sum" = some none)
    (babs : PySem.W.nsIn K mainGlobals "abs" = some none)
    (bmax : PySem.W.nsIn K mainGlobals "max" = some none)
    (bzip : PySem.W.nsIn K mainGlobals "zip" = some none)
    (brange : PySem.W.nsIn K mainGlobals "range" = some none)
    (breversed : PySem.W.nsIn K mainGlobals "reversed" = some none)
    (blist : PySem.W.nsIn K mainGlobals "list" = some none)
    (gF : PySem.W.nsIn K mainGlobals "FORMS" = some (some (.ref d)))
    (lowF : (d == sysModules) = false)
    (lF : K.lookup d = some ⟨.type "dict", none, .dict #[⟨1, .int 1 t1, .ref a1⟩, ⟨2, .int 2 t2, .ref a2⟩, ⟨3, .int 3 t3, .ref a3⟩, ⟨4, .int 4 t4, .ref a4⟩, ⟨5, .int 5 t5, .ref a5⟩, ⟨6, .int 6 t6, .ref a6⟩, ⟨7, .int 7 t7, .ref a7⟩, ⟨8, .int 8 t8, .ref a8⟩, ⟨9, .int 9 t9, .ref a9⟩, ⟨10, .int 10 t10, .ref a10⟩] n, #[]⟩)
    (lT1 : K.lookup a1 = some ⟨.type "tuple", o1, .seq #[.str "task" u1_0, .str "plan" u1_1, .str "octet" u1_2, .str "octet" u1_3] n1, s1⟩)
    (lT2 : K.lookup a2 = some ⟨.type "tuple", o2, .seq #[.str "task" u2_0, .str "octet" u2_1, .str "octet" u2_2] n2, s2⟩)
    (lT3 : K.lookup a3 = some ⟨.type "tuple", o3, .seq #[.str "task" u3_0, .str "octet" u3_1, .str "octet" u3_2] n3, s3⟩)
    (lT4 : K.lookup a4 = some ⟨.type "tuple", o4, .seq #[.str "task" u4_0, .str "plan" u4_1, .str "octet" u4_2, .str "integer" u4_3] n4, s4⟩)
    (lT5 : K.lookup a5 = some ⟨.type "tuple", o5, .seq #[.str "task" u5_0] n5, s5⟩)
    (lT6 : K.lookup a6 = some ⟨.type "tuple", o6, .seq #[.str "octet" u6_0, .str "flag" u6_1] n6, s6⟩)
    (lT7 : K.lookup a7 = some ⟨.type "tuple", o7, .seq #[.str "octet" u7_0, .str "octet" u7_1] n7, s7⟩)
    (lT8 : K.lookup a8 = some ⟨.type "tuple", o8, .seq #[] n8, s8⟩)
    (lT9 : K.lookup a9 = some ⟨.type "tuple", o9, .seq #[] n9, s9⟩)
    (lT10 : K.lookup a10 = some ⟨.type "tuple", o10, .seq #[] n10, s10⟩)
    (gC : PySem.W.nsIn K mainGlobals "Unreadable" = some (some (.ref C)))
    (xU : PySem.W.excIn K C [.type "Exception", .type "BaseException", .type "object"] "Exception.__new__" = true)
    (kU : PySem.W.keepIn K (.ref C) = true)
    (bU : PySem.W.subIn K (.ref C) (.type "BaseException") = some true)
    (tU : PySem.W.typeIn K (.ref C) = some (.type "type"))
    (iU : PySem.W.isClsIn K C = true)
    (sU : PySem.W.subIn K (.ref C) (.ref C) = some true)
    (d_are_rewards : DefAt K mg "are_rewards" s_are_rewards ["row", "many"])
    (d_is_task : DefAt K mg "is_task" s_is_task ["task"])
    (d_action_count : DefAt K mg "action_count" s_action_count ["task"])
    (d_is_action : DefAt K mg "is_action" s_is_action ["task", "action"])
    (d_is_plan : DefAt K mg "is_plan" s_is_plan ["task", "plan"])
    (d_is_error : DefAt K mg "is_error" s_is_error ["error"])
    (d_is_cost : DefAt K mg "is_cost" s_is_cost ["cost"])
    (d_is_level : DefAt K mg "is_level" s_is_level ["level"])
    (d_common : DefAt K mg "common" s_common ["first", "second"])
    (d_lowest : DefAt K mg "lowest" s_lowest ["top", "bottom"])
    (d_column : DefAt K mg "column" s_column ["task", "action"])
    (d_ending_rests : DefAt K mg "ending_rests" s_ending_rests ["task", "ending"])
    (d_yes_chance : DefAt K mg "yes_chance" s_yes_chance ["reward", "rest", "scale", "error"])
    (d_worst_chances : DefAt K mg "worst_chances" s_worst_chances ["rewards", "rests", "scale", "error"])
    (d_with_proposal : DefAt K mg "with_proposal" s_with_proposal ["rewards", "chances", "rests", "scale", "cost"])
    (d_put_ahead : DefAt K mg "put_ahead" s_put_ahead ["task", "action", "rests", "scale", "error", "cost"])
    (d_put_all_ahead : DefAt K mg "put_all_ahead" s_put_all_ahead ["task", "proposals", "rests", "scale", "error", "cost"])
    (d_weighed : DefAt K mg "weighed" s_weighed ["task", "rests"])
    (d_plan_sum : DefAt K mg "plan_sum" s_plan_sum ["task", "plan", "error", "cost"])
    (d_sure_of : DefAt K mg "sure_of" s_sure_of ["task", "plan", "error", "cost"])
    (d_worst_columns : DefAt K mg "worst_columns" s_worst_columns ["task", "plan", "error", "cost"])
    (d_worst_answers : DefAt K mg "worst_answers" s_worst_answers ["task", "plan", "error", "cost"])
    (d_greatest_error : DefAt K mg "greatest_error" s_greatest_error ["task", "plan", "cost", "level"])
    (d_endings : DefAt K mg "endings" s_endings ["task"])
    (d_longer : DefAt K mg "longer" s_longer ["task", "actions", "plans", "scale", "error", "cost"])
    (d_sums : DefAt K mg "sums" s_sums ["task", "before", "plans", "scale", "error", "cost"])
    (d_all_sums : DefAt K mg "all_sums" s_all_sums ["task", "before", "error", "cost"])
    (d_best_plan : DefAt K mg "best_plan" s_best_plan ["task", "before", "error", "cost"])
    (d_low_octets : DefAt K mg "low_octets" s_low_octets ["number", "many"])
    (d_put_count : DefAt K mg "put_count" s_put_count ["many"])
    (d_put_fraction : DefAt K mg "put_fraction" s_put_fraction ["fraction"])
    (d_put_fractions : DefAt K mg "put_fractions" s_put_fractions ["fractions"])
    (d_put_octets : DefAt K mg "put_octets" s_put_octets ["row"])
    (d_put_maybe : DefAt K mg "put_maybe" s_put_maybe ["number"])
    (d_put_plan : DefAt K mg "put_plan" s_put_plan ["plan"])
    (d_done : DefAt K mg "done" s_done ["octets"])
    (d_refused : DefAt K mg "refused" s_refused ["number"])
    (d_sure : DefAt K mg "sure" s_sure ["task", "plan", "error", "cost"])
    (d_told_best : DefAt K mg "told_best" s_told_best ["task", "before", "error", "cost"])
    (d_best : DefAt K mg "best" s_best ["task", "error", "cost"])
    (d_right_sum : DefAt K mg "right_sum" s_right_sum ["task", "action"])
    (d_wrong_sum : DefAt K mg "wrong_sum" s_wrong_sum ["task", "action"])
    (d_worth : DefAt K mg "worth" s_worth ["task", "action", "cost"])
    (d_up_to : DefAt K mg "up_to" s_up_to ["task", "plan", "cost", "level"])
    (d_command_answer : DefAt K mg "command_answer" s_command_answer ["command", "given"])
    (d_octet_at : DefAt K mg "octet_at" s_octet_at ["octets", "at"])
    (d_flag_at : DefAt K mg "flag_at" s_flag_at ["octets", "at"])
    (d_count_at : DefAt K mg "count_at" s_count_at ["octets", "at"])
    (d_octets_at : DefAt K mg "octets_at" s_octets_at ["octets", "at"])
    (d_integer_at : DefAt K mg "integer_at" s_integer_at ["octets", "at"])
    (d_integers_at : DefAt K mg "integers_at" s_integers_at ["octets", "at"])
    (d_rows_at : DefAt K mg "rows_at" s_rows_at ["octets", "at"])
    (d_task_at : DefAt K mg "task_at" s_task_at ["octets", "at"])
    (d_plan_at : DefAt K mg "plan_at" s_plan_at ["octets", "at"])
    (d_part_at : DefAt K mg "part_at" s_part_at ["part", "octets", "at"])
    (d_read_request : DefAt K mg "read_request" s_read_request ["octets"])
    (d_begin : DefAt K mg "begin" s_begin ["talk", "task"])
    (d_is_decided : DefAt K mg "is_decided" s_is_decided ["pairs"])
    (d_proposed : DefAt K mg "proposed" s_proposed ["pairs"])
    (d_fits : DefAt K mg "fits" s_fits ["row", "pairs"])
    (d_tastes_left : DefAt K mg "tastes_left" s_tastes_left ["task", "pairs"])
    (d_propose : DefAt K mg "propose" s_propose ["talk", "action", "yes"])
    (d_advice : DefAt K mg "advice" s_advice ["talk", "error", "cost"])
    (d_undo : DefAt K mg "undo" s_undo ["talk"])
    (d_told_answers : DefAt K mg "told_answers" s_told_answers ["talk"])
    (d_told_tastes : DefAt K mg "told_tastes" s_told_tastes ["talk"])
    (d_talk_answer : DefAt K mg "talk_answer" s_talk_answer ["command", "talk", "given"])
    (d_reply : DefAt K mg "reply" s_reply ["talk", "octets"])
    : ∃ fd : FuncData, (∀ (s : Shared) (us : List Value), us.length = (["calls"] : List Str).length → BindsTo s fd ⟨us, []⟩ ((["calls"] : List Str).zip us)) ∧ ∀ base : Heap, K.In base → base.Ns mainGlobals mg → FnOk P w K mg base CX0 12 fa fd ["calls"] (sp_answers K) := by
  have e := hfa.symm.trans (PySem.W.mg_of X G aA)
  cases e
  have d_answers : DefAt K mg "answers" s_answers ["calls"] := def_mk X G aA lA cA kA fun _ _ _ _ _ _ us hl => match us, hl with | [_], _ => rfl
  have T : Txt K mg d (asF a1 a2 a3 a4 a5 a6 a7 a8 a9 a10) C := ⟨⟨_, PySem.W.mg_of X G cMOST_UNIT⟩, ⟨_, PySem.W.mg_of X G cMOST_TASTES⟩, ⟨_, PySem.W.mg_of X G cMOST_ACTIONS⟩, ⟨_, PySem.W.mg_of X G cMOST_REWARD⟩, ⟨_, PySem.W.mg_of X G cMOST_ERROR⟩, ⟨_, PySem.W.mg_of X G cMOST_COST⟩, ⟨_, PySem.W.mg_of X G cMOST_LEVEL⟩, ⟨_, PySem.W.mg_of X G cUNREADABLE⟩, ⟨_, PySem.W.mg_of X G cNO_TALK⟩, ⟨_, PySem.W.mg_of X G cBAD_TASK⟩, ⟨_, PySem.W.mg_of X G cBAD_PLAN⟩, ⟨_, PySem.W.mg_of X G cBAD_ACTION⟩, ⟨_, PySem.W.mg_of X G cBAD_ERROR⟩, ⟨_, PySem.W.mg_of X G cBAD_COST⟩, ⟨_, PySem.W.mg_of X G cBAD_LEVEL⟩, ⟨_, PySem.W.mg_of X G cDECIDED⟩, ⟨_, PySem.W.mg_of X G cPROPOSED⟩, ⟨_, PySem.W.mg_of X G cNOTHING_TO_UNDO⟩, ⟨_, PySem.W.mg_of X G cBOUND⟩, PySem.W.mg_none_of X G blen, PySem.W.mg_none_of X G bsum, PySem.W.mg_none_of X G babs, PySem.W.mg_none_of X G bmax, PySem.W.mg_none_of X G bzip, PySem.W.mg_none_of X G brange, PySem.W.mg_none_of X G breversed, PySem.W.mg_none_of X G blist, d_are_rewards, d_is_task, d_action_count, d_is_action, d_is_plan, d_is_error, d_is_cost, d_is_level, d_common, d_lowest, d_column, d_ending_rests, d_yes_chance, d_worst_chances, d_with_proposal, d_put_ahead, d_put_all_ahead, d_weighed, d_plan_sum, d_sure_of, d_worst_columns, d_worst_answers, d_greatest_error, d_endings, d_longer, d_sums, d_all_sums, d_best_plan, d_low_octets, d_put_count, d_put_fraction, d_put_fractions, d_put_octets, d_put_maybe, d_put_plan, d_done, d_refused, d_sure, d_told_best, d_best, d_right_sum, d_wrong_sum, d_worth, d_up_to, d_command_answer, d_octet_at, d_flag_at, d_count_at, d_octets_at, d_integer_at, d_integers_at, d_rows_at, d_task_at, d_plan_at, d_part_at, d_read_request, d_begin, d_is_decided, d_proposed, d_fits, d_tastes_left, d_propose, d_advice, d_undo, d_told_answers, d_told_tastes, d_talk_answer, d_reply, d_answers, forms_mk X G gF lowF lF lT1 lT2 lT3 lT4 lT5 lT6 lT7 lT8 lT9 lT10, PySem.W.mg_of X G gC, xU, kU, bU, tU, exm_own bU iU tU sU⟩
  exact ⟨_, fun s us hu => match us, hu with | [_], _ => .of_eq rfl, fun base _ _ => ok_answers T (fun_mk (st := s_answers) lA cA kA)⟩
theorem req {K : PySem.W.Frag} {H : Hp} {a : Addr} {l : List Int} (hs : SqL K H a (vI l)) (h : PyZz34.answers_asked l = true) {Q : VK} {E : XK} (k : ∀ (H' : Hp) (p : Addr), H' p = some (.lst ((PyZz34.answers l).map V.int)) → Q (.ref p) H') : sp_answers K [.ref a] H Q E := by
  obtain ⟨rows, e1, e2, e3, e4⟩ := asked_is h
  exact ⟨a, l, rows, rfl, hs, e1, e2, by rw [e3]; exact e4, fun H' p hp => k H' p (by rw [← e3]; exact hp)⟩
end Af
set_option Elab.async false
open PySem PySem.W PyProof.Rows
set_option maxRecDepth 100000 in
set_option maxHeartbeats 8000000 in
theorem PySem.Challenge.cw_askfirst_s01_answers_holds : PySem.Challenge.rw_askfirst_s01_answers.Holds := by
  w_on; k_headS; (case hw => exact ⟨[.list [.int 0, .int 0]], by decide +kernel, by decide +kernel⟩)
  k_fillS
  refine L2.walk_specK (r := PySem.Challenge.rw_askfirst_s01_answers) (k := 12) (CX := L2.CX0) (ps := ["calls"]) (sp := Af.sp_answers) (by decide +kernel) rfl rfl ⟨rfl, by decide, by decide⟩ (fun w h Y => PySem.W.kIn_of Y) ?F ?S (fun _ _ _ _ z => z)
  case F =>
    intro w mg fa h Y KX G hmg
    refine' Af.all_mk KX G hmg ?aA ?lA ?cA ?kA ?cMOST_UNIT ?cMOST_TASTES ?cMOST_ACTIONS ?cMOST_REWARD ?cMOST_ERROR ?cMOST_COST ?cMOST_LEVEL ?cUNREADABLE ?cNO_TALK ?cBAD_TASK ?cBAD_PLAN ?cBAD_ACTION ?cBAD_ERROR ?cBAD_COST ?cBAD_LEVEL ?cDECIDED ?cPROPOSED ?cNOTHING_TO_UNDO ?cBOUND ?blen ?bsum ?babs ?bmax ?bzip ?brange ?breversed ?blist ?gF ?lowF ?lF ?lT1 ?lT2 ?lT3 ?lT4 ?lT5 ?lT6 ?lT7 ?lT8 ?lT9 ?lT10 ?gC ?xU ?kU ?bU ?tU ?iU ?sU ?d_are_rewards ?d_is_task ?d_action_count ?d_is_action ?d_is_plan ?d_is_error ?d_is_cost ?d_is_level ?d_common ?d_lowest ?d_column ?d_ending_rests ?d_yes_chance ?d_worst_chances ?d_with_proposal ?d_put_ahead ?d_put_all_ahead ?d_weighed ?d_plan_sum ?d_sure_of ?d_worst_columns ?d_worst_answers ?d_greatest_error ?d_endings ?d_longer ?d_sums ?d_all_sums ?d_best_plan ?d_low_octets ?d_put_count ?d_put_fraction ?d_put_fractions ?d_put_octets ?d_put_maybe ?d_put_plan ?d_done ?d_refused ?d_sure ?d_told_best ?d_best ?d_right_sum ?d_wrong_sum ?d_worth ?d_up_to ?d_command_answer ?d_octet_at ?d_flag_at ?d_count_at ?d_octets_at ?d_integer_at ?d_integers_at ?d_rows_at ?d_task_at ?d_plan_at ?d_part_at ?d_read_request ?d_begin ?d_is_decided ?d_proposed ?d_fits ?d_tastes_left ?d_propose ?d_advice ?d_undo ?d_told_answers ?d_told_tastes ?d_talk_answer ?d_reply
    (case aA => k_is)
    (case lA => k_is)
    (case cA => k_is)
    (case kA => k_is)
    (case cMOST_UNIT => k_is)
    (case cMOST_TASTES => k_is)
    (case cMOST_ACTIONS => k_is)
    (case cMOST_REWARD => k_is)
    (case cMOST_ERROR => k_is)
    (case cMOST_COST => k_is)
    (case cMOST_LEVEL => k_is)
    (case cUNREADABLE => k_is)
    (case cNO_TALK => k_is)
    (case cBAD_TASK => k_is)
    (case cBAD_PLAN => k_is)
    (case cBAD_ACTION => k_is)
    (case cBAD_ERROR => k_is)
    (case cBAD_COST => k_is)
    (case cBAD_LEVEL => k_is)
    (case cDECIDED => k_is)
    (case cPROPOSED => k_is)
    (case cNOTHING_TO_UNDO => k_is)
    (case cBOUND => k_is)
    (case blen => k_is)
    (case bsum => k_is)
    (case babs => k_is)
    (case bmax => k_is)
    (case bzip => k_is)
    (case brange => k_is)
    (case breversed => k_is)
    (case blist => k_is)
    (case gF => k_is)
    (case lowF => rfl)
    (case lF => k_is)
    (case lT1 => k_is)
    (case lT2 => k_is)
    (case lT3 => k_is)
    (case lT4 => k_is)
    (case lT5 => k_is)
    (case lT6 => k_is)
    (case lT7 => k_is)
    (case lT8 => k_is)
    (case lT9 => k_is)
    (case lT10 => k_is)
    (case gC => k_is)
    (case xU => k_exc)
    (case kU => k_is)
    (case bU => k_is)
    (case tU => k_is)
    (case iU => k_is)
    (case sU => first | rfl | k_is)
    (case d_are_rewards => (refine' Af.def_mk KX G ?a ?l ?c ?k ?hb; (case a => k_is); (case l => k_is); (case c => k_is); (case k => k_is); (case hb => exact fun _ _ _ _ _ _ us hl => match us, hl with | [_, _], _ => rfl)))
    (case d_is_task => (refine' Af.def_mk KX G ?a ?l ?c ?k ?hb; (case a => k_is); (case l => k_is); (case c => k_is); (case k => k_is); (case hb => exact fun _ _ _ _ _ _ us hl => match us, hl with | [_], _ => rfl)))
    (case d_action_count => (refine' Af.def_mk KX G ?a ?l ?c ?k ?hb; (case a => k_is); (case l => k_is); (case c => k_is); (case k => k_is); (case hb => exact fun _ _ _ _ _ _ us hl => match us, hl with | [_], _ => rfl)))
    (case d_is_action => (refine' Af.def_mk KX G ?a ?l ?c ?k ?hb; (case a => k_is); (case l => k_is); (case c => k_is); (case k => k_is); (case hb => exact fun _ _ _ _ _ _ us hl => match us, hl with | [_, _], _ => rfl)))
    (case d_is_plan => (refine' Af.def_mk KX G ?a ?l ?c ?k ?hb; (case a => k_is); (case l => k_is); (case c => k_is); (case k => k_is); (case hb => exact fun _ _ _ _ _ _ us hl => match us, hl with | [_, _], _ => rfl)))
    (case d_is_error => (refine' Af.def_mk KX G ?a ?l ?c ?k ?hb; (case a => k_is); (case l => k_is); (case c => k_is); (case k => k_is); (case hb => exact fun _ _ _ _ _ _ us hl => match us, hl with | [_], _ => rfl)))
    (case d_is_cost => (refine' Af.def_mk KX G ?a ?l ?c ?k ?hb; (case a => k_is); (case l => k_is); (case c => k_is); (case k => k_is); (case hb => exact fun _ _ _ _ _ _ us hl => match us, hl with | [_], _ => rfl)))
    (case d_is_level => (refine' Af.def_mk KX G ?a ?l ?c ?k ?hb; (case a => k_is); (case l => k_is); (case c => k_is); (case k => k_is); (case hb => exact fun _ _ _ _ _ _ us hl => match us, hl with | [_], _ => rfl)))
    (case d_common => (refine' Af.def_mk KX G ?a ?l ?c ?k ?hb; (case a => k_is); (case l => k_is); (case c => k_is); (case k => k_is); (case hb => exact fun _ _ _ _ _ _ us hl => match us, hl with | [_, _], _ => rfl)))
    (case d_lowest => (refine' Af.def_mk KX G ?a ?l ?c ?k ?hb; (case a => k_is); (case l => k_is); (case c => k_is); (case k => k_is); (case hb => exact fun _ _ _ _ _ _ us hl => match us, hl with | [_, _], _ => rfl)))
    (case d_column => (refine' Af.def_mk KX G ?a ?l ?c ?k ?hb; (case a => k_is); (case l => k_is); (case c => k_is); (case k => k_is); (case hb => exact fun _ _ _ _ _ _ us hl => match us, hl with | [_, _], _ => rfl)))
    (case d_ending_rests => (refine' Af.def_mk KX G ?a ?l ?c ?k ?hb; (case a => k_is); (case l => k_is); (case c => k_is); (case k => k_is); (case hb => exact fun _ _ _ _ _ _ us hl => match us, hl with | [_, _], _ => rfl)))
    (case d_yes_chance => (refine' Af.def_mk KX G ?a ?l ?c ?k ?hb; (case a => k_is); (case l => k_is); (case c => k_is); (case k => k_is); (case hb => exact fun _ _ _ _ _ _ us hl => match us, hl with | [_, _, _, _], _ => rfl)))
    (case d_worst_chances => (refine' Af.def_mk KX G ?a ?l ?c ?k ?hb; (case a => k_is); (case l => k_is); (case c => k_is); (case k => k_is); (case hb => exact fun _ _ _ _ _ _ us hl => match us, hl with | [_, _, _, _], _ => rfl)))
    (case d_with_proposal => (refine' Af.def_mk KX G ?a ?l ?c ?k ?hb; (case a => k_is); (case l => k_is); (case c => k_is); (case k => k_is); (case hb => exact fun _ _ _ _ _ _ us hl => match us, hl with | [_, _, _, _, _], _ => rfl)))
    (case d_put_ahead => (refine' Af.def_mk KX G ?a ?l ?c ?k ?hb; (case a => k_is); (case l => k_is); (case c => k_is); (case k => k_is); (case hb => exact fun _ _ _ _ _ _ us hl => match us, hl with | [_, _, _, _, _, _], _ => rfl)))
    (case d_put_all_ahead => (refine' Af.def_mk KX G ?a ?l ?c ?k ?hb; (case a => k_is); (case l => k_is); (case c => k_is); (case k => k_is); (case hb => exact fun _ _ _ _ _ _ us hl => match us, hl with | [_, _, _, _, _, _], _ => rfl)))
    (case d_weighed => (refine' Af.def_mk KX G ?a ?l ?c ?k ?hb; (case a => k_is); (case l => k_is); (case c => k_is); (case k => k_is); (case hb => exact fun _ _ _ _ _ _ us hl => match us, hl with | [_, _], _ => rfl)))
    (case d_plan_sum => (refine' Af.def_mk KX G ?a ?l ?c ?k ?hb; (case a => k_is); (case l => k_is); (case c => k_is); (case k => k_is); (case hb => exact fun _ _ _ _ _ _ us hl => match us, hl with | [_, _, _, _], _ => rfl)))
    (case d_sure_of => (refine' Af.def_mk KX G ?a ?l ?c ?k ?hb; (case a => k_is); (case l => k_is); (case c => k_is); (case k => k_is); (case hb => exact fun _ _ _ _ _ _ us hl => match us, hl with | [_, _, _, _], _ => rfl)))
    (case d_worst_columns => (refine' Af.def_mk KX G ?a ?l ?c ?k ?hb; (case a => k_is); (case l => k_is); (case c => k_is); (case k => k_is); (case hb => exact fun _ _ _ _ _ _ us hl => match us, hl with | [_, _, _, _], _ => rfl)))
    (case d_worst_answers => (refine' Af.def_mk KX G ?a ?l ?c ?k ?hb; (case a => k_is); (case l => k_is); (case c => k_is); (case k => k_is); (case hb => exact fun _ _ _ _ _ _ us hl => match us, hl with | [_, _, _, _], _ => rfl)))
    (case d_greatest_error => (refine' Af.def_mk KX G ?a ?l ?c ?k ?hb; (case a => k_is); (case l => k_is); (case c => k_is); (case k => k_is); (case hb => exact fun _ _ _ _ _ _ us hl => match us, hl with | [_, _, _, _], _ => rfl)))
    (case d_endings => (refine' Af.def_mk KX G ?a ?l ?c ?k ?hb; (case a => k_is); (case l => k_is); (case c => k_is); (case k => k_is); (case hb => exact fun _ _ _ _ _ _ us hl => match us, hl with | [_], _ => rfl)))
    (case d_longer => (refine' Af.def_mk KX G ?a ?l ?c ?k ?hb; (case a => k_is); (case l => k_is); (case c => k_is); (case k => k_is); (case hb => exact fun _ _ _ _ _ _ us hl => match us, hl with | [_, _, _, _, _, _], _ => rfl)))
    (case d_sums => (refine' Af.def_mk KX G ?a ?l ?c ?k ?hb; (case a => k_is); (case l => k_is); (case c => k_is); (case k => k_is); (case hb => exact fun _ _ _ _ _ _ us hl => match us, hl with | [_, _, _, _, _, _], _ => rfl)))
    (case d_all_sums => (refine' Af.def_mk KX G ?a ?l ?c ?k ?hb; (case a => k_is); (case l => k_is); (case c => k_is); (case k => k_is); (case hb => exact fun _ _ _ _ _ _ us hl => match us, hl with | [_, _, _, _], _ => rfl)))
    (case d_best_plan => (refine' Af.def_mk KX G ?a ?l ?c ?k ?hb; (case a => k_is); (case l => k_is); (case c => k_is); (case k => k_is); (case hb => exact fun _ _ _ _ _ _ us hl => match us, hl with | [_, _, _, _], _ => rfl)))
    (case d_low_octets => (refine' Af.def_mk KX G ?a ?l ?c ?k ?hb; (case a => k_is); (case l => k_is); (case c => k_is); (case k => k_is); (case hb => exact fun _ _ _ _ _ _ us hl => match us, hl with | [_, _], _ => rfl)))
    (case d_put_count => (refine' Af.def_mk KX G ?a ?l ?c ?k ?hb; (case a => k_is); (case l => k_is); (case c => k_is); (case k => k_is); (case hb => exact fun _ _ _ _ _ _ us hl => match us, hl with | [_], _ => rfl)))
    (case d_put_fraction => (refine' Af.def_mk KX G ?a ?l ?c ?k ?hb; (case a => k_is); (case l => k_is); (case c => k_is); (case k => k_is); (case hb => exact fun _ _ _ _ _ _ us hl => match us, hl with | [_], _ => rfl)))
    (case d_put_fractions => (refine' Af.def_mk KX G ?a ?l ?c ?k ?hb; (case a => k_is); (case l => k_is); (case c => k_is); (case k => k_is); (case hb => exact fun _ _ _ _ _ _ us hl => match us, hl with | [_], _ => rfl)))
    (case d_put_octets => (refine' Af.def_mk KX G ?a ?l ?c ?k ?hb; (case a => k_is); (case l => k_is); (case c => k_is); (case k => k_is); (case hb => exact fun _ _ _ _ _ _ us hl => match us, hl with | [_], _ => rfl)))
    (case d_put_maybe => (refine' Af.def_mk KX G ?a ?l ?c ?k ?hb; (case a => k_is); (case l => k_is); (case c => k_is); (case k => k_is); (case hb => exact fun _ _ _ _ _ _ us hl => match us, hl with | [_], _ => rfl)))
    (case d_put_plan => (refine' Af.def_mk KX G ?a ?l ?c ?k ?hb; (case a => k_is); (case l => k_is); (case c => k_is); (case k => k_is); (case hb => exact fun _ _ _ _ _ _ us hl => match us, hl with | [_], _ => rfl)))
    (case d_done => (refine' Af.def_mk KX G ?a ?l ?c ?k ?hb; (case a => k_is); (case l => k_is); (case c => k_is); (case k => k_is); (case hb => exact fun _ _ _ _ _ _ us hl => match us, hl with | [_], _ => rfl)))
    (case d_refused => (refine' Af.def_mk KX G ?a ?l ?c ?k ?hb; (case a => k_is); (case l => k_is); (case c => k_is); (case k => k_is); (case hb => exact fun _ _ _ _ _ _ us hl => match us, hl with | [_], _ => rfl)))
    (case d_sure => (refine' Af.def_mk KX G ?a ?l ?c ?k ?hb; (case a => k_is); (case l => k_is); (case c => k_is); (case k => k_is); (case hb => exact fun _ _ _ _ _ _ us hl => match us, hl with | [_, _, _, _], _ => rfl)))
    (case d_told_best => (refine' Af.def_mk KX G ?a ?l ?c ?k ?hb; (case a => k_is); (case l => k_is); (case c => k_is); (case k => k_is); (case hb => exact fun _ _ _ _ _ _ us hl => match us, hl with | [_, _, _, _], _ => rfl)))
    (case d_best => (refine' Af.def_mk KX G ?a ?l ?c ?k ?hb; (case a => k_is); (case l => k_is); (case c => k_is); (case k => k_is); (case hb => exact fun _ _ _ _ _ _ us hl => match us, hl with | [_, _, _], _ => rfl)))
    (case d_right_sum => (refine' Af.def_mk KX G ?a ?l ?c ?k ?hb; (case a => k_is); (case l => k_is); (case c => k_is); (case k => k_is); (case hb => exact fun _ _ _ _ _ _ us hl => match us, hl with | [_, _], _ => rfl)))
    (case d_wrong_sum => (refine' Af.def_mk KX G ?a ?l ?c ?k ?hb; (case a => k_is); (case l => k_is); (case c => k_is); (case k => k_is); (case hb => exact fun _ _ _ _ _ _ us hl => match us, hl with | [_, _], _ => rfl)))
    (case d_worth => (refine' Af.def_mk KX G ?a ?l ?c ?k ?hb; (case a => k_is); (case l => k_is); (case c => k_is); (case k => k_is); (case hb => exact fun _ _ _ _ _ _ us hl => match us, hl with | [_, _, _], _ => rfl)))
    (case d_up_to => (refine' Af.def_mk KX G ?a ?l ?c ?k ?hb; (case a => k_is); (case l => k_is); (case c => k_is); (case k => k_is); (case hb => exact fun _ _ _ _ _ _ us hl => match us, hl with | [_, _, _, _], _ => rfl)))
    (case d_command_answer => (refine' Af.def_mk KX G ?a ?l ?c ?k ?hb; (case a => k_is); (case l => k_is); (case c => k_is); (case k => k_is); (case hb => exact fun _ _ _ _ _ _ us hl => match us, hl with | [_, _], _ => rfl)))
    (case d_octet_at => (refine' Af.def_mk KX G ?a ?l ?c ?k ?hb; (case a => k_is); (case l => k_is); (case c => k_is); (case k => k_is); (case hb => exact fun _ _ _ _ _ _ us hl => match us, hl with | [_, _], _ => rfl)))
    (case d_flag_at => (refine' Af.def_mk KX G ?a ?l ?c ?k ?hb; (case a => k_is); (case l => k_is); (case c => k_is); (case k => k_is); (case hb => exact fun _ _ _ _ _ _ us hl => match us, hl with | [_, _], _ => rfl)))
    (case d_count_at => (refine' Af.def_mk KX G ?a ?l ?c ?k ?hb; (case a => k_is); (case l => k_is); (case c => k_is); (case k => k_is); (case hb => exact fun _ _ _ _ _ _ us hl => match us, hl with | [_, _], _ => rfl)))
    (case d_octets_at => (refine' Af.def_mk KX G ?a ?l ?c ?k ?hb; (case a => k_is); (case l => k_is); (case c => k_is); (case k => k_is); (case hb => exact fun _ _ _ _ _ _ us hl => match us, hl with | [_, _], _ => rfl)))
    (case d_integer_at => (refine' Af.def_mk KX G ?a ?l ?c ?k ?hb; (case a => k_is); (case l => k_is); (case c => k_is); (case k => k_is); (case hb => exact fun _ _ _ _ _ _ us hl => match us, hl with | [_, _], _ => rfl)))
    (case d_integers_at => (refine' Af.def_mk KX G ?a ?l ?c ?k ?hb; (case a => k_is); (case l => k_is); (case c => k_is); (case k => k_is); (case hb => exact fun _ _ _ _ _ _ us hl => match us, hl with | [_, _], _ => rfl)))
    (case d_rows_at => (refine' Af.def_mk KX G ?a ?l ?c ?k ?hb; (case a => k_is); (case l => k_is); (case c => k_is); (case k => k_is); (case hb => exact fun _ _ _ _ _ _ us hl => match us, hl with | [_, _], _ => rfl)))
    (case d_task_at => (refine' Af.def_mk KX G ?a ?l ?c ?k ?hb; (case a => k_is); (case l => k_is); (case c => k_is); (case k => k_is); (case hb => exact fun _ _ _ _ _ _ us hl => match us, hl with | [_, _], _ => rfl)))
    (case d_plan_at => (refine' Af.def_mk KX G ?a ?l ?c ?k ?hb; (case a => k_is); (case l => k_is); (case c => k_is); (case k => k_is); (case hb => exact fun _ _ _ _ _ _ us hl => match us, hl with | [_, _], _ => rfl)))
    (case d_part_at => (refine' Af.def_mk KX G ?a ?l ?c ?k ?hb; (case a => k_is); (case l => k_is); (case c => k_is); (case k => k_is); (case hb => exact fun _ _ _ _ _ _ us hl => match us, hl with | [_, _, _], _ => rfl)))
    (case d_read_request => (refine' Af.def_mk KX G ?a ?l ?c ?k ?hb; (case a => k_is); (case l => k_is); (case c => k_is); (case k => k_is); (case hb => exact fun _ _ _ _ _ _ us hl => match us, hl with | [_], _ => rfl)))
    (case d_begin => (refine' Af.def_mk KX G ?a ?l ?c ?k ?hb; (case a => k_is); (case l => k_is); (case c => k_is); (case k => k_is); (case hb => exact fun _ _ _ _ _ _ us hl => match us, hl with | [_, _], _ => rfl)))
    (case d_is_decided => (refine' Af.def_mk KX G ?a ?l ?c ?k ?hb; (case a => k_is); (case l => k_is); (case c => k_is); (case k => k_is); (case hb => exact fun _ _ _ _ _ _ us hl => match us, hl with | [_], _ => rfl)))
    (case d_proposed => (refine' Af.def_mk KX G ?a ?l ?c ?k ?hb; (case a => k_is); (case l => k_is); (case c => k_is); (case k => k_is); (case hb => exact fun _ _ _ _ _ _ us hl => match us, hl with | [_], _ => rfl)))
    (case d_fits => (refine' Af.def_mk KX G ?a ?l ?c ?k ?hb; (case a => k_is); (case l => k_is); (case c => k_is); (case k => k_is); (case hb => exact fun _ _ _ _ _ _ us hl => match us, hl with | [_, _], _ => rfl)))
    (case d_tastes_left => (refine' Af.def_mk KX G ?a ?l ?c ?k ?hb; (case a => k_is); (case l => k_is); (case c => k_is); (case k => k_is); (case hb => exact fun _ _ _ _ _ _ us hl => match us, hl with | [_, _], _ => rfl)))
    (case d_propose => (refine' Af.def_mk KX G ?a ?l ?c ?k ?hb; (case a => k_is); (case l => k_is); (case c => k_is); (case k => k_is); (case hb => exact fun _ _ _ _ _ _ us hl => match us, hl with | [_, _, _], _ => rfl)))
    (case d_advice => (refine' Af.def_mk KX G ?a ?l ?c ?k ?hb; (case a => k_is); (case l => k_is); (case c => k_is); (case k => k_is); (case hb => exact fun _ _ _ _ _ _ us hl => match us, hl with | [_, _, _], _ => rfl)))
    (case d_undo => (refine' Af.def_mk KX G ?a ?l ?c ?k ?hb; (case a => k_is); (case l => k_is); (case c => k_is); (case k => k_is); (case hb => exact fun _ _ _ _ _ _ us hl => match us, hl with | [_], _ => rfl)))
    (case d_told_answers => (refine' Af.def_mk KX G ?a ?l ?c ?k ?hb; (case a => k_is); (case l => k_is); (case c => k_is); (case k => k_is); (case hb => exact fun _ _ _ _ _ _ us hl => match us, hl with | [_], _ => rfl)))
    (case d_told_tastes => (refine' Af.def_mk KX G ?a ?l ?c ?k ?hb; (case a => k_is); (case l => k_is); (case c => k_is); (case k => k_is); (case hb => exact fun _ _ _ _ _ _ us hl => match us, hl with | [_], _ => rfl)))
    (case d_talk_answer => (refine' Af.def_mk KX G ?a ?l ?c ?k ?hb; (case a => k_is); (case l => k_is); (case c => k_is); (case k => k_is); (case hb => exact fun _ _ _ _ _ _ us hl => match us, hl with | [_, _, _], _ => rfl)))
    (case d_reply => (refine' Af.def_mk KX G ?a ?l ?c ?k ?hb; (case a => k_is); (case l => k_is); (case c => k_is); (case k => k_is); (case hb => exact fun _ _ _ _ _ _ us hl => match us, hl with | [_, _], _ => rfl)))
  case S =>
    intro K H xs a hO hwi hask hx
    cases hx with
    | cons h1 h2 =>
      cases h2
      cases h1 with
      | lst hs ha =>
        have e := L2.ints_dw a.1 _ ha
        subst e
        exact Af.req hs hask fun H' p hp => .lst (L2.SqL.of hp) (L2.dw_ints _)
#print axioms PySem.Challenge.cw_askfirst_s01_answers_holds
