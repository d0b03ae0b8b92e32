import PyProof.Rows.All
import Wide.All
import OpenK.AllK
import Wide.FinOn
import Open.SpecLaws
import KE.OsGo
import HandS.ForSpec
import HandS.Comp
import HandS.Wide
import HandS.CallLocal
import HandS.Codes
import PySem.Challenge.RW_deterrence_s01_answers
set_option Elab.async false
set_option linter.all false
set_option maxRecDepth 100000
set_option maxHeartbeats 2000000
namespace Det
open Kp416 (Setting)
def fr (a b : Int) : Rat := (a : Rat) / (b : Rat)
theorem fr_divInt (a b : Int) : fr a b = Rat.divInt a b := (Rat.divInt_eq_div a b).symm
theorem fr_num {a b : Int} (hb : 0 < b) : (fr a b).num = a / (Int.gcd a b : Int) := by
  rw [fr_divInt, Rat.num_divInt, Int.sign_eq_one_of_pos hb, Int.one_mul, Int.gcd_comm]
theorem fr_den {a b : Int} (hb : 0 < b) : ((fr a b).den : Int) = b / (Int.gcd a b : Int) := by
  rw [fr_divInt, Rat.den_divInt, if_neg (by omega), Int.gcd_comm]
  rw [Int.natCast_ediv, Int.natAbs_of_nonneg (by omega)]
theorem fr_zero (b : Int) : fr 0 b = 0 := by
  rw [fr_divInt, Rat.zero_divInt]
theorem cast_ne {b : Int} (hb : 0 < b) : (b : Rat) ≠ 0 := by
  intro h
  rw [Rat.intCast_eq_zero_iff] at h
  omega
theorem fr_self (x : Rat) : fr x.num (x.den : Int) = x := by
  rw [fr_divInt, Rat.num_divInt_den]
theorem fr_add {a b c : Int} (hc : 0 < c) : fr a c + fr b c = fr (a + b) c := by
  have h := cast_ne hc
  unfold fr
  rw [Rat.intCast_add]
  grind
theorem fr_pos {a b : Int} (hb : 0 < b) : 0 < fr a b ↔ 0 < a := by
  unfold fr
  rw [Rat.lt_div_iff (Rat.intCast_pos.mpr hb), Rat.zero_mul, Rat.intCast_pos]
section
variable (s : Setting)
abbrev Tw : List Nat := s.model.testWeights
abbrev Uw : List Nat := s.model.productionWeights
abbrev St : Int := ((s.model.testWeights.sum : Nat) : Int)
abbrev Su : Int := ((s.model.productionWeights.sum : Nat) : Int)
abbrev tq (i : Nat) : Int := ((s.model.testWeights.getD i 0 : Nat) : Int)
abbrev uq (i : Nat) : Int := ((s.model.productionWeights.getD i 0 : Nat) : Int)
abbrev Top : Int := (s.model.priorNum : Int)
abbrev Bot : Int := (s.model.priorDen : Int)
abbrev Ga : Int := (s.gain : Int)
abbrev Lo : Int := (s.loss : Int)
abbrev Ha : Int := (s.harmPrice : Int)
abbrev Te : Int := (s.testPrice : Int)
def valueTop (i : Nat) : Int := Ga s * (Bot s - Top s) * uq s i * St s - Lo s * Top s * tq s i * Su s
def valueBot : Int := Bot s * St s * Su s
end
structure Good (s : Setting) : Prop where
  n1 : 1 ≤ s.model.testWeights.length
  n5 : s.model.testWeights.length ≤ 5
  len : s.model.productionWeights.length = s.model.testWeights.length
  tpos : 0 < s.model.testWeights.sum
  tle : s.model.testWeights.sum ≤ 495
  upos : 0 < s.model.productionWeights.sum
  ule : s.model.productionWeights.sum ≤ 495
  den : 1 ≤ s.model.priorDen
  denle : s.model.priorDen ≤ 1000000000
  num : s.model.priorNum ≤ s.model.priorDen
  ga : s.gain ≤ 999
  lo : s.loss ≤ 999
  ha : s.harmPrice ≤ 999
  te : s.testPrice ≤ 999
theorem Good.bp {s : Setting} (G : Good s) : 0 < Bot s := Int.natCast_pos.mpr G.den
theorem Good.tp {s : Setting} (G : Good s) : 0 < St s := Int.natCast_pos.mpr G.tpos
theorem Good.up {s : Setting} (G : Good s) : 0 < Su s := Int.natCast_pos.mpr G.upos
theorem Good.vb {s : Setting} (G : Good s) : 0 < valueBot s := Int.mul_pos (Int.mul_pos G.bp G.tp) G.up
theorem natc (n : Nat) : ((n : Nat) : Rat) = (((n : Nat) : Int) : Rat) := (Rat.intCast_natCast n).symm
theorem cheating_eq {s : Setting} (G : Good s) (i : Nat) : Kp416.cheatingValue s i = fr (valueTop s i) (valueBot s) := by
  have h1 : (Bot s : Rat) ≠ 0 := cast_ne G.bp
  have h2 : (St s : Rat) ≠ 0 := cast_ne G.tp
  have h3 : (Su s : Rat) ≠ 0 := cast_ne G.up
  unfold Kp416.cheatingValue Kp415.jointProduction Kp415.jointTest Kp415.priorProduction Kp415.productionShare Kp415.testShare Kp415.share Kp415.priorTest fr valueTop valueBot
  simp only [natc, Rat.intCast_sub, Rat.intCast_mul]
  generalize ((s.gain : Int) : Rat) = g at *
  generalize ((s.loss : Int) : Rat) = l at *
  generalize ((s.model.priorDen : Int) : Rat) = b at *
  generalize ((s.model.priorNum : Int) : Rat) = t at *
  generalize (((s.model.productionWeights.getD i 0 : Nat) : Int) : Rat) = u at *
  generalize (((s.model.testWeights.getD i 0 : Nat) : Int) : Rat) = w at *
  generalize (((s.model.testWeights.sum : Nat) : Int) : Rat) = st at *
  generalize (((s.model.productionWeights.sum : Nat) : Int) : Rat) = su at *
  grind
theorem pays_eq {s : Setting} (G : Good s) (i : Nat) : Kp416.pays s i = decide (0 < valueTop s i) := by
  unfold Kp416.pays
  rw [cheating_eq G, decide_eq_decide]
  exact fr_pos G.vb
theorem sum_fr {c : Int} (hc : 0 < c) (f : Nat → Rat) (g : Nat → Int) (h : ∀ i, f i = fr (g i) c) : ∀ l : List Nat, Kp416.sumOver f l = fr ((l.map g).sum) c
  | [] => by
    show (0 : Rat) = fr 0 c
    rw [fr_zero]
  | i :: l => by
    have ih := sum_fr hc f g h l
    unfold Kp416.sumOver at ih ⊢
    rw [List.map_cons, List.sum_cons, List.map_cons, List.sum_cons, ih, h i, fr_add hc]
theorem profit_eq {s : Setting} (G : Good s) (l : List Nat) : Kp416.sumOver (Kp416.cheatingValue s) l = fr ((l.map (valueTop s)).sum) (valueBot s) :=
  sum_fr G.vb _ _ (cheating_eq G) l
def sumW (l : List Nat) (w : List Nat) : Int := (l.map fun i => ((w.getD i 0 : Nat) : Int)).sum
theorem sum_mul (c : Int) (g : Nat → Int) : ∀ l : List Nat, (l.map fun i => c * g i).sum = c * (l.map g).sum
  | [] => by simp
  | i :: l => by
    have ih := sum_mul c g l
    rw [List.map_cons, List.sum_cons, List.map_cons, List.sum_cons, ih, Int.mul_add]
theorem jt_eq {s : Setting} (G : Good s) (i : Nat) : Kp415.jointTest s.model i = fr (Top s * tq s i) (Bot s * St s) := by
  have h1 : (Bot s : Rat) ≠ 0 := cast_ne G.bp
  have h2 : (St s : Rat) ≠ 0 := cast_ne G.tp
  unfold Kp415.jointTest Kp415.testShare Kp415.share Kp415.priorTest fr
  simp only [natc, Rat.intCast_mul]
  generalize ((s.model.priorDen : Int) : Rat) = b at *
  generalize ((s.model.priorNum : Int) : Rat) = t at *
  generalize (((s.model.testWeights.getD i 0 : Nat) : Int) : Rat) = w at *
  generalize (((s.model.testWeights.sum : Nat) : Int) : Rat) = st at *
  grind
theorem jp_eq {s : Setting} (G : Good s) (i : Nat) : Kp415.jointProduction s.model i = fr ((Bot s - Top s) * uq s i) (Bot s * Su s) := by
  have h1 : (Bot s : Rat) ≠ 0 := cast_ne G.bp
  have h3 : (Su s : Rat) ≠ 0 := cast_ne G.up
  unfold Kp415.jointProduction Kp415.priorProduction Kp415.productionShare Kp415.share Kp415.priorTest fr
  simp only [natc, Rat.intCast_sub, Rat.intCast_mul]
  generalize ((s.model.priorDen : Int) : Rat) = b at *
  generalize ((s.model.priorNum : Int) : Rat) = t at *
  generalize (((s.model.productionWeights.getD i 0 : Nat) : Int) : Rat) = u at *
  generalize (((s.model.productionWeights.sum : Nat) : Int) : Rat) = su at *
  grind
theorem detection_eq {s : Setting} (G : Good s) : Kp416.detectionProbability s = fr (Top s * sumW (Kp416.cheatingSignals s) s.model.testWeights) (Bot s * St s) := by
  unfold Kp416.detectionProbability
  rw [sum_fr (Int.mul_pos G.bp G.tp) _ _ (jt_eq G), sum_mul]
  rfl
theorem harm_eq {s : Setting} (G : Good s) : Kp416.harmProbability s = fr ((Bot s - Top s) * sumW (Kp416.cheatingSignals s) s.model.productionWeights) (Bot s * Su s) := by
  unfold Kp416.harmProbability
  rw [sum_fr (Int.mul_pos G.bp G.up) _ _ (jp_eq G), sum_mul]
  rfl
theorem cost_eq {s : Setting} (G : Good s) : Kp416.totalCost s = fr (Te s * Top s * ((Kp416.harmProbability s).den : Int) + Ha s * (Kp416.harmProbability s).num * Bot s) (Bot s * ((Kp416.harmProbability s).den : Int)) := by
  have h1 : (Bot s : Rat) ≠ 0 := cast_ne G.bp
  unfold Kp416.totalCost
  generalize Kp416.harmProbability s = x
  have h2 : (((x.den : Nat) : Int) : Rat) ≠ 0 := cast_ne (Int.natCast_pos.mpr x.den_pos)
  have e := fr_self x
  unfold Kp415.priorTest fr at *
  simp only [natc, Rat.intCast_add, Rat.intCast_mul]
  generalize ((s.model.priorDen : Int) : Rat) = b at *
  generalize ((s.model.priorNum : Int) : Rat) = t at *
  generalize ((s.harmPrice : Int) : Rat) = hp at *
  generalize ((s.testPrice : Int) : Rat) = tp at *
  generalize (((x.den : Nat) : Int) : Rat) = d at *
  generalize ((x.num : Int) : Rat) = n at *
  subst e
  grind
def won (s : Setting) (i : Nat) : Int := Ga s * uq s i * St s
def lost (s : Setting) (i : Nat) : Int := Lo s * tq s i * Su s
theorem won_nn (s : Setting) (i : Nat) : 0 ≤ won s i := Int.mul_nonneg (Int.mul_nonneg (Int.natCast_nonneg _) (Int.natCast_nonneg _)) (Int.natCast_nonneg _)
theorem lost_nn (s : Setting) (i : Nat) : 0 ≤ lost s i := Int.mul_nonneg (Int.mul_nonneg (Int.natCast_nonneg _) (Int.natCast_nonneg _)) (Int.natCast_nonneg _)
theorem g_eq {s : Setting} (G : Good s) (i : Nat) : (s.gain : Rat) * Kp415.productionShare s.model i = fr (won s i) (St s * Su s) := by
  have h2 : (St s : Rat) ≠ 0 := cast_ne G.tp
  have h3 : (Su s : Rat) ≠ 0 := cast_ne G.up
  unfold Kp415.productionShare Kp415.share won fr
  simp only [natc, Rat.intCast_mul]
  generalize ((s.gain : Int) : Rat) = g at *
  generalize (((s.model.productionWeights.getD i 0 : Nat) : Int) : Rat) = u at *
  generalize (((s.model.testWeights.sum : Nat) : Int) : Rat) = st at *
  generalize (((s.model.productionWeights.sum : Nat) : Int) : Rat) = su at *
  grind
theorem l_eq {s : Setting} (G : Good s) (i : Nat) : (s.loss : Rat) * Kp415.testShare s.model i = fr (lost s i) (St s * Su s) := by
  have h2 : (St s : Rat) ≠ 0 := cast_ne G.tp
  have h3 : (Su s : Rat) ≠ 0 := cast_ne G.up
  unfold Kp415.testShare Kp415.share lost fr
  simp only [natc, Rat.intCast_mul]
  generalize ((s.loss : Int) : Rat) = g at *
  generalize (((s.model.testWeights.getD i 0 : Nat) : Int) : Rat) = u at *
  generalize (((s.model.testWeights.sum : Nat) : Int) : Rat) = st at *
  generalize (((s.model.productionWeights.sum : Nat) : Int) : Rat) = su at *
  grind
theorem fr_eq_zero {a b : Int} (hb : 0 < b) : fr a b = 0 ↔ a = 0 := by
  constructor
  · intro h
    have h1 := cast_ne hb
    unfold fr at h
    have : ((a : Int) : Rat) = 0 := by grind
    rwa [Rat.intCast_eq_zero_iff] at this
  · rintro rfl
    exact fr_zero b
theorem fr_div {a b c : Int} (hc : 0 < c) (hs : 0 < a + b) : fr a c / (fr a c + fr b c) = fr a (a + b) := by
  rw [fr_add hc]
  have h1 := cast_ne hc
  have h2 := cast_ne hs
  unfold fr
  grind
theorem deterrent_eq {s : Setting} (G : Good s) (i : Nat) : Kp416.deterrentPriorAt s i = if won s i = 0 then some 0 else if lost s i = 0 then none else some (fr (won s i) (won s i + lost s i)) := by
  have hc : 0 < St s * Su s := Int.mul_pos G.tp G.up
  have hw := won_nn s i
  have hl := lost_nn s i
  unfold Kp416.deterrentPriorAt
  dsimp only
  rw [g_eq G, l_eq G]
  by_cases c1 : won s i = 0
  · rw [if_pos c1, if_pos ((fr_eq_zero hc).mpr c1)]
  · rw [if_neg c1, if_neg (fun h => c1 ((fr_eq_zero hc).mp h))]
    by_cases c2 : lost s i = 0
    · rw [if_pos c2, if_pos ((fr_eq_zero hc).mpr c2)]
    · rw [if_neg c2, if_neg (fun h => c2 ((fr_eq_zero hc).mp h)), fr_div hc (by omega)]
end Det
namespace Det
open Kp416 (Setting)
/-! the deterrent prior: a fold -/
def dstep (s : Setting) (best : Option Rat) (signal : Nat) : Option Rat := match best, Kp416.deterrentPriorAt s signal with
  | some x, some y => some (Kp415.larger x y)
  | _, _ => none
def dfold (s : Setting) (k : Nat) : Option Rat := (List.range k).foldl (dstep s) (some 0)
theorem dfold_zero (s : Setting) : dfold s 0 = some 0 := rfl
theorem dfold_succ (s : Setting) (k : Nat) : dfold s (k + 1) = dstep s (dfold s k) k := by
  unfold dfold
  rw [List.range_succ, List.foldl_append]
  rfl
theorem dfold_is (s : Setting) : Kp416.deterrentPrior s = dfold s s.model.testWeights.length := by
  unfold Kp416.deterrentPrior dfold Kp415.signalCount
  congr 1
theorem dfold_none (s : Setting) {k : Nat} (h : dfold s k = none) : ∀ j, dfold s (k + j) = none
  | 0 => h
  | j + 1 => by
    rw [← Nat.add_assoc, dfold_succ, dfold_none s h j]
    rfl
theorem dfold_at_none {s : Setting} {k n : Nat} (hk : k < n) (h : Kp416.deterrentPriorAt s k = none) : dfold s n = none := by
  have h1 : dfold s (k + 1) = none := by
    rw [dfold_succ]
    unfold dstep
    rw [h]
    cases dfold s k <;> rfl
  have h2 := dfold_none s h1 (n - (k + 1))
  rwa [show k + 1 + (n - (k + 1)) = n by omega] at h2
theorem dfold_at_some {s : Setting} {k : Nat} {x y : Rat} (h1 : dfold s k = some x) (h : Kp416.deterrentPriorAt s k = some y) : dfold s (k + 1) = some (if x < y then y else x) := by
  rw [dfold_succ]
  unfold dstep
  rw [h1, h]
  rfl
/-! the cheapest prior: a fold -/
def cbest (s : Setting) (best x : Rat) : Rat :=
  if Kp416.totalCost (Kp416.withPrior s x) < Kp416.totalCost (Kp416.withPrior s best) ∨ (Kp416.totalCost (Kp416.withPrior s x) = Kp416.totalCost (Kp416.withPrior s best) ∧ x < best) then x else best
def cstep (s : Setting) (best : Rat) : Option Rat → Rat
  | none => best
  | some x => cbest s best x
def cands (s : Setting) : List (Option Rat) := some 1 :: (List.range s.model.testWeights.length).map (Kp416.deterrentPriorAt s)
def cfold (s : Setting) (k : Nat) : Rat := ((cands s).take k).foldl (cstep s) 0
theorem cfold_zero (s : Setting) : cfold s 0 = 0 := rfl
theorem take_more {α : Type} : ∀ {l : List α} {i : Nat} {x : α}, l[i]? = some x → l.take (i + 1) = l.take i ++ [x]
  | [], i, x, h => by simp at h
  | a :: l, 0, x, h => by
    have e : a = x := Option.some.inj h
    subst e
    rfl
  | a :: l, i + 1, x, h => by
    have ih := take_more (l := l) (i := i) (x := x) h
    show a :: l.take (i + 1) = a :: l.take i ++ [x]
    rw [ih]
    rfl
theorem cfold_succ {s : Setting} {k : Nat} {o : Option Rat} (h : (cands s)[k]? = some o) : cfold s (k + 1) = cstep s (cfold s k) o := by
  unfold cfold
  rw [take_more h, List.foldl_append]
  rfl
theorem fold_filterMap (s : Setting) (f : Nat → Option Rat) : ∀ (l : List Nat) (b : Rat), (l.filterMap f).foldl (cbest s) b = (l.map f).foldl (cstep s) b
  | [], b => rfl
  | i :: l, b => by
    cases h : f i with
    | none =>
      rw [List.filterMap_cons_none h, List.map_cons, List.foldl_cons, h]
      exact fold_filterMap s f l b
    | some x =>
      rw [List.filterMap_cons_some h, List.map_cons, List.foldl_cons, List.foldl_cons, h]
      exact fold_filterMap s f l (cbest s b x)
theorem cbest_self (s : Setting) (x : Rat) : cbest s x x = x := by
  unfold cbest
  split <;> rfl
theorem cfold_is (s : Setting) : Kp416.cheapestPrior s = cfold s (cands s).length := by
  unfold Kp416.cheapestPrior Kp416.candidatePriors Kp415.signalCount cfold
  rw [List.take_length]
  show (0 :: 1 :: (List.range s.model.testWeights.length).filterMap (Kp416.deterrentPriorAt s)).foldl (cbest s) 0 = _
  rw [List.foldl_cons, List.foldl_cons, cbest_self, fold_filterMap]
  rfl
theorem cands_length (s : Setting) : (cands s).length = s.model.testWeights.length + 1 := by
  unfold cands
  simp
theorem cands_map (s : Setting) : cands s = [some 1] ++ (List.range s.model.testWeights.length).map (Kp416.deterrentPriorAt s) := rfl
/-! bounds -/
theorem getD_le_sum : ∀ (l : List Nat) (i : Nat), l.getD i 0 ≤ l.sum
  | [], i => by simp
  | a :: l, 0 => by simp
  | a :: l, i + 1 => by
    have := getD_le_sum l i
    simp only [List.getD_cons_succ, List.sum_cons]
    omega
theorem mul_le3 {a b c A B C : Nat} (h1 : a ≤ A) (h2 : b ≤ B) (h3 : c ≤ C) : a * b * c ≤ A * B * C := Nat.mul_le_mul (Nat.mul_le_mul h1 h2) h3
theorem won_le {s : Setting} (G : Good s) (i : Nat) : won s i ≤ 244780000 := by
  have h := mul_le3 G.ga (Nat.le_trans (getD_le_sum s.model.productionWeights i) G.ule) G.tle
  unfold won
  have e : Ga s * uq s i * St s = ((s.gain * s.model.productionWeights.getD i 0 * s.model.testWeights.sum : Nat) : Int) := by
    rw [Int.natCast_mul, Int.natCast_mul]
  rw [e]
  omega
theorem lost_le {s : Setting} (G : Good s) (i : Nat) : lost s i ≤ 244780000 := by
  have h := mul_le3 G.lo (Nat.le_trans (getD_le_sum s.model.testWeights i) G.tle) G.ule
  unfold lost
  have e : Lo s * tq s i * Su s = ((s.loss * s.model.testWeights.getD i 0 * s.model.productionWeights.sum : Nat) : Int) := by
    rw [Int.natCast_mul, Int.natCast_mul]
  rw [e]
  omega
/-- a rational from 0 to 1 with a small denominator -/
structure Pr (x : Rat) : Prop where
  nn : 0 ≤ x.num
  le : x.num ≤ (x.den : Int)
  dle : x.den ≤ 1000000000
theorem Pr.zero : Pr 0 := ⟨by decide, by decide, by decide⟩
theorem Pr.one : Pr 1 := ⟨by decide, by decide, by decide⟩
theorem fr_le {a b : Int} (ha : 0 ≤ a) (hb : 0 < b) : 0 ≤ (fr a b).num ∧ (fr a b).num ≤ a ∧ ((fr a b).den : Int) ≤ b := by
  rw [fr_num hb, fr_den hb]
  have hg : 0 < (Int.gcd a b : Int) := by
    have := Int.gcd_pos_of_ne_zero_right a (show b ≠ 0 by omega)
    omega
  exact ⟨Int.ediv_nonneg ha (by omega), Int.ediv_le_self _ ha, Int.ediv_le_self _ (by omega)⟩
theorem pr_fr {a b : Int} (ha : 0 ≤ a) (hb : 0 < b) (hab : a ≤ b) (hm : b ≤ 1000000000) : Pr (fr a b) := by
  obtain ⟨h1, _, h2⟩ := fr_le ha hb
  refine ⟨h1, ?_, by omega⟩
  rw [fr_num hb, fr_den hb]
  have hg : 0 < (Int.gcd a b : Int) := by
    have := Int.gcd_pos_of_ne_zero_right a (show b ≠ 0 by omega)
    omega
  exact Int.ediv_le_ediv hg hab
theorem pr_det {s : Setting} (G : Good s) {i : Nat} {x : Rat} (h : Kp416.deterrentPriorAt s i = some x) : Pr x := by
  rw [deterrent_eq G] at h
  have h1 := won_nn s i
  have h2 := lost_nn s i
  have h3 := won_le G i
  have h4 := lost_le G i
  by_cases c1 : won s i = 0
  · rw [if_pos c1] at h
    cases h
    exact Pr.zero
  · rw [if_neg c1] at h
    by_cases c2 : lost s i = 0
    · rw [if_pos c2] at h
      cases h
    · rw [if_neg c2] at h
      cases h
      exact pr_fr h1 (by omega) (by omega) (by omega)
theorem good_prior {s : Setting} (G : Good s) {x : Rat} (p : Pr x) : Good (Kp416.withPrior s x) :=
  ⟨G.n1, G.n5, G.len, G.tpos, G.tle, G.upos, G.ule, x.den_pos, p.dle, by
    show x.num.toNat ≤ x.den
    have := p.le
    omega, G.ga, G.lo, G.ha, G.te⟩
theorem pr_dfold {s : Setting} (G : Good s) : ∀ {k : Nat} {x : Rat}, dfold s k = some x → Pr x
  | 0, x, h => by
    cases h
    exact Pr.zero
  | k + 1, x, h => by
    rw [dfold_succ] at h
    unfold dstep at h
    cases h1 : dfold s k with
    | none =>
      rw [h1] at h
      cases h
    | some y =>
      cases h2 : Kp416.deterrentPriorAt s k with
      | none =>
        rw [h1, h2] at h
        cases h
      | some z =>
        rw [h1, h2] at h
        have e : Kp415.larger y z = x := Option.some.inj h
        unfold Kp415.larger at e
        split at e
        · subst e
          exact pr_det G h2
        · subst e
          exact pr_dfold G h1
theorem pr_cand {s : Setting} (G : Good s) {k : Nat} {x : Rat} (h : (cands s)[k]? = some (some x)) : Pr x := by
  cases k with
  | zero =>
    have e : (1 : Rat) = x := Option.some.inj (Option.some.inj h)
    subst e
    exact Pr.one
  | succ k =>
    have h' : ((List.range s.model.testWeights.length).map (Kp416.deterrentPriorAt s))[k]? = some (some x) := h
    rw [List.getElem?_map] at h'
    obtain ⟨j, hj, e⟩ := Option.map_eq_some_iff.mp h'
    exact pr_det G e
theorem pr_cfold {s : Setting} (G : Good s) : ∀ k, Pr (cfold s k)
  | 0 => Pr.zero
  | k + 1 => by
    cases h : (cands s)[k]? with
    | none =>
      have e : cfold s (k + 1) = cfold s k := by
        have hl := List.getElem?_eq_none_iff.mp h
        unfold cfold
        rw [List.take_of_length_le (by omega), List.take_of_length_le hl]
      rw [e]
      exact pr_cfold G k
    | some o =>
      rw [cfold_succ h]
      cases o with
      | none => exact pr_cfold G k
      | some x =>
        show Pr (cbest s (cfold s k) x)
        unfold cbest
        split
        · exact pr_cand G h
        · exact pr_cfold G k
/-! merging -/
def mw (w mp : List Nat) (k : Nat) : List Nat := (List.range w.length).map fun t => (((List.range k).filter fun s => mp.getD s 0 == t).map fun s => w.getD s 0).sum
theorem mw_is (w mp : List Nat) : Kp415.mergeWeights w mp = mw w mp w.length := rfl
theorem mw_length (w mp : List Nat) (k : Nat) : (mw w mp k).length = w.length := by unfold mw; simp
theorem mw_zero (w mp : List Nat) : mw w mp 0 = List.replicate w.length 0 := by
  unfold mw
  rw [List.eq_replicate_iff]
  simp
theorem mw_get {w mp : List Nat} {k t : Nat} (h : t < w.length) : (mw w mp k)[t]? = some ((((List.range k).filter fun s => mp.getD s 0 == t).map fun s => w.getD s 0).sum) := by
  unfold mw
  rw [List.getElem?_map, List.getElem?_range h]
  rfl
theorem sum_snocN (l : List Nat) (z : Nat) : (l ++ [z]).sum = l.sum + z := by simp
theorem mw_succ {w mp : List Nat} {k t v : Nat} (ht : mp.getD k 0 = t) (h : t < w.length) (hv : (mw w mp k)[t]? = some v) : mw w mp (k + 1) = (mw w mp k).set t (v + w.getD k 0) := by
  apply List.ext_getElem?
  intro j
  by_cases hj : j < w.length
  · by_cases e : j = t
    · subst e
      rw [mw_get h] at hv
      rw [List.getElem?_set_self (by rw [mw_length]; exact h), mw_get h, List.range_succ, List.filter_append]
      simp only [List.filter_cons, List.filter_nil, ht, beq_self_eq_true, if_true, List.map_append, List.map_cons, List.map_nil, sum_snocN]
      rw [Option.some.inj hv]
    · rw [List.getElem?_set_ne (by omega), mw_get hj, mw_get hj, List.range_succ, List.filter_append]
      have e2 : (mp.getD k 0 == j) = false := by
        rw [ht]
        exact beq_eq_false_iff_ne.mpr (fun q => e q.symm)
      simp only [List.filter_cons, List.filter_nil, e2, Bool.false_eq_true, if_false, List.append_nil]
  · rw [List.getElem?_eq_none (by rw [mw_length]; omega), List.getElem?_eq_none (by rw [List.length_set, mw_length]; omega)]
theorem sum_setN : ∀ {l : List Nat} {j z y : Nat}, l[j]? = some z → (l.set j (z + y)).sum = l.sum + y
  | [], j, z, y, h => by simp at h
  | a :: r, 0, z, y, h => by
    have e : a = z := Option.some.inj h
    subst e
    simp only [List.set_cons_zero, List.sum_cons]
    omega
  | a :: r, j + 1, z, y, h => by
    have ih := sum_setN (l := r) (j := j) (z := z) (y := y) h
    simp only [List.set_cons_succ, List.sum_cons]
    omega
theorem sum_takeN : ∀ (l : List Nat) (i : Nat), (l.take (i + 1)).sum = (l.take i).sum + l.getD i 0
  | [], i => by simp
  | a :: r, 0 => by simp
  | a :: r, i + 1 => by
    have ih := sum_takeN r i
    simp only [List.take_succ_cons, List.sum_cons, List.getD_cons_succ]
    omega
theorem mw_sum {w mp : List Nat} (h : ∀ i, i < w.length → mp.getD i 0 < w.length) : ∀ k, k ≤ w.length → (mw w mp k).sum = (w.take k).sum
  | 0, _ => by
    rw [mw_zero]
    simp
  | k + 1, hk => by
    have ht := h k (by omega)
    obtain ⟨v, hv⟩ : ∃ v, (mw w mp k)[mp.getD k 0]? = some v := ⟨_, mw_get ht⟩
    rw [mw_succ rfl ht hv, sum_setN hv, mw_sum h k (by omega), sum_takeN]
theorem merge_sum {w mp : List Nat} (h : ∀ i, i < w.length → mp.getD i 0 < w.length) : (Kp415.mergeWeights w mp).sum = w.sum := by
  rw [mw_is, mw_sum h _ (Nat.le_refl _), List.take_length]
theorem good_merge {s : Setting} (G : Good s) {mp : List Nat} (h : Kp415.validMapping s.model mp = true) : Good (Kp416.merged s mp) := by
  unfold Kp415.validMapping Kp415.isSignal Kp415.signalCount at h
  rw [Bool.and_eq_true, decide_eq_true_eq, List.all_eq_true] at h
  have hm : ∀ i, i < s.model.testWeights.length → mp.getD i 0 < s.model.testWeights.length := fun i hi => by
    have hi' : i < mp.length := by omega
    have := h.2 _ (List.getElem_mem hi')
    rw [List.getD_eq_getElem?_getD, List.getElem?_eq_getElem hi']
    exact of_decide_eq_true this
  have e1 : (Kp415.mergeWeights s.model.testWeights mp).sum = s.model.testWeights.sum := merge_sum hm
  have e2 : (Kp415.mergeWeights s.model.productionWeights mp).sum = s.model.productionWeights.sum := merge_sum (by rw [G.len]; exact hm)
  have l1 : (Kp415.mergeWeights s.model.testWeights mp).length = s.model.testWeights.length := mw_length _ _ _
  have l2 : (Kp415.mergeWeights s.model.productionWeights mp).length = s.model.productionWeights.length := mw_length _ _ _
  refine ⟨?_, ?_, ?_, ?_, ?_, ?_, ?_, G.den, G.denle, G.num, G.ga, G.lo, G.ha, G.te⟩
  · show 1 ≤ (Kp415.mergeWeights s.model.testWeights mp).length
    rw [l1]; exact G.n1
  · show (Kp415.mergeWeights s.model.testWeights mp).length ≤ 5
    rw [l1]; exact G.n5
  · show (Kp415.mergeWeights s.model.productionWeights mp).length = (Kp415.mergeWeights s.model.testWeights mp).length
    rw [l1, l2]; exact G.len
  · show 0 < (Kp415.mergeWeights s.model.testWeights mp).sum
    rw [e1]; exact G.tpos
  · show (Kp415.mergeWeights s.model.testWeights mp).sum ≤ 495
    rw [e1]; exact G.tle
  · show 0 < (Kp415.mergeWeights s.model.productionWeights mp).sum
    rw [e2]; exact G.upos
  · show (Kp415.mergeWeights s.model.productionWeights mp).sum ≤ 495
    rw [e2]; exact G.ule
/-! a mask -/
def sig (mask k : Nat) : List Nat := (List.range k).filter fun signal => Kp415.contains mask signal
theorem sig_succ (mask k : Nat) : sig mask (k + 1) = if mask / 2 ^ k % 2 = 1 then sig mask k ++ [k] else sig mask k := by
  unfold sig
  rw [List.range_succ, List.filter_append]
  by_cases c : mask / 2 ^ k % 2 = 1
  · rw [if_pos c]
    have e : Kp415.contains mask k = true := by
      unfold Kp415.contains
      rw [c]
      rfl
    simp [List.filter_cons, e]
  · rw [if_neg c]
    have e : Kp415.contains mask k = false := by
      unfold Kp415.contains
      exact beq_eq_false_iff_ne.mpr c
    simp [List.filter_cons, e]
theorem left_succ (mask k : Nat) : mask / 2 ^ k / 2 = mask / 2 ^ (k + 1) := by
  rw [Nat.div_div_eq_div_mul, Nat.pow_succ]
theorem left_zero (mask k : Nat) : mask / 2 ^ k = 0 ↔ ¬ 2 ^ k ≤ mask := by
  rw [Nat.div_eq_zero_iff_lt (Nat.pow_pos (by decide)), Nat.not_le]
end Det
namespace Det
open Kp416 (Setting)
/-! the states of a run -/
def GoodO : Option Setting → Prop
  | none => True
  | some s => Good s
theorem sum_le_of : ∀ {l : List Nat}, (∀ x ∈ l, x ≤ 99) → l.sum ≤ 99 * l.length
  | [], _ => by simp
  | a :: l, h => by
    have h1 := h a (by simp)
    have h2 := sum_le_of (l := l) fun x hx => h x (by simp [hx])
    simp only [List.sum_cons, List.length_cons]
    omega
theorem vw_of {m : Kp415.Model} {l : List Nat} (h : Kp415.validWeights m l = true) : l.length = m.testWeights.length ∧ (∀ x ∈ l, x ≤ 99) ∧ 0 < l.sum := by
  unfold Kp415.validWeights Kp415.signalCount at h
  rw [Bool.and_eq_true, Bool.and_eq_true, decide_eq_true_eq, List.all_eq_true, decide_eq_true_eq] at h
  exact ⟨h.1.1, fun x hx => of_decide_eq_true (h.1.2 x hx), h.2⟩
theorem good_create {c : Nat} (h : ¬ (c < 1 ∨ Kp415.maxSignals < c)) : Good ⟨⟨List.replicate c 1, List.replicate c 1, 1, 2⟩, 1, 1, 1, 1⟩ := by
  have h5 : c ≤ 5 := by
    have : ¬ (5 < c) := fun q => h (.inr q)
    omega
  have h1 : 1 ≤ c := by omega
  have k1 : 1 ≤ 2 := by decide
  have k2 : 1 ≤ 999 := by decide
  have k3 : 2 ≤ 1000000000 := by decide
  refine ⟨?_, ?_, rfl, ?_, ?_, ?_, ?_, k1, k3, k1, k2, k2, k2, k2⟩
  all_goals simp
  all_goals omega
theorem good_tw {s : Setting} (G : Good s) {l : List Nat} (h : Kp415.validWeights s.model l = true) : Good { s with model := { s.model with testWeights := l } } := by
  obtain ⟨h1, h2, h3⟩ := vw_of h
  have h4 := sum_le_of h2
  have h5 := G.n5
  have h6 := G.n1
  have h7 := G.len
  exact ⟨by show 1 ≤ l.length; omega, by show l.length ≤ 5; omega, by show s.model.productionWeights.length = l.length; omega, h3, by show l.sum ≤ 495; omega, G.upos, G.ule, G.den, G.denle, G.num, G.ga, G.lo, G.ha, G.te⟩
theorem good_uw {s : Setting} (G : Good s) {l : List Nat} (h : Kp415.validWeights s.model l = true) : Good { s with model := { s.model with productionWeights := l } } := by
  obtain ⟨h1, h2, h3⟩ := vw_of h
  have h4 := sum_le_of h2
  have h5 := G.n5
  have h7 := G.len
  exact ⟨G.n1, G.n5, h1, G.tpos, G.tle, h3, by show l.sum ≤ 495; omega, G.den, G.denle, G.num, G.ga, G.lo, G.ha, G.te⟩
theorem vf_of {n d : Nat} (h : Kp415.validFraction n d = true) : n ≤ d ∧ 1 ≤ d ∧ d ≤ 99 := by
  unfold Kp415.validFraction at h
  rw [Bool.and_eq_true, Bool.and_eq_true, decide_eq_true_eq, decide_eq_true_eq, decide_eq_true_eq] at h
  exact ⟨h.1.1, h.1.2, h.2⟩
theorem va_of {n d : Nat} (h : (Kp416.validAmount n && Kp416.validAmount d) = true) : n ≤ 999 ∧ d ≤ 999 := by
  unfold Kp416.validAmount at h
  rw [Bool.and_eq_true, decide_eq_true_eq, decide_eq_true_eq] at h
  exact h
theorem good_pr {s : Setting} (G : Good s) {n d : Nat} (h : Kp415.validFraction n d = true) : Good { s with model := { s.model with priorNum := n, priorDen := d } } := by
  obtain ⟨h1, h2, h3⟩ := vf_of h
  exact ⟨G.n1, G.n5, G.len, G.tpos, G.tle, G.upos, G.ule, h2, by show d ≤ 1000000000; omega, h1, G.ga, G.lo, G.ha, G.te⟩
theorem good_st {s : Setting} (G : Good s) {n d : Nat} (h : (Kp416.validAmount n && Kp416.validAmount d) = true) : Good { s with gain := n, loss := d } := by
  obtain ⟨h1, h2⟩ := va_of h
  exact ⟨G.n1, G.n5, G.len, G.tpos, G.tle, G.upos, G.ule, G.den, G.denle, G.num, h1, h2, G.ha, G.te⟩
theorem good_pc {s : Setting} (G : Good s) {n d : Nat} (h : (Kp416.validAmount n && Kp416.validAmount d) = true) : Good { s with harmPrice := n, testPrice := d } := by
  obtain ⟨h1, h2⟩ := va_of h
  exact ⟨G.n1, G.n5, G.len, G.tpos, G.tle, G.upos, G.ule, G.den, G.denle, G.num, G.ga, G.lo, h1, h2⟩
theorem good_step {st : Option Setting} (G : GoodO st) (c : Kp416.Call) : GoodO (Kp416.step st c).1 := by
  cases c with
  | create n =>
    unfold Kp416.step
    dsimp only
    split
    · exact G
    · rename_i h
      exact good_create h
  | setTestWeights l =>
    cases st with
    | none => exact G
    | some s =>
      unfold Kp416.step
      dsimp only
      split
      · rename_i h
        exact good_tw G h
      · exact G
  | setProductionWeights l =>
    cases st with
    | none => exact G
    | some s =>
      unfold Kp416.step
      dsimp only
      split
      · rename_i h
        exact good_uw G h
      · exact G
  | setPrior n d =>
    cases st with
    | none => exact G
    | some s =>
      unfold Kp416.step
      dsimp only
      split
      · rename_i h
        exact good_pr G h
      · exact G
  | setStakes n d =>
    cases st with
    | none => exact G
    | some s =>
      unfold Kp416.step
      dsimp only
      split
      · rename_i h
        exact good_st G h
      · exact G
  | setPrices n d =>
    cases st with
    | none => exact G
    | some s =>
      unfold Kp416.step
      dsimp only
      split
      · rename_i h
        exact good_pc G h
      · exact G
  | mergeSignals l =>
    cases st with
    | none => exact G
    | some s =>
      unfold Kp416.step
      dsimp only
      split
      · rename_i h
        exact good_merge G h
      · exact G
  | _ =>
    cases st with
    | none => exact G
    | some s => exact G
theorem good_nstep {st : Option Setting} (G : GoodO st) (c : List (List Int)) : GoodO (Kp416Neutral.step st c).1 := by
  unfold Kp416Neutral.step
  split
  · exact G
  · exact good_step G _
theorem cs_len {s : Setting} (G : Good s) : (Kp416.cheatingSignals s).length ≤ 5 := by
  unfold Kp416.cheatingSignals Kp415.signalCount
  have := List.length_filter_le (Kp416.pays s) (List.range s.model.testWeights.length)
  rw [List.length_range] at this
  have := G.n5
  omega
theorem lr_len {l : List Nat} (h : l.length ≤ 5) : (Kp416.listResult l).nums.length ≤ 16 := by
  unfold Kp416.listResult
  rw [List.length_map]
  omega
theorem of_len (x : Option Rat) : (Kp416.optionalFraction x).nums.length ≤ 16 := by
  cases x with
  | none => decide
  | some x => exact (by decide : 2 ≤ 16)
theorem step_len {st : Option Setting} (G : GoodO st) (c : Kp416.Call) : (Kp416.step st c).2.nums.length ≤ 16 := by
  have g5 : ∀ {s : Setting}, Good s → s.model.testWeights.length ≤ 5 := fun G => G.n5
  cases c with
  | create n =>
    unfold Kp416.step
    dsimp only
    split <;> exact Nat.zero_le _
  | mergeSignals l =>
    cases st with
    | none => exact Nat.zero_le _
    | some s =>
      unfold Kp416.step
      dsimp only
      split
      · rename_i h
        exact lr_len (cs_len (good_merge G h))
      · exact Nat.zero_le _
  | cheatingSignals =>
    cases st with
    | none => exact Nat.zero_le _
    | some s => exact lr_len (cs_len G)
  | cheatingSignalsForPrior n d =>
    cases st with
    | none => exact Nat.zero_le _
    | some s =>
      unfold Kp416.step
      dsimp only
      split
      · rename_i h
        exact lr_len (cs_len (good_pr G h))
      · exact Nat.zero_le _
  | cheatingSignalsForStakes n d =>
    cases st with
    | none => exact Nat.zero_le _
    | some s =>
      unfold Kp416.step
      dsimp only
      split
      · rename_i h
        exact lr_len (cs_len (good_st G h))
      · exact Nat.zero_le _
  | deterrentPriorAt n =>
    cases st with
    | none => exact Nat.zero_le _
    | some s =>
      unfold Kp416.step
      dsimp only
      split
      · exact of_len _
      · exact Nat.zero_le _
  | deterrentPrior =>
    cases st with
    | none => exact Nat.zero_le _
    | some s => exact of_len _
  | previewMerge l =>
    cases st with
    | none => exact Nat.zero_le _
    | some s =>
      unfold Kp416.step
      dsimp only
      split
      · exact Nat.zero_le _
      · split
        · exact Nat.zero_le _
        · exact (by decide : 4 ≤ 16)
  | getSettings =>
    cases st with
    | none => exact Nat.zero_le _
    | some s =>
      have h1 := G.n5
      have h2 := G.len
      unfold Kp416.step
      dsimp only
      rw [List.length_append, List.length_map, List.length_append]
      simp only [List.length_cons, List.length_nil]
      omega
  | _ =>
    cases st with
    | none => exact Nat.zero_le _
    | some s =>
      unfold Kp416.step
      dsimp only
      first
        | exact (by decide : 2 ≤ 16)
        | exact (by decide : 4 ≤ 16)
        | (split <;> first | exact Nat.zero_le _ | exact (by decide : 2 ≤ 16))
theorem nstep_len {st : Option Setting} (G : GoodO st) (c : List (List Int)) : (Kp416Neutral.step st c).2.length ≤ 17 := by
  unfold Kp416Neutral.step
  split
  · exact Nat.zero_le _
  · show ((Kp416.step st _).2.num :: (Kp416.step st _).2.nums).length ≤ 17
    have := step_len G (by assumption)
    rw [List.length_cons]
    omega
/-! reading the calls -/
theorem rows_nil {k : Nat} {r : List Int} {u : List Int} (h : PyFlat.rows k r = some ([], u)) : k = 0 ∧ u = r := by
  cases k with
  | zero =>
    have e := Option.some.inj h
    exact ⟨rfl, (Prod.mk.inj e).2.symm⟩
  | succ k =>
    unfold PyFlat.rows at h
    split at h
    · cases h
    · split at h
      · cases h
      · have e := (Prod.mk.inj (Option.some.inj h)).1
        cases e
/-- one call ahead of the rest -/
theorem call_inv {l : List Int} {x : List Int} {t : List Int} (h : PyWide.call l = some ([x], t)) : ∃ p ns, x = p :: ns ∧ l = p :: (ns.length : Int) :: (ns ++ 0 :: t) := by
  unfold PyWide.call at h
  split at h
  · cases h
  · rename_i p r
    split at h
    · cases h
    · cases h
    · rename_i ns k t' hr
      split at h
      · rename_i hk
        split at h
        · cases h
        · rename_i xs u hu
          have e := Prod.mk.inj (Option.some.inj h)
          have e1 : p :: ns = x := (List.cons.inj e.1).1
          have e2 : xs = [] := (List.cons.inj e.1).2
          subst e2
          obtain ⟨k0, eu⟩ := rows_nil hu
          have ek : k = 0 := by omega
          refine ⟨p, ns, e1.symm, ?_⟩
          unfold PyFlat.row at hr
          split at hr
          · cases hr
          · rename_i n r'
            split at hr
            · rename_i hn
              have e3 := Prod.mk.inj (Option.some.inj hr)
              have hl : ns.length = n.toNat := by
                rw [← e3.1, List.length_take]
                omega
              have en : (ns.length : Int) = n := by omega
              rw [en]
              congr 2
              rw [← List.take_append_drop n.toNat r', e3.1, e3.2, ek, ← eu, e.2]
            · cases hr
      · cases h
theorem asked1_one {c : List (List Int)} (h : Kp416Neutral.asked1 c = true) : ∃ x, c = [x] := by
  unfold Kp416Neutral.asked1 at h
  split at h
  all_goals first | exact ⟨_, rfl⟩ | cases h
theorem calls_inv {f : Nat} {l : List Int} {cs : List (List (List Int))} (h : PyWide.calls f l = some cs) (ha : cs.all Kp416Neutral.asked1 = true) :
    (l = [] ∧ cs = []) ∨ ∃ (p : Int) (ns t : List Int) (cs' : List (List (List Int))) (f' : Nat), l = p :: (ns.length : Int) :: (ns ++ 0 :: t) ∧ cs = [p :: ns] :: cs' ∧ PyWide.calls f' t = some cs' ∧ Kp416Neutral.asked1 [p :: ns] = true ∧ cs'.all Kp416Neutral.asked1 = true := by
  unfold PyWide.calls at h
  split at h
  · exact .inl ⟨rfl, (Option.some.inj h).symm⟩
  · cases h
  · rename_i f' p r
    split at h
    · cases h
    · rename_i c t hc
      split at h
      · cases h
      · rename_i cs' hcs
        have e := Option.some.inj h
        subst e
        rw [List.all_cons, Bool.and_eq_true] at ha
        obtain ⟨x, hx⟩ := asked1_one ha.1
        subst hx
        obtain ⟨p', ns, hx, hl⟩ := call_inv hc
        subst hx
        exact .inr ⟨p', ns, t, cs', f', hl, rfl, hcs, ha.1, ha.2⟩
/-! the answers, one behind another -/
def tell (a : List Int) : List Int := (a.length : Int) :: a
theorem told_nil : PyFlat.told [] = [] := rfl
theorem told_cons (a : List Int) (r : List (List Int)) : PyFlat.told (a :: r) = tell a ++ PyFlat.told r := rfl
/-- the state behind the calls and what was told, from a state -/
def runS : Option Setting → List (List (List Int)) → Option Setting
  | s, [] => s
  | s, c :: r => runS (Kp416Neutral.step s c).1 r
theorem played_snoc : ∀ (s : Option Setting) (l : List (List (List Int))) (c : List (List Int)), PyFlat.played Kp416Neutral.step s (l ++ [c]) = PyFlat.played Kp416Neutral.step s l ++ [(Kp416Neutral.step (runS s l) c).2]
  | s, [], c => rfl
  | s, d :: l, c => by
    show (Kp416Neutral.step s d).2 :: PyFlat.played Kp416Neutral.step (Kp416Neutral.step s d).1 (l ++ [c]) = (Kp416Neutral.step s d).2 :: (PyFlat.played Kp416Neutral.step (Kp416Neutral.step s d).1 l ++ _)
    rw [played_snoc]
    rfl
theorem runS_snoc : ∀ (s : Option Setting) (l : List (List (List Int))) (c : List (List Int)), runS s (l ++ [c]) = (Kp416Neutral.step (runS s l) c).1
  | s, [], c => rfl
  | s, d :: l, c => runS_snoc (Kp416Neutral.step s d).1 l c
theorem told_snoc (l : List (List Int)) (a : List Int) : PyFlat.told (l ++ [a]) = PyFlat.told l ++ tell a := by
  unfold PyFlat.told
  rw [List.flatMap_append, List.flatMap_cons, List.flatMap_nil, List.append_nil]
  rfl
theorem told_len : ∀ {l : List (List Int)}, (∀ a ∈ l, a.length ≤ 17) → (PyFlat.told l).length ≤ 18 * l.length
  | [], _ => by decide
  | a :: l, h => by
    have h1 := h a (by simp)
    have h2 := told_len (l := l) fun b hb => h b (by simp [hb])
    rw [told_cons, List.length_append, List.length_cons]
    unfold tell
    rw [List.length_cons]
    omega
theorem good_run : ∀ {s : Option Setting} (l : List (List (List Int))), GoodO s → GoodO (runS s l)
  | s, [], G => G
  | s, c :: l, G => good_run l (good_nstep G c)
theorem played_len : ∀ {s : Option Setting} (l : List (List (List Int))), GoodO s → ∀ a ∈ PyFlat.played Kp416Neutral.step s l, a.length ≤ 17
  | s, [], G, a, h => by cases h
  | s, c :: l, G, a, h => by
    cases h with
    | head => exact nstep_len G c
    | tail _ h => exact played_len l (good_nstep G c) a h
theorem played_length : ∀ (s : Option Setting) (l : List (List (List Int))), (PyFlat.played Kp416Neutral.step s l).length = l.length
  | s, [] => rfl
  | s, c :: l => congrArg (· + 1) (played_length _ l)
end Det
namespace Det
open Kp416 (Setting)
/-! what a call asks, number by number -/
theorem nat_of {z : Int} (h : Kp416Neutral.natural z = true) : ∃ n : Nat, z = (n : Int) ∧ n < 4294967296 := by
  unfold Kp416Neutral.natural at h
  rw [Bool.and_eq_true, decide_eq_true_eq, decide_eq_true_eq] at h
  exact ⟨z.toNat, by omega, by omega⟩
theorem as0 {w : Int} (hw : w ∈ [(7 : Int), 8, 10, 11, 12, 14, 17, 20]) {ns : List Int} (h : Kp416Neutral.asked1 [w :: ns] = true) : ns = [] := by
  simp only [List.mem_cons, List.not_mem_nil, or_false] at hw
  rcases hw with rfl | rfl | rfl | rfl | rfl | rfl | rfl | rfl
  all_goals (match ns, h with | [], _ => rfl | [a], h => cases h | [a, b], h => cases h | a :: b :: c :: r, h => cases h)
theorem as1 {w : Int} (hw : w ∈ [(0 : Int), 6, 9, 13]) {ns : List Int} (h : Kp416Neutral.asked1 [w :: ns] = true) : ∃ n : Nat, ns = [(n : Int)] ∧ n < 4294967296 := by
  simp only [List.mem_cons, List.not_mem_nil, or_false] at hw
  rcases hw with rfl | rfl | rfl | rfl
  all_goals (match ns, h with
    | [], h => cases h
    | [a], h =>
      obtain ⟨n, e, hn⟩ := nat_of (show Kp416Neutral.natural a = true from h)
      exact ⟨n, by rw [e], hn⟩
    | [a, b], h => cases h
    | a :: b :: c :: r, h => cases h)
theorem as2 {w : Int} (hw : w ∈ [(3 : Int), 4, 5, 18, 19]) {ns : List Int} (h : Kp416Neutral.asked1 [w :: ns] = true) : ∃ n d : Nat, ns = [(n : Int), (d : Int)] ∧ n < 4294967296 ∧ d < 4294967296 := by
  simp only [List.mem_cons, List.not_mem_nil, or_false] at hw
  rcases hw with rfl | rfl | rfl | rfl | rfl
  all_goals (match ns, h with
    | [], h => cases h
    | [a], h => cases h
    | [a, b], h =>
      obtain ⟨h1, h2⟩ := Bool.and_eq_true_iff.mp (show (Kp416Neutral.natural a && Kp416Neutral.natural b) = true from h)
      obtain ⟨n, e, hn⟩ := nat_of h1
      obtain ⟨d, e', hd⟩ := nat_of h2
      exact ⟨n, d, by rw [e, e'], hn, hd⟩
    | a :: b :: c :: r, h => cases h)
theorem nats_of : ∀ {l : List Int}, l.all Kp416Neutral.natural = true → ∃ ws : List Nat, l = ws.map fun (n : Nat) => (n : Int)
  | [], _ => ⟨[], rfl⟩
  | a :: l, h => by
    rw [List.all_cons, Bool.and_eq_true] at h
    obtain ⟨n, e, _⟩ := nat_of h.1
    obtain ⟨ws, e'⟩ := nats_of h.2
    exact ⟨n :: ws, by rw [e, e']; rfl⟩
theorem as8 {w : Int} (hw : w ∈ [(1 : Int), 2, 15, 16]) {ns : List Int} (h : Kp416Neutral.asked1 [w :: ns] = true) : ∃ ws : List Nat, ns = (ws.map fun (n : Nat) => (n : Int)) ∧ ws.length ≤ 8 := by
  have h' : (ns.all Kp416Neutral.natural && decide (ns.length ≤ 8)) = true := by
    simp only [List.mem_cons, List.not_mem_nil, or_false] at hw
    rcases hw with rfl | rfl | rfl | rfl
    all_goals (match ns, h with
      | [], h => exact h
      | [a], h => exact h
      | [a, b], h => exact h
      | a :: b :: c :: r, h => exact h)
  rw [Bool.and_eq_true, decide_eq_true_eq] at h'
  obtain ⟨ws, e⟩ := nats_of h'.1
  refine ⟨ws, e, ?_⟩
  have := h'.2
  rw [e, List.length_map] at this
  exact this
theorem toNat_map : ∀ ws : List Nat, (ws.map fun (n : Nat) => (n : Int)).map Int.toNat = ws
  | [] => rfl
  | a :: l => by
    have ih := toNat_map l
    rw [List.map_cons, List.map_cons, ih]
    rfl
/-- which words there are -/
theorem as_word {w : Int} {ns : List Int} (h : Kp416Neutral.asked1 [w :: ns] = true) : w = 0 ∨ w ∈ [(7 : Int), 8, 10, 11, 12, 14, 17, 20] ∨ w ∈ [(6 : Int), 9, 13] ∨ w ∈ [(3 : Int), 4, 5, 18, 19] ∨ w ∈ [(1 : Int), 2, 15, 16] := by
  unfold Kp416Neutral.asked1 at h
  split at h
  all_goals first
    | (rename_i e
       have e1 := (List.cons.inj (List.cons.inj e).1).1
       subst e1
       first | exact .inl rfl | exact .inr (.inl (by decide)) | exact .inr (.inr (.inl (by decide))) | exact .inr (.inr (.inr (.inl (by decide)))) | exact .inr (.inr (.inr (.inr (by decide)))))
    | cases h
/-! the answers -/
def an2 (x : Rat) : List Int := [0, x.num, ((x.den : Nat) : Int)]
def anL (l : List Nat) : List Int := (l.length : Int) :: l.map fun (n : Nat) => (n : Int)
def anO : Option Rat → List Int
  | none => [-33]
  | some x => an2 x
abbrev stp (s : Option Setting) (c : List Int) : Option Setting × List Int := Kp416Neutral.step s [c]
section
variable (s : Setting)
theorem stp6 (n : Nat) : stp (some s) [6, (n : Int)] = (some s, if n < s.model.testWeights.length then an2 (Kp416.cheatingValue s n) else [-2]) := by
  by_cases h : n < s.model.testWeights.length
  · rw [if_pos h]
    exact congrArg (fun y : Kp416.Ans => (some s, y.num :: y.nums)) (if_pos (decide_eq_true h))
  · rw [if_neg h]
    exact congrArg (fun y : Kp416.Ans => (some s, y.num :: y.nums)) (if_neg (fun q => h (of_decide_eq_true q)))
theorem stp7 : stp (some s) [7] = (some s, anL (Kp416.cheatingSignals s)) := rfl
theorem stp8 : stp (some s) [8] = (some s, an2 (Kp416.expectedProfit s)) := rfl
theorem stp9 (n : Nat) : stp (some s) [9, (n : Int)] = (some s, if 2 ^ s.model.testWeights.length ≤ n then [-22] else an2 (Kp416.profitOf s n)) := by
  show (some s, _) = (some s, _)
  by_cases h : 2 ^ s.model.testWeights.length ≤ n
  · rw [if_pos h]
    exact congrArg (fun y : Kp416.Ans => (some s, y.num :: y.nums)) (if_pos h)
  · rw [if_neg h]
    exact congrArg (fun y : Kp416.Ans => (some s, y.num :: y.nums)) (if_neg h)
theorem stp10 : stp (some s) [10] = (some s, an2 (Kp416.detectionProbability s)) := rfl
theorem stp11 : stp (some s) [11] = (some s, an2 (Kp416.harmProbability s)) := rfl
theorem stp12 : stp (some s) [12] = (some s, an2 (Kp416.totalCost s)) := rfl
theorem anO_eq (x : Option Rat) : (Kp416.optionalFraction x).num :: (Kp416.optionalFraction x).nums = anO x := by
  cases x <;> rfl
theorem stp13 (n : Nat) : stp (some s) [13, (n : Int)] = (some s, if n < s.model.testWeights.length then anO (Kp416.deterrentPriorAt s n) else [-2]) := by
  by_cases h : n < s.model.testWeights.length
  · rw [if_pos h, ← anO_eq]
    exact congrArg (fun y : Kp416.Ans => (some s, y.num :: y.nums)) (if_pos (decide_eq_true h))
  · rw [if_neg h]
    exact congrArg (fun y : Kp416.Ans => (some s, y.num :: y.nums)) (if_neg (fun q => h (of_decide_eq_true q)))
theorem stp14 : stp (some s) [14] = (some s, anO (Kp416.deterrentPrior s)) := by
  rw [← anO_eq]
  rfl
theorem stp15 (ws : List Nat) : stp (some s) (15 :: ws.map fun (n : Nat) => (n : Int)) = (some s, if Kp415.validMapping s.model ws = true then (match Kp416.deterrentPrior (Kp416.merged s ws) with | none => [-33] | some f => an2 f ++ [(Kp416.expectedProfit (Kp416.merged s ws)).num, (((Kp416.expectedProfit (Kp416.merged s ws)).den : Nat) : Int)]) else [-22]) := by
  have e : stp (some s) (15 :: ws.map fun (n : Nat) => (n : Int)) = (let y := Kp416.step (some s) (.previewMerge ((ws.map fun (n : Nat) => (n : Int)).map Int.toNat)); (y.1, y.2.num :: y.2.nums)) := by
    cases ws with
    | nil => rfl
    | cons a r =>
      cases r with
      | nil => rfl
      | cons b r => cases r <;> rfl
  rw [e, toNat_map]
  unfold Kp416.step
  dsimp only
  cases h : Kp415.validMapping s.model ws with
  | false => rfl
  | true =>
    rw [if_neg (by decide), if_pos rfl]
    cases Kp416.deterrentPrior (Kp416.merged s ws) with
    | none => rfl
    | some f => rfl
theorem stp17 : stp (some s) [17] = (some s, an2 (Kp416.cheapestPrior s) ++ [(Kp416.totalCost (Kp416.withPrior s (Kp416.cheapestPrior s))).num, (((Kp416.totalCost (Kp416.withPrior s (Kp416.cheapestPrior s))).den : Nat) : Int)]) := rfl
theorem stp18 (n d : Nat) : stp (some s) [18, (n : Int), (d : Int)] = (some s, if Kp415.validFraction n d = true then anL (Kp416.cheatingSignals { s with model := { s.model with priorNum := n, priorDen := d } }) else [-22]) := by
  by_cases h : Kp415.validFraction n d = true
  · rw [if_pos h]
    exact congrArg (fun y : Kp416.Ans => (some s, y.num :: y.nums)) (if_pos h)
  · rw [if_neg h]
    exact congrArg (fun y : Kp416.Ans => (some s, y.num :: y.nums)) (if_neg h)
theorem stp19 (n d : Nat) : stp (some s) [19, (n : Int), (d : Int)] = (some s, if (Kp416.validAmount n && Kp416.validAmount d) = true then anL (Kp416.cheatingSignals { s with gain := n, loss := d }) else [-22]) := by
  by_cases h : (Kp416.validAmount n && Kp416.validAmount d) = true
  · rw [if_pos h]
    exact congrArg (fun y : Kp416.Ans => (some s, y.num :: y.nums)) (if_pos h)
  · rw [if_neg h]
    exact congrArg (fun y : Kp416.Ans => (some s, y.num :: y.nums)) (if_neg h)
theorem stp20 : stp (some s) [20] = (some s, (s.model.testWeights.length : Int) :: ([(s.model.priorNum : Int), (s.model.priorDen : Int), (s.gain : Int), (s.loss : Int), (s.harmPrice : Int), (s.testPrice : Int)] ++ (s.model.testWeights ++ s.model.productionWeights).map fun (n : Nat) => (n : Int))) := rfl
theorem stp1 (ws : List Nat) : stp (some s) (1 :: ws.map fun (n : Nat) => (n : Int)) = if Kp415.validWeights s.model ws = true then (some { s with model := { s.model with testWeights := ws } }, [((ws.sum : Nat) : Int)]) else (some s, [-22]) := by
  have e : stp (some s) (1 :: ws.map fun (n : Nat) => (n : Int)) = (let y := Kp416.step (some s) (.setTestWeights ((ws.map fun (n : Nat) => (n : Int)).map Int.toNat)); (y.1, y.2.num :: y.2.nums)) := by
    cases ws with
    | nil => rfl
    | cons a r =>
      cases r with
      | nil => rfl
      | cons b r => cases r <;> rfl
  rw [e, toNat_map]
  unfold Kp416.step
  dsimp only
  split <;> rfl
theorem stp2 (ws : List Nat) : stp (some s) (2 :: ws.map fun (n : Nat) => (n : Int)) = if Kp415.validWeights s.model ws = true then (some { s with model := { s.model with productionWeights := ws } }, [((ws.sum : Nat) : Int)]) else (some s, [-22]) := by
  have e : stp (some s) (2 :: ws.map fun (n : Nat) => (n : Int)) = (let y := Kp416.step (some s) (.setProductionWeights ((ws.map fun (n : Nat) => (n : Int)).map Int.toNat)); (y.1, y.2.num :: y.2.nums)) := by
    cases ws with
    | nil => rfl
    | cons a r =>
      cases r with
      | nil => rfl
      | cons b r => cases r <;> rfl
  rw [e, toNat_map]
  unfold Kp416.step
  dsimp only
  split <;> rfl
theorem stp16 (ws : List Nat) : stp (some s) (16 :: ws.map fun (n : Nat) => (n : Int)) = if Kp415.validMapping s.model ws = true then (some (Kp416.merged s ws), anL (Kp416.cheatingSignals (Kp416.merged s ws))) else (some s, [-22]) := by
  have e : stp (some s) (16 :: ws.map fun (n : Nat) => (n : Int)) = (let y := Kp416.step (some s) (.mergeSignals ((ws.map fun (n : Nat) => (n : Int)).map Int.toNat)); (y.1, y.2.num :: y.2.nums)) := by
    cases ws with
    | nil => rfl
    | cons a r =>
      cases r with
      | nil => rfl
      | cons b r => cases r <;> rfl
  rw [e, toNat_map]
  unfold Kp416.step
  dsimp only
  split <;> rfl
theorem stp3 (n d : Nat) : stp (some s) [3, (n : Int), (d : Int)] = if Kp415.validFraction n d = true then (some { s with model := { s.model with priorNum := n, priorDen := d } }, [0, (s.model.priorNum : Int), (s.model.priorDen : Int)]) else (some s, [-22]) := by
  show (let y := Kp416.step (some s) (.setPrior n d); (y.1, y.2.num :: y.2.nums)) = _
  unfold Kp416.step
  dsimp only
  split <;> rfl
theorem stp4 (n d : Nat) : stp (some s) [4, (n : Int), (d : Int)] = if (Kp416.validAmount n && Kp416.validAmount d) = true then (some { s with gain := n, loss := d }, [0, (s.gain : Int), (s.loss : Int)]) else (some s, [-22]) := by
  show (let y := Kp416.step (some s) (.setStakes n d); (y.1, y.2.num :: y.2.nums)) = _
  unfold Kp416.step
  dsimp only
  split <;> rfl
theorem stp5 (n d : Nat) : stp (some s) [5, (n : Int), (d : Int)] = if (Kp416.validAmount n && Kp416.validAmount d) = true then (some { s with harmPrice := n, testPrice := d }, [0, (s.harmPrice : Int), (s.testPrice : Int)]) else (some s, [-22]) := by
  show (let y := Kp416.step (some s) (.setPrices n d); (y.1, y.2.num :: y.2.nums)) = _
  unfold Kp416.step
  dsimp only
  split <;> rfl
end
theorem stp0 (st : Option Setting) (n : Nat) : stp st [0, (n : Int)] = if 1 ≤ n ∧ n ≤ 5 then (some ⟨⟨List.replicate n 1, List.replicate n 1, 1, 2⟩, 1, 1, 1, 1⟩, [0]) else (st, [-22]) := by
  have e : stp st [0, (n : Int)] = (let y := Kp416.step st (.create n); (y.1, y.2.num :: y.2.nums)) := rfl
  rw [e]
  unfold Kp416.step
  dsimp only
  by_cases h : 1 ≤ n ∧ n ≤ 5
  · rw [if_pos h, if_neg (show ¬ (n < 1 ∨ Kp415.maxSignals < n) by show ¬ (n < 1 ∨ 5 < n); omega)]
    rfl
  · rw [if_neg h, if_pos (show (n < 1 ∨ Kp415.maxSignals < n) by show (n < 1 ∨ 5 < n); omega)]
    rfl
theorem stpN0 {w : Int} {ns : List Int} (hw : w ∈ [(7 : Int), 8, 10, 11, 12, 14, 17, 20]) (h : Kp416Neutral.asked1 [w :: ns] = true) : stp none (w :: ns) = (none, [-11]) := by
  obtain rfl := as0 hw h
  simp only [List.mem_cons, List.not_mem_nil, or_false] at hw
  rcases hw with rfl | rfl | rfl | rfl | rfl | rfl | rfl | rfl <;> rfl
theorem stpN1 {w : Int} {ns : List Int} (hw : w ∈ [(6 : Int), 9, 13]) (h : Kp416Neutral.asked1 [w :: ns] = true) : stp none (w :: ns) = (none, [-11]) := by
  obtain ⟨n, rfl, _⟩ := as1 (List.mem_cons_of_mem _ hw) h
  simp only [List.mem_cons, List.not_mem_nil, or_false] at hw
  rcases hw with rfl | rfl | rfl <;> rfl
theorem stpN2 {w : Int} {ns : List Int} (hw : w ∈ [(3 : Int), 4, 5, 18, 19]) (h : Kp416Neutral.asked1 [w :: ns] = true) : stp none (w :: ns) = (none, [-11]) := by
  obtain ⟨n, d, rfl, _⟩ := as2 hw h
  simp only [List.mem_cons, List.not_mem_nil, or_false] at hw
  rcases hw with rfl | rfl | rfl | rfl | rfl <;> rfl
theorem stpN8 {w : Int} {ns : List Int} (hw : w ∈ [(1 : Int), 2, 15, 16]) (h : Kp416Neutral.asked1 [w :: ns] = true) : stp none (w :: ns) = (none, [-11]) := by
  obtain ⟨ws, rfl, _⟩ := as8 hw h
  simp only [List.mem_cons, List.not_mem_nil, or_false] at hw
  rcases hw with rfl | rfl | rfl | rfl
  · cases ws with
    | nil => rfl
    | cons a r =>
      cases r with
      | nil => rfl
      | cons b r => cases r <;> rfl
  · cases ws with
    | nil => rfl
    | cons a r =>
      cases r with
      | nil => rfl
      | cons b r => cases r <;> rfl
  · cases ws with
    | nil => rfl
    | cons a r =>
      cases r with
      | nil => rfl
      | cons b r => cases r <;> rfl
  · cases ws with
    | nil => rfl
    | cons a r =>
      cases r with
      | nil => rfl
      | cons b r => cases r <;> rfl
theorem stpN {w : Int} {ns : List Int} (hw : w ≠ 0) (h : Kp416Neutral.asked1 [w :: ns] = true) : stp none (w :: ns) = (none, [-11]) := by
  rcases as_word h with e | e | e | e | e
  · exact absurd e hw
  · exact stpN0 e h
  · exact stpN1 e h
  · exact stpN2 e h
  · exact stpN8 e h
end Det
/-! own rules: a written dict with int keys, a call of a local name that holds a def -/
namespace Det
open PySem PySem.Spec PyProof.Rows L2
/-- a written dict with int keys, as a table -/
structure KDI (K : PySem.W.Frag) (d : Addr) (m : Int → Option Value) : Prop where
  ex : ∃ (es : Array DictEntry) (n : Nat), K.lookup d = some ⟨.type "dict", none, .dict es n, #[]⟩ ∧ (∀ e ∈ es, ∃ k t, e.key = .int k t ∧ e.hash = hashInt k) ∧ ∀ k, findBy Value.isInt es k = m k
  low : (d == sysModules) = false
section
variable {X : Cx}
theorem mapOf_KI {K : PySem.W.Frag} {d : Addr} {m : Int → Option Value} {prog : Program} {w : World} {h : Heap} (D : KDI K d m) (x : K.In h) : h.MapOf (intKind prog w) d m := by
  obtain ⟨es, n, hl, hk, hm⟩ := D.ex
  exact ⟨_, es, n, x _ _ hl, ⟨rfl, rfl, rfl⟩, rfl, fun e he => by
    obtain ⟨k, t, e1, e2⟩ := hk e he
    exact ⟨k, by rw [e1]; exact intKind_is prog w k t, e2⟩, fun k => hm k⟩
def rIxI (K : PySem.W.Frag) : R2 := fun x y H Q => ∃ d m k u0 v0, x = .ref d ∧ y = .int k ∧ KDI K d m ∧ m k = some u0 ∧ RelV v0 u0 ∧ Q v0 H
theorem ix_kdi : IxR X (rIxI X.K) := by
  intro value slice pins s σ H x y v u Q I rx ry h hs
  obtain ⟨d, m, k, u0, v0, rfl, rfl, D, e, ru, q⟩ := h
  obtain rfl : v = Value.ref d := rx
  obtain ⟨t, rfl⟩ := ry
  have hm := mapOf_KI (prog := X.prog) (w := X.w) D I.kIn
  exact tail_any hm.typeIs slot_dict_getitem.lookup (wpAny_getItem_of (intKind_is X.prog X.w k t) hm e ⟨v0, H, I.tok _, ru, q⟩) hs
def rInI (K : PySem.W.Frag) : R2 := fun x y H Q => ∃ d m k, x = .int k ∧ y = .ref d ∧ KDI K d m ∧ Q (.bl (m k).isSome) H
theorem op_in_kdi : OpR X (compareOp .In) (rInI X.K) := by
  intro pins s σ H x y v u Q I rx ry h
  obtain ⟨d, m, k, rfl, rfl, D, q⟩ := h
  obtain ⟨t, rfl⟩ := rx
  cases ry
  refine wpAny_in_of (intKind_is X.prog X.w k t) D.low (mapOf_KI (prog := X.prog) D I.kIn) ?_
  exact ⟨.bl (m k).isSome, H, I.tok _, rfl, q⟩
/-- a local name's call: the def and its promise are told in the reading -/
def tCallH (X : Cx) (k i : Nat) (t : TA) : TE := fun σ H Q => ∃ f sp, σ[i]? = some (some (.ref f)) ∧ Held X.prog X.w X.K X.mg X.base k f sp ∧ t σ H fun vs H1 => sp vs H1 Q (fun _ _ _ => False)
theorem pe_callH {k i : Nat} {x : Str} {p pos : Pos} {e : Expr} {es : List Expr} {t : TA} (hr : Room k X.A) (hN : X.N[i]? = some x) (hv : Vis X.env.scope x) (ha : PA X (e :: es) t)
    (hdb : (x == ("__debug__" : Str)) = false := by decide) (hcd : (x == ("__classdict__" : Str)) = false := by decide)
    (he : starEach (e :: es) X.env = (false, eval e X.env) :: starEach es X.env := by rfl) (hpl : (backTo pos (starEach es X.env)).any (·.1) = false := by rfl) : PE X (.Call (.Name x p) (e :: es) [] pos) (tCallH X k i t) := by
  refine ⟨fun pins s σ H Q I h => ?_⟩
  obtain ⟨f, sp, hs, hS, ht⟩ := h
  obtain ⟨fd, ps, F, hk, hb⟩ := hS.ex
  refine (pe_callL (i := i) (f := f) (sp := sp) (dvs := []) (E := fun _ _ _ => False) F hr hN hv hk hb .nil (fun _ _ _ _ _ _ _ z => z.elim) ha hdb hcd he hpl).run pins s σ H Q I ⟨hs, ?_⟩
  have e0 : (fun (vs : List V) (H1 : Hp) => sp (vs ++ []) H1 Q (fun _ _ _ => False)) = fun vs H1 => sp vs H1 Q (fun _ _ _ => False) := by
    funext vs H1
    rw [List.append_nil]
  show t σ H (fun vs H1 => sp (vs ++ []) H1 Q (fun _ _ _ => False))
  rw [e0]
  exact ht
end
end Det
/-! what code does, as a goal: Ev (an expression), Tv (a test), Av (arguments), Sv (a statement), Bv (a block); one rule a construct -/
namespace Det
open PySem PySem.Spec PyProof.Rows L2
def Ev (X : Cx) (e : Expr) (σ : L2.St) (H : Hp) (Q : VK) : Prop := ∀ pins s, Inv X pins σ H s → wpAny (model X.prog X.w) X.A (eval e X.env) (EP X pins σ Q) X.xe s
def Tv (X : Cx) (e : Expr) (σ : L2.St) (H : Hp) (Q : Bool → Hp → Prop) : Prop := ∀ pins s, Inv X pins σ H s → wpAny (model X.prog X.w) X.A (isTrue e X.env (eval e X.env)) (TP X pins σ Q) X.xe s
def Av (X : Cx) (es : List Expr) (σ : L2.St) (H : Hp) (Q : List V → Hp → Prop) : Prop := ∀ pos pins s, Inv X pins σ H s → wpAny (model X.prog X.w) X.A (spliced (backTo pos (starEach es X.env))) (AP X pins σ Q) X.xe s
def Sv (X : Cx) (st : Stmt) (D : Ends) (σ : L2.St) (H : Hp) : Prop := ∀ pins s, Inv X pins σ H s → wpAny (model X.prog X.w) X.A (exec st X.env) (SP X pins D) X.xe s
def Bv (X : Cx) (sts : List Stmt) (D : Ends) (σ : L2.St) (H : Hp) : Prop := ∀ pins s, Inv X pins σ H s → wpAny (model X.prog X.w) X.A (execs sts X.env) (SP X pins D) X.xe s
section
variable {X : Cx} {e a b c : Expr} {es : List Expr} {st : Stmt} {sts rest : List Stmt} {σ : L2.St} {H : Hp} {Q : VK} {D : Ends} {pos p pos' : Pos} {x : Str} {v : V}
theorem pe_sem : PE X e (Ev X e) := ⟨fun pins s _ _ _ I h => h pins s I⟩
theorem pt_sem : PT X e (Tv X e) := ⟨fun pins s _ _ _ I h => h pins s I⟩
theorem pa_sem : PA X es (Av X es) := ⟨fun pos pins s _ _ _ I h => h pos pins s I⟩
theorem ps_sem : PS X st (fun D σ H => Sv X st D σ H) := ⟨fun pins s _ _ _ I h => h pins s I⟩
theorem pss_sem : PSs X sts (fun D σ H => Bv X sts D σ H) := ⟨fun pins s _ _ _ I h => h pins s I⟩
theorem Ev.of {t : TE} (p : PE X e t) (h : t σ H Q) : Ev X e σ H Q := fun pins s I => p.run pins s σ H Q I h
theorem Tv.of {t : TT} {Q : Bool → Hp → Prop} (p : PT X e t) (h : t σ H Q) : Tv X e σ H Q := fun pins s I => p.run pins s σ H Q I h
theorem Av.of {t : TA} {Q : List V → Hp → Prop} (p : PA X es t) (h : t σ H Q) : Av X es σ H Q := fun pos pins s I => p.run pos pins s σ H Q I h
theorem Sv.of {t : TS} (p : PS X st t) (h : t D σ H) : Sv X st D σ H := fun pins s I => p.run pins s σ H D I h
theorem Bv.of {t : TS} (p : PSs X sts t) (h : t D σ H) : Bv X sts D σ H := fun pins s I => p.run pins s σ H D I h
theorem ep_imp {pins : List (Addr × Obj)} {Q' : VK} {u : Value} {s : Shared} (m : ∀ v H', Q v H' → Q' v H') (h : EP X pins σ Q u s) : EP X pins σ Q' u s := by
  obtain ⟨v, H', I, r, q⟩ := h
  exact ⟨v, H', I, r, m _ _ q⟩
theorem Ev.imp {Q' : VK} (h : Ev X e σ H Q) (m : ∀ v H', Q v H' → Q' v H') : Ev X e σ H Q' := fun pins s I => thn (h pins s I) fun _ _ q => ep_imp m q
theorem Tv.imp {Q Q' : Bool → Hp → Prop} (h : Tv X e σ H Q) (m : ∀ v H', Q v H' → Q' v H') : Tv X e σ H Q' := fun pins s I => thn (h pins s I) fun b s' q => by
  obtain ⟨H', I', q⟩ := q
  exact ⟨H', I', m _ _ q⟩
/-! ### blocks and statements -/
theorem b_nil (h : D.nx σ H) : Bv X [] D σ H := Bv.of pss_nil h
theorem b_cons (h : Sv X st { D with nx := fun σ' H' => Bv X rest D σ' H' } σ H) : Bv X (st :: rest) D σ H := Bv.of (pss_cons ps_sem pss_sem) h
theorem b_one (h : Sv X st D σ H) : Bv X [st] D σ H := Bv.of (pss_one ps_sem) h
theorem s_ret (h : Ev X e σ H D.rt) : Sv X (.Return (some e) pos) D σ H := Sv.of (ps_ret pe_sem) h
theorem s_if {A B : List Stmt} (h : Tv X c σ H fun k H1 => if k = true then Bv X A D σ H1 else Bv X B D σ H1) : Sv X (.If c A B pos) D σ H := Sv.of (ps_if pt_sem pss_sem pss_sem) h
theorem s_set {i : Nat} (hN : X.N.Nodup) (hi : X.N[i]? = some x) (h : Ev X e σ H fun v H1 => D.nx (σ.set i (some v)) H1) (hx : Loc X.env.scope x := by first | exact Or.inl rfl | exact Or.inr rfl) (hs : swapsWith e (some (.Name x pos')) pos.line X.env = pure false := by rfl)
    (hf : X.fn x = true ∨ X.env.scope.names.lookup x = some .local := by first | exact .inl rfl | exact .inr rfl) : Sv X (.Assign [.Name x pos'] e pos) D σ H := Sv.of (ps_set hN hi hx pe_sem hs hf) h
theorem s_expr (h : Ev X e σ H fun _ H1 => D.nx σ H1) (hs : swapsWith e none pos.line X.env = pure false := by rfl) : Sv X (.Expr e pos) D σ H := Sv.of (ps_expr pe_sem hs) h
/-- a, b = x, y -/
theorem s_par {i j : Nat} {x y : Str} {px py pt : Pos} {kt k2 pt2} (hN : X.N.Nodup) (hi : X.N[i]? = some x) (hj : X.N[j]? = some y) (h : Ev X a σ H fun v H1 => Ev X b σ H1 fun w H2 => D.nx ((σ.set i (some v)).set j (some w)) H2)
    (hij : i ≠ j := by decide) (hc : X.calm = true := by rfl)
    (hx : X.env.scope.names.lookup x = some .local := by rfl) (hy : X.env.scope.names.lookup y = some .local := by rfl)
    (hst : starEach [a, b] X.env = (false, eval a X.env) :: starEach [b] X.env := by rfl) (hst2 : starEach [b] X.env = (false, eval b X.env) :: starEach [] X.env := by rfl)
    (hw : swappedStores [.Tuple [.Name x px, .Name y py] kt pt] (.Tuple [a, b] k2 pt2) X.env = pure (some [x, y]) := by rfl)
    (hs : swapsWithSole [.Tuple [.Name x px, .Name y py] kt pt] (.Tuple [a, b] k2 pt2) pos.line X.env = pure false := by rfl) :
    Sv X (.Assign [.Tuple [.Name x px, .Name y py] kt pt] (.Tuple [a, b] k2 pt2) pos) D σ H :=
  Sv.of (ps_par hc hN hi hj hij hx hy (pa_cons pe_sem (pa_cons pe_sem pa_nil hst2) hst) hw hs) (Ev.imp h fun v H1 q => Ev.imp q fun w H2 q => ⟨v, w, rfl, q⟩)
/-- a, b = a tuple -/
theorem s_unp {i j : Nat} {x y : Str} {px py pt : Pos} {kt} (hN : X.N.Nodup) (hi : X.N[i]? = some x) (hj : X.N[j]? = some y) (h : Ev X e σ H fun u H1 => ∃ t v w, u = .ref t ∧ H1 t = some (.tup [v, w]) ∧ D.nx ((σ.set i (some v)).set j (some w)) H1)
    (hc : X.calm = true := by rfl) (hx : Loc X.env.scope x := by first | exact Or.inl rfl | exact Or.inr rfl) (hy : Loc X.env.scope y := by first | exact Or.inl rfl | exact Or.inr rfl)
    (hfx : X.fn x = true ∨ X.env.scope.names.lookup x = some .local := by first | exact .inl rfl | exact .inr rfl) (hfy : X.fn y = true ∨ X.env.scope.names.lookup y = some .local := by first | exact .inl rfl | exact .inr rfl)
    (hn : (assignEach [.Name x px, .Name y py] X.env).length = 2 := by rfl) (hst : (assignEach [.Name x px, .Name y py] X.env).findIdx? (·.1) = none := by rfl)
    (h1 : (assignEach [.Name x px, .Name y py] X.env).map (·.2) = assign (.Name x px) X.env :: (assignEach [.Name y py] X.env).map (·.2) := by rfl)
    (h2 : (assignEach [.Name y py] X.env).map (·.2) = assign (.Name y py) X.env :: (assignEach [] X.env).map (·.2) := by rfl)
    (hs : swapsWithSole [.Tuple [.Name x px, .Name y py] kt pt] e pos.line X.env = pure false := by rfl) (hw : swappedStores [.Tuple [.Name x px, .Name y py] kt pt] e X.env = pure none := by rfl)
    (h3 : (assignEach [.Tuple [.Name x px, .Name y py] kt pt] X.env).map (·.2) = [assign (.Tuple [.Name x px, .Name y py] kt pt) X.env] := by rfl) :
    Sv X (.Assign [.Tuple [.Name x px, .Name y py] kt pt] e pos) D σ H :=
  Sv.of (ps_asg pe_sem (pg_tup hc (pgs_cons (pg_name hN hi hx hfx) (pgs_cons (pg_name hN hj hy hfy) pgs_nil h2) h1) hn hst) hs hw h3)
    (Ev.imp h fun u H1 ⟨t, v, w, e, ht, q⟩ => ⟨t, [v, w], e, .inl (.inl ht), rfl, v, [w], rfl, w, [], rfl, rfl, q⟩)
/-- self.f = e -/
theorem s_fld {f : Str} {o value : Expr} (h : Ev X value σ H fun y H1 => Ev X o σ H1 fun x H2 => ∃ a C dx fs, x = .ref a ∧ H2 a = some (.ins C dx fs) ∧ Cls X.K C ∧ NoAttr X.K C f ∧ fs.length < 1000 ∧ D.nx σ (upd H2 a (.ins C dx (putF f y fs))))
    (hs : swapsWith value (some (.Attribute o f pos')) pos.line X.env = pure false := by rfl) : Sv X (.Assign [.Attribute o f pos'] value pos) D σ H := Sv.of (ps_fld pe_sem pe_sem hs) h
/-! ### expressions -/
theorem e_var (i : Nat) (hN : X.N[i]? = some x) (hσ : σ[i]? = some (some v)) (h : Q v H) (hv : Vis X.env.scope x := by first | exact Or.inl rfl | exact Or.inr (Or.inl rfl) | exact Or.inr (Or.inr rfl)) (hd : (x == ("__debug__" : Str)) = false := by decide)
    (hcd : (x == ("__classdict__" : Str)) = false := by decide) : Ev X (.Name x pos) σ H Q := Ev.of (pe_var hN hv hd hcd) ⟨v, hσ, h⟩
theorem e_int {i j} (h : Q (.int i) H) : Ev X (.Constant (.int i) j pos) σ H Q := Ev.of pe_int h
theorem e_non {j} (h : Q .non H) : Ev X (.Constant .none j pos) σ H Q := Ev.of pe_non h
theorem e_glob {u : Value} (hm : X.mg x = some u) (r : RelV v u) (h : Q v H) (hg : Gl X x := by rfl) (hd : (x == ("__debug__" : Str)) = false := by decide) : Ev X (.Name x pos) σ H Q := Ev.of (pe_glob hg hm r hd) h
theorem e_op {op : Operator} {r : R2} (ho : OpR X (binaryOp op) r) (h : Ev X a σ H fun x H1 => Ev X b σ H1 fun y H2 => r x y H2 Q) : Ev X (.BinOp a op b pos) σ H Q := Ev.of (pe_op ho pe_sem pe_sem) h
theorem e_cmp {op : CmpOp} {r : R2} (ho : OpR X (compareOp op) r) (h : Ev X a σ H fun x H1 => Ev X b σ H1 fun y H2 => r x y H2 Q) (hm : behindInMarks op b = false := by first | exact nomark _ | rfl | with_unfolding_all rfl) : Ev X (.Compare a [op] [b] pos) σ H Q := Ev.of (pe_cmpR ho pe_sem pe_sem hm) h
theorem t_cmp {op : CmpOp} {r : R2} {Q : Bool → Hp → Prop} (ho : OpR X (compareOp op) r) (h : Ev X a σ H fun x H1 => Ev X b σ H1 fun y H2 => r x y H2 fun z H3 => ∃ k, z = .bl k ∧ Q k H3) (hm : behindInMarks op b = false := by first | exact nomark _ | rfl | with_unfolding_all rfl) :
    Tv X (.Compare a [op] [b] pos) σ H Q := Tv.of (pt_cmpR ho pe_sem pe_sem hm) h
theorem t_val {Q : Bool → Hp → Prop} (h : Ev X e σ H fun z H1 => ∃ k, z = .bl k ∧ Q k H1) (he : ∀ whole, isTrue e X.env whole = (do let v ← whole; standAt e.pos; holding [v] (truthy v)) := by intro _; rfl) : Tv X e σ H Q := Tv.of (pt_val pe_sem he) h
theorem t_not {Q : Bool → Hp → Prop} (h : Tv X e σ H fun k H1 => Q (!k) H1) : Tv X (.UnaryOp .Not e pos) σ H Q := Tv.of (pt_not pt_sem) h
theorem e_and {rest : List Expr} (h : Ev X a σ H fun z H1 => ∃ k, z = .bl k ∧ if k = true then Ev X (.BoolOp .And (b :: rest) pos) σ H1 Q else Q (.bl false) H1) : Ev X (.BoolOp .And (a :: b :: rest) pos) σ H Q := Ev.of (pe_and pe_sem pe_sem) h
theorem e_and1 {op} (h : Ev X a σ H Q) : Ev X (.BoolOp op [a] pos) σ H Q := Ev.of (pe_one pe_sem) h
theorem e_if (h : Tv X c σ H fun k H1 => if k = true then Ev X a σ H1 Q else Ev X b σ H1 Q) : Ev X (.IfExp c a b pos) σ H Q := Ev.of (pe_ifExp pt_sem pe_sem pe_sem) h
theorem e_chain {op op' : CmpOp} {r r' : R2} (ho : OpR X (compareOp op) r) (ho' : OpR X (compareOp op') r')
    (h : Ev X a σ H fun x H1 => Ev X b σ H1 fun y H2 => r x y H2 fun z H3 => ∃ k, z = .bl k ∧ (if k = true then Ev X c σ H3 fun w' H4 => r' y w' H4 Q else Q (.bl false) H3)) (hm : lastMarks [op, op'] [b, c] = false := by with_unfolding_all rfl) :
    Ev X (.Compare a [op, op'] [b, c] pos) σ H Q := Ev.of (pe_chain ho ho' pe_sem pe_sem pe_sem hm) h
theorem e_fld {f : Str} (h : Ev X e σ H fun x H1 => ∃ a C dx fs v, x = .ref a ∧ H1 a = some (.ins C dx fs) ∧ Cls X.K C ∧ NoAttr X.K C f ∧ fs.lookup f = some v ∧ Q v H1) (hb : attributeBase e f X.env (eval e X.env) = eval e X.env := by rfl) : Ev X (.Attribute e f pos) σ H Q :=
  Ev.of (pe_fld pe_sem hb) h
theorem e_ix {r : R2} (hr : IxR X r) (h : Ev X a σ H fun x H1 => Ev X b σ H1 fun y H2 => r x y H2 Q) (hs : PlainIx b := by exact fun _ _ => rfl) : Ev X (.Subscript a b pos) σ H Q := Ev.of (pe_ix hr pe_sem pe_sem hs) h
theorem e_slice {lo hi : Expr} {p2 : Pos} {r : V → Option Int → Option Int → Hp → VK → Prop} (hr : SlR X r) (h : Ev X e σ H fun x H1 => Ev X lo σ H1 fun l H2 => ∃ i, l = .int i ∧ Ev X hi σ H2 fun u H3 => ∃ j, u = .int j ∧ r x (some i) (some j) H3 Q) :
    Ev X (.Subscript e (.Slice (some lo) (some hi) none p2) pos) σ H Q := Ev.of (pe_slice hr pe_sem (po_some pe_sem) (po_some pe_sem)) h
theorem e_tup {k} (h : Av X es σ H fun vs H1 => vs.length ≤ sizeLine ∧ ∀ p, H1 p = none → Q (.ref p) (upd H1 p (.tup vs))) : Ev X (.Tuple es k pos) σ H Q := Ev.of (pe_tup pa_sem) h
theorem e_lst (h : Av X es σ H fun vs H1 => vs.length ≤ sizeLine ∧ ∀ p, H1 p = none → Q (.ref p) (upd H1 p (.lst vs))) : Ev X (.List es pos) σ H Q := Ev.of (pe_lst pa_sem) h
theorem a_nil {Q : List V → Hp → Prop} (h : Q [] H) : Av X [] σ H Q := Av.of pa_nil h
theorem a_cons {Q : List V → Hp → Prop} (h : Ev X e σ H fun v H1 => Av X es σ H1 fun vs H2 => Q (v :: vs) H2) (hs : starEach (e :: es) X.env = (false, eval e X.env) :: starEach es X.env := by rfl) : Av X (e :: es) σ H Q := Av.of (pa_cons pe_sem pa_sem hs) h
/-- a built-in, by its name -/
theorem e_blt {id : String} {r : List V → Hp → VK → Prop} (hc : CallR X (.builtin id) r) (hm : X.mg x = none) (h : Av X (e :: es) σ H fun vs H1 => r vs H1 Q) (hg : Gl X x := by rfl) (hv : bootBuiltins x = some (.builtin id) := by decide +kernel)
    (hn : x ≠ "__name__" := by decide) (hdb : (x == ("__debug__" : Str)) = false := by decide)
    (he : starEach (e :: es) X.env = (false, eval e X.env) :: starEach es X.env := by rfl) (hpl : (backTo pos (starEach es X.env)).any (·.1) = false := by rfl) : Ev X (.Call (.Name x p) (e :: es) [] pos) σ H Q :=
  Ev.of (pe_callB hc hg hm hv pa_sem hn hdb he hpl) h
theorem e_bty {T : String} {r : List V → Hp → VK → Prop} (hc : CallR X (.type T) r) (hm : X.mg x = none) (h : Av X (e :: es) σ H fun vs H1 => r vs H1 Q) (hg : Gl X x := by rfl) (hv : bootBuiltins x = some (.type T) := by decide +kernel)
    (hn : x ≠ "__name__" := by decide) (hdb : (x == ("__debug__" : Str)) = false := by decide)
    (he : starEach (e :: es) X.env = (false, eval e X.env) :: starEach es X.env := by rfl) (hpl : (backTo pos (starEach es X.env)).any (·.1) = false := by rfl) : Ev X (.Call (.Name x p) (e :: es) [] pos) σ H Q :=
  Ev.of (pe_callTy hc hg hm hv pa_sem hn hdb he hpl) h
end
/-! ### defs and their promises -/
/-- a def of the text stands under its name -/
structure D1 (K : PySem.W.Frag) (mg : Str → Option Value) (x : Str) (st : Stmt) (ps : List Str) : Prop where
  ex : ∃ f fd, L2.Fun K x x st f fd ∧ mg x = some (.ref f) ∧ Binds K fd ps []
/-- it keeps its promise -/
structure Ca (P : Program) (w : World) (K : PySem.W.Frag) (mg : Str → Option Value) (base : Heap) (k : Nat) (x : Str) (ps : List Str) (sp : Sp) : Prop where
  ex : ∃ f fd, FnOk P w K mg base L2.CX0 k f fd ps sp ∧ mg x = some (.ref f) ∧ PySem.W.keepIn K (.ref f) = true ∧ Binds K fd ps [] ∧ ∃ oc od osl, K.lookup f = some ⟨oc, od, .func fd, osl⟩
section
variable {P : Program} {w : World} {K : PySem.W.Frag} {mg : Str → Option Value} {base : Heap}
theorem ca_of {x : Str} {st : Stmt} {N ps : List Str} {k : Nat} {sp : Sp} (D : D1 K mg x st ps) (S : FnScope N ps (defScope st)) (len : ∀ vs H Q E, sp vs H Q E → vs.length = ps.length)
    (hbody : ∀ (f : Addr) (cdv : Value) (A : Around) (outer : List Env) (s : Shared) (H : Hp) (vs : List V) (Q : VK) (E : XK), Room k (A.deeper (envOfC x (defScope st) s.heap.objs.size f cdv)) → sp vs H Q E →
      Bv (cxOf L2.CX0 P w K mg base N x (defScope st) f cdv A outer s H E).nox (defBody st) { nx := fun _ H' => Q .non H', rt := Q } (start N vs) H) : Ca P w K mg base (k + 1) x ps sp := by
  obtain ⟨f, fd, F, hm, hb⟩ := D.ex
  obtain ⟨oc, od, kV, doc, pm, an, cdv, ct, osl, _, lk, _⟩ := F.ex
  exact ⟨f, fd, F.ok S len fun cdv A outer s H vs Q E hr hs => ⟨_, pss_sem, hbody f cdv A outer s H vs Q E hr hs⟩, hm, F.kp, hb, oc, od, osl, lk⟩
end
section
variable {X : Cx} {e : Expr} {es : List Expr} {σ : L2.St} {H : Hp} {Q : VK} {p pos : Pos} {x : Str} {k j : Nat} {sp : Sp} {ps : List Str}
theorem e_call (c : Ca X.prog X.w X.K X.mg X.base k x ps sp) (hr : Room j X.A) (hk : k ≤ j) (h : Av X (e :: es) σ H fun vs H1 => sp vs H1 Q (fun _ _ _ => False)) (hg : Gl X x := by rfl)
    (hdb : (x == ("__debug__" : Str)) = false := by decide) (he : starEach (e :: es) X.env = (false, eval e X.env) :: starEach es X.env := by rfl) (hpl : (backTo pos (starEach es X.env)).any (·.1) = false := by rfl) :
    Ev X (.Call (.Name x p) (e :: es) [] pos) σ H Q := by
  obtain ⟨f, fd, F, hm, kp, b, _⟩ := c.ex
  refine Ev.of (pe_call F (hr.mono hk) hg hm kp b .nil L2.pass0 pa_sem hdb he hpl) ?_
  have e0 : (fun (vs : List V) (H1 : Hp) => sp (vs ++ []) H1 Q (fun _ _ _ => False)) = fun vs H1 => sp vs H1 Q (fun _ _ _ => False) := by
    funext vs H1
    rw [List.append_nil]
  show Av X (e :: es) σ H (fun vs H1 => sp (vs ++ []) H1 Q (fun _ _ _ => False))
  rw [e0]
  exact h
end
end Det
/-! the text by places; what the top has written; how a setting lies in the heap -/
namespace Det
open PySem PySem.Spec PyProof.Rows L2
abbrev Stg := Kp416.Setting
def topS (i : Nat) : Stmt := PySem.Challenge.pw_deterrence_s01_answers.main.body.getD i (.Pass ⟨0, 0, 0, 0⟩)
abbrev sInit : Stmt := inClass (topS 5) 0
abbrev s_common_part : Stmt := topS 1
abbrev s_reduced : Stmt := topS 2
abbrev s_is_less : Stmt := topS 3
abbrev s_fresh : Stmt := topS 6
abbrev s_signal_count : Stmt := topS 7
abbrev s_with_weights : Stmt := topS 8
abbrev s_with_prior : Stmt := topS 9
abbrev s_with_stakes : Stmt := topS 10
abbrev s_with_prices : Stmt := topS 11
abbrev s_value_top : Stmt := topS 13
abbrev s_value_bottom : Stmt := topS 14
abbrev s_paying_signals : Stmt := topS 15
abbrev s_profit_of : Stmt := topS 16
abbrev s_weight_of : Stmt := topS 17
abbrev s_detection_of : Stmt := topS 18
abbrev s_harm_of : Stmt := topS 19
abbrev s_cost_of : Stmt := topS 20
abbrev s_deterrent_at : Stmt := topS 22
abbrev s_all_deterrents : Stmt := topS 23
abbrev s_deterrent_of : Stmt := topS 24
abbrev s_is_better : Stmt := topS 25
abbrev s_cheapest_of : Stmt := topS 26
abbrev s_is_count : Stmt := topS 36
abbrev s_are_weights : Stmt := topS 37
abbrev s_is_prior : Stmt := topS 38
abbrev s_is_money : Stmt := topS 39
abbrev s_signals_in : Stmt := topS 40
abbrev s_is_mapping : Stmt := topS 42
abbrev s_merged_weights : Stmt := topS 43
abbrev s_merged : Stmt := topS 44
abbrev s_told : Stmt := topS 46
abbrev s_told_signals : Stmt := topS 47
abbrev s_cheating_value : Stmt := topS 48
abbrev s_cheating_signals : Stmt := topS 49
abbrev s_expected_profit : Stmt := topS 50
abbrev s_expected_profit_of : Stmt := topS 51
abbrev s_detection_probability : Stmt := topS 52
abbrev s_harm_probability : Stmt := topS 53
abbrev s_total_cost : Stmt := topS 54
abbrev s_deterrent_prior_at : Stmt := topS 55
abbrev s_deterrent_prior : Stmt := topS 56
abbrev s_preview_merge : Stmt := topS 57
abbrev s_cheapest_prior : Stmt := topS 58
abbrev s_cheating_signals_for_prior : Stmt := topS 59
abbrev s_cheating_signals_for_stakes : Stmt := topS 60
abbrev s_get_settings : Stmt := topS 61
abbrev s_asked : Stmt := topS 63
abbrev s_create : Stmt := topS 65
abbrev s_set_test_weights : Stmt := topS 66
abbrev s_set_production_weights : Stmt := topS 67
abbrev s_set_prior : Stmt := topS 68
abbrev s_set_stakes : Stmt := topS 69
abbrev s_set_prices : Stmt := topS 70
abbrev s_merge_signals : Stmt := topS 71
abbrev s_is_change : Stmt := topS 73
abbrev s_changed : Stmt := topS 74
abbrev s_behind_lists : Stmt := topS 76
abbrev s_calls_in : Stmt := topS 77
abbrev s_done : Stmt := topS 80
abbrev s_answers : Stmt := topS 81
/-- a table of the top: numbers, defs -/
def tabOf (K : PySem.W.Frag) (mg : Str → Option Value) (d : Addr) (l : List (Int × Str)) : Prop := ∃ m, KDI K d m ∧ (∀ p ∈ l, ∃ f, m p.1 = some (.ref f) ∧ mg p.2 = some (.ref f)) ∧ ∀ k, (∀ p ∈ l, p.1 ≠ k) → m k = none
def qTab : List (Int × Str) := [(6, "cheating_value"), (7, "cheating_signals"), (8, "expected_profit"), (9, "expected_profit_of"), (10, "detection_probability"), (11, "harm_probability"), (12, "total_cost"), (13, "deterrent_prior_at"), (14, "deterrent_prior"), (15, "preview_merge"), (17, "cheapest_prior"), (18, "cheating_signals_for_prior"), (19, "cheating_signals_for_stakes"), (20, "get_settings")]
def cTab : List (Int × Str) := [(1, "set_test_weights"), (2, "set_production_weights"), (3, "set_prior"), (4, "set_stakes"), (5, "set_prices"), (16, "merge_signals")]
/-- what the top has written -/
structure Txt (K : PySem.W.Frag) (mg : Str → Option Value) (C : Addr) : Prop where
  cl : Cls K C
  n_tw : NoAttr K C "trial_weights"
  n_uw : NoAttr K C "use_weights"
  n_pr : NoAttr K C "prior"
  n_st : NoAttr K C "stakes"
  n_pc : NoAttr K C "prices"
  gC : mg "Setting" = some (.ref C)
  ini : ∃ fI fd, L2.Fun K "__init__" "Setting.__init__" sInit fI fd ∧ Mk K C fI ∧ Binds K fd ["self", "trial_weights", "use_weights", "prior", "stakes", "prices"] []
  qt : ∃ d, mg "QUESTIONS" = some (.ref d) ∧ tabOf K mg d qTab
  ct : ∃ d, mg "CHANGES" = some (.ref d) ∧ tabOf K mg d cTab
  b_len : mg "len" = none
  b_sum : mg "sum" = none
  b_range : mg "range" = none
  b_abs : mg "abs" = none
  b_all : mg "all" = none
  b_list : mg "list" = none
  c_NO_SETTING : ∃ t, mg "NO_SETTING" = some (.int (-11) t)
  c_NO_SIGNAL : ∃ t, mg "NO_SIGNAL" = some (.int (-2) t)
  c_BEYOND : ∃ t, mg "BEYOND" = some (.int (-22) t)
  c_NO_PRIOR : ∃ t, mg "NO_PRIOR" = some (.int (-33) t)
  c_MOST_SIGNALS : ∃ t, mg "MOST_SIGNALS" = some (.int (5) t)
  c_MOST_WEIGHT : ∃ t, mg "MOST_WEIGHT" = some (.int (99) t)
  c_MOST_BOTTOM : ∃ t, mg "MOST_BOTTOM" = some (.int (99) t)
  c_MOST_MONEY : ∃ t, mg "MOST_MONEY" = some (.int (999) t)
  c_CREATE : ∃ t, mg "CREATE" = some (.int (0) t)
  d_common_part : D1 K mg "common_part" s_common_part ["one", "other"]
  d_reduced : D1 K mg "reduced" s_reduced ["top", "bottom"]
  d_is_less : D1 K mg "is_less" s_is_less ["one", "other"]
  d_fresh : D1 K mg "fresh" s_fresh ["many"]
  d_signal_count : D1 K mg "signal_count" s_signal_count ["setting"]
  d_with_weights : D1 K mg "with_weights" s_with_weights ["setting", "trial_weights", "use_weights"]
  d_with_prior : D1 K mg "with_prior" s_with_prior ["setting", "prior"]
  d_with_stakes : D1 K mg "with_stakes" s_with_stakes ["setting", "stakes"]
  d_with_prices : D1 K mg "with_prices" s_with_prices ["setting", "prices"]
  d_value_top : D1 K mg "value_top" s_value_top ["setting", "signal"]
  d_value_bottom : D1 K mg "value_bottom" s_value_bottom ["setting"]
  d_paying_signals : D1 K mg "paying_signals" s_paying_signals ["setting"]
  d_profit_of : D1 K mg "profit_of" s_profit_of ["setting", "signals"]
  d_weight_of : D1 K mg "weight_of" s_weight_of ["weights", "signals"]
  d_detection_of : D1 K mg "detection_of" s_detection_of ["setting"]
  d_harm_of : D1 K mg "harm_of" s_harm_of ["setting"]
  d_cost_of : D1 K mg "cost_of" s_cost_of ["setting"]
  d_deterrent_at : D1 K mg "deterrent_at" s_deterrent_at ["setting", "signal"]
  d_all_deterrents : D1 K mg "all_deterrents" s_all_deterrents ["setting"]
  d_deterrent_of : D1 K mg "deterrent_of" s_deterrent_of ["setting"]
  d_is_better : D1 K mg "is_better" s_is_better ["cost", "prior", "best_cost", "best_prior"]
  d_cheapest_of : D1 K mg "cheapest_of" s_cheapest_of ["setting"]
  d_is_count : D1 K mg "is_count" s_is_count ["many"]
  d_are_weights : D1 K mg "are_weights" s_are_weights ["weights", "many"]
  d_is_prior : D1 K mg "is_prior" s_is_prior ["top", "bottom"]
  d_is_money : D1 K mg "is_money" s_is_money ["one", "other"]
  d_signals_in : D1 K mg "signals_in" s_signals_in ["mask", "many"]
  d_is_mapping : D1 K mg "is_mapping" s_is_mapping ["setting", "mapping"]
  d_merged_weights : D1 K mg "merged_weights" s_merged_weights ["weights", "mapping"]
  d_merged : D1 K mg "merged" s_merged ["setting", "mapping"]
  d_told : D1 K mg "told" s_told ["fraction"]
  d_told_signals : D1 K mg "told_signals" s_told_signals ["setting"]
  d_cheating_value : D1 K mg "cheating_value" s_cheating_value ["setting", "numbers"]
  d_cheating_signals : D1 K mg "cheating_signals" s_cheating_signals ["setting", "numbers"]
  d_expected_profit : D1 K mg "expected_profit" s_expected_profit ["setting", "numbers"]
  d_expected_profit_of : D1 K mg "expected_profit_of" s_expected_profit_of ["setting", "numbers"]
  d_detection_probability : D1 K mg "detection_probability" s_detection_probability ["setting", "numbers"]
  d_harm_probability : D1 K mg "harm_probability" s_harm_probability ["setting", "numbers"]
  d_total_cost : D1 K mg "total_cost" s_total_cost ["setting", "numbers"]
  d_deterrent_prior_at : D1 K mg "deterrent_prior_at" s_deterrent_prior_at ["setting", "numbers"]
  d_deterrent_prior : D1 K mg "deterrent_prior" s_deterrent_prior ["setting", "numbers"]
  d_preview_merge : D1 K mg "preview_merge" s_preview_merge ["setting", "numbers"]
  d_cheapest_prior : D1 K mg "cheapest_prior" s_cheapest_prior ["setting", "numbers"]
  d_cheating_signals_for_prior : D1 K mg "cheating_signals_for_prior" s_cheating_signals_for_prior ["setting", "numbers"]
  d_cheating_signals_for_stakes : D1 K mg "cheating_signals_for_stakes" s_cheating_signals_for_stakes ["setting", "numbers"]
  d_get_settings : D1 K mg "get_settings" s_get_settings ["setting", "numbers"]
  d_asked : D1 K mg "asked" s_asked ["setting", "word", "numbers"]
  d_create : D1 K mg "create" s_create ["setting", "numbers"]
  d_set_test_weights : D1 K mg "set_test_weights" s_set_test_weights ["setting", "numbers"]
  d_set_production_weights : D1 K mg "set_production_weights" s_set_production_weights ["setting", "numbers"]
  d_set_prior : D1 K mg "set_prior" s_set_prior ["setting", "numbers"]
  d_set_stakes : D1 K mg "set_stakes" s_set_stakes ["setting", "numbers"]
  d_set_prices : D1 K mg "set_prices" s_set_prices ["setting", "numbers"]
  d_merge_signals : D1 K mg "merge_signals" s_merge_signals ["setting", "numbers"]
  d_is_change : D1 K mg "is_change" s_is_change ["word"]
  d_changed : D1 K mg "changed" s_changed ["setting", "word", "numbers"]
  d_behind_lists : D1 K mg "behind_lists" s_behind_lists ["row", "at"]
  d_calls_in : D1 K mg "calls_in" s_calls_in ["row"]
  d_done : D1 K mg "done" s_done ["setting", "word", "numbers"]
  d_answers : D1 K mg "answers" s_answers ["calls"]
/-! ### lists of numbers -/
def iv (l : List Int) : List V := l.map V.int
def ni (l : List Nat) : List Int := l.map fun (n : Nat) => (n : Int)
def nv (l : List Nat) : List V := iv (ni l)
theorem iv_len (l : List Int) : (iv l).length = l.length := by unfold iv; rw [List.length_map]
theorem ni_len (l : List Nat) : (ni l).length = l.length := by unfold ni; rw [List.length_map]
theorem nv_len (l : List Nat) : (nv l).length = l.length := by unfold nv; rw [iv_len, ni_len]
theorem iv_get {l : List Int} {i : Nat} {x : Int} (h : l[i]? = some x) : (iv l)[i]? = some (.int x) := by unfold iv; rw [List.getElem?_map, h]; rfl
theorem ni_get {l : List Nat} {i : Nat} {x : Nat} (h : l[i]? = some x) : (ni l)[i]? = some (x : Int) := by unfold ni; rw [List.getElem?_map, h]; rfl
theorem nv_get {l : List Nat} {i : Nat} {x : Nat} (h : l[i]? = some x) : (nv l)[i]? = some (.int x) := iv_get (ni_get h)
theorem get_getD {l : List Nat} {i : Nat} (h : i < l.length) : l[i]? = some (l.getD i 0) := by
  rw [List.getD_eq_getElem?_getD, List.getElem?_eq_getElem h]; rfl
theorem nv_getD {l : List Nat} {i : Nat} (h : i < l.length) : (nv l)[i]? = some (.int ((l.getD i 0 : Nat) : Int)) := nv_get (get_getD h)
theorem ni_sum : ∀ l : List Nat, (ni l).sum = ((l.sum : Nat) : Int)
  | [] => rfl
  | a :: l => by
    have ih := ni_sum l
    unfold ni at ih ⊢
    rw [List.map_cons, List.sum_cons, List.sum_cons, ih, Int.natCast_add]
theorem iv_app (a b : List Int) : iv (a ++ b) = iv a ++ iv b := by unfold iv; rw [List.map_append]
theorem ni_app (a b : List Nat) : ni (a ++ b) = ni a ++ ni b := by unfold ni; rw [List.map_append]
theorem nv_app (a b : List Nat) : nv (a ++ b) = nv a ++ nv b := by unfold nv; rw [ni_app, iv_app]
theorem iv_of {l : List Int} {i : Nat} {x : V} (h : (iv l)[i]? = some x) : ∃ z, l[i]? = some z ∧ x = .int z := by
  unfold iv at h
  rw [List.getElem?_map] at h
  cases e : l[i]? with
  | none => rw [e] at h; cases h
  | some z => rw [e] at h; exact ⟨z, rfl, (Option.some.inj h).symm⟩
theorem nv_of {l : List Nat} {i : Nat} {x : V} (h : (nv l)[i]? = some x) : ∃ z : Nat, l[i]? = some z ∧ x = .int z := by
  obtain ⟨y, hy, e⟩ := iv_of (l := ni l) h
  unfold ni at hy
  rw [List.getElem?_map] at hy
  cases e2 : l[i]? with
  | none => rw [e2] at hy; cases hy
  | some z => rw [e2] at hy; exact ⟨z, rfl, by rw [e, ← Option.some.inj hy]⟩
theorem small {n : Nat} (h : n ≤ 100000) : n ≤ sizeLine := Nat.le_trans h (by decide)
theorem smallT {n : Nat} (h : n < 100000) : n < sizeLine := Nat.lt_of_lt_of_le h (by decide)
/-! ### heaps -/
theorem same_new {H : Hp} {p : Addr} {o : HO} (h : H p = none) : Same H (upd H p o) := fun a u e => by
  rw [upd_ne (ne_of_none e h)]
  exact e
theorem same_mut {H H' : Hp} {p : Addr} {o : HO} (e : Same H H') (h : H p = none) : Same H (upd H' p o) := fun a u ha => by
  rw [upd_ne (ne_of_none ha h)]
  exact e a u ha
theorem up_eq {H : Hp} {p q : Addr} {o u : HO} (h : H q = some u) (n : H p = none) : upd H p o q = some u := by
  rw [upd_ne (ne_of_none h n)]
  exact h
/-! ### values -/
/-- a fraction: a tuple of two ints -/
def Fr (H : Hp) (v : V) (x : Rat) : Prop := ∃ p, v = .ref p ∧ H p = some (.tup [.int x.num, .int ((x.den : Nat) : Int)])
def FrO (H : Hp) (v : V) : Option Rat → Prop
  | none => v = .non
  | some x => Fr H v x
def LsI (H : Hp) (v : V) (l : List Int) : Prop := ∃ p, v = .ref p ∧ H p = some (.lst (iv l))
def LsN (H : Hp) (v : V) (l : List Nat) : Prop := ∃ p, v = .ref p ∧ H p = some (.lst (nv l))
theorem Fr.mono {H H' : Hp} {v : V} {x : Rat} (e : Same H H') (h : Fr H v x) : Fr H' v x := by
  obtain ⟨p, a, b⟩ := h
  exact ⟨p, a, e _ _ b⟩
theorem FrO.mono {H H' : Hp} {v : V} {x : Option Rat} (e : Same H H') (h : FrO H v x) : FrO H' v x := by
  cases x with
  | none => exact h
  | some x => exact Fr.mono e h
theorem LsI.mono {H H' : Hp} {v : V} {l : List Int} (e : Same H H') (h : LsI H v l) : LsI H' v l := by
  obtain ⟨p, a, b⟩ := h
  exact ⟨p, a, e _ _ b⟩
theorem LsN.mono {H H' : Hp} {v : V} {l : List Nat} (e : Same H H') (h : LsN H v l) : LsN H' v l := by
  obtain ⟨p, a, b⟩ := h
  exact ⟨p, a, e _ _ b⟩
/-! ### a setting -/
def sF (lt lu tp ts tq : Addr) : List (Str × V) := [("trial_weights", .ref lt), ("use_weights", .ref lu), ("prior", .ref tp), ("stakes", .ref ts), ("prices", .ref tq)]
theorem lk_here {k : Str} {v : V} {r : List (Str × V)} : List.lookup k ((k, v) :: r) = some v := by
  have e : (k == k) = true := beq_self_eq_true k
  simp only [List.lookup, e]
theorem lk_past {k g : Str} {v : V} {r : List (Str × V)} (h : (k == g) = false) : List.lookup k ((g, v) :: r) = List.lookup k r := by
  simp only [List.lookup, h]
theorem put_past {f g : Str} {v x : V} {r : List (Str × V)} (h : ¬ g = f) : putF f v ((g, x) :: r) = (g, x) :: putF f v r := if_neg h
section
variable {lt lu tp ts tq : Addr}
theorem sF_tw : (sF lt lu tp ts tq).lookup ("trial_weights" : Str) = some (.ref lt) := lk_here
theorem sF_uw : (sF lt lu tp ts tq).lookup ("use_weights" : Str) = some (.ref lu) := (lk_past (by decide +kernel)).trans lk_here
theorem sF_pr : (sF lt lu tp ts tq).lookup ("prior" : Str) = some (.ref tp) := (lk_past (by decide +kernel)).trans ((lk_past (by decide +kernel)).trans lk_here)
theorem sF_st : (sF lt lu tp ts tq).lookup ("stakes" : Str) = some (.ref ts) := (lk_past (by decide +kernel)).trans ((lk_past (by decide +kernel)).trans ((lk_past (by decide +kernel)).trans lk_here))
theorem sF_pc : (sF lt lu tp ts tq).lookup ("prices" : Str) = some (.ref tq) := (lk_past (by decide +kernel)).trans ((lk_past (by decide +kernel)).trans ((lk_past (by decide +kernel)).trans ((lk_past (by decide +kernel)).trans lk_here)))
theorem sF_new : putF "prices" (.ref tq) (putF "stakes" (.ref ts) (putF "prior" (.ref tp) (putF "use_weights" (.ref lu) (putF "trial_weights" (.ref lt) [])))) = sF lt lu tp ts tq := by
  have e1 : putF "trial_weights" (.ref lt) [] = [(("trial_weights" : Str), V.ref lt)] := rfl
  have e2 : putF "use_weights" (.ref lu) [(("trial_weights" : Str), V.ref lt)] = ([("trial_weights", V.ref lt), ("use_weights", V.ref lu)] : List (Str × V)) := put_past (by decide +kernel)
  have e3 : putF "prior" (.ref tp) ([("trial_weights", V.ref lt), ("use_weights", V.ref lu)] : List (Str × V)) = ([("trial_weights", V.ref lt), ("use_weights", V.ref lu), ("prior", V.ref tp)] : List (Str × V)) := (put_past (by decide +kernel)).trans (congrArg _ (put_past (by decide +kernel)))
  have e4 : putF "stakes" (.ref ts) ([("trial_weights", V.ref lt), ("use_weights", V.ref lu), ("prior", V.ref tp)] : List (Str × V)) = ([("trial_weights", V.ref lt), ("use_weights", V.ref lu), ("prior", V.ref tp), ("stakes", V.ref ts)] : List (Str × V)) := (put_past (by decide +kernel)).trans (congrArg _ ((put_past (by decide +kernel)).trans (congrArg _ (put_past (by decide +kernel)))))
  have e5 : putF "prices" (.ref tq) ([("trial_weights", V.ref lt), ("use_weights", V.ref lu), ("prior", V.ref tp), ("stakes", V.ref ts)] : List (Str × V)) = ([("trial_weights", V.ref lt), ("use_weights", V.ref lu), ("prior", V.ref tp), ("stakes", V.ref ts), ("prices", V.ref tq)] : List (Str × V)) := (put_past (by decide +kernel)).trans (congrArg _ ((put_past (by decide +kernel)).trans (congrArg _ ((put_past (by decide +kernel)).trans (congrArg _ (put_past (by decide +kernel)))))))
  rw [e1, e2, e3, e4, e5]
  rfl
end
structure SetI (C : Addr) (H : Hp) (a dx lt lu tp ts tq : Addr) (s : Stg) : Prop where
  ob : H a = some (.ins C dx (sF lt lu tp ts tq))
  tw : H lt = some (.lst (nv s.model.testWeights))
  uw : H lu = some (.lst (nv s.model.productionWeights))
  pr : H tp = some (.tup [.int (s.model.priorNum : Int), .int (s.model.priorDen : Int)])
  st : H ts = some (.tup [.int (s.gain : Int), .int (s.loss : Int)])
  pc : H tq = some (.tup [.int (s.harmPrice : Int), .int (s.testPrice : Int)])
theorem SetI.mono {C : Addr} {H H' : Hp} {a dx lt lu tp ts tq : Addr} {s : Stg} (e : Same H H') (h : SetI C H a dx lt lu tp ts tq s) : SetI C H' a dx lt lu tp ts tq s :=
  ⟨e _ _ h.ob, e _ _ h.tw, e _ _ h.uw, e _ _ h.pr, e _ _ h.st, e _ _ h.pc⟩
def SetA (C : Addr) (H : Hp) (a : Addr) (s : Stg) : Prop := ∃ dx lt lu tp ts tq, SetI C H a dx lt lu tp ts tq s
theorem SetI.a {C : Addr} {H : Hp} {a dx lt lu tp ts tq : Addr} {s : Stg} (h : SetI C H a dx lt lu tp ts tq s) : SetA C H a s := ⟨dx, lt, lu, tp, ts, tq, h⟩
theorem SetA.mono {C : Addr} {H H' : Hp} {a : Addr} {s : Stg} (e : Same H H') (h : SetA C H a s) : SetA C H' a s := by
  obtain ⟨dx, lt, lu, tp, ts, tq, h⟩ := h
  exact (h.mono e).a
section
variable {X : Cx} {C : Addr} {σ : L2.St} {H : Hp} {Q : VK} {p pos : Pos} {x : Str} {a dx lt lu tp ts tq : Addr} {s : Stg}
/-- o.f of a setting that stands in a slot -/
theorem f_tw (T : Txt X.K X.mg C) (S : SetI C H a dx lt lu tp ts tq s) (i : Nat) (hN : X.N[i]? = some x) (hσ : σ[i]? = some (some (.ref a))) (h : Q (.ref lt) H) (hv : Vis X.env.scope x := by first | exact Or.inl rfl | exact Or.inr (Or.inl rfl) | exact Or.inr (Or.inr rfl)) (hd : (x == ("__debug__" : Str)) = false := by decide)
    (hcd : (x == ("__classdict__" : Str)) = false := by decide) (hb : attributeBase (.Name x p) "trial_weights" X.env (eval (.Name x p) X.env) = eval (.Name x p) X.env := by rfl) : Ev X (.Attribute (.Name x p) "trial_weights" pos) σ H Q := e_fld (e_var i hN hσ ⟨a, C, dx, _, _, rfl, S.ob, T.cl, T.n_tw, sF_tw, h⟩ hv hd hcd) hb
theorem f_uw (T : Txt X.K X.mg C) (S : SetI C H a dx lt lu tp ts tq s) (i : Nat) (hN : X.N[i]? = some x) (hσ : σ[i]? = some (some (.ref a))) (h : Q (.ref lu) H) (hv : Vis X.env.scope x := by first | exact Or.inl rfl | exact Or.inr (Or.inl rfl) | exact Or.inr (Or.inr rfl)) (hd : (x == ("__debug__" : Str)) = false := by decide)
    (hcd : (x == ("__classdict__" : Str)) = false := by decide) (hb : attributeBase (.Name x p) "use_weights" X.env (eval (.Name x p) X.env) = eval (.Name x p) X.env := by rfl) : Ev X (.Attribute (.Name x p) "use_weights" pos) σ H Q := e_fld (e_var i hN hσ ⟨a, C, dx, _, _, rfl, S.ob, T.cl, T.n_uw, sF_uw, h⟩ hv hd hcd) hb
theorem f_pr (T : Txt X.K X.mg C) (S : SetI C H a dx lt lu tp ts tq s) (i : Nat) (hN : X.N[i]? = some x) (hσ : σ[i]? = some (some (.ref a))) (h : Q (.ref tp) H) (hv : Vis X.env.scope x := by first | exact Or.inl rfl | exact Or.inr (Or.inl rfl) | exact Or.inr (Or.inr rfl)) (hd : (x == ("__debug__" : Str)) = false := by decide)
    (hcd : (x == ("__classdict__" : Str)) = false := by decide) (hb : attributeBase (.Name x p) "prior" X.env (eval (.Name x p) X.env) = eval (.Name x p) X.env := by rfl) : Ev X (.Attribute (.Name x p) "prior" pos) σ H Q := e_fld (e_var i hN hσ ⟨a, C, dx, _, _, rfl, S.ob, T.cl, T.n_pr, sF_pr, h⟩ hv hd hcd) hb
theorem f_st (T : Txt X.K X.mg C) (S : SetI C H a dx lt lu tp ts tq s) (i : Nat) (hN : X.N[i]? = some x) (hσ : σ[i]? = some (some (.ref a))) (h : Q (.ref ts) H) (hv : Vis X.env.scope x := by first | exact Or.inl rfl | exact Or.inr (Or.inl rfl) | exact Or.inr (Or.inr rfl)) (hd : (x == ("__debug__" : Str)) = false := by decide)
    (hcd : (x == ("__classdict__" : Str)) = false := by decide) (hb : attributeBase (.Name x p) "stakes" X.env (eval (.Name x p) X.env) = eval (.Name x p) X.env := by rfl) : Ev X (.Attribute (.Name x p) "stakes" pos) σ H Q := e_fld (e_var i hN hσ ⟨a, C, dx, _, _, rfl, S.ob, T.cl, T.n_st, sF_st, h⟩ hv hd hcd) hb
theorem f_pc (T : Txt X.K X.mg C) (S : SetI C H a dx lt lu tp ts tq s) (i : Nat) (hN : X.N[i]? = some x) (hσ : σ[i]? = some (some (.ref a))) (h : Q (.ref tq) H) (hv : Vis X.env.scope x := by first | exact Or.inl rfl | exact Or.inr (Or.inl rfl) | exact Or.inr (Or.inr rfl)) (hd : (x == ("__debug__" : Str)) = false := by decide)
    (hcd : (x == ("__classdict__" : Str)) = false := by decide) (hb : attributeBase (.Name x p) "prices" X.env (eval (.Name x p) X.env) = eval (.Name x p) X.env := by rfl) : Ev X (.Attribute (.Name x p) "prices" pos) σ H Q := e_fld (e_var i hN hσ ⟨a, C, dx, _, _, rfl, S.ob, T.cl, T.n_pc, sF_pc, h⟩ hv hd hcd) hb
end
/-! ### promises -/
/-- behind a def: what was tracked stands, and R of the answer -/
def Rt (H : Hp) (Q : VK) (R : V → Hp → Prop) : Prop := ∀ v H', Same H H' → R v H' → Q v H'
/-- f(setting) -/
def sp1 (C : Addr) (R : Stg → V → Hp → Prop) : Sp := fun vs H Q _ => ∃ a s, vs = [.ref a] ∧ SetA C H a s ∧ Good s ∧ Rt H Q (R s)
/-- f(setting, signal) -/
def sp2 (C : Addr) (R : Stg → Nat → V → Hp → Prop) : Sp := fun vs H Q _ => ∃ a s, ∃ i : Nat, vs = [.ref a, .int (i : Int)] ∧ SetA C H a s ∧ Good s ∧ i < s.model.testWeights.length ∧ Rt H Q (R s i)
/-- f(setting, signals) -/
def sp3 (C : Addr) (R : Stg → List Nat → V → Hp → Prop) : Sp := fun vs H Q _ => ∃ a s l is, vs = [.ref a, .ref l] ∧ SetA C H a s ∧ Good s ∧ H l = some (.lst (nv is)) ∧ (∀ i ∈ is, i < s.model.testWeights.length) ∧ is.length ≤ 5 ∧ Rt H Q (R s is)
theorem sp1_len {C : Addr} {R : Stg → V → Hp → Prop} {x : Str} : ∀ vs H Q E, sp1 C R vs H Q E → vs.length = [x].length := by
  rintro vs H Q E ⟨a, s, rfl, _⟩
  rfl
theorem sp2_len {C : Addr} {R : Stg → Nat → V → Hp → Prop} {x y : Str} : ∀ vs H Q E, sp2 C R vs H Q E → vs.length = [x, y].length := by
  rintro vs H Q E ⟨a, s, i, rfl, _⟩
  rfl
theorem sp3_len {C : Addr} {R : Stg → List Nat → V → Hp → Prop} {x y : Str} : ∀ vs H Q E, sp3 C R vs H Q E → vs.length = [x, y].length := by
  rintro vs H Q E ⟨a, s, l, is, rfl, _⟩
  rfl
end Det
/-! loops and comprehensions, as goals -/
namespace Det
open PySem PySem.Spec PyProof.Rows L2
section
variable {X : Cx} {e a b c elt tg iter : Expr} {es : List Expr} {st : Stmt} {body : List Stmt} {σ : L2.St} {H : Hp} {Q : VK} {D : Ends} {pos p pos' : Pos} {x : Str} {v : V}
theorem s_while (W : Nat → L2.St → Hp → Prop) (m : Nat) (w0 : W m σ H) (turn : ∀ m σ H, W m σ H → Tv X c σ H fun k H1 => if k = true then Bv X body { D with nx := fun σ' H' => ∃ m', m' < m ∧ W m' σ' H', ct := fun σ' H' => ∃ m', m' < m ∧ W m' σ' H', bk := D.nx } σ H1 else D.nx σ H1)
    (hp : PassesOwn (model X.prog X.w) X.A X.env X.xe := by exact PassesOwn.never) : Sv X (.While c body [] pos) D σ H := by
  refine Sv.of (ps_while hp pt_sem pss_sem) ⟨W, ⟨m, w0⟩, fun m σ H w => (turn m σ H w).imp fun k H1 q => ?_⟩
  cases k with
  | true => exact ⟨_, fun _ _ n => n, q⟩
  | false => exact q
theorem s_for_list {g : TG} (hg : PG X tg g)
    (h : Ev X iter σ H fun v H1 => ∃ l xs, v = .ref l ∧ SqL X.K H1 l xs ∧ ∃ Pv : Nat → L2.St → Hp → Prop, Pv 0 σ H1 ∧ (∀ i σ H, i ≤ xs.length → Pv i σ H → SqL X.K H l xs) ∧
      (∀ i x σ H, xs[i]? = some x → Pv i σ H → g x σ H fun σ2 H2 => Bv X body { D with nx := Pv (i + 1), ct := Pv (i + 1), bk := D.nx } σ2 H2) ∧ ∀ σ H, Pv xs.length σ H → D.nx σ H)
    (hc : X.calm = true := by rfl) (hp : PassesOwn (model X.prog X.w) X.A X.env X.xe := by exact PassesOwn.never) (hs : ∀ x, foldedSetIterable iter X.env x = pure x := by intro _; rfl) : Sv X (.For tg iter body [] pos) D σ H := by
  refine Sv.of (ps_for hp hc (pi_list pe_sem) hg pss_sem hs) (Ev.imp h fun v H1 ⟨l, xs, e, hl, Pv, h0, h1, h2, h3⟩ => ?_)
  exact ⟨l, e, ⟨xs, hl⟩, for_list (K := X.K) (a := l) (xs := xs) Pv h0 h1 h2 h3⟩
theorem s_for_range {g : TG} (hm : X.mg "range" = none) (hg : PG X tg g)
    (h : Ev X a σ H fun v H1 => ∃ n : Nat, v = .int (n : Int) ∧ n ≤ 4294967296 ∧ ∃ Pv : Nat → L2.St → Hp → Prop, Pv 0 σ H1 ∧
      (∀ i σ H, i < n → Pv i σ H → g (.int (i : Int)) σ H fun σ2 H2 => Bv X body { D with nx := Pv (i + 1), ct := Pv (i + 1), bk := D.nx } σ2 H2) ∧ ∀ σ H, Pv n σ H → D.nx σ H)
    (hgl : Gl X "range" := by rfl) (hst : starEach [a] X.env = (false, eval a X.env) :: starEach [] X.env := by rfl) (hst2 : starEach [a] X.env = [(false, eval a X.env)] := by rfl)
    (hc : X.calm = true := by rfl) (hp : PassesOwn (model X.prog X.w) X.A X.env X.xe := by exact PassesOwn.never) (hs : ∀ x, foldedSetIterable (.Call (.Name "range" p) [a] [] pos') X.env x = pure x := by intro _; rfl) : Sv X (.For tg (.Call (.Name "range" p) [a] [] pos') body [] pos) D σ H := by
  refine Sv.of (ps_for hp hc (pi_range1 hgl hm (pa_cons pe_sem pa_nil hst) hst2) hg pss_sem hs) (Ev.imp h fun v H1 ⟨n, e, hn, Pv, h0, h1, h2⟩ => ?_)
  refine ⟨(n : Int), by rw [e], by omega, by omega, ?_⟩
  rw [Int.toNat_natCast]
  refine for_range (lo := 0) (n := n) Pv h0 (fun i σ H hi p => ?_) h2
  rw [Int.zero_add]
  exact h1 i σ H hi p
/-- an element's block -/
abbrev blkX (X : Cx) (scope : Scope) (s0 : Shared) (H0 : Hp) (C : Addr) (cl : List (Str × Addr)) (fp : List Addr) : Cx := X.blk s0 H0 scope (compEnvC scope cl C X.env) fp
def EvB (X : Cx) (scope : Scope) (elt : Expr) (σ : L2.St) (H : Hp) (Q : VK) : Prop := ∀ s0 H0 C cl fp, Ev (blkX X scope s0 H0 C cl fp) elt σ H Q
def TvB (X : Cx) (scope : Scope) (c : Expr) (σ : L2.St) (H : Hp) (Q : Bool → Hp → Prop) : Prop := ∀ s0 H0 C cl fp, Tv (blkX X scope s0 H0 C cl fp) c σ H Q
theorem wipe_one {σ : L2.St} {k : Nat} {v : V} : wipe ((wipe σ [k]).set k (some v)) [k] = wipe σ [k] := by
  show ((σ.set k none).set k (some v)).set k none = σ.set k none
  rw [List.set_set, List.set_set]
theorem yes_of {σ : L2.St} {H : Hp} {Q : Bool → Hp → Prop} (h : Q true H) : tYes σ H Q := h
/-- the tuples stand -/
def SameT (H H' : Hp) : Prop := ∀ b t, H b = some (.tup t) → H' b = some (.tup t)
theorem SameT.of {H H' : Hp} (e : Same H H') : SameT H H' := fun b t h => e _ _ h
theorem SameT.lst {H : Hp} {l : Addr} {xs : List V} {o : HO} (h : H l = some (.lst xs)) : SameT H (upd H l o) := fun b t hb => by
  rw [upd_ne (ne_of hb h (by intro z; cases z))]
  exact hb
/-- [elt for x in range(n)], each element told by R -/
theorem e_lcr {scope : Scope} {k : Nat} (hm : X.mg "range" = none) (hN : X.N.Nodup) (ok : BlkOk X.N X.env.scope scope [(x, k)])
    (hg : ∀ (s : Shared) (H : Hp) (C : Addr) (cl : List (Str × Addr)) (fp : List Addr), PG (blkX X scope s H C cl fp) (.Name x p) (gName k))
    (R : Nat → V → Hp → Prop) (hR : ∀ i v H H', SameT H H' → R i v H → R i v H')
    {pr pc : Pos}
    (h : Ev X a σ H fun v H1 => ∃ n : Nat, v = .int (n : Int) ∧ n ≤ 1000 ∧
      (∀ i H2, i < n → Same H1 H2 → EvB X scope elt ((wipe σ [k]).set k (some (.int (i : Int)))) H2 fun y H3 => Same H2 H3 ∧ R i y H3) ∧
      ∀ l H' xs, H1 l = none → Same H1 H' → H' l = some (.lst xs) → xs.length = n → (∀ i v, xs[i]? = some v → R i v H') → Q (.ref l) H')
    (hgl : Gl X "range" := by rfl) (hst : starEach [a] X.env = (false, eval a X.env) :: starEach [] X.env := by rfl) (hst2 : starEach [a] X.env = [(false, eval a X.env)] := by rfl)
    (hc : X.calm = true := by rfl) (hs : ∀ x, foldedSetIterable (.Call (.Name "range" pr) [a] [] pc) X.env x = pure x := by intro _; rfl) :
    Ev X (.ListComp elt [⟨.Name x p, .Call (.Name "range" pr) [a] [] pc, [], 0⟩] scope pos) σ H Q := by
  refine Ev.of (pe_lc (own := [(x, k)]) (g := gName k) (tt := tYes) (te := EvB X scope elt) hc hN (pi_range1 hgl hm (pa_cons pe_sem pa_nil hst) hst2) ok hg (fun _ _ _ _ _ => pts_nil) (fun s0 H0 C cl fp => ⟨fun pins s _ _ _ I h => h s0 H0 C cl fp pins s I⟩) hs) ?_
  refine Ev.imp h fun v H1 ⟨n, e, hn, h1, h2⟩ => ?_
  refine ⟨(n : Int), by rw [e], by omega, by omega, ?_⟩
  rw [Int.toNat_natCast]
  intro l hl
  refine lc_range (lo := 0) (n := n) (fun i H' => ∃ xs, Same H1 H' ∧ H' l = some (.lst xs) ∧ xs.length = i ∧ ∀ j v, xs[j]? = some v → R j v H') ⟨[], same_new hl, upd_same, rfl, fun j v h => by simp at h⟩ (fun i H' hi ⟨xs, sm, hx, xl, hr⟩ => ?_) fun H' ⟨xs, sm, hx, xl, hr⟩ => h2 l H' xs hl sm hx xl hr
  rw [Int.zero_add]
  refine ⟨wipe_one, ?_⟩
  refine yes_of (iteT ?_)
  intro s0 H0 C cl fp
  refine Ev.imp (h1 i H' hi sm s0 H0 C cl fp) fun y H3 ⟨s3, r3⟩ => ?_
  refine ⟨xs, s3 _ _ hx, by rw [xl]; exact smallT (by omega), xs ++ [y], same_mut (sm.trans s3) hl, upd_same, by rw [List.length_append, xl]; rfl, fun j v hj => ?_⟩
  refine hR j v H3 _ (SameT.lst (s3 _ _ hx)) ?_
  by_cases c : j < i
  · rw [List.getElem?_append_left (by omega)] at hj
    exact hR j v H' H3 (SameT.of s3) (hr j v hj)
  · have e1 : j = i := by
      have := (List.getElem?_eq_some_iff.mp hj).1
      rw [List.length_append, xl] at this
      simp only [List.length_cons, List.length_nil] at this
      omega
    subst e1
    rw [List.getElem?_append_right (by omega), xl, Nat.sub_self] at hj
    cases hj
    exact r3
/-- [x for x in range(n) if c], the test told by a function -/
theorem e_lcf {scope : Scope} {k : Nat} (hm : X.mg "range" = none) (hN : X.N.Nodup) (ok : BlkOk X.N X.env.scope scope [(x, k)])
    (hg : ∀ (s : Shared) (H : Hp) (C : Addr) (cl : List (Str × Addr)) (fp : List Addr), PG (blkX X scope s H C cl fp) (.Name x p) (gName k))
    (f : Nat → Bool)
    {pr pc : Pos}
    (h : Ev X a σ H fun v H1 => ∃ n : Nat, v = .int (n : Int) ∧ n ≤ 1000 ∧
      (∀ i H2, i < n → Same H1 H2 → TvB X scope c ((wipe σ [k]).set k (some (.int (i : Int)))) H2 fun y H3 => Same H2 H3 ∧ y = f i) ∧
      (∀ i H2, EvB X scope elt ((wipe σ [k]).set k (some (.int (i : Int)))) H2 fun y H3 => H3 = H2 ∧ y = .int (i : Int)) ∧
      ∀ l H', H1 l = none → Same H1 H' → H' l = some (.lst (nv ((List.range n).filter f))) → Q (.ref l) H')
    (hgl : Gl X "range" := by rfl) (hst : starEach [a] X.env = (false, eval a X.env) :: starEach [] X.env := by rfl) (hst2 : starEach [a] X.env = [(false, eval a X.env)] := by rfl)
    (hc : X.calm = true := by rfl) (hs : ∀ x, foldedSetIterable (.Call (.Name "range" pr) [a] [] pc) X.env x = pure x := by intro _; rfl) :
    Ev X (.ListComp elt [⟨.Name x p, .Call (.Name "range" pr) [a] [] pc, [c], 0⟩] scope pos) σ H Q := by
  refine Ev.of (pe_lc (own := [(x, k)]) (g := gName k) (tt := TvB X scope c) (te := EvB X scope elt) hc hN (pi_range1 hgl hm (pa_cons pe_sem pa_nil hst) hst2) ok hg (fun s0 H0 C cl fp => pts_one ⟨fun pins s _ _ _ I h => h s0 H0 C cl fp pins s I⟩) (fun s0 H0 C cl fp => ⟨fun pins s _ _ _ I h => h s0 H0 C cl fp pins s I⟩) hs) ?_
  refine Ev.imp h fun v H1 ⟨n, e, hn, h1, h1e, h2⟩ => ?_
  refine ⟨(n : Int), by rw [e], by omega, by omega, ?_⟩
  rw [Int.toNat_natCast]
  intro l hl
  refine lc_range (lo := 0) (n := n) (fun i H' => Same H1 H' ∧ H' l = some (.lst (nv ((List.range i).filter f)))) ⟨same_new hl, upd_same⟩ (fun i H' hi ⟨sm, hx⟩ => ?_) fun H' ⟨sm, hx⟩ => h2 l H' hl sm hx
  rw [Int.zero_add]
  refine ⟨wipe_one, ?_⟩
  intro s0 H0 C cl fp
  refine Tv.imp (h1 i H' hi sm s0 H0 C cl fp) fun y H3 ⟨s3, r3⟩ => ?_
  subst r3
  have hr : (List.range (i + 1)).filter f = (List.range i).filter f ++ [i].filter f := by rw [List.range_succ, List.filter_append]
  cases hf : f i with
  | true =>
    refine iteT ?_
    intro s0 H0 C cl fp
    refine Ev.imp (h1e i H3 s0 H0 C cl fp) fun y H4 ⟨e4, ey⟩ => ?_
    subst e4 ey
    refine ⟨_, s3 _ _ hx, ?_, same_mut (sm.trans s3) hl, ?_⟩
    · rw [nv_len]
      have := List.length_filter_le f (List.range i)
      rw [List.length_range] at this
      exact smallT (by omega)
    · rw [upd_same, hr, List.filter_cons_of_pos hf, List.filter_nil, nv_app]
      rfl
  | false =>
    refine iteF ?_
    refine ⟨sm.trans s3, ?_⟩
    rw [hr, List.filter_cons_of_neg (by rw [hf]; exact Bool.false_ne_true), List.filter_nil, List.append_nil]
    exact s3 _ _ hx
/-- [elt for x in xs], each element told by a function of the place -/
theorem e_lcl {scope : Scope} {k : Nat} (hN : X.N.Nodup) (ok : BlkOk X.N X.env.scope scope [(x, k)])
    (hg : ∀ (s : Shared) (H : Hp) (C : Addr) (cl : List (Str × Addr)) (fp : List Addr), PG (blkX X scope s H C cl fp) (.Name x p) (gName k))
    (h : Ev X a σ H fun v H1 => ∃ l0 xs, v = .ref l0 ∧ SqL X.K H1 l0 xs ∧ xs.length ≤ 1000 ∧ ∃ G : V → V,
      (∀ (i : Nat) (y : V) (H2 : Hp), xs[i]? = some y → Same H1 H2 → EvB X scope elt ((wipe σ [k]).set k (some y)) H2 fun z H3 => Same H2 H3 ∧ z = G y) ∧
      ∀ l H', H1 l = none → Same H1 H' → H' l = some (.lst (xs.map G)) → Q (.ref l) H')
    (hc : X.calm = true := by rfl) (hs : ∀ x, foldedSetIterable a X.env x = pure x := by intro _; rfl) :
    Ev X (.ListComp elt [⟨.Name x p, a, [], 0⟩] scope pos) σ H Q := by
  refine Ev.of (pe_lc (own := [(x, k)]) (g := gName k) (tt := tYes) (te := EvB X scope elt) hc hN (pi_list pe_sem) ok hg (fun _ _ _ _ _ => pts_nil) (fun s0 H0 C cl fp => ⟨fun pins s _ _ _ I h => h s0 H0 C cl fp pins s I⟩) hs) ?_
  refine Ev.imp h fun v H1 ⟨l0, xs, e, hl0, hn, G, h1, h2⟩ => ?_
  refine ⟨l0, e, ⟨xs, hl0⟩, ?_⟩
  intro l hl
  refine lc_list (K := X.K) (a := l0) (xs := xs) (fun i H' => Same H1 H' ∧ H' l = some (.lst ((xs.take i).map G))) ⟨same_new hl, upd_same⟩ (fun i H' _ ⟨sm, _⟩ => sm.seq hl0) (fun i y H' hy ⟨sm, hx⟩ => ?_) fun H' ⟨sm, hx⟩ => h2 l H' hl sm (by rw [List.take_length] at hx; exact hx)
  refine ⟨wipe_one, ?_⟩
  refine yes_of (iteT ?_)
  intro s0 H0 C cl fp
  refine Ev.imp (h1 i y H' hy sm s0 H0 C cl fp) fun z H3 ⟨s3, ez⟩ => ?_
  subst ez
  refine ⟨_, s3 _ _ hx, ?_, same_mut (sm.trans s3) hl, ?_⟩
  · rw [List.length_map, List.length_take]
    exact smallT (by omega)
  · rw [upd_same, take_more hy, List.map_append]
    rfl
end
end Det
/-! the scopes of the defs: the names by slot -/
namespace Det
open PySem PySem.Spec PyProof.Rows L2
theorem sc_common_part : FnScope ["one", "other", "left", "right"] ["one", "other"] (defScope s_common_part) := ⟨rfl, rfl, rfl, by decide +kernel, rfl, by decide +kernel, by decide +kernel⟩
theorem sc_reduced : FnScope ["top", "bottom", "part"] ["top", "bottom"] (defScope s_reduced) := ⟨rfl, rfl, rfl, by decide +kernel, rfl, by decide +kernel, by decide +kernel⟩
theorem sc_is_less : FnScope ["one", "other"] ["one", "other"] (defScope s_is_less) := ⟨rfl, rfl, rfl, by decide +kernel, rfl, by decide +kernel, by decide +kernel⟩
theorem sc_fresh : FnScope ["many"] ["many"] (defScope s_fresh) := ⟨rfl, rfl, rfl, by decide +kernel, rfl, by decide +kernel, by decide +kernel⟩
theorem sc_signal_count : FnScope ["setting"] ["setting"] (defScope s_signal_count) := ⟨rfl, rfl, rfl, by decide +kernel, rfl, by decide +kernel, by decide +kernel⟩
theorem sc_with_weights : FnScope ["setting", "trial_weights", "use_weights"] ["setting", "trial_weights", "use_weights"] (defScope s_with_weights) := ⟨rfl, rfl, rfl, by decide +kernel, rfl, by decide +kernel, by decide +kernel⟩
theorem sc_with_prior : FnScope ["setting", "prior"] ["setting", "prior"] (defScope s_with_prior) := ⟨rfl, rfl, rfl, by decide +kernel, rfl, by decide +kernel, by decide +kernel⟩
theorem sc_with_stakes : FnScope ["setting", "stakes"] ["setting", "stakes"] (defScope s_with_stakes) := ⟨rfl, rfl, rfl, by decide +kernel, rfl, by decide +kernel, by decide +kernel⟩
theorem sc_with_prices : FnScope ["setting", "prices"] ["setting", "prices"] (defScope s_with_prices) := ⟨rfl, rfl, rfl, by decide +kernel, rfl, by decide +kernel, by decide +kernel⟩
theorem sc_value_top : FnScope ["setting", "signal", "won", "lost", "top", "bottom", "gain", "loss"] ["setting", "signal"] (defScope s_value_top) := ⟨rfl, rfl, rfl, by decide +kernel, rfl, by decide +kernel, by decide +kernel⟩
theorem sc_value_bottom : FnScope ["setting"] ["setting"] (defScope s_value_bottom) := ⟨rfl, rfl, rfl, by decide +kernel, rfl, by decide +kernel, by decide +kernel⟩
theorem sc_paying_signals : FnScope ["setting", "signal"] ["setting"] (defScope s_paying_signals) := ⟨rfl, rfl, rfl, by decide +kernel, rfl, by decide +kernel, by decide +kernel⟩
theorem sc_profit_of : FnScope ["setting", "signals", "signal"] ["setting", "signals"] (defScope s_profit_of) := ⟨rfl, rfl, rfl, by decide +kernel, rfl, by decide +kernel, by decide +kernel⟩
theorem sc_weight_of : FnScope ["weights", "signals", "signal"] ["weights", "signals"] (defScope s_weight_of) := ⟨rfl, rfl, rfl, by decide +kernel, rfl, by decide +kernel, by decide +kernel⟩
theorem sc_detection_of : FnScope ["setting", "caught", "top", "bottom"] ["setting"] (defScope s_detection_of) := ⟨rfl, rfl, rfl, by decide +kernel, rfl, by decide +kernel, by decide +kernel⟩
theorem sc_harm_of : FnScope ["setting", "harmed", "top", "bottom"] ["setting"] (defScope s_harm_of) := ⟨rfl, rfl, rfl, by decide +kernel, rfl, by decide +kernel, by decide +kernel⟩
theorem sc_cost_of : FnScope ["setting", "top", "bottom", "harm_price", "test_price", "harm_top", "harm_bottom"] ["setting"] (defScope s_cost_of) := ⟨rfl, rfl, rfl, by decide +kernel, rfl, by decide +kernel, by decide +kernel⟩
theorem sc_deterrent_at : FnScope ["setting", "signal", "won", "lost", "gain", "loss"] ["setting", "signal"] (defScope s_deterrent_at) := ⟨rfl, rfl, rfl, by decide +kernel, rfl, by decide +kernel, by decide +kernel⟩
theorem sc_all_deterrents : FnScope ["setting", "signal"] ["setting"] (defScope s_all_deterrents) := ⟨rfl, rfl, rfl, by decide +kernel, rfl, by decide +kernel, by decide +kernel⟩
theorem sc_deterrent_of : FnScope ["setting", "found", "here"] ["setting"] (defScope s_deterrent_of) := ⟨rfl, rfl, rfl, by decide +kernel, rfl, by decide +kernel, by decide +kernel⟩
theorem sc_is_better : FnScope ["cost", "prior", "best_cost", "best_prior"] ["cost", "prior", "best_cost", "best_prior"] (defScope s_is_better) := ⟨rfl, rfl, rfl, by decide +kernel, rfl, by decide +kernel, by decide +kernel⟩
theorem sc_cheapest_of : FnScope ["setting", "prior", "best_prior", "best_cost", "cost"] ["setting"] (defScope s_cheapest_of) := ⟨rfl, rfl, rfl, by decide +kernel, rfl, by decide +kernel, by decide +kernel⟩
theorem sc_is_count : FnScope ["many"] ["many"] (defScope s_is_count) := ⟨rfl, rfl, rfl, by decide +kernel, rfl, by decide +kernel, by decide +kernel⟩
theorem sc_are_weights : FnScope ["weights", "many", "weight"] ["weights", "many"] (defScope s_are_weights) := ⟨rfl, rfl, rfl, by decide +kernel, rfl, by decide +kernel, by decide +kernel⟩
theorem sc_is_prior : FnScope ["top", "bottom"] ["top", "bottom"] (defScope s_is_prior) := ⟨rfl, rfl, rfl, by decide +kernel, rfl, by decide +kernel, by decide +kernel⟩
theorem sc_is_money : FnScope ["one", "other"] ["one", "other"] (defScope s_is_money) := ⟨rfl, rfl, rfl, by decide +kernel, rfl, by decide +kernel, by decide +kernel⟩
theorem sc_signals_in : FnScope ["mask", "many", "signal", "found", "left"] ["mask", "many"] (defScope s_signals_in) := ⟨rfl, rfl, rfl, by decide +kernel, rfl, by decide +kernel, by decide +kernel⟩
theorem sc_is_mapping : FnScope ["setting", "mapping", "many", "signal"] ["setting", "mapping"] (defScope s_is_mapping) := ⟨rfl, rfl, rfl, by decide +kernel, rfl, by decide +kernel, by decide +kernel⟩
theorem sc_merged_weights : FnScope ["weights", "mapping", "found", "signal"] ["weights", "mapping"] (defScope s_merged_weights) := ⟨rfl, rfl, rfl, by decide +kernel, rfl, by decide +kernel, by decide +kernel⟩
theorem sc_merged : FnScope ["setting", "mapping", "trial_weights", "use_weights"] ["setting", "mapping"] (defScope s_merged) := ⟨rfl, rfl, rfl, by decide +kernel, rfl, by decide +kernel, by decide +kernel⟩
theorem sc_told : FnScope ["fraction"] ["fraction"] (defScope s_told) := ⟨rfl, rfl, rfl, by decide +kernel, rfl, by decide +kernel, by decide +kernel⟩
theorem sc_told_signals : FnScope ["setting", "signals"] ["setting"] (defScope s_told_signals) := ⟨rfl, rfl, rfl, by decide +kernel, rfl, by decide +kernel, by decide +kernel⟩
theorem sc_cheating_value : FnScope ["setting", "numbers"] ["setting", "numbers"] (defScope s_cheating_value) := ⟨rfl, rfl, rfl, by decide +kernel, rfl, by decide +kernel, by decide +kernel⟩
theorem sc_cheating_signals : FnScope ["setting", "numbers"] ["setting", "numbers"] (defScope s_cheating_signals) := ⟨rfl, rfl, rfl, by decide +kernel, rfl, by decide +kernel, by decide +kernel⟩
theorem sc_expected_profit : FnScope ["setting", "numbers"] ["setting", "numbers"] (defScope s_expected_profit) := ⟨rfl, rfl, rfl, by decide +kernel, rfl, by decide +kernel, by decide +kernel⟩
theorem sc_expected_profit_of : FnScope ["setting", "numbers", "signals"] ["setting", "numbers"] (defScope s_expected_profit_of) := ⟨rfl, rfl, rfl, by decide +kernel, rfl, by decide +kernel, by decide +kernel⟩
theorem sc_detection_probability : FnScope ["setting", "numbers"] ["setting", "numbers"] (defScope s_detection_probability) := ⟨rfl, rfl, rfl, by decide +kernel, rfl, by decide +kernel, by decide +kernel⟩
theorem sc_harm_probability : FnScope ["setting", "numbers"] ["setting", "numbers"] (defScope s_harm_probability) := ⟨rfl, rfl, rfl, by decide +kernel, rfl, by decide +kernel, by decide +kernel⟩
theorem sc_total_cost : FnScope ["setting", "numbers"] ["setting", "numbers"] (defScope s_total_cost) := ⟨rfl, rfl, rfl, by decide +kernel, rfl, by decide +kernel, by decide +kernel⟩
theorem sc_deterrent_prior_at : FnScope ["setting", "numbers", "prior"] ["setting", "numbers"] (defScope s_deterrent_prior_at) := ⟨rfl, rfl, rfl, by decide +kernel, rfl, by decide +kernel, by decide +kernel⟩
theorem sc_deterrent_prior : FnScope ["setting", "numbers", "prior"] ["setting", "numbers"] (defScope s_deterrent_prior) := ⟨rfl, rfl, rfl, by decide +kernel, rfl, by decide +kernel, by decide +kernel⟩
theorem sc_preview_merge : FnScope ["setting", "numbers", "behind", "prior", "profit"] ["setting", "numbers"] (defScope s_preview_merge) := ⟨rfl, rfl, rfl, by decide +kernel, rfl, by decide +kernel, by decide +kernel⟩
theorem sc_cheapest_prior : FnScope ["setting", "numbers", "prior", "cost"] ["setting", "numbers"] (defScope s_cheapest_prior) := ⟨rfl, rfl, rfl, by decide +kernel, rfl, by decide +kernel, by decide +kernel⟩
theorem sc_cheating_signals_for_prior : FnScope ["setting", "numbers"] ["setting", "numbers"] (defScope s_cheating_signals_for_prior) := ⟨rfl, rfl, rfl, by decide +kernel, rfl, by decide +kernel, by decide +kernel⟩
theorem sc_cheating_signals_for_stakes : FnScope ["setting", "numbers"] ["setting", "numbers"] (defScope s_cheating_signals_for_stakes) := ⟨rfl, rfl, rfl, by decide +kernel, rfl, by decide +kernel, by decide +kernel⟩
theorem sc_get_settings : FnScope ["setting", "numbers", "head"] ["setting", "numbers"] (defScope s_get_settings) := ⟨rfl, rfl, rfl, by decide +kernel, rfl, by decide +kernel, by decide +kernel⟩
theorem sc_asked : FnScope ["setting", "word", "numbers", "ask"] ["setting", "word", "numbers"] (defScope s_asked) := ⟨rfl, rfl, rfl, by decide +kernel, rfl, by decide +kernel, by decide +kernel⟩
theorem sc_create : FnScope ["setting", "numbers"] ["setting", "numbers"] (defScope s_create) := ⟨rfl, rfl, rfl, by decide +kernel, rfl, by decide +kernel, by decide +kernel⟩
theorem sc_set_test_weights : FnScope ["setting", "numbers"] ["setting", "numbers"] (defScope s_set_test_weights) := ⟨rfl, rfl, rfl, by decide +kernel, rfl, by decide +kernel, by decide +kernel⟩
theorem sc_set_production_weights : FnScope ["setting", "numbers"] ["setting", "numbers"] (defScope s_set_production_weights) := ⟨rfl, rfl, rfl, by decide +kernel, rfl, by decide +kernel, by decide +kernel⟩
theorem sc_set_prior : FnScope ["setting", "numbers"] ["setting", "numbers"] (defScope s_set_prior) := ⟨rfl, rfl, rfl, by decide +kernel, rfl, by decide +kernel, by decide +kernel⟩
theorem sc_set_stakes : FnScope ["setting", "numbers"] ["setting", "numbers"] (defScope s_set_stakes) := ⟨rfl, rfl, rfl, by decide +kernel, rfl, by decide +kernel, by decide +kernel⟩
theorem sc_set_prices : FnScope ["setting", "numbers"] ["setting", "numbers"] (defScope s_set_prices) := ⟨rfl, rfl, rfl, by decide +kernel, rfl, by decide +kernel, by decide +kernel⟩
theorem sc_merge_signals : FnScope ["setting", "numbers", "behind", "signals"] ["setting", "numbers"] (defScope s_merge_signals) := ⟨rfl, rfl, rfl, by decide +kernel, rfl, by decide +kernel, by decide +kernel⟩
theorem sc_is_change : FnScope ["word"] ["word"] (defScope s_is_change) := ⟨rfl, rfl, rfl, by decide +kernel, rfl, by decide +kernel, by decide +kernel⟩
theorem sc_changed : FnScope ["setting", "word", "numbers", "deed"] ["setting", "word", "numbers"] (defScope s_changed) := ⟨rfl, rfl, rfl, by decide +kernel, rfl, by decide +kernel, by decide +kernel⟩
theorem sc_behind_lists : FnScope ["row", "at", "here", "turn"] ["row", "at"] (defScope s_behind_lists) := ⟨rfl, rfl, rfl, by decide +kernel, rfl, by decide +kernel, by decide +kernel⟩
theorem sc_calls_in : FnScope ["row", "found", "at", "first", "behind"] ["row"] (defScope s_calls_in) := ⟨rfl, rfl, rfl, by decide +kernel, rfl, by decide +kernel, by decide +kernel⟩
theorem sc_done : FnScope ["setting", "word", "numbers"] ["setting", "word", "numbers"] (defScope s_done) := ⟨rfl, rfl, rfl, by decide +kernel, rfl, by decide +kernel, by decide +kernel⟩
theorem sc_answers : FnScope ["calls", "found", "setting", "word", "numbers", "answer"] ["calls"] (defScope s_answers) := ⟨rfl, rfl, rfl, by decide +kernel, rfl, by decide +kernel, by decide +kernel⟩
theorem sc_init : FnScope ["self", "trial_weights", "use_weights", "prior", "stakes", "prices"] ["self", "trial_weights", "use_weights", "prior", "stakes", "prices"] (defScope sInit) := ⟨rfl, rfl, rfl, by decide +kernel, rfl, by decide +kernel, by decide +kernel⟩
theorem dec2 {p A B : Prop} [Decidable p] (h1 : p → A) (h2 : ¬ p → B) : if decide p = true then A else B := by
  by_cases h : p
  · rw [decide_eq_true h]
    exact iteT (h1 h)
  · rw [decide_eq_false h]
    exact iteF (h2 h)
theorem ndec2 {p A B : Prop} [Decidable p] (h1 : ¬ p → A) (h2 : p → B) : if (!decide p) = true then A else B := by
  by_cases h : p
  · rw [decide_eq_true h]
    exact iteF (h2 h)
  · rw [decide_eq_false h]
    exact iteT (h1 h)
end Det
/-! ratio.py -/
namespace Det
open PySem PySem.Spec PyProof.Rows L2
section
variable {P : Program} {w : World} {K : PySem.W.Frag} {mg : Str → Option Value} {base : Heap} {C : Addr}
def spGcd : Sp := fun vs H Q _ => ∃ a b : Int, vs = [.int a, .int b] ∧ 0 ≤ a ∧ 0 ≤ b ∧ Rt H Q fun v _ => v = .int (Int.gcd a b : Int)
theorem gcd_step {l r : Int} (hl : 0 ≤ l) (hr : 0 < r) : Int.gcd r (l % r) = Int.gcd l r := by
  obtain ⟨m, rfl⟩ := Int.eq_ofNat_of_zero_le hl
  obtain ⟨n, rfl⟩ := Int.eq_ofNat_of_zero_le (show 0 ≤ r by omega)
  rw [← Int.natCast_emod]
  show Nat.gcd n (m % n) = Nat.gcd m n
  rw [Nat.gcd_comm n, ← Nat.gcd_rec, Nat.gcd_comm]
theorem ok_common_part (T : Txt K mg C) : Ca P w K mg base 1 "common_part" ["one", "other"] spGcd := by
  refine ca_of T.d_common_part sc_common_part (by rintro vs H Q E ⟨a, b, rfl, _⟩; rfl) fun f cdv A outer s0 H vs Q E hr h => ?_
  obtain ⟨a, b, rfl, ha, hb, k⟩ := h
  refine b_cons (s_par (i := 2) (j := 3) sc_common_part.nd rfl rfl (e_var 0 rfl rfl (e_var 1 rfl rfl ?_)))
  refine b_cons (s_while (fun m σ H' => ∃ l r : Int, σ = [some (.int a), some (.int b), some (.int l), some (.int r)] ∧ 0 ≤ l ∧ 0 ≤ r ∧ Int.gcd l r = Int.gcd a b ∧ m = r.toNat ∧ H' = H) b.toNat ⟨a, b, rfl, ha, hb, rfl, rfl, rfl⟩ ?_)
  rintro m σ H' ⟨l, r, rfl, hl, hr0, hg, rfl, rfl⟩
  refine t_cmp op_gt (e_var 3 rfl rfl (e_int ⟨_, _, rfl, rfl, _, rfl, dec2 (fun c => ?_) fun c => ?_⟩))
  · refine b_one (s_par (i := 2) (j := 3) sc_common_part.nd rfl rfl (e_var 3 rfl rfl (e_op op_mod (e_var 2 rfl rfl (e_var 3 rfl rfl ⟨_, _, rfl, rfl, c, ?_⟩)))))
    have h1 := Int.emod_nonneg l (show r ≠ 0 by omega)
    have h2 := Int.emod_lt_of_pos l c
    exact ⟨(l % r).toNat, by omega, r, l % r, rfl, hr0, h1, (gcd_step hl c).trans hg, rfl, rfl⟩
  · refine b_one (s_ret (e_var 2 rfl rfl (k _ _ (Same.refl _) ?_)))
    have e : r = 0 := by omega
    subst e
    rw [← hg, Int.gcd_zero_right, Int.natAbs_of_nonneg hl]
def spRed : Sp := fun vs H Q _ => ∃ a b : Int, vs = [.int a, .int b] ∧ 0 < b ∧ b.natAbs < 2 ^ 200 ∧ Rt H Q fun v H' => Fr H' v (fr a b)
theorem gcd_abs (a b : Int) : Int.gcd (if a < 0 then -a else a) b = Int.gcd a b := by
  by_cases h : a < 0
  · rw [if_pos h, Int.neg_gcd]
  · rw [if_neg h]
theorem ok_reduced (T : Txt K mg C) : Ca P w K mg base 2 "reduced" ["top", "bottom"] spRed := by
  have c1 := ok_common_part (P := P) (w := w) (base := base) T
  refine ca_of T.d_reduced sc_reduced (by rintro vs H Q E ⟨a, b, rfl, _⟩; rfl) fun f cdv A outer s0 H vs Q E hr h => ?_
  obtain ⟨a, b, rfl, hb, hbw, k⟩ := h
  refine b_cons (s_if (t_cmp op_eq (e_var 0 rfl rfl (e_int ⟨rfl, _, rfl, dec2 (fun c => ?_) fun c => ?_⟩))))
  · -- return (0, 1)
    refine b_one (s_ret (e_tup (a_cons (e_int (a_cons (e_int (a_nil ⟨by show 2 ≤ sizeLine; decide, fun p hp => ?_⟩)))))))
    have e : a = 0 := V.int.inj c
    subst e
    exact k _ _ (same_new hp) ⟨p, rfl, by rw [upd_same, fr_zero]; rfl⟩
  · refine b_nil ?_
    have hg : 0 < (Int.gcd a b : Int) := by
      have := Int.gcd_pos_of_ne_zero_right a (show b ≠ 0 by omega)
      omega
    have hgb : (Int.gcd a b : Int) ≤ b := Int.le_of_dvd hb (Int.gcd_dvd_right ..)
    have hw : CDivW a (Int.gcd a b : Int) := wide_div hg (wide_le (by omega) hgb hbw) (by decide) (by decide)
    refine b_cons (s_set (i := 2) sc_reduced.nd rfl (e_call c1 hr (by decide) (a_cons (e_blt call_abs T.b_abs (a_cons (e_var 0 rfl rfl (a_nil ⟨a, rfl, a_cons (e_var 1 rfl rfl (a_nil ⟨_, b, rfl, by split <;> omega, by omega, fun v H1 e1 ev => ?_⟩))⟩)))))))
    subst ev
    rw [gcd_abs]
    refine b_one (s_ret (e_tup (a_cons (e_op op_fdivW (e_var 0 rfl rfl (e_var 2 rfl rfl ⟨_, _, rfl, rfl, hw, a_cons (e_op op_fdivW (e_var 1 rfl rfl (e_var 2 rfl rfl ⟨_, _, rfl, rfl, hw, a_nil ⟨by show 2 ≤ sizeLine; decide, fun p hp => ?_⟩⟩)))⟩))))))
    exact k _ _ (same_mut e1 (e1.free hp)) ⟨p, rfl, by rw [upd_same, fr_num hb, fr_den hb]⟩
/-- is_less(one, other), two fractions -/
def spLess : Sp := fun vs H Q _ => ∃ u v x y, vs = [u, v] ∧ Fr H u x ∧ Fr H v y ∧ x.num.natAbs < 2 ^ 200 ∧ x.den < 2 ^ 200 ∧ y.num.natAbs < 2 ^ 200 ∧ y.den < 2 ^ 200 ∧ Rt H Q fun z _ => z = .bl (decide (x < y))
theorem at0 {v u : V} : atI [v, u] (0 : Int) = some v := rfl
theorem at1 {v u : V} : atI [v, u] (1 : Int) = some u := rfl
theorem ok_is_less (T : Txt K mg C) : Ca P w K mg base 1 "is_less" ["one", "other"] spLess := by
  refine ca_of T.d_is_less sc_is_less (by rintro vs H Q E ⟨a, b, _, _, rfl, _⟩; rfl) fun f cdv A outer s0 H vs Q E hr h => ?_
  obtain ⟨_, _, x, y, rfl, ⟨p, rfl, hp⟩, ⟨q, rfl, hq⟩, b1, b2, b3, b4, k⟩ := h
  refine b_one (s_ret (e_cmp op_lt (e_op op_mulW (e_ix ix_tup (e_var 0 rfl rfl (e_int ?_))))))
  refine ⟨p, _, _, _, rfl, rfl, SqT.of hp, at0, e_ix ix_tup (e_var 1 rfl rfl (e_int ?_))⟩
  refine ⟨q, _, _, _, rfl, rfl, SqT.of hq, at1, _, _, rfl, rfl, wide_mul b1 (show (y.den : Int).natAbs < 2 ^ 200 from b4) (by decide) (by decide) (by decide), e_op op_mulW (e_ix ix_tup (e_var 1 rfl rfl (e_int ?_)))⟩
  refine ⟨q, _, _, _, rfl, rfl, SqT.of hq, at0, e_ix ix_tup (e_var 0 rfl rfl (e_int ?_))⟩
  refine ⟨p, _, _, _, rfl, rfl, SqT.of hp, at1, _, _, rfl, rfl, wide_mul b3 (show (x.den : Int).natAbs < 2 ^ 200 from b2) (by decide) (by decide) (by decide), _, _, rfl, rfl, ?_⟩
  refine k _ _ (Same.refl _) ?_
  rw [decide_eq_decide.mpr (Rat.lt_iff x y)]
end
end Det
/-! setting.py -/
namespace Det
open PySem PySem.Spec PyProof.Rows L2
section
variable {P : Program} {w : World} {K : PySem.W.Frag} {mg : Str → Option Value} {base : Heap} {C : Addr}
def spInit (C : Addr) : Sp := fun vs H Q _ => ∃ (p dx lt0 lu0 tp ts tq : Addr) (tw uw : List V), vs = [.ref p, .ref lt0, .ref lu0, .ref tp, .ref ts, .ref tq] ∧ H p = some (.ins C dx []) ∧ H lt0 = some (.lst tw) ∧ H lu0 = some (.lst uw) ∧
  ∀ H' lt lu, (∀ b o, H b = some o → b ≠ p → H' b = some o) → H' p = some (.ins C dx (sF lt lu tp ts tq)) → H' lt = some (.lst tw) → H' lu = some (.lst uw) → Q .non H'
theorem ok_init (T : Txt K mg C) {fI : Addr} {fd : FuncData} (F : L2.Fun K "__init__" "Setting.__init__" sInit fI fd) : FnOk P w K mg base L2.CX0 1 fI fd ["self", "trial_weights", "use_weights", "prior", "stakes", "prices"] (spInit C) := by
  refine F.ok sc_init (by rintro vs H Q E ⟨p, dx, lt0, lu0, tp, ts, tq, tw, uw, rfl, _⟩; rfl) fun cdv A outer s0 H vs Q E hr h => ⟨_, pss_sem, ?_⟩
  obtain ⟨p, dx, lt0, lu0, tp, ts, tq, tw, uw, rfl, hp, hlt, hlu, k⟩ := h
  -- self.trial_weights = list(trial_weights)
  refine b_cons (s_fld (e_bty call_list_of T.b_list (a_cons (e_var 1 rfl rfl (a_nil ⟨lt0, tw, rfl, .inl (SqL.of hlt), fun lt nlt => ?_⟩)))))
  have hp1 : (upd H lt (.lst tw)) p = some (.ins C dx []) := up_eq hp nlt
  refine e_var 0 rfl rfl ⟨p, C, dx, _, rfl, hp1, T.cl, T.n_tw, by decide, ?_⟩
  generalize hH1 : upd (upd H lt (.lst tw)) p (.ins C dx (putF "trial_weights" (.ref lt) [])) = H1
  have k1 : ∀ b o, H b = some o → b ≠ p → H1 b = some o := fun b o e n => by
    subst hH1
    rw [upd_ne n]
    exact up_eq e nlt
  have q1 : H1 p = some (.ins C dx (putF "trial_weights" (.ref lt) [])) := by subst hH1; exact upd_same
  have l1 : H1 lt = some (.lst tw) := by
    subst hH1
    rw [upd_ne (fun z => by subst z; rw [nlt] at hp; cases hp)]
    exact upd_same
  have ltp : lt ≠ p := fun z => by subst z; rw [nlt] at hp; cases hp
  -- self.use_weights = list(use_weights)
  refine b_cons (s_fld (e_bty call_list_of T.b_list (a_cons (e_var 2 rfl rfl (a_nil ⟨lu0, uw, rfl, .inl (SqL.of (k1 _ _ hlu (ne_of hlu hp (by intro z; cases z)))), fun lu nlu => ?_⟩)))))
  have hp2 : (upd H1 lu (.lst uw)) p = some (.ins C dx (putF "trial_weights" (.ref lt) [])) := up_eq q1 nlu
  refine e_var 0 rfl rfl ⟨p, C, dx, _, rfl, hp2, T.cl, T.n_uw, by show 1 < 1000; decide, ?_⟩
  generalize hH2 : upd (upd H1 lu (.lst uw)) p (.ins C dx (putF "use_weights" (.ref lu) (putF "trial_weights" (.ref lt) []))) = H2
  have k2 : ∀ b o, H b = some o → b ≠ p → H2 b = some o := fun b o e n => by
    subst hH2
    rw [upd_ne n]
    exact up_eq (k1 b o e n) nlu
  have q2 : H2 p = some (.ins C dx (putF "use_weights" (.ref lu) (putF "trial_weights" (.ref lt) []))) := by subst hH2; exact upd_same
  have l2 : H2 lt = some (.lst tw) := by
    subst hH2
    rw [upd_ne ltp]
    exact up_eq l1 nlu
  have lup : lu ≠ p := fun z => by subst z; rw [nlu] at q1; cases q1
  have u2 : H2 lu = some (.lst uw) := by
    subst hH2
    rw [upd_ne lup]
    exact upd_same
  -- self.prior = prior
  refine b_cons (s_fld (e_var 3 rfl rfl (e_var 0 rfl rfl ⟨p, C, dx, _, rfl, q2, T.cl, T.n_pr, by show 2 < 1000; decide, ?_⟩)))
  refine b_cons (s_fld (e_var 4 rfl rfl (e_var 0 rfl rfl ⟨p, C, dx, _, rfl, upd_same, T.cl, T.n_st, by show 3 < 1000; decide, ?_⟩)))
  refine b_cons (s_fld (e_var 5 rfl rfl (e_var 0 rfl rfl ⟨p, C, dx, _, rfl, upd_same, T.cl, T.n_pc, by show 4 < 1000; decide, ?_⟩)))
  refine b_nil ?_
  refine k _ lt lu (fun b o e n => ?_) (upd_same.trans (congrArg (fun q => some (HO.ins C dx q)) sF_new)) ?_ ?_
  · rw [upd_ne n, upd_ne n, upd_ne n]
    exact k2 b o e n
  · rw [upd_ne ltp, upd_ne ltp, upd_ne ltp]
    exact l2
  · rw [upd_ne lup, upd_ne lup, upd_ne lup]
    exact u2
end
section
variable {X : Cx} {C : Addr} {e : Expr} {es : List Expr} {σ : L2.St} {H : Hp} {Q : VK} {p pos : Pos} {j : Nat}
/-- Setting(..) -/
theorem e_setting (T : Txt X.K X.mg C) (hr : Room j X.A) (hj : 2 ≤ j)
    (h : Av X (e :: es) σ H fun vs H1 => ∃ lt0 lu0 tp ts tq s, vs = [.ref lt0, .ref lu0, .ref tp, .ref ts, .ref tq] ∧ H1 lt0 = some (.lst (nv s.model.testWeights)) ∧ H1 lu0 = some (.lst (nv s.model.productionWeights)) ∧
      H1 tp = some (.tup [.int (s.model.priorNum : Int), .int (s.model.priorDen : Int)]) ∧ H1 ts = some (.tup [.int (s.gain : Int), .int (s.loss : Int)]) ∧ H1 tq = some (.tup [.int (s.harmPrice : Int), .int (s.testPrice : Int)]) ∧
      ∀ a H2, Same H1 H2 → SetA C H2 a s → Q (.ref a) H2) (hg : Gl X "Setting" := by rfl)
    (he : starEach (e :: es) X.env = (false, eval e X.env) :: starEach es X.env := by rfl) (hpl : (backTo pos (starEach es X.env)).any (·.1) = false := by rfl) :
    Ev X (.Call (.Name "Setting" p) (e :: es) [] pos) σ H Q := by
  obtain ⟨fI, fd, F, M, b⟩ := T.ini
  refine Ev.of (pe_make M (ok_init (P := X.prog) (w := X.w) (base := X.base) T F) (hr.mono hj) hg T.gC b .nil L2.pass0 pa_sem (by decide) he hpl) ?_
  refine fun pos pins s I => thn (h pos pins s I) fun us s' q => ?_
  obtain ⟨vs, H1, I1, rv, lt0, lu0, tp, ts, tq, st, rfl, h1, h2, h3, h4, h5, k⟩ := q
  refine ⟨_, H1, I1, rv, fun x dx nx nd ne => ?_⟩
  have up : ∀ {b o}, H1 b = some o → (upd (upd H1 dx (.own x)) x (.ins C dx [])) b = some o := fun e => by
    rw [upd_ne (ne_of_none e nx)]
    exact up_eq e nd
  refine ⟨x, dx, lt0, lu0, tp, ts, tq, _, _, rfl, upd_same, up h1, up h2, fun H' lt lu kp ho hl hu => ⟨rfl, ?_⟩⟩
  have sm : Same H1 H' := fun b o e => kp b o (up e) (ne_of_none e nx)
  exact k x H' sm ⟨dx, lt, lu, tp, ts, tq, ho, hl, hu, sm _ _ h3, sm _ _ h4, sm _ _ h5⟩
end
section
variable {P : Program} {w : World} {K : PySem.W.Frag} {mg : Str → Option Value} {base : Heap} {C : Addr}
theorem ok_signal_count (T : Txt K mg C) : Ca P w K mg base 1 "signal_count" ["setting"] (sp1 C fun s v _ => v = .int (s.model.testWeights.length : Int)) := by
  refine ca_of T.d_signal_count sc_signal_count sp1_len fun f cdv A outer s0 H vs Q E hr h => ?_
  obtain ⟨a, s, rfl, ⟨dx, lt, lu, tp, ts, tq, S⟩, G, k⟩ := h
  refine b_one (s_ret (e_blt call_len_seq T.b_len (a_cons (f_tw T S 0 rfl rfl (a_nil ⟨lt, _, rfl, .inl (SqL.of S.tw), ?_⟩)))))
  rw [nv_len]
  exact k _ _ (Same.refl _) rfl
/-- fresh(many) -/
def spFresh (C : Addr) : Sp := fun vs H Q _ => ∃ n : Nat, vs = [.int (n : Int)] ∧ n ≤ 5 ∧ Rt H Q fun v H' => ∃ a, v = .ref a ∧ SetA C H' a ⟨⟨List.replicate n 1, List.replicate n 1, 1, 2⟩, 1, 1, 1, 1⟩
theorem rep_flat (v : V) : ∀ n : Nat, (List.replicate n [v]).flatten = List.replicate n v
  | 0 => rfl
  | n + 1 => by
    rw [List.replicate_succ, List.flatten_cons, rep_flat v n, List.replicate_succ]
    rfl
theorem rep_nv (n m : Nat) : (List.replicate ((n : Int)).toNat [V.int (m : Int)]).flatten = nv (List.replicate n m) := by
  unfold nv iv ni
  rw [List.map_replicate, List.map_replicate, Int.toNat_natCast, rep_flat]
theorem ok_fresh (T : Txt K mg C) : Ca P w K mg base 3 "fresh" ["many"] (spFresh C) := by
  refine ca_of T.d_fresh sc_fresh (by rintro vs H Q E ⟨a, rfl, _⟩; rfl) fun f cdv A outer s0 H vs Q E hr h => ?_
  obtain ⟨n, rfl, hn, k⟩ := h
  refine b_one (s_ret (e_setting T hr (by decide) (a_cons (e_op op_rep (e_lst (a_cons (e_int (a_nil ⟨by show 1 ≤ sizeLine; decide, fun l1 n1 => ?_⟩))))))))
  refine e_var 0 rfl rfl ⟨l1, _, _, rfl, rfl, upd_same, by omega, by omega, by show 1 * (n : Int).toNat ≤ sizeLine; exact small (by omega), fun p1 m1 => ?_⟩
  refine a_cons (e_op op_rep (e_lst (a_cons (e_int (a_nil ⟨by show 1 ≤ sizeLine; decide, fun l2 n2 => ?_⟩)))))
  refine e_var 0 rfl rfl ⟨l2, _, _, rfl, rfl, upd_same, by omega, by omega, by show 1 * (n : Int).toNat ≤ sizeLine; exact small (by omega), fun p2 m2 => ?_⟩
  refine a_cons (e_tup (a_cons (e_int (a_cons (e_int (a_nil ⟨by show 2 ≤ sizeLine; decide, fun t1 u1 => ?_⟩))))))
  refine a_cons (e_tup (a_cons (e_int (a_cons (e_int (a_nil ⟨by show 2 ≤ sizeLine; decide, fun t2 u2 => ?_⟩))))))
  refine a_cons (e_tup (a_cons (e_int (a_cons (e_int (a_nil ⟨by show 2 ≤ sizeLine; decide, fun t3 u3 => ?_⟩))))))
  refine a_nil ⟨p1, p2, t1, t2, t3, ⟨⟨List.replicate n 1, List.replicate n 1, 1, 2⟩, 1, 1, 1, 1⟩, rfl, ?_, ?_, ?_, ?_, ?_, fun a H2 e2 hs => ?_⟩
  · rw [up_eq (up_eq (up_eq (up_eq (up_eq upd_same n2) m2) u1) u2) u3]
    exact congrArg (fun z => some (HO.lst z)) (rep_nv n 1)
  · rw [up_eq (up_eq (up_eq upd_same u1) u2) u3]
    exact congrArg (fun z => some (HO.lst z)) (rep_nv n 1)
  · exact up_eq (up_eq upd_same u2) u3
  · exact up_eq upd_same u3
  · exact upd_same
  · exact k _ _ (((((((same_new n1).trans (same_new m1)).trans (same_new n2)).trans (same_new m2)).trans (same_new u1)).trans (same_new u2)).trans (same_new u3) |>.trans e2) ⟨a, rfl, hs⟩
/-- with_weights(setting, trial_weights, use_weights) -/
def spWW (C : Addr) : Sp := fun vs H Q _ => ∃ a s l1 l2 tw uw, vs = [.ref a, .ref l1, .ref l2] ∧ SetA C H a s ∧ H l1 = some (.lst (nv tw)) ∧ H l2 = some (.lst (nv uw)) ∧
  Rt H Q fun v H' => ∃ b, v = .ref b ∧ SetA C H' b { s with model := { s.model with testWeights := tw, productionWeights := uw } }
theorem ok_with_weights (T : Txt K mg C) : Ca P w K mg base 3 "with_weights" ["setting", "trial_weights", "use_weights"] (spWW C) := by
  refine ca_of T.d_with_weights sc_with_weights (by rintro vs H Q E ⟨a, s, l1, l2, tw, uw, rfl, _⟩; rfl) fun f cdv A outer s0 H vs Q E hr h => ?_
  obtain ⟨a, s, l1, l2, tw, uw, rfl, ⟨dx, lt, lu, tp, ts, tq, S⟩, h1, h2, k⟩ := h
  refine b_one (s_ret (e_setting T hr (by decide) (a_cons (e_var 1 rfl rfl (a_cons (e_var 2 rfl rfl (a_cons (f_pr T S 0 rfl rfl (a_cons (f_st T S 0 rfl rfl (a_cons (f_pc T S 0 rfl rfl (a_nil ?_)))))))))))))
  exact ⟨l1, l2, tp, ts, tq, { s with model := { s.model with testWeights := tw, productionWeights := uw } }, rfl, h1, h2, S.pr, S.st, S.pc, fun b H2 e hs => k _ _ e ⟨b, rfl, hs⟩⟩
/-- with_prior(setting, prior) -/
def spWP (C : Addr) : Sp := fun vs H Q _ => ∃ a s t, ∃ n d : Nat, vs = [.ref a, .ref t] ∧ SetA C H a s ∧ H t = some (.tup [.int (n : Int), .int (d : Int)]) ∧
  Rt H Q fun v H' => ∃ b, v = .ref b ∧ SetA C H' b { s with model := { s.model with priorNum := n, priorDen := d } }
theorem ok_with_prior (T : Txt K mg C) : Ca P w K mg base 3 "with_prior" ["setting", "prior"] (spWP C) := by
  refine ca_of T.d_with_prior sc_with_prior (by rintro vs H Q E ⟨a, s, t, n, d, rfl, _⟩; rfl) fun f cdv A outer s0 H vs Q E hr h => ?_
  obtain ⟨a, s, t, n, d, rfl, ⟨dx, lt, lu, tp, ts, tq, S⟩, h1, k⟩ := h
  refine b_one (s_ret (e_setting T hr (by decide) (a_cons (f_tw T S 0 rfl rfl (a_cons (f_uw T S 0 rfl rfl (a_cons (e_var 1 rfl rfl (a_cons (f_st T S 0 rfl rfl (a_cons (f_pc T S 0 rfl rfl (a_nil ?_)))))))))))))
  exact ⟨lt, lu, t, ts, tq, { s with model := { s.model with priorNum := n, priorDen := d } }, rfl, S.tw, S.uw, h1, S.st, S.pc, fun b H2 e hs => k _ _ e ⟨b, rfl, hs⟩⟩
/-- with_stakes(setting, stakes) -/
def spWS (C : Addr) : Sp := fun vs H Q _ => ∃ a s t, ∃ n d : Nat, vs = [.ref a, .ref t] ∧ SetA C H a s ∧ H t = some (.tup [.int (n : Int), .int (d : Int)]) ∧
  Rt H Q fun v H' => ∃ b, v = .ref b ∧ SetA C H' b { s with gain := n, loss := d }
theorem ok_with_stakes (T : Txt K mg C) : Ca P w K mg base 3 "with_stakes" ["setting", "stakes"] (spWS C) := by
  refine ca_of T.d_with_stakes sc_with_stakes (by rintro vs H Q E ⟨a, s, t, n, d, rfl, _⟩; rfl) fun f cdv A outer s0 H vs Q E hr h => ?_
  obtain ⟨a, s, t, n, d, rfl, ⟨dx, lt, lu, tp, ts, tq, S⟩, h1, k⟩ := h
  refine b_one (s_ret (e_setting T hr (by decide) (a_cons (f_tw T S 0 rfl rfl (a_cons (f_uw T S 0 rfl rfl (a_cons (f_pr T S 0 rfl rfl (a_cons (e_var 1 rfl rfl (a_cons (f_pc T S 0 rfl rfl (a_nil ?_)))))))))))))
  exact ⟨lt, lu, tp, t, tq, { s with gain := n, loss := d }, rfl, S.tw, S.uw, S.pr, h1, S.pc, fun b H2 e hs => k _ _ e ⟨b, rfl, hs⟩⟩
/-- with_prices(setting, prices) -/
def spWC (C : Addr) : Sp := fun vs H Q _ => ∃ a s t, ∃ n d : Nat, vs = [.ref a, .ref t] ∧ SetA C H a s ∧ H t = some (.tup [.int (n : Int), .int (d : Int)]) ∧
  Rt H Q fun v H' => ∃ b, v = .ref b ∧ SetA C H' b { s with harmPrice := n, testPrice := d }
theorem ok_with_prices (T : Txt K mg C) : Ca P w K mg base 3 "with_prices" ["setting", "prices"] (spWC C) := by
  refine ca_of T.d_with_prices sc_with_prices (by rintro vs H Q E ⟨a, s, t, n, d, rfl, _⟩; rfl) fun f cdv A outer s0 H vs Q E hr h => ?_
  obtain ⟨a, s, t, n, d, rfl, ⟨dx, lt, lu, tp, ts, tq, S⟩, h1, k⟩ := h
  refine b_one (s_ret (e_setting T hr (by decide) (a_cons (f_tw T S 0 rfl rfl (a_cons (f_uw T S 0 rfl rfl (a_cons (f_pr T S 0 rfl rfl (a_cons (f_st T S 0 rfl rfl (a_cons (e_var 1 rfl rfl (a_nil ?_)))))))))))))
  exact ⟨lt, lu, tp, ts, t, { s with harmPrice := n, testPrice := d }, rfl, S.tw, S.uw, S.pr, S.st, h1, fun b H2 e hs => k _ _ e ⟨b, rfl, hs⟩⟩
end
end Det
/-! worth.py -/
namespace Det
open PySem PySem.Spec PyProof.Rows L2
theorem Good.uge {s : Stg} (G : Good s) (i : Nat) : s.model.productionWeights.getD i 0 ≤ 495 := Nat.le_trans (getD_le_sum _ _) G.ule
theorem Good.tge {s : Stg} (G : Good s) (i : Nat) : s.model.testWeights.getD i 0 ≤ 495 := Nat.le_trans (getD_le_sum _ _) G.tle
section
variable {P : Program} {w : World} {K : PySem.W.Frag} {mg : Str → Option Value} {base : Heap} {C : Addr}
theorem ok_value_top (T : Txt K mg C) : Ca P w K mg base 1 "value_top" ["setting", "signal"] (sp2 C fun s i v _ => v = .int (valueTop s i)) := by
  refine ca_of T.d_value_top sc_value_top sp2_len fun f cdv A outer s0 H vs Q E hr h => ?_
  obtain ⟨a, s, i, rfl, ⟨dx, lt, lu, tp, ts, tq, S⟩, G, hi, k⟩ := h
  have b1 := G.denle
  have b2 := G.num
  have b3 := G.tle
  have b4 := G.ule
  have b5 := G.uge i
  have b6 := G.tge i
  have hiu : i < s.model.productionWeights.length := by rw [G.len]; exact hi
  refine b_cons (s_unp (i := 4) (j := 5) sc_value_top.nd rfl rfl (f_pr T S 0 rfl rfl ⟨tp, _, _, rfl, S.pr, ?_⟩))
  refine b_cons (s_unp (i := 6) (j := 7) sc_value_top.nd rfl rfl (f_st T S 0 rfl rfl ⟨ts, _, _, rfl, S.st, ?_⟩))
  refine b_cons (s_set (i := 2) sc_value_top.nd rfl (e_op op_mul (e_op op_mul (e_op op_mul (e_var 6 rfl rfl (e_op op_sub (e_var 5 rfl rfl (e_var 4 rfl rfl ?_))))))))
  refine ⟨_, _, rfl, rfl, _, _, rfl, rfl, .inr ⟨by omega, by omega⟩, e_ix ix_list (f_uw T S 0 rfl rfl (e_var 1 rfl rfl ?_))⟩
  refine ⟨lu, _, _, _, rfl, rfl, SqL.of S.uw, atI_nat (nv_getD hiu), _, _, rfl, rfl, .inr ⟨by omega, by omega⟩, e_blt (cr_sum rfl) T.b_sum (a_cons (f_tw T S 0 rfl rfl (a_nil ?_)))⟩
  refine ⟨lt, ni _, rfl, SqL.of S.tw, _, _, rfl, rfl, .inr ⟨by rw [ni_sum]; omega, by rw [ni_sum]; omega⟩, ?_⟩
  refine b_cons (s_set (i := 3) sc_value_top.nd rfl (e_op op_mul (e_op op_mul (e_op op_mul (e_var 7 rfl rfl (e_var 4 rfl rfl ?_))))))
  refine ⟨_, _, rfl, rfl, .inr ⟨by omega, by omega⟩, e_ix ix_list (f_tw T S 0 rfl rfl (e_var 1 rfl rfl ?_))⟩
  refine ⟨lt, _, _, _, rfl, rfl, SqL.of S.tw, atI_nat (nv_getD hi), _, _, rfl, rfl, .inr ⟨by omega, by omega⟩, e_blt (cr_sum rfl) T.b_sum (a_cons (f_uw T S 0 rfl rfl (a_nil ?_)))⟩
  refine ⟨lu, ni _, rfl, SqL.of S.uw, _, _, rfl, rfl, .inr ⟨by rw [ni_sum]; omega, by rw [ni_sum]; omega⟩, ?_⟩
  refine b_one (s_ret (e_op op_sub (e_var 2 rfl rfl (e_var 3 rfl rfl ⟨_, _, rfl, rfl, ?_⟩))))
  refine k _ _ (Same.refl _) ?_
  rw [ni_sum, ni_sum]
  rfl
theorem ok_value_bottom (T : Txt K mg C) : Ca P w K mg base 1 "value_bottom" ["setting"] (sp1 C fun s v _ => v = .int (valueBot s)) := by
  refine ca_of T.d_value_bottom sc_value_bottom sp1_len fun f cdv A outer s0 H vs Q E hr h => ?_
  obtain ⟨a, s, rfl, ⟨dx, lt, lu, tp, ts, tq, S⟩, G, k⟩ := h
  have b3 := G.tle
  have b4 := G.ule
  refine b_one (s_ret (e_op op_mul (e_op op_mul (e_ix ix_tup (f_pr T S 0 rfl rfl (e_int ?_))))))
  refine ⟨tp, _, _, _, rfl, rfl, SqT.of S.pr, at1, e_blt (cr_sum rfl) T.b_sum (a_cons (f_tw T S 0 rfl rfl (a_nil ?_)))⟩
  refine ⟨lt, ni _, rfl, SqL.of S.tw, _, _, rfl, rfl, .inr ⟨by rw [ni_sum]; omega, by rw [ni_sum]; omega⟩, e_blt (cr_sum rfl) T.b_sum (a_cons (f_uw T S 0 rfl rfl (a_nil ?_)))⟩
  refine ⟨lu, ni _, rfl, SqL.of S.uw, _, _, rfl, rfl, .inr ⟨by rw [ni_sum]; omega, by rw [ni_sum]; omega⟩, ?_⟩
  refine k _ _ (Same.refl _) ?_
  rw [ni_sum, ni_sum]
  rfl
theorem cs_eq {s : Stg} (G : Good s) : Kp416.cheatingSignals s = (List.range s.model.testWeights.length).filter fun i => decide (0 < valueTop s i) := by
  unfold Kp416.cheatingSignals Kp415.signalCount
  congr 1
  funext i
  exact pays_eq G i
theorem cs_lt {s : Stg} : ∀ i ∈ Kp416.cheatingSignals s, i < s.model.testWeights.length := fun i hi => by
  unfold Kp416.cheatingSignals Kp415.signalCount at hi
  exact List.mem_range.mp (List.mem_filter.mp hi).1
theorem ok_paying_signals (T : Txt K mg C) : Ca P w K mg base 2 "paying_signals" ["setting"] (sp1 C fun s v H' => LsN H' v (Kp416.cheatingSignals s)) := by
  have c1 := ok_value_top (P := P) (w := w) (base := base) T
  have c2 := ok_signal_count (P := P) (w := w) (base := base) T
  refine ca_of T.d_paying_signals sc_paying_signals sp1_len fun f cdv A outer s0 H vs Q E hr h => ?_
  obtain ⟨a, s, rfl, hS, G, k⟩ := h
  refine b_one (s_ret (e_lcf (k := 1) T.b_range sc_paying_signals.nd (blkOk_by (N := ["setting", "signal"]) (sc := defScope s_paying_signals) (by decide +kernel)) (fun _ _ _ _ _ => pg_name sc_paying_signals.nd rfl (Or.inl rfl)) (fun i => decide (0 < valueTop s i)) ?_))
  refine e_call c2 hr (by decide) (a_cons (e_var 0 rfl rfl (a_nil ⟨a, s, rfl, hS, G, fun v H1 e1 ev => ⟨s.model.testWeights.length, ev, by have := G.n5; omega, fun i H2 hi e2 => ?_, fun i H2 s9 H9 C9 cl fp => ?_, fun l H2 nl e2 hl => ?_⟩⟩)))
  · intro s9 H9 C9 cl fp
    refine t_cmp op_gt (e_call c1 hr (by decide) (a_cons (e_var 0 rfl rfl (a_cons (e_var 1 rfl rfl (a_nil ⟨a, s, i, rfl, hS.mono (e1.trans e2), G, hi, fun z H3 e3 ez => ?_⟩))))))
    subst ez
    exact e_int ⟨_, _, rfl, rfl, _, rfl, e3, rfl⟩
  · exact e_var 1 rfl rfl ⟨rfl, rfl⟩
  · exact k _ _ (e1.trans e2) ⟨l, rfl, by rw [cs_eq G]; exact hl⟩
theorem vb_lt {s : Stg} (G : Good s) : (valueBot s).natAbs < 2 ^ 200 := by
  have h := mul_le3 G.denle G.tle G.ule
  have e : valueBot s = ((s.model.priorDen * s.model.testWeights.sum * s.model.productionWeights.sum : Nat) : Int) := by
    unfold valueBot
    rw [Int.natCast_mul, Int.natCast_mul]
  rw [e, Int.natAbs_natCast]
  exact Nat.lt_of_le_of_lt h (by decide)
/-- a function of a number, on values -/
def gI (f : Nat → Int) : V → V
  | .int z => .int (f z.toNat)
  | v => v
theorem gI_map (f : Nat → Int) : ∀ l : List Nat, (nv l).map (gI f) = iv (l.map f)
  | [] => rfl
  | a :: l => by
    have ih := gI_map f l
    show gI f (.int (a : Int)) :: (nv l).map (gI f) = _
    rw [ih]
    show V.int (f ((a : Int)).toNat) :: _ = _
    rw [Int.toNat_natCast]
    rfl
theorem ok_profit_of (T : Txt K mg C) : Ca P w K mg base 3 "profit_of" ["setting", "signals"] (sp3 C fun s is v H' => Fr H' v (Kp416.sumOver (Kp416.cheatingValue s) is)) := by
  have c1 := ok_value_top (P := P) (w := w) (base := base) T
  have c2 := ok_value_bottom (P := P) (w := w) (base := base) T
  have c3 := ok_reduced (P := P) (w := w) (base := base) T
  refine ca_of T.d_profit_of sc_profit_of sp3_len fun f cdv A outer s0 H vs Q E hr h => ?_
  obtain ⟨a, s, l, is, rfl, hS, G, hl, his, hn, k⟩ := h
  refine b_one (s_ret (e_call c3 hr (by decide) (a_cons (e_blt (cr_sum rfl) T.b_sum (a_cons (e_lcl (k := 2) sc_profit_of.nd (blkOk_by (N := ["setting", "signals", "signal"]) (sc := defScope s_profit_of) (by decide +kernel)) (fun _ _ _ _ _ => pg_name sc_profit_of.nd rfl (Or.inl rfl)) (e_var 1 rfl rfl ?_)))))))
  refine ⟨l, _, rfl, SqL.of hl, by rw [nv_len]; omega, gI (valueTop s), fun i y H2 hy e2 => ?_, fun l2 H2 nl e2 hl2 => ?_⟩
  · intro s9 H9 C9 cl fp
    obtain ⟨z, hz, rfl⟩ := nv_of hy
    refine e_call c1 hr (by decide) (a_cons (e_var 0 rfl rfl (a_cons (e_var 2 rfl rfl (a_nil ⟨a, s, z, rfl, hS.mono e2, G, his z (List.mem_of_getElem? hz), fun u H3 e3 eu => ⟨e3, ?_⟩⟩)))))
    subst eu
    show _ = V.int (valueTop s ((z : Int)).toNat)
    rw [Int.toNat_natCast]
  · rw [gI_map] at hl2
    refine a_nil ⟨l2, is.map (valueTop s), rfl, SqL.of hl2, a_cons (e_call c2 hr (by decide) (a_cons (e_var 0 rfl rfl (a_nil ⟨a, s, rfl, hS.mono e2, G, fun u H3 e3 eu => ?_⟩))))⟩
    subst eu
    refine a_nil ⟨_, _, rfl, G.vb, vb_lt G, fun v H4 e4 hv => k _ _ (e2.trans (e3.trans e4)) ?_⟩
    show Fr H4 v (Kp416.sumOver (Kp416.cheatingValue s) is)
    rw [profit_eq G]
    exact hv
/-- weight_of(weights, signals) -/
def spWo : Sp := fun vs H Q _ => ∃ a l wl is, vs = [.ref a, .ref l] ∧ H a = some (.lst (nv wl)) ∧ H l = some (.lst (nv is)) ∧ (∀ i ∈ is, i < wl.length) ∧ is.length ≤ 5 ∧ Rt H Q fun v _ => v = .int (sumW is wl)
theorem ok_weight_of (T : Txt K mg C) : Ca P w K mg base 1 "weight_of" ["weights", "signals"] spWo := by
  refine ca_of T.d_weight_of sc_weight_of (by rintro vs H Q E ⟨a, l, wl, is, rfl, _⟩; rfl) fun f cdv A outer s0 H vs Q E hr h => ?_
  obtain ⟨a, l, wl, is, rfl, ha, hl, his, hn, k⟩ := h
  refine b_one (s_ret (e_blt (cr_sum rfl) T.b_sum (a_cons (e_lcl (k := 2) sc_weight_of.nd (blkOk_by (N := ["weights", "signals", "signal"]) (sc := defScope s_weight_of) (by decide +kernel)) (fun _ _ _ _ _ => pg_name sc_weight_of.nd rfl (Or.inl rfl)) (e_var 1 rfl rfl ?_)))))
  refine ⟨l, _, rfl, SqL.of hl, by rw [nv_len]; omega, gI (fun i => ((wl.getD i 0 : Nat) : Int)), fun i y H2 hy e2 => ?_, fun l2 H2 nl e2 hl2 => ?_⟩
  · intro s9 H9 C9 cl fp
    obtain ⟨z, hz, rfl⟩ := nv_of hy
    refine e_ix ix_list (e_var 0 rfl rfl (e_var 2 rfl rfl ⟨a, _, _, _, rfl, rfl, SqL.of (e2 _ _ ha), atI_nat (nv_getD (his z (List.mem_of_getElem? hz))), Same.refl _, ?_⟩))
    show _ = V.int ((wl.getD ((z : Int)).toNat 0 : Nat) : Int)
    rw [Int.toNat_natCast]
  · rw [gI_map] at hl2
    exact a_nil ⟨l2, _, rfl, SqL.of hl2, k _ _ e2 rfl⟩
theorem den_w {a b : Nat} (ha : a ≤ 1000000000) (hb : b ≤ 495) : ((a : Int) * (b : Int)).natAbs < 2 ^ 200 := by
  rw [Int.natAbs_mul, Int.natAbs_natCast, Int.natAbs_natCast]
  exact Nat.lt_of_le_of_lt (Nat.mul_le_mul ha hb) (by decide)
theorem ok_detection_of (T : Txt K mg C) : Ca P w K mg base 3 "detection_of" ["setting"] (sp1 C fun s v H' => Fr H' v (Kp416.detectionProbability s)) := by
  have c1 := ok_paying_signals (P := P) (w := w) (base := base) T
  have c2 := ok_weight_of (P := P) (w := w) (base := base) T
  have c3 := ok_reduced (P := P) (w := w) (base := base) T
  refine ca_of T.d_detection_of sc_detection_of sp1_len fun f cdv A outer s0 H vs Q E hr h => ?_
  obtain ⟨a, s, rfl, ⟨dx, lt, lu, tp, ts, tq, S⟩, G, k⟩ := h
  have b1 := G.denle
  have b2 := G.num
  have b3 := G.tle
  refine b_cons (s_unp (i := 2) (j := 3) sc_detection_of.nd rfl rfl (f_pr T S 0 rfl rfl ⟨tp, _, _, rfl, S.pr, ?_⟩))
  refine b_cons (s_set (i := 1) sc_detection_of.nd rfl (e_call c2 hr (by decide) (a_cons (f_tw T S 0 rfl rfl (a_cons (e_call c1 hr (by decide) (a_cons (e_var 0 rfl rfl (a_nil ⟨a, s, rfl, S.a, G, ?_⟩)))))))))
  rintro _ H1 e1 ⟨l, rfl, hl⟩
  refine a_nil ⟨lt, l, _, _, rfl, e1 _ _ S.tw, hl, cs_lt, cs_len G, fun v H2 e2 ev => ?_⟩
  subst ev
  refine b_one (s_ret (e_call c3 hr (by decide) (a_cons (e_op op_mul (e_var 2 rfl rfl (e_var 1 rfl rfl ⟨_, _, rfl, rfl, .inl ⟨by omega, by omega⟩, ?_⟩))))))
  refine a_cons (e_op op_mul (e_var 3 rfl rfl (e_blt (cr_sum rfl) T.b_sum (a_cons (f_tw T ((S.mono e1).mono e2) 0 rfl rfl (a_nil ?_))))))
  refine ⟨lt, ni _, rfl, SqL.of ((S.mono e1).mono e2).tw, _, _, rfl, rfl, .inl ⟨by omega, by omega⟩, a_nil ⟨_, _, rfl, ?_, ?_, fun v H3 e3 hv => k _ _ (e1.trans (e2.trans e3)) ?_⟩⟩
  · rw [ni_sum]
    exact Int.mul_pos G.bp G.tp
  · rw [ni_sum]
    exact den_w b1 b3
  · rw [ni_sum] at hv
    rw [detection_eq G]
    exact hv
theorem ok_harm_of (T : Txt K mg C) : Ca P w K mg base 3 "harm_of" ["setting"] (sp1 C fun s v H' => Fr H' v (Kp416.harmProbability s)) := by
  have c1 := ok_paying_signals (P := P) (w := w) (base := base) T
  have c2 := ok_weight_of (P := P) (w := w) (base := base) T
  have c3 := ok_reduced (P := P) (w := w) (base := base) T
  refine ca_of T.d_harm_of sc_harm_of sp1_len fun f cdv A outer s0 H vs Q E hr h => ?_
  obtain ⟨a, s, rfl, ⟨dx, lt, lu, tp, ts, tq, S⟩, G, k⟩ := h
  have b1 := G.denle
  have b2 := G.num
  have b3 := G.ule
  refine b_cons (s_unp (i := 2) (j := 3) sc_harm_of.nd rfl rfl (f_pr T S 0 rfl rfl ⟨tp, _, _, rfl, S.pr, ?_⟩))
  refine b_cons (s_set (i := 1) sc_harm_of.nd rfl (e_call c2 hr (by decide) (a_cons (f_uw T S 0 rfl rfl (a_cons (e_call c1 hr (by decide) (a_cons (e_var 0 rfl rfl (a_nil ⟨a, s, rfl, S.a, G, ?_⟩)))))))))
  rintro _ H1 e1 ⟨l, rfl, hl⟩
  refine a_nil ⟨lu, l, _, _, rfl, e1 _ _ S.uw, hl, fun i hi => by rw [G.len]; exact cs_lt i hi, cs_len G, fun v H2 e2 ev => ?_⟩
  subst ev
  refine b_one (s_ret (e_call c3 hr (by decide) (a_cons (e_op op_mul (e_op op_sub (e_var 3 rfl rfl (e_var 2 rfl rfl ⟨_, _, rfl, rfl, e_var 1 rfl rfl ⟨_, _, rfl, rfl, .inl ⟨by omega, by omega⟩, ?_⟩⟩)))))))
  refine a_cons (e_op op_mul (e_var 3 rfl rfl (e_blt (cr_sum rfl) T.b_sum (a_cons (f_uw T ((S.mono e1).mono e2) 0 rfl rfl (a_nil ?_))))))
  refine ⟨lu, ni _, rfl, SqL.of ((S.mono e1).mono e2).uw, _, _, rfl, rfl, .inl ⟨by omega, by omega⟩, a_nil ⟨_, _, rfl, ?_, ?_, fun v H3 e3 hv => k _ _ (e1.trans (e2.trans e3)) ?_⟩⟩
  · rw [ni_sum]
    exact Int.mul_pos G.bp G.up
  · rw [ni_sum]
    exact den_w b1 b3
  · rw [ni_sum] at hv
    rw [harm_eq G]
    exact hv
end
end Det
/-! the total cost; deterring.py -/
namespace Det
open PySem PySem.Spec PyProof.Rows L2
theorem sumW_le (wl : List Nat) (h : ∀ i, wl.getD i 0 ≤ 495) : ∀ is : List Nat, 0 ≤ sumW is wl ∧ sumW is wl ≤ 495 * is.length
  | [] => by
    unfold sumW
    simp
  | i :: is => by
    have ih := sumW_le wl h is
    have h1 := h i
    unfold sumW at ih ⊢
    rw [List.map_cons, List.sum_cons, List.length_cons]
    omega
theorem harm_bd {s : Stg} (G : Good s) : 0 ≤ (Kp416.harmProbability s).num ∧ (Kp416.harmProbability s).num ≤ 2475000000000 ∧ ((Kp416.harmProbability s).den : Int) ≤ 495000000000 := by
  have h1 := sumW_le s.model.productionWeights (fun i => G.uge i) (Kp416.cheatingSignals s)
  have h2 := cs_len G
  have b1 := G.denle
  have b2 := G.num
  have b3 := G.ule
  rw [harm_eq G]
  have hB : Bot s * Su s ≤ 1000000000 * 495 := by
    have := Nat.mul_le_mul b1 b3
    have e : Bot s * Su s = ((s.model.priorDen * s.model.productionWeights.sum : Nat) : Int) := by rw [Int.natCast_mul]
    omega
  generalize sumW (Kp416.cheatingSignals s) s.model.productionWeights = z at *
  obtain ⟨m, rfl⟩ := Int.eq_ofNat_of_zero_le h1.1
  have hA : (Bot s - Top s) * (m : Int) ≤ 1000000000 * 2475 := by
    have e : (Bot s - Top s) = ((s.model.priorDen - s.model.priorNum : Nat) : Int) := by
      show (s.model.priorDen : Int) - (s.model.priorNum : Int) = _
      omega
    rw [e, ← Int.natCast_mul]
    have := Nat.mul_le_mul (show s.model.priorDen - s.model.priorNum ≤ 1000000000 by omega) (show m ≤ 2475 by omega)
    omega
  have hA0 : 0 ≤ (Bot s - Top s) * (m : Int) := Int.mul_nonneg (by show 0 ≤ (s.model.priorDen : Int) - (s.model.priorNum : Int); omega) (by omega)
  obtain ⟨p1, p2, p3⟩ := fr_le hA0 (Int.mul_pos G.bp G.up)
  omega
theorem cost_in {s : Stg} (G : Good s) : ∃ a b : Nat, Te s * Top s * ((Kp416.harmProbability s).den : Int) + Ha s * (Kp416.harmProbability s).num * Bot s = (a : Int) ∧ Bot s * ((Kp416.harmProbability s).den : Int) = (b : Int) ∧ a < 2 ^ 200 ∧ 0 < b ∧ b < 2 ^ 200 := by
  obtain ⟨h1, h2, h3⟩ := harm_bd G
  have h4 := (Kp416.harmProbability s).den_pos
  generalize (Kp416.harmProbability s).den = d at *
  generalize (Kp416.harmProbability s).num = n at *
  obtain ⟨n, rfl⟩ := Int.eq_ofNat_of_zero_le h1
  have b1 := G.denle
  have b2 := G.num
  refine ⟨s.testPrice * s.model.priorNum * d + s.harmPrice * n * s.model.priorDen, s.model.priorDen * d, by rw [Int.natCast_add, Int.natCast_mul, Int.natCast_mul, Int.natCast_mul, Int.natCast_mul], by rw [Int.natCast_mul], ?_, Nat.mul_pos G.den h4, ?_⟩
  · have q1 := mul_le3 G.te (show s.model.priorNum ≤ 1000000000 by omega) (show d ≤ 495000000000 by omega)
    have q2 := mul_le3 G.ha (show n ≤ 2475000000000 by omega) b1
    exact Nat.lt_of_le_of_lt (Nat.add_le_add q1 q2) (by decide)
  · exact Nat.lt_of_le_of_lt (Nat.mul_le_mul b1 (show d ≤ 495000000000 by omega)) (by decide)
/-- a rational that the comparisons may take -/
def Bd (x : Rat) : Prop := x.num.natAbs < 2 ^ 200 ∧ x.den < 2 ^ 200
theorem cost_bd {s : Stg} (G : Good s) : Bd (Kp416.totalCost s) := by
  obtain ⟨a, b, ea, eb, ha, hb, hbl⟩ := cost_in G
  rw [cost_eq G, ea, eb]
  obtain ⟨p1, p2, p3⟩ := fr_le (show 0 ≤ (a : Int) by omega) (show 0 < (b : Int) by omega)
  generalize fr (a : Int) (b : Int) = x at *
  exact ⟨Nat.lt_of_le_of_lt (by omega) ha, Nat.lt_of_le_of_lt (by omega) hbl⟩
theorem Pr.bd {x : Rat} (p : Pr x) : Bd x := by
  obtain ⟨a, b, c⟩ := p
  exact ⟨Nat.lt_of_le_of_lt (show x.num.natAbs ≤ 1000000000 by omega) (by decide), Nat.lt_of_le_of_lt c (by decide)⟩
section
variable {P : Program} {w : World} {K : PySem.W.Frag} {mg : Str → Option Value} {base : Heap} {C : Addr}
theorem ok_cost_of (T : Txt K mg C) : Ca P w K mg base 4 "cost_of" ["setting"] (sp1 C fun s v H' => Fr H' v (Kp416.totalCost s)) := by
  have c1 := ok_harm_of (P := P) (w := w) (base := base) T
  have c3 := ok_reduced (P := P) (w := w) (base := base) T
  refine ca_of T.d_cost_of sc_cost_of sp1_len fun f cdv A outer s0 H vs Q E hr h => ?_
  obtain ⟨a, s, rfl, ⟨dx, lt, lu, tp, ts, tq, S⟩, G, k⟩ := h
  have b1 := G.denle
  have b2 := G.num
  have b3 := G.te
  have b4 := G.ha
  obtain ⟨h1, h2, h3⟩ := harm_bd G
  obtain ⟨A1, B1, ea, eb, hA1, hB0, hB1⟩ := cost_in G
  refine b_cons (s_unp (i := 1) (j := 2) sc_cost_of.nd rfl rfl (f_pr T S 0 rfl rfl ⟨tp, _, _, rfl, S.pr, ?_⟩))
  refine b_cons (s_unp (i := 3) (j := 4) sc_cost_of.nd rfl rfl (f_pc T S 0 rfl rfl ⟨tq, _, _, rfl, S.pc, ?_⟩))
  refine b_cons (s_unp (i := 5) (j := 6) sc_cost_of.nd rfl rfl (e_call c1 hr (by decide) (a_cons (e_var 0 rfl rfl (a_nil ⟨a, s, rfl, S.a, G, ?_⟩)))))
  rintro _ H1 e1 ⟨t, rfl, ht⟩
  refine ⟨t, _, _, rfl, ht, ?_⟩
  refine b_one (s_ret (e_call c3 hr (by decide) (a_cons (e_op op_add (e_op op_mul (e_op op_mul (e_var 4 rfl rfl (e_var 1 rfl rfl ⟨_, _, rfl, rfl, .inl ⟨by omega, by omega⟩, e_var 6 rfl rfl ?_⟩))))))))
  refine ⟨_, _, rfl, rfl, .inr ⟨by omega, by omega⟩, e_op op_mul (e_op op_mul (e_var 3 rfl rfl (e_var 5 rfl rfl ⟨_, _, rfl, rfl, .inl ⟨by omega, by omega⟩, e_var 2 rfl rfl ?_⟩)))⟩
  refine ⟨_, _, rfl, rfl, .inr ⟨by omega, by omega⟩, _, _, rfl, rfl, a_cons (e_op op_mul (e_var 2 rfl rfl (e_var 6 rfl rfl ⟨_, _, rfl, rfl, .inl ⟨by omega, by omega⟩, ?_⟩)))⟩
  refine a_nil ⟨_, _, rfl, ?_, ?_, fun v H3 e3 hv => k _ _ (e1.trans e3) ?_⟩
  · show 0 < Bot s * ((Kp416.harmProbability s).den : Int)
    rw [eb]
    omega
  · show (Bot s * ((Kp416.harmProbability s).den : Int)).natAbs < 2 ^ 200
    rw [eb, Int.natAbs_natCast]
    exact hB1
  · show Fr H3 v (Kp416.totalCost s)
    rw [cost_eq G]
    exact hv
theorem ok_deterrent_at (T : Txt K mg C) : Ca P w K mg base 3 "deterrent_at" ["setting", "signal"] (sp2 C fun s i v H' => FrO H' v (Kp416.deterrentPriorAt s i)) := by
  have c3 := ok_reduced (P := P) (w := w) (base := base) T
  refine ca_of T.d_deterrent_at sc_deterrent_at sp2_len fun f cdv A outer s0 H vs Q E hr h => ?_
  obtain ⟨a, s, i, rfl, ⟨dx, lt, lu, tp, ts, tq, S⟩, G, hi, k⟩ := h
  have b3 := G.tle
  have b4 := G.ule
  have b5 := G.uge i
  have b6 := G.tge i
  have hiu : i < s.model.productionWeights.length := by rw [G.len]; exact hi
  have dq := deterrent_eq G i
  have w1 := won_nn s i
  have w2 := lost_nn s i
  have w3 := won_le G i
  have w4 := lost_le G i
  refine b_cons (s_unp (i := 4) (j := 5) sc_deterrent_at.nd rfl rfl (f_st T S 0 rfl rfl ⟨ts, _, _, rfl, S.st, ?_⟩))
  refine b_cons (s_set (i := 2) sc_deterrent_at.nd rfl (e_op op_mul (e_op op_mul (e_var 4 rfl rfl (e_ix ix_list (f_uw T S 0 rfl rfl (e_var 1 rfl rfl ?_)))))))
  refine ⟨lu, _, _, _, rfl, rfl, SqL.of S.uw, atI_nat (nv_getD hiu), _, _, rfl, rfl, .inr ⟨by omega, by omega⟩, e_blt (cr_sum rfl) T.b_sum (a_cons (f_tw T S 0 rfl rfl (a_nil ?_)))⟩
  refine ⟨lt, ni _, rfl, SqL.of S.tw, _, _, rfl, rfl, .inr ⟨by rw [ni_sum]; omega, by rw [ni_sum]; omega⟩, ?_⟩
  refine b_cons (s_set (i := 3) sc_deterrent_at.nd rfl (e_op op_mul (e_op op_mul (e_var 5 rfl rfl (e_ix ix_list (f_tw T S 0 rfl rfl (e_var 1 rfl rfl ?_)))))))
  refine ⟨lt, _, _, _, rfl, rfl, SqL.of S.tw, atI_nat (nv_getD hi), _, _, rfl, rfl, .inr ⟨by omega, by omega⟩, e_blt (cr_sum rfl) T.b_sum (a_cons (f_uw T S 0 rfl rfl (a_nil ?_)))⟩
  refine ⟨lu, ni _, rfl, SqL.of S.uw, _, _, rfl, rfl, .inr ⟨by rw [ni_sum]; omega, by rw [ni_sum]; omega⟩, ?_⟩
  rw [ni_sum, ni_sum]
  show Bv _ _ _ ((List.set _ 2 (some (V.int (won s i)))).set 3 (some (V.int (lost s i)))) _
  refine b_cons (s_if (t_cmp op_eq (e_var 2 rfl rfl (e_int ⟨rfl, _, rfl, dec2 (fun c => ?_) fun c => ?_⟩))))
  · refine b_one (s_ret (e_tup (a_cons (e_int (a_cons (e_int (a_nil ⟨by show 2 ≤ sizeLine; decide, fun p hp => k _ _ (same_new hp) ?_⟩)))))))
    show FrO _ _ _
    rw [dq, if_pos (V.int.inj c)]
    exact ⟨p, rfl, upd_same⟩
  refine b_nil ?_
  have c' : ¬ won s i = 0 := fun q => c (congrArg V.int q)
  refine b_cons (s_if (t_cmp op_eq (e_var 3 rfl rfl (e_int ⟨rfl, _, rfl, dec2 (fun d => ?_) fun d => ?_⟩))))
  · refine b_one (s_ret (e_non (k _ _ (Same.refl _) ?_)))
    show FrO _ _ _
    rw [dq, if_neg c', if_pos (V.int.inj d)]
    rfl
  refine b_nil ?_
  have d' : ¬ lost s i = 0 := fun q => d (congrArg V.int q)
  refine b_one (s_ret (e_call c3 hr (by decide) (a_cons (e_var 2 rfl rfl (a_cons (e_op op_add (e_var 2 rfl rfl (e_var 3 rfl rfl ⟨_, _, rfl, rfl, a_nil ⟨_, _, rfl, by omega, ?_, fun v H1 e1 hv => k _ _ e1 ?_⟩⟩))))))))
  · exact Nat.lt_of_le_of_lt (show (won s i + lost s i).natAbs ≤ 1000000000 by omega) (by decide)
  · show FrO _ _ _
    rw [dq, if_neg c', if_neg d']
    exact hv
end
end Det
/-! deterring.py, further -/
namespace Det
open PySem PySem.Spec PyProof.Rows L2
theorem FrO.monoT {H H' : Hp} {v : V} {x : Option Rat} (e : SameT H H') (h : FrO H v x) : FrO H' v x := by
  cases x with
  | none => exact h
  | some x =>
    obtain ⟨p, a, b⟩ := h
    exact ⟨p, a, e _ _ b⟩
/-- a list of the deterrent priors -/
def DetL (H : Hp) (v : V) (s : Stg) : Prop := ∃ l xs, v = .ref l ∧ H l = some (.lst xs) ∧ xs.length = s.model.testWeights.length ∧ ∀ i v, xs[i]? = some v → FrO H v (Kp416.deterrentPriorAt s i)
def frD (x : Rat) : PyData := .tuple [.int x.num, .int ((x.den : Nat) : Int)]
theorem frD_shaped (x : Rat) : SeqAt.shaped (frD x) = true := by rfl
theorem frD_eqv (x y : Rat) : PyData.eqv (frD x) (frD y) = decide (x = y) := by
  have e : PyData.eqv (frD x) (frD y) = ((x.num == y.num) && (((x.den : Nat) : Int) == ((y.den : Nat) : Int) && true)) := by
    unfold frD
    simp only [PyData.eqv, PyData.eqvAll]
  rw [e]
  by_cases h : x = y
  · subst h
    simp
  · rw [decide_eq_false h]
    by_cases h1 : x.num = y.num
    · have h2 : x.den ≠ y.den := fun q => h (Rat.ext h1 q)
      have h3 : (((x.den : Nat) : Int) == ((y.den : Nat) : Int)) = false := beq_eq_false_iff_ne.mpr (fun q => h2 (by omega))
      rw [h3]
      simp
    · rw [beq_eq_false_iff_ne.mpr h1]
      simp
theorem Fr.dp {K : PySem.W.Frag} {H : Hp} {v : V} {x : Rat} (h : Fr H v x) : Dp K H v (frD x) := by
  obtain ⟨p, rfl, hp⟩ := h
  exact .tup (SqT.of hp) (.cons (.int _) (.cons (.int _) .nil))
section
variable {P : Program} {w : World} {K : PySem.W.Frag} {mg : Str → Option Value} {base : Heap} {C : Addr}
theorem ok_all_deterrents (T : Txt K mg C) : Ca P w K mg base 4 "all_deterrents" ["setting"] (sp1 C fun s v H' => DetL H' v s) := by
  have c1 := ok_deterrent_at (P := P) (w := w) (base := base) T
  have c2 := ok_signal_count (P := P) (w := w) (base := base) T
  refine ca_of T.d_all_deterrents sc_all_deterrents sp1_len fun f cdv A outer s0 H vs Q E hr h => ?_
  obtain ⟨a, s, rfl, hS, G, k⟩ := h
  refine b_one (s_ret (e_lcr (k := 1) T.b_range sc_all_deterrents.nd (blkOk_by (N := ["setting", "signal"]) (sc := defScope s_all_deterrents) (by decide +kernel)) (fun _ _ _ _ _ => pg_name sc_all_deterrents.nd rfl (Or.inl rfl)) (fun i v H' => FrO H' v (Kp416.deterrentPriorAt s i)) (fun i v H H' e h => FrO.monoT e h) ?_))
  refine e_call c2 hr (by decide) (a_cons (e_var 0 rfl rfl (a_nil ⟨a, s, rfl, hS, G, fun v H1 e1 ev => ⟨s.model.testWeights.length, ev, by have := G.n5; omega, fun i H2 hi e2 => ?_, fun l H2 xs nl e2 hl xl hx => ?_⟩⟩)))
  · intro s9 H9 C9 cl fp
    exact e_call c1 hr (by decide) (a_cons (e_var 0 rfl rfl (a_cons (e_var 1 rfl rfl (a_nil ⟨a, s, i, rfl, hS.mono (e1.trans e2), G, hi, fun z H3 e3 ez => ⟨e3, ez⟩⟩)))))
  · exact k _ _ (e1.trans e2) ⟨l, xs, rfl, hl, xl, hx⟩
theorem ok_deterrent_of (T : Txt K mg C) : Ca P w K mg base 5 "deterrent_of" ["setting"] (sp1 C fun s v H' => FrO H' v (Kp416.deterrentPrior s)) := by
  have c1 := ok_all_deterrents (P := P) (w := w) (base := base) T
  have c2 := ok_is_less (P := P) (w := w) (base := base) T
  refine ca_of T.d_deterrent_of sc_deterrent_of sp1_len fun f cdv A outer s0 H vs Q E hr h => ?_
  obtain ⟨a, s, rfl, hS, G, k⟩ := h
  have hd := dfold_is s
  refine b_cons (s_set (i := 1) sc_deterrent_of.nd rfl (e_tup (a_cons (e_int (a_cons (e_int (a_nil ⟨by show 2 ≤ sizeLine; decide, fun p0 n0 => ?_⟩)))))))
  refine b_cons (s_for_list (pg_name (i := 2) sc_deterrent_of.nd rfl (Or.inl rfl)) (e_call c1 hr (by decide) (a_cons (e_var 0 rfl rfl (a_nil ⟨a, s, rfl, hS.mono (same_new n0), G, ?_⟩)))))
  rintro _ H1 e1 ⟨l, xs, rfl, hl, xl, hx⟩
  have e01 : Same H H1 := (same_new n0).trans e1
  refine ⟨l, xs, rfl, SqL.of hl, fun i σ H' => ∃ (x : Rat) (p : Addr) (hv : Option V), σ = [some (.ref a), some (.ref p), hv] ∧ dfold s i = some x ∧ Fr H' (.ref p) x ∧ Same H1 H', ⟨0, p0, none, rfl, dfold_zero s, ⟨p0, rfl, e1 _ _ upd_same⟩, Same.refl _⟩, fun i σ H' _ ⟨x, p, hv, _, _, _, e2⟩ => SqL.of (e2 _ _ hl), ?_, ?_⟩
  · rintro i y σ H2 hy ⟨x, p, hv, rfl, hf, hp, e2⟩
    have hi : i < s.model.testWeights.length := by
      have := (List.getElem?_eq_some_iff.mp hy).1
      omega
    have fy := hx i y hy
    cases hz : Kp416.deterrentPriorAt s i with
    | none =>
      rw [hz] at fy
      have ey : y = .non := fy
      subst ey
      refine b_cons (s_if (t_cmp op_isN (e_var 2 rfl rfl (e_non ⟨rfl, _, rfl, dec2 (fun c => ?_) fun c => absurd rfl c⟩))))
      refine b_one (s_ret (e_non (k _ _ (e01.trans e2) ?_)))
      show FrO _ _ _
      rw [hd, dfold_at_none hi hz]
      rfl
    | some z =>
      rw [hz] at fy
      obtain ⟨q, rfl, hq⟩ := fy
      refine b_cons (s_if (t_cmp op_isN (e_var 2 rfl rfl (e_non ⟨rfl, _, rfl, dec2 (fun c => by cases c) fun c => ?_⟩))))
      refine b_nil ?_
      have px := (pr_dfold G hf).bd
      have pz := (pr_det G hz).bd
      have hs := dfold_at_some hf hz
      refine b_one (s_if (t_val (e_call c2 hr (by decide) (a_cons (e_var 1 rfl rfl (a_cons (e_var 2 rfl rfl (a_nil ⟨_, _, x, z, rfl, hp, ⟨q, rfl, e2 _ _ hq⟩, px.1, px.2, pz.1, pz.2, fun u H3 e3 eu => ?_⟩))))))))
      subst eu
      refine ⟨_, rfl, dec2 (fun c => ?_) fun c => ?_⟩
      · rw [if_pos c] at hs
        exact b_one (s_set (i := 1) sc_deterrent_of.nd rfl (e_var 2 rfl rfl ⟨z, q, _, rfl, hs, ⟨q, rfl, e3 _ _ (e2 _ _ hq)⟩, e2.trans e3⟩))
      · rw [if_neg c] at hs
        exact b_nil ⟨x, p, _, rfl, hs, hp.mono e3, e2.trans e3⟩
  · rintro σ H2 ⟨x, p, hv, rfl, hf, hp, e2⟩
    refine b_one (s_ret (e_var 1 rfl rfl (k _ _ (e01.trans e2) ?_)))
    show FrO _ _ _
    rw [hd, ← xl, hf]
    exact hp
/-- is_better(cost, prior, best_cost, best_prior) -/
def spBet : Sp := fun vs H Q _ => ∃ u1 u2 u3 u4 c p bc bp, vs = [u1, u2, u3, u4] ∧ Fr H u1 c ∧ Fr H u2 p ∧ Fr H u3 bc ∧ Fr H u4 bp ∧ Bd c ∧ Bd p ∧ Bd bc ∧ Bd bp ∧ Rt H Q fun v _ => v = .bl (decide (c < bc ∨ (c = bc ∧ p < bp)))
theorem ok_is_better (T : Txt K mg C) : Ca P w K mg base 2 "is_better" ["cost", "prior", "best_cost", "best_prior"] spBet := by
  have c2 := ok_is_less (P := P) (w := w) (base := base) T
  refine ca_of T.d_is_better sc_is_better (by rintro vs H Q E ⟨u1, u2, u3, u4, c, p, bc, bp, rfl, _⟩; rfl) fun f cdv A outer s0 H vs Q E hr h => ?_
  obtain ⟨u1, u2, u3, u4, c, p, bc, bp, rfl, h1, h2, h3, h4, b1, b2, b3, b4, k⟩ := h
  refine b_cons (s_if (t_cmp (op_eqD hr.units) (e_var 0 rfl rfl (e_var 2 rfl rfl ⟨_, _, h1.dp, h3.dp, frD_shaped _, frD_shaped _, _, rfl, ?_⟩))))
  rw [frD_eqv]
  refine dec2 (fun e => ?_) fun e => ?_
  · refine b_one (s_ret (e_call c2 hr (by decide) (a_cons (e_var 1 rfl rfl (a_cons (e_var 3 rfl rfl (a_nil ⟨_, _, _, _, rfl, h2, h4, b2.1, b2.2, b4.1, b4.2, fun u H3 e3 eu => k _ _ e3 ?_⟩)))))))
    subst eu
    refine congrArg V.bl (decide_eq_decide.mpr ⟨fun q => .inr ⟨e, q⟩, fun q => ?_⟩)
    rcases q with q | q
    · subst e
      exact absurd q Rat.lt_irrefl
    · exact q.2
  · refine b_nil (b_one (s_ret (e_call c2 hr (by decide) (a_cons (e_var 0 rfl rfl (a_cons (e_var 2 rfl rfl (a_nil ⟨_, _, _, _, rfl, h1, h3, b1.1, b1.2, b3.1, b3.2, fun u H3 e3 eu => k _ _ e3 ?_⟩))))))))
    subst eu
    refine congrArg V.bl (decide_eq_decide.mpr ⟨fun q => .inl q, fun q => ?_⟩)
    rcases q with q | q
    · exact q
    · exact absurd q.1 e
end
end Det
/-! cheapest_of -/
namespace Det
open PySem PySem.Spec PyProof.Rows L2
/-- a tuple of two fractions -/
def Fr2 (H : Hp) (v : V) (x y : Rat) : Prop := ∃ p v1 v2, v = .ref p ∧ H p = some (.tup [v1, v2]) ∧ Fr H v1 x ∧ Fr H v2 y
theorem fr_of {H : Hp} {p : Addr} {x : Rat} (h : H p = some (.tup [.int x.num, .int ((x.den : Nat) : Int)])) : Fr H (.ref p) x := ⟨p, rfl, h⟩
section
variable {P : Program} {w : World} {K : PySem.W.Frag} {mg : Str → Option Value} {base : Heap} {C : Addr}
theorem ok_cheapest_of (T : Txt K mg C) : Ca P w K mg base 5 "cheapest_of" ["setting"] (sp1 C fun s v H' => Fr2 H' v (Kp416.cheapestPrior s) (Kp416.totalCost (Kp416.withPrior s (Kp416.cheapestPrior s)))) := by
  have c1 := ok_all_deterrents (P := P) (w := w) (base := base) T
  have c2 := ok_cost_of (P := P) (w := w) (base := base) T
  have c3 := ok_with_prior (P := P) (w := w) (base := base) T
  have c4 := ok_is_better (P := P) (w := w) (base := base) T
  refine ca_of T.d_cheapest_of sc_cheapest_of sp1_len fun f cdv A outer s0 H vs Q E hr h => ?_
  obtain ⟨a, s, rfl, hS, G, k⟩ := h
  -- best_prior, best_cost = (0, 1), cost_of(with_prior(setting, (0, 1)))
  refine b_cons (s_par (i := 2) (j := 3) sc_cheapest_of.nd rfl rfl (e_tup (a_cons (e_int (a_cons (e_int (a_nil ⟨by show 2 ≤ sizeLine; decide, fun p0 n0 => ?_⟩)))))))
  refine e_call c2 hr (by decide) (a_cons (e_call c3 hr (by decide) (a_cons (e_var 0 rfl rfl (a_cons (e_tup (a_cons (e_int (a_cons (e_int (a_nil ⟨by show 2 ≤ sizeLine; decide, fun p1 n1 => ?_⟩)))))))))))
  refine a_nil ⟨a, s, p1, 0, 1, rfl, (hS.mono (same_new n0)).mono (same_new n1), upd_same, ?_⟩
  rintro _ H1 e1 ⟨b, rfl, hb⟩
  refine a_nil ⟨b, Kp416.withPrior s 0, rfl, hb, good_prior G Pr.zero, fun vc H2 e2 hc0 => ?_⟩
  have e02 : Same H H2 := (same_new n0).trans ((same_new n1).trans (e1.trans e2))
  have hp0 : Fr H2 (.ref p0) 0 := ⟨p0, rfl, e2 _ _ (e1 _ _ (up_eq upd_same n1))⟩
  -- for prior in [(1, 1)] + all_deterrents(setting)
  refine b_cons (s_for_list (pg_name (i := 1) sc_cheapest_of.nd rfl (Or.inl rfl)) (e_op op_cat (e_lst (a_cons (e_tup (a_cons (e_int (a_cons (e_int (a_nil ⟨by show 2 ≤ sizeLine; decide, fun t1 m1 => a_nil ⟨by show 1 ≤ sizeLine; decide, fun l1 m2 => ?_⟩⟩))))))))))
  have e24 : Same H2 (upd (upd H2 t1 (.tup [.int 1, .int 1])) l1 (.lst [.ref t1])) := (same_new m1).trans (same_new m2)
  refine e_call c1 hr (by decide) (a_cons (e_var 0 rfl rfl (a_nil ⟨a, s, rfl, (hS.mono e02).mono e24, G, ?_⟩)))
  rintro _ H5 e5 ⟨l2, ys, rfl, hl2, yl, hy⟩
  have n5 := G.n5
  refine ⟨l1, l2, [.ref t1], ys, rfl, rfl, e5 _ _ upd_same, hl2, by rw [yl]; show 1 + _ ≤ sizeLine; exact small (by omega), fun l3 m3 => ?_⟩
  have e26 : Same H2 (upd H5 l3 (.lst ([.ref t1] ++ ys))) := e24.trans (e5.trans (same_new m3))
  have xl : ([V.ref t1] ++ ys).length = (cands s).length := by rw [cands_length, List.length_append, yl]; exact Nat.add_comm _ _
  have hx : ∀ (i : Nat) (y : V), ([V.ref t1] ++ ys)[i]? = some y → ∃ o, (cands s)[i]? = some o ∧ FrO (upd H5 l3 (.lst ([.ref t1] ++ ys))) y o := fun i y h => by
    cases i with
    | zero =>
      have e : V.ref t1 = y := Option.some.inj h
      subst e
      exact ⟨some 1, rfl, t1, rfl, up_eq (e5 _ _ (up_eq upd_same m2)) m3⟩
    | succ i =>
      have h' : ys[i]? = some y := h
      have hi : i < s.model.testWeights.length := by
        have := (List.getElem?_eq_some_iff.mp h').1
        omega
      refine ⟨Kp416.deterrentPriorAt s i, ?_, (hy i y h').mono (same_new m3)⟩
      show ((List.range s.model.testWeights.length).map (Kp416.deterrentPriorAt s))[i]? = some _
      rw [List.getElem?_map, List.getElem?_range hi]
      rfl
  generalize hH6 : upd H5 l3 (.lst ([.ref t1] ++ ys)) = H6 at e26 hx ⊢
  have hl3 : H6 l3 = some (.lst ([.ref t1] ++ ys)) := by subst hH6; exact upd_same
  generalize ([V.ref t1] ++ ys) = xs at xl hx hl3 ⊢
  refine ⟨l3, xs, rfl, SqL.of hl3, fun i σ H' => ∃ (pv : Option V) (pb cb : V) (co : Option V), σ = [some (.ref a), pv, some pb, some cb, co] ∧ Fr H' pb (cfold s i) ∧ Fr H' cb (Kp416.totalCost (Kp416.withPrior s (cfold s i))) ∧ Same H6 H',
    ⟨none, .ref p0, vc, none, rfl, hp0.mono e26, Fr.mono e26 hc0, Same.refl _⟩, fun i σ H' _ ⟨_, _, _, _, _, _, _, e7⟩ => SqL.of (e7 _ _ hl3), ?_, ?_⟩
  · rintro i y σ H7 hy7 ⟨pv, pb, cb, co, rfl, fb, fc, e7⟩
    obtain ⟨o, ho, fy⟩ := hx i y hy7
    have hs := cfold_succ ho
    cases o with
    | none =>
      have ey : y = .non := fy
      subst ey
      refine b_one (s_if (t_cmp op_notN (e_var 1 rfl rfl (e_non ⟨rfl, _, rfl, ndec2 (fun c => absurd rfl c) fun c => b_nil ?_⟩))))
      exact ⟨_, pb, cb, co, rfl, by rw [hs]; exact fb, by rw [hs]; exact fc, e7⟩
    | some x =>
      obtain ⟨q, rfl, hq⟩ := fy
      have px := pr_cand G ho
      have Gx := good_prior G px
      have Gb := good_prior G (pr_cfold G i)
      have ha7 : SetA C H7 a s := ((hS.mono e02).mono e26).mono e7
      have hnum : ((x.num.toNat : Nat) : Int) = x.num := Int.toNat_of_nonneg px.nn
      refine b_one (s_if (t_cmp op_notN (e_var 1 rfl rfl (e_non ⟨rfl, _, rfl, ndec2 (fun c => ?_) fun c => by cases c⟩))))
      -- cost = cost_of(with_prior(setting, prior))
      refine b_cons (s_set (i := 4) sc_cheapest_of.nd rfl (e_call c2 hr (by decide) (a_cons (e_call c3 hr (by decide) (a_cons (e_var 0 rfl rfl (a_cons (e_var 1 rfl rfl (a_nil ⟨a, s, q, x.num.toNat, x.den, rfl, ha7, by rw [hnum]; exact e7 _ _ hq, ?_⟩)))))))))
      rintro _ H8 e8 ⟨b8, rfl, hb8⟩
      refine a_nil ⟨b8, Kp416.withPrior s x, rfl, hb8, Gx, fun v9 H9 e9 f9 => ?_⟩
      have e79 : Same H7 H9 := e8.trans e9
      have f9' : Fr H9 v9 (Kp416.totalCost (Kp416.withPrior s x)) := f9
      -- if is_better(cost, prior, best_cost, best_prior)
      refine b_one (s_if (t_val (e_call c4 hr (by decide) (a_cons (e_var 4 rfl rfl (a_cons (e_var 1 rfl rfl (a_cons (e_var 3 rfl rfl (a_cons (e_var 2 rfl rfl (a_nil ?_))))))))))))
      refine ⟨_, _, _, _, _, _, _, _, rfl, f9', ⟨q, rfl, e79 _ _ (e7 _ _ hq)⟩, fc.mono e79, fb.mono e79, cost_bd Gx, px.bd, cost_bd Gb, (pr_cfold G i).bd, fun u H10 e10 eu => ?_⟩
      subst eu
      have hs' : cfold s (i + 1) = cbest s (cfold s i) x := hs
      unfold cbest at hs'
      refine ⟨_, rfl, dec2 (fun d => ?_) fun d => ?_⟩
      · rw [if_pos d] at hs'
        refine b_one (s_par (i := 2) (j := 3) sc_cheapest_of.nd rfl rfl (e_var 1 rfl rfl (e_var 4 rfl rfl ?_)))
        exact ⟨_, .ref q, v9, _, rfl, by rw [hs']; exact ⟨q, rfl, e10 _ _ (e79 _ _ (e7 _ _ hq))⟩, by rw [hs']; exact f9'.mono e10, e7.trans (e79.trans e10)⟩
      · rw [if_neg d] at hs'
        exact b_nil ⟨_, pb, cb, _, rfl, by rw [hs']; exact fb.mono (e79.trans e10), by rw [hs']; exact fc.mono (e79.trans e10), e7.trans (e79.trans e10)⟩
  · rintro σ H7 ⟨pv, pb, cb, co, rfl, fb, fc, e7⟩
    rw [xl, ← cfold_is] at fb fc
    refine b_one (s_ret (e_tup (a_cons (e_var 2 rfl rfl (a_cons (e_var 3 rfl rfl (a_nil ⟨by show 2 ≤ sizeLine; decide, fun p9 n9 => ?_⟩)))))))
    exact k _ _ (e02.trans (e26.trans (e7.trans (same_new n9)))) ⟨p9, pb, cb, rfl, upd_same, fb.mono (same_new n9), fc.mono (same_new n9)⟩
end
end Det
/-! limits.py -/
namespace Det
open PySem PySem.Spec PyProof.Rows L2
section
variable {X : Cx} {e o i : Expr} {σ : L2.St} {H : Hp} {Q : VK} {D : Ends} {pos apos cpos tpos : Pos}
/-- o.append(e) -/
theorem e_append (h : Ev X o σ H fun x H1 => ∃ l xs, x = .ref l ∧ H1 l = some (.lst xs) ∧ Ev X e σ H1 fun y H2 => ∃ xs', H2 l = some (.lst xs') ∧ xs'.length < sizeLine ∧ Q .non (upd H2 l (.lst (xs' ++ [y]))))
    (hbase : attributeBase o "append" X.env (eval o X.env) = eval o X.env := by rfl)
    (hfew : ((backTo cpos (starEach [e] X.env)).all (fun x => !x.1) && (backToKw cpos (keywordEach [] X.env)).all (fun x => x.1.isSome)
      && decide ([e].length + ([] : List Keyword).length + (if ([] : List Keyword).isEmpty then 0 else 1) < 30)) = true := by rfl)
    (hline : (apos.endLine == cpos.line) = true := by rfl) (hs : starEach [e] X.env = (false, eval e X.env) :: starEach [] X.env := by rfl) (hplain : (backTo cpos (starEach [] X.env)).any (·.1) = false := by rfl) :
    Ev X (.Call (.Attribute o "append" apos) [e] [] cpos) σ H Q :=
  Ev.of (pe_bm PySem.F.plainAttrs_list PySem.F.slot_list_append PySem.F.type_list_append mt_append pe_sem (pa_cons pe_sem pa_nil hs) hbase hfew hline hs hplain)
    (Ev.imp h fun x H1 ⟨l, xs, e1, h1, h2⟩ => ⟨by rw [e1]; exact .inl ⟨rfl, _, SqL.of h1⟩, Ev.imp h2 fun y H2 ⟨xs', h3, h4, h5⟩ => ⟨l, xs', y, e1, rfl, h3, h4, h5⟩⟩)
/-- o.extend(e), a list -/
theorem e_extend (h : Ev X o σ H fun x H1 => ∃ l xs, x = .ref l ∧ H1 l = some (.lst xs) ∧ Ev X e σ H1 fun y H2 => ∃ b xs' zs, y = .ref b ∧ H2 l = some (.lst xs') ∧ H2 b = some (.lst zs) ∧ xs'.length + zs.length ≤ sizeLine ∧ Q .non (upd H2 l (.lst (xs' ++ zs))))
    (hbase : attributeBase o "extend" X.env (eval o X.env) = eval o X.env := by rfl)
    (hfew : ((backTo cpos (starEach [e] X.env)).all (fun x => !x.1) && (backToKw cpos (keywordEach [] X.env)).all (fun x => x.1.isSome)
      && decide ([e].length + ([] : List Keyword).length + (if ([] : List Keyword).isEmpty then 0 else 1) < 30)) = true := by rfl)
    (hline : (apos.endLine == cpos.line) = true := by rfl) (hs : starEach [e] X.env = (false, eval e X.env) :: starEach [] X.env := by rfl) (hplain : (backTo cpos (starEach [] X.env)).any (·.1) = false := by rfl) :
    Ev X (.Call (.Attribute o "extend" apos) [e] [] cpos) σ H Q :=
  Ev.of (pe_bm PySem.F.plainAttrs_list PySem.F.slot_list_extend PySem.F.type_list_extend mt_extend pe_sem (pa_cons pe_sem pa_nil hs) hbase hfew hline hs hplain)
    (Ev.imp h fun x H1 ⟨l, xs, e1, h1, h2⟩ => ⟨by rw [e1]; exact .inl ⟨rfl, _, SqL.of h1⟩, Ev.imp h2 fun y H2 ⟨b, xs', zs, e2, h3, h4, h5, h6⟩ => ⟨l, b, xs', zs, e1, by rw [e2], h3, h4, h5, h6⟩⟩)
theorem e_gi {x : Str} {j : Int} {t : Tok} (hm : X.mg x = some (.int j t)) (h : Q (.int j) H) (hg : Gl X x := by rfl) (hd : (x == ("__debug__" : Str)) = false := by decide) : Ev X (.Name x pos) σ H Q := e_glob (v := .int j) hm ⟨t, rfl⟩ h hg hd
def rGetN (K : PySem.W.Frag) : V → V → Hp → VK → Prop := fun o i H Q => ∃ p xs j v, o = .ref p ∧ i = .int ((j : Nat) : Int) ∧ j < 2 ^ 62 ∧ SqL K H p xs ∧ xs[j]? = some v ∧ Q v H
theorem get_list : PGet X (rGetN X.K) := by
  intro pins s σ H o i ov iv Q I ro ri h
  obtain ⟨p, xs, j, v, rfl, rfl, hj, hq, hv, q⟩ := h
  cases ro
  obtain ⟨t, rfl⟩ := ri
  obtain ⟨its, rv, hl, _⟩ := I.list hq
  obtain ⟨u, hu, ru⟩ := rv.get hv
  exact wpAny_getItem_list hl.isList (by omega) (by omega) (by simpa using hu) ⟨v, H, I, ru, q⟩
/-- o[i] += e on a list of ints -/
theorem s_augadd (h : Ev X o σ H fun ov H1 => Ev X i σ H1 fun iv H2 => ∃ l xs, ∃ j : Nat, ∃ z, ov = .ref l ∧ iv = .int (j : Int) ∧ j < 2 ^ 62 ∧ H2 l = some (.lst xs) ∧ xs[j]? = some (.int z) ∧ Ev X e σ H2 fun y H3 => ∃ w xs', y = .int w ∧ H3 l = some (.lst xs') ∧ j < xs'.length ∧ D.nx σ (upd H3 l (.lst (xs'.set j (.int (z + w))))))
    (ha : ∀ ov iv new, augStore i ov iv new = (do holding [new, ov, iv] (setItem ov iv new); release [new, ov, iv] []; pure .next) := by intros; rfl) :
    Sv X (.AugAssign (.Subscript o i tpos) .Add e pos) D σ H :=
  Sv.of (ps_augS pe_sem pe_sem get_list pe_sem ip_add set_list ha) (Ev.imp h fun ov H1 h1 => Ev.imp h1 fun iv H2 ⟨l, xs, j, z, e1, e2, hj, hl, hx, h2⟩ => ⟨l, xs, j, .int z, e1, e2, hj, SqL.of hl, hx, Ev.imp h2 fun y H3 ⟨w, xs', e3, h3, h4, h5⟩ =>
    ⟨z, w, rfl, e3, l, xs', j, j, e1, e2, h3, by unfold ixN; rw [if_pos (by omega), if_pos (by omega), Int.toNat_natCast], h5⟩⟩)
end
section
variable {P : Program} {w : World} {K : PySem.W.Frag} {mg : Str → Option Value} {base : Heap} {C : Addr}
def spCount : Sp := fun vs H Q _ => ∃ n : Nat, vs = [.int (n : Int)] ∧ Rt H Q fun v _ => v = .bl (decide (1 ≤ n ∧ n ≤ 5))
theorem ok_is_count (T : Txt K mg C) : Ca P w K mg base 1 "is_count" ["many"] spCount := by
  obtain ⟨t, ht⟩ := T.c_MOST_SIGNALS
  refine ca_of T.d_is_count sc_is_count (by rintro vs H Q E ⟨n, rfl, _⟩; rfl) fun f cdv A outer s0 H vs Q E hr h => ?_
  obtain ⟨n, rfl, k⟩ := h
  refine b_one (s_ret (e_chain op_le op_le (e_int (e_var 0 rfl rfl ⟨_, _, rfl, rfl, _, rfl, dec2 (fun c => e_gi ht ⟨_, _, rfl, rfl, k _ _ (Same.refl _) ?_⟩) fun c => k _ _ (Same.refl _) ?_⟩))))
  · exact congrArg V.bl (decide_eq_decide.mpr (by omega))
  · refine congrArg V.bl (Eq.symm (decide_eq_false ?_))
    omega
def spPrior : Sp := fun vs H Q _ => ∃ n d : Nat, vs = [.int (n : Int), .int (d : Int)] ∧ Rt H Q fun v _ => v = .bl (Kp415.validFraction n d)
theorem ok_is_prior (T : Txt K mg C) : Ca P w K mg base 1 "is_prior" ["top", "bottom"] spPrior := by
  obtain ⟨t, ht⟩ := T.c_MOST_BOTTOM
  refine ca_of T.d_is_prior sc_is_prior (by rintro vs H Q E ⟨n, d, rfl, _⟩; rfl) fun f cdv A outer s0 H vs Q E hr h => ?_
  obtain ⟨n, d, rfl, k⟩ := h
  have hv : ∀ b, (b = true ↔ (n ≤ d ∧ 1 ≤ d ∧ d ≤ 99)) → V.bl b = V.bl (Kp415.validFraction n d) := fun b hb => by
    refine congrArg V.bl (Bool.eq_iff_iff.mpr (hb.trans ?_))
    unfold Kp415.validFraction
    rw [Bool.and_eq_true, Bool.and_eq_true, decide_eq_true_eq, decide_eq_true_eq, decide_eq_true_eq]
    omega
  refine b_one (s_ret (e_and (e_chain op_le op_le (e_int (e_var 1 rfl rfl ⟨_, _, rfl, rfl, _, rfl, dec2 (fun c => e_gi ht ⟨_, _, rfl, rfl, _, rfl, dec2 (fun c2 => ?_) fun c2 => ?_⟩) fun c => ?_⟩)))))
  · refine e_and1 (e_cmp op_le (e_var 0 rfl rfl (e_var 1 rfl rfl ⟨_, _, rfl, rfl, k _ _ (Same.refl _) (hv _ ?_)⟩)))
    rw [decide_eq_true_eq]
    omega
  · exact k _ _ (Same.refl _) (hv _ ⟨fun q => (by cases q), fun q => (by omega)⟩)
  · exact ⟨false, rfl, iteF (k _ _ (Same.refl _) (hv _ ⟨fun q => (by cases q), fun q => (by omega)⟩))⟩
def spMoney : Sp := fun vs H Q _ => ∃ n d : Nat, vs = [.int (n : Int), .int (d : Int)] ∧ Rt H Q fun v _ => v = .bl (Kp416.validAmount n && Kp416.validAmount d)
theorem ok_is_money (T : Txt K mg C) : Ca P w K mg base 1 "is_money" ["one", "other"] spMoney := by
  obtain ⟨t, ht⟩ := T.c_MOST_MONEY
  refine ca_of T.d_is_money sc_is_money (by rintro vs H Q E ⟨n, d, rfl, _⟩; rfl) fun f cdv A outer s0 H vs Q E hr h => ?_
  obtain ⟨n, d, rfl, k⟩ := h
  have hv : ∀ b, (b = true ↔ (n ≤ 999 ∧ d ≤ 999)) → V.bl b = V.bl (Kp416.validAmount n && Kp416.validAmount d) := fun b hb => by
    refine congrArg V.bl (Bool.eq_iff_iff.mpr (hb.trans ?_))
    unfold Kp416.validAmount
    rw [Bool.and_eq_true, decide_eq_true_eq, decide_eq_true_eq]
  refine b_one (s_ret (e_and (e_cmp op_le (e_var 0 rfl rfl (e_gi ht ⟨_, _, rfl, rfl, _, rfl, dec2 (fun c => ?_) fun c => ?_⟩)))))
  · refine e_and1 (e_cmp op_le (e_var 1 rfl rfl (e_gi ht ⟨_, _, rfl, rfl, k _ _ (Same.refl _) (hv _ ?_)⟩)))
    rw [decide_eq_true_eq]
    omega
  · exact k _ _ (Same.refl _) (hv _ ⟨fun q => (by cases q), fun q => (by omega)⟩)
/-- a test of a number, on values -/
def gB (f : Nat → Bool) : V → V
  | .int z => .bl (f z.toNat)
  | v => v
theorem gB_map (f : Nat → Bool) : ∀ l : List Nat, (nv l).map (gB f) = (l.map f).map V.bl
  | [] => rfl
  | a :: l => by
    have ih := gB_map f l
    show gB f (.int (a : Int)) :: (nv l).map (gB f) = _
    rw [ih]
    show V.bl (f ((a : Int)).toNat) :: _ = _
    rw [Int.toNat_natCast]
    rfl
theorem all_id (f : Nat → Bool) (l : List Nat) : (l.map f).all id = l.all f := by
  rw [List.all_map]
  rfl
def spAw : Sp := fun vs H Q _ => ∃ l ws, ∃ n : Nat, vs = [.ref l, .int (n : Int)] ∧ H l = some (.lst (nv ws)) ∧ ws.length ≤ 8 ∧ Rt H Q fun v _ => v = .bl (decide (ws.length = n) && ws.all (fun x => decide (x ≤ 99)) && decide (0 < ws.sum))
theorem ok_are_weights (T : Txt K mg C) : Ca P w K mg base 1 "are_weights" ["weights", "many"] spAw := by
  obtain ⟨t, ht⟩ := T.c_MOST_WEIGHT
  refine ca_of T.d_are_weights sc_are_weights (by rintro vs H Q E ⟨l, ws, n, rfl, _⟩; rfl) fun f cdv A outer s0 H vs Q E hr h => ?_
  obtain ⟨l, ws, n, rfl, hl, hn, k⟩ := h
  refine b_one (s_ret (e_and (e_cmp op_eq (e_blt call_len_seq T.b_len (a_cons (e_var 0 rfl rfl (a_nil ⟨l, _, rfl, .inl (SqL.of hl), e_var 1 rfl rfl ⟨rfl, _, rfl, dec2 (fun c => ?_) fun c => ?_⟩⟩)))))))
  · have c' : ws.length = n := by
      have := V.int.inj c
      rw [nv_len] at this
      omega
    rw [decide_eq_true c', Bool.true_and] at k
    refine e_and (e_blt (cr_all rfl) T.b_all (a_cons (e_lcl (k := 2) sc_are_weights.nd (blkOk_by (N := ["weights", "many", "weight"]) (sc := defScope s_are_weights) (by decide +kernel)) (fun _ _ _ _ _ => pg_name sc_are_weights.nd rfl (Or.inl rfl)) (e_var 0 rfl rfl ?_))))
    refine ⟨l, _, rfl, SqL.of hl, by rw [nv_len]; omega, gB (fun x => decide (x ≤ 99)), fun i y H2 hy e2 => ?_, fun l2 H2 nl e2 hl2 => ?_⟩
    · intro s9 H9 C9 cl fp
      obtain ⟨z, hz, rfl⟩ := nv_of hy
      refine e_cmp op_le (e_var 2 rfl rfl (e_gi ht ⟨_, _, rfl, rfl, Same.refl _, ?_⟩))
      show _ = V.bl (decide (((z : Int)).toNat ≤ 99))
      rw [Int.toNat_natCast]
      exact congrArg V.bl (decide_eq_decide.mpr (by omega))
    · rw [gB_map] at hl2
      refine a_nil ⟨l2, _, rfl, SqL.of hl2, _, rfl, ?_⟩
      rw [all_id]
      cases hb : ws.all (fun x => decide (x ≤ 99)) with
      | false =>
        rw [hb, Bool.false_and] at k
        exact iteF (k _ _ e2 rfl)
      | true =>
        rw [hb, Bool.true_and] at k
        refine iteT (e_and1 (e_cmp op_gt (e_blt (cr_sum rfl) T.b_sum (a_cons (e_var 0 rfl rfl (a_nil ⟨l, ni ws, rfl, SqL.of (e2 _ _ hl), e_int ⟨_, _, rfl, rfl, k _ _ e2 ?_⟩⟩))))))
        rw [ni_sum]
        exact congrArg V.bl (decide_eq_decide.mpr (by omega))
  · have c' : ¬ ws.length = n := fun q => c (by rw [nv_len, q])
    rw [decide_eq_false c'] at k
    exact k _ _ (Same.refl _) (by rw [Bool.false_and, Bool.false_and])
end
end Det
/-! signals_in; merging.py -/
namespace Det
open PySem PySem.Spec PyProof.Rows L2
section
variable {P : Program} {w : World} {K : PySem.W.Frag} {mg : Str → Option Value} {base : Heap} {C : Addr}
def spSig : Sp := fun vs H Q _ => ∃ mask n : Nat, vs = [.int (mask : Int), .int (n : Int)] ∧ n ≤ 5 ∧ Rt H Q fun v H' => if 2 ^ n ≤ mask then v = .non else LsN H' v (sig mask n)
theorem sig_len (mask k : Nat) : (sig mask k).length ≤ k := by
  unfold sig
  have := List.length_filter_le (fun signal => Kp415.contains mask signal) (List.range k)
  rwa [List.length_range] at this
theorem ok_signals_in (T : Txt K mg C) : Ca P w K mg base 1 "signals_in" ["mask", "many"] spSig := by
  refine ca_of T.d_signals_in sc_signals_in (by rintro vs H Q E ⟨mask, n, rfl, _⟩; rfl) fun f cdv A outer s0 H vs Q E hr h => ?_
  obtain ⟨mask, n, rfl, hn, k⟩ := h
  refine b_cons (s_par (i := 3) (j := 4) sc_signals_in.nd rfl rfl (e_lst (a_nil ⟨Nat.zero_le _, fun l nl => e_var 0 rfl rfl ?_⟩)))
  refine b_cons (s_for_range T.b_range (pg_name (i := 2) sc_signals_in.nd rfl (Or.inl rfl)) (e_var 1 rfl rfl ?_))
  refine ⟨n, rfl, by omega, fun i σ H' => ∃ sv, σ = [some (.int (mask : Int)), some (.int (n : Int)), sv, some (.ref l), some (.int ((mask / 2 ^ i : Nat) : Int))] ∧ Same H H' ∧ H' l = some (.lst (nv (sig mask i))), ⟨none, by rw [Nat.pow_zero, Nat.div_one]; rfl, same_new nl, upd_same⟩, ?_, ?_⟩
  · rintro i σ H1 hi ⟨sv, rfl, e1, hl⟩
    have hs := sig_succ mask i
    have hsl := sig_len mask i
    refine b_cons (s_if (t_cmp op_eq (e_op op_mod (e_var 4 rfl rfl (e_int ⟨_, _, rfl, rfl, (show (0 : Int) < 2 by decide), e_int ⟨rfl, _, rfl, dec2 (fun c => ?_) fun c => ?_⟩⟩)))))
    · have c' : mask / 2 ^ i % 2 = 1 := by
        have := V.int.inj c
        omega
      rw [if_pos c'] at hs
      refine b_one (s_expr (e_append (e_var 3 rfl rfl ⟨l, _, rfl, hl, e_var 2 rfl rfl ⟨_, hl, by rw [nv_len]; exact smallT (by omega), ?_⟩⟩)))
      refine b_one (s_set (i := 4) sc_signals_in.nd rfl (e_op op_fdiv (e_var 4 rfl rfl (e_int ⟨_, _, rfl, rfl, ⟨by decide, by decide⟩, ?_⟩))))
      refine ⟨some (.int (i : Int)), ?_, same_mut e1 nl, ?_⟩
      · rw [← left_succ]
        rfl
      · rw [upd_same, hs, nv_app]
        rfl
    · have c' : ¬ mask / 2 ^ i % 2 = 1 := fun q => c (congrArg V.int (by omega))
      rw [if_neg c'] at hs
      refine b_nil (b_one (s_set (i := 4) sc_signals_in.nd rfl (e_op op_fdiv (e_var 4 rfl rfl (e_int ⟨_, _, rfl, rfl, ⟨by decide, by decide⟩, ?_⟩)))))
      refine ⟨some (.int (i : Int)), ?_, e1, ?_⟩
      · rw [← left_succ]
        rfl
      · rw [hs]
        exact hl
  · rintro σ H1 ⟨sv, rfl, e1, hl⟩
    have hz := left_zero mask n
    refine b_one (s_ret (e_if (t_cmp op_eq (e_var 4 rfl rfl (e_int ⟨rfl, _, rfl, dec2 (fun c => ?_) fun c => ?_⟩)))))
    · have c' : mask / 2 ^ n = 0 := by
        have := V.int.inj c
        omega
      refine e_var 3 rfl rfl (k _ _ e1 ?_)
      show if 2 ^ n ≤ mask then _ else _
      rw [if_neg (hz.mp c')]
      exact ⟨l, rfl, hl⟩
    · have c' : ¬ mask / 2 ^ n = 0 := fun q => c (congrArg V.int (by omega))
      refine e_non (k _ _ e1 ?_)
      show if 2 ^ n ≤ mask then _ else _
      rw [if_pos (Classical.byContradiction fun q => c' (hz.mpr q))]
/-- is_mapping(setting, mapping) -/
def spMap (C : Addr) : Sp := fun vs H Q _ => ∃ a s l mp, vs = [.ref a, .ref l] ∧ SetA C H a s ∧ Good s ∧ H l = some (.lst (nv mp)) ∧ mp.length ≤ 8 ∧ Rt H Q fun v _ => v = .bl (Kp415.validMapping s.model mp)
theorem vm_eq (s : Stg) (mp : List Nat) : Kp415.validMapping s.model mp = (decide (mp.length = s.model.testWeights.length) && mp.all fun x => decide (x < s.model.testWeights.length)) := rfl
theorem ok_is_mapping (T : Txt K mg C) : Ca P w K mg base 2 "is_mapping" ["setting", "mapping"] (spMap C) := by
  have c2 := ok_signal_count (P := P) (w := w) (base := base) T
  refine ca_of T.d_is_mapping sc_is_mapping (by rintro vs H Q E ⟨a, s, l, mp, rfl, _⟩; rfl) fun f cdv A outer s0 H vs Q E hr h => ?_
  obtain ⟨a, s, l, mp, rfl, hS, G, hl, hn, k⟩ := h
  rw [vm_eq] at k
  refine b_cons (s_set (i := 2) sc_is_mapping.nd rfl (e_call c2 hr (by decide) (a_cons (e_var 0 rfl rfl (a_nil ⟨a, s, rfl, hS, G, fun v H1 e1 ev => ?_⟩)))))
  subst ev
  refine b_one (s_ret (e_and (e_cmp op_eq (e_blt call_len_seq T.b_len (a_cons (e_var 1 rfl rfl (a_nil ⟨l, _, rfl, .inl (SqL.of (e1 _ _ hl)), e_var 2 rfl rfl ⟨rfl, _, rfl, dec2 (fun c => ?_) fun c => ?_⟩⟩)))))))
  · have c' : mp.length = s.model.testWeights.length := by
      have := V.int.inj c
      rw [nv_len] at this
      omega
    rw [decide_eq_true c', Bool.true_and] at k
    refine e_and1 (e_blt (cr_all rfl) T.b_all (a_cons (e_lcl (k := 3) sc_is_mapping.nd (blkOk_by (N := ["setting", "mapping", "many", "signal"]) (sc := defScope s_is_mapping) (by decide +kernel)) (fun _ _ _ _ _ => pg_name sc_is_mapping.nd rfl (Or.inl rfl)) (e_var 1 rfl rfl ?_))))
    refine ⟨l, _, rfl, SqL.of (e1 _ _ hl), by rw [nv_len]; omega, gB (fun x => decide (x < s.model.testWeights.length)), fun i y H2 hy e2 => ?_, fun l2 H2 nl e2 hl2 => ?_⟩
    · intro s9 H9 C9 cl fp
      obtain ⟨z, hz, rfl⟩ := nv_of hy
      refine e_cmp op_lt (e_var 3 rfl rfl (e_var 2 rfl rfl ⟨_, _, rfl, rfl, Same.refl _, ?_⟩))
      show _ = V.bl (decide (((z : Int)).toNat < s.model.testWeights.length))
      rw [Int.toNat_natCast]
      exact congrArg V.bl (decide_eq_decide.mpr (by omega))
    · rw [gB_map] at hl2
      refine a_nil ⟨l2, _, rfl, SqL.of hl2, k _ _ (e1.trans e2) ?_⟩
      rw [all_id]
  · have c' : ¬ mp.length = s.model.testWeights.length := fun q => c (by rw [nv_len, q])
    rw [decide_eq_false c', Bool.false_and] at k
    exact k _ _ e1 rfl
/-- merged_weights(weights, mapping) -/
def spMw : Sp := fun vs H Q _ => ∃ a b wl mp, vs = [.ref a, .ref b] ∧ H a = some (.lst (nv wl)) ∧ H b = some (.lst (nv mp)) ∧ wl.length ≤ 5 ∧ wl.length ≤ mp.length ∧ (∀ i, i < wl.length → mp.getD i 0 < wl.length) ∧ Rt H Q fun v H' => LsN H' v (Kp415.mergeWeights wl mp)
theorem nv_set (l : List Nat) (i x : Nat) : (nv l).set i (.int (x : Int)) = nv (l.set i x) := by
  unfold nv iv ni
  rw [List.map_set, List.map_set]
theorem ok_merged_weights (T : Txt K mg C) : Ca P w K mg base 1 "merged_weights" ["weights", "mapping"] spMw := by
  refine ca_of T.d_merged_weights sc_merged_weights (by rintro vs H Q E ⟨a, b, wl, mp, rfl, _⟩; rfl) fun f cdv A outer s0 H vs Q E hr h => ?_
  obtain ⟨a, b, wl, mp, rfl, ha, hb, hn, hm, hmp, k⟩ := h
  refine b_cons (s_set (i := 2) sc_merged_weights.nd rfl (e_op op_rep (e_lst (a_cons (e_int (a_nil ⟨by show 1 ≤ sizeLine; decide, fun l1 n1 => ?_⟩))))))
  refine e_blt call_len_seq T.b_len (a_cons (e_var 0 rfl rfl (a_nil ⟨a, _, rfl, .inl (SqL.of (up_eq ha n1)), ?_⟩)))
  rw [nv_len]
  refine ⟨l1, _, _, rfl, rfl, upd_same, by omega, by omega, by show 1 * ((wl.length : Int)).toNat ≤ sizeLine; exact small (by omega), fun l n2 => ?_⟩
  have e1 : Same H (upd (upd H l1 (.lst [.int 0])) l (.lst (List.replicate ((wl.length : Int)).toNat [V.int 0]).flatten)) := (same_new n1).trans (same_new n2)
  have nl : H l = none := (same_new n1).free n2
  have h0 : (upd (upd H l1 (.lst [.int 0])) l (.lst (List.replicate ((wl.length : Int)).toNat [V.int 0]).flatten)) l = some (.lst (nv (mw wl mp 0))) := by
    rw [upd_same, mw_zero]
    exact congrArg (fun z => some (HO.lst z)) (rep_nv wl.length 0)
  generalize (upd (upd H l1 (.lst [.int 0])) l (.lst (List.replicate ((wl.length : Int)).toNat [V.int 0]).flatten)) = H2 at e1 h0 ⊢
  refine b_cons (s_for_range T.b_range (pg_name (i := 3) sc_merged_weights.nd rfl (Or.inl rfl)) (e_blt call_len_seq T.b_len (a_cons (e_var 0 rfl rfl (a_nil ⟨a, _, rfl, .inl (SqL.of (e1 _ _ ha)), ?_⟩)))))
  rw [nv_len]
  refine ⟨wl.length, rfl, by omega, fun i σ H' => ∃ sv, σ = [some (.ref a), some (.ref b), some (.ref l), sv] ∧ Same H H' ∧ H' l = some (.lst (nv (mw wl mp i))), ⟨none, rfl, e1, h0⟩, ?_, ?_⟩
  · rintro i σ H3 hi ⟨sv, rfl, e3, hl⟩
    have hmi := hmp i hi
    obtain ⟨z, hz⟩ : ∃ z, (mw wl mp i)[mp.getD i 0]? = some z := ⟨_, mw_get hmi⟩
    have hs := mw_succ (w := wl) (mp := mp) (k := i) rfl hmi hz
    refine b_one (s_augadd (e_var 2 rfl rfl (e_ix ix_list (e_var 1 rfl rfl (e_var 3 rfl rfl ⟨b, _, _, _, rfl, rfl, SqL.of (e3 _ _ hb), atI_nat (nv_getD (by omega)), ?_⟩)))))
    refine ⟨l, _, mp.getD i 0, _, rfl, rfl, by omega, hl, nv_get hz, e_ix ix_list (e_var 0 rfl rfl (e_var 3 rfl rfl ⟨a, _, _, _, rfl, rfl, SqL.of (e3 _ _ ha), atI_nat (nv_getD hi), ?_⟩))⟩
    refine ⟨_, _, rfl, hl, by rw [nv_len, mw_length]; exact hmi, _, rfl, same_mut e3 nl, ?_⟩
    rw [upd_same, hs, ← nv_set, Int.natCast_add]
  · rintro σ H3 ⟨sv, rfl, e3, hl⟩
    refine b_one (s_ret (e_var 2 rfl rfl (k _ _ e3 ⟨l, rfl, ?_⟩)))
    rw [mw_is]
    exact hl
/-- merged(setting, mapping) -/
def spMerged (C : Addr) : Sp := fun vs H Q _ => ∃ a s l mp, vs = [.ref a, .ref l] ∧ SetA C H a s ∧ Good s ∧ H l = some (.lst (nv mp)) ∧ Kp415.validMapping s.model mp = true ∧ Rt H Q fun v H' => ∃ b, v = .ref b ∧ SetA C H' b (Kp416.merged s mp)
theorem vm_of {s : Stg} {mp : List Nat} (h : Kp415.validMapping s.model mp = true) : mp.length = s.model.testWeights.length ∧ ∀ i, i < s.model.testWeights.length → mp.getD i 0 < s.model.testWeights.length := by
  rw [vm_eq, Bool.and_eq_true, decide_eq_true_eq, List.all_eq_true] at h
  refine ⟨h.1, fun i hi => ?_⟩
  have hi' : i < mp.length := by omega
  have := h.2 _ (List.getElem_mem hi')
  rw [List.getD_eq_getElem?_getD, List.getElem?_eq_getElem hi']
  exact of_decide_eq_true this
theorem ok_merged (T : Txt K mg C) : Ca P w K mg base 4 "merged" ["setting", "mapping"] (spMerged C) := by
  have c1 := ok_merged_weights (P := P) (w := w) (base := base) T
  have c2 := ok_with_weights (P := P) (w := w) (base := base) T
  refine ca_of T.d_merged sc_merged (by rintro vs H Q E ⟨a, s, l, mp, rfl, _⟩; rfl) fun f cdv A outer s0 H vs Q E hr h => ?_
  obtain ⟨a, s, l, mp, rfl, ⟨dx, lt, lu, tp, ts, tq, S⟩, G, hl, hv, k⟩ := h
  obtain ⟨hm, hmp⟩ := vm_of hv
  have n5 := G.n5
  have hle := G.len
  refine b_cons (s_set (i := 2) sc_merged.nd rfl (e_call c1 hr (by decide) (a_cons (f_tw T S 0 rfl rfl (a_cons (e_var 1 rfl rfl (a_nil ⟨lt, l, _, mp, rfl, S.tw, hl, n5, by omega, hmp, ?_⟩)))))))
  rintro _ H1 e1 ⟨l1, rfl, h1⟩
  refine b_cons (s_set (i := 3) sc_merged.nd rfl (e_call c1 hr (by decide) (a_cons (f_uw T (S.mono e1) 0 rfl rfl (a_cons (e_var 1 rfl rfl (a_nil ⟨lu, l, _, mp, rfl, (S.mono e1).uw, e1 _ _ hl, by omega, by omega, by rw [hle]; exact hmp, ?_⟩)))))))
  rintro _ H2 e2 ⟨l2, rfl, h2⟩
  refine b_one (s_ret (e_call c2 hr (by decide) (a_cons (e_var 0 rfl rfl (a_cons (e_var 2 rfl rfl (a_cons (e_var 3 rfl rfl (a_nil ⟨a, s, l1, l2, _, _, rfl, ((S.mono e1).mono e2).a, e2 _ _ h1, h2, ?_⟩)))))))))
  rintro _ H3 e3 ⟨b, rfl, hb⟩
  exact k _ _ (e1.trans (e2.trans e3)) ⟨b, rfl, hb⟩
end
end Det
/-! asking.py -/
namespace Det
open PySem PySem.Spec PyProof.Rows L2
/-- a list of numbers that is new since H0 -/
def LsF (H0 H : Hp) (v : V) (l : List Int) : Prop := ∃ p, v = .ref p ∧ H0 p = none ∧ H p = some (.lst (iv l))
theorem LsF.old {H0 H1 H : Hp} {v : V} {l : List Int} (e : Same H0 H1) (h : LsF H1 H v l) : LsF H0 H v l := by
  obtain ⟨p, a, b, c⟩ := h
  exact ⟨p, a, e.free b, c⟩
theorem LsF.mono {H0 H H' : Hp} {v : V} {l : List Int} (e : Same H H') (h : LsF H0 H v l) : LsF H0 H' v l := by
  obtain ⟨p, a, b, c⟩ := h
  exact ⟨p, a, b, e _ _ c⟩
def spAsk (C : Addr) (wd : Int) : Sp := fun vs H Q _ => ∃ a s l ns, vs = [.ref a, .ref l] ∧ SetA C H a s ∧ Good s ∧ H l = some (.lst (iv ns)) ∧ Kp416Neutral.asked1 [wd :: ns] = true ∧ Rt H Q fun v H' => LsF H H' v (stp (some s) (wd :: ns)).2
theorem spAsk_len {C : Addr} {wd : Int} {x y : Str} : ∀ vs H Q E, spAsk C wd vs H Q E → vs.length = [x, y].length := by
  rintro vs H Q E ⟨a, s, l, ns, rfl, _⟩
  rfl
section
variable {X : Cx} {σ : L2.St} {H : Hp} {Q : VK} {p pos : Pos} {x : Str} {j : Int} {t : Tok}
/-- [CODE] -/
theorem e_err (ht : X.mg x = some (.int j t)) (h : ∀ v H', Same H H' → LsF H H' v [j] → Q v H') (hg : Gl X x := by rfl) (hd : (x == ("__debug__" : Str)) = false := by decide)
    (hs : starEach [.Name x p] X.env = (false, eval (.Name x p) X.env) :: starEach [] X.env := by rfl) : Ev X (.List [.Name x p] pos) σ H Q :=
  e_lst (a_cons (e_gi ht (a_nil ⟨by show 1 ≤ sizeLine; decide, fun q nq => h _ _ (same_new nq) ⟨q, rfl, nq, upd_same⟩⟩) hg hd) hs)
end
section
variable {P : Program} {w : World} {K : PySem.W.Frag} {mg : Str → Option Value} {base : Heap} {C : Addr}
def spTold : Sp := fun vs H Q _ => ∃ u x, vs = [u] ∧ Fr H u x ∧ Rt H Q fun v H' => LsF H H' v (an2 x)
theorem ok_told (T : Txt K mg C) : Ca P w K mg base 1 "told" ["fraction"] spTold := by
  refine ca_of T.d_told sc_told (by rintro vs H Q E ⟨u, x, rfl, _⟩; rfl) fun f cdv A outer s0 H vs Q E hr h => ?_
  obtain ⟨u, x, rfl, ⟨p, rfl, hp⟩, k⟩ := h
  refine b_one (s_ret (e_lst (a_cons (e_int (a_cons (e_ix ix_tup (e_var 0 rfl rfl (e_int ⟨p, _, _, _, rfl, rfl, SqT.of hp, at0, a_cons (e_ix ix_tup (e_var 0 rfl rfl (e_int ⟨p, _, _, _, rfl, rfl, SqT.of hp, at1, a_nil ⟨by show 3 ≤ sizeLine; decide, fun q nq => ?_⟩⟩)))⟩))))))))
  exact k _ _ (same_new nq) ⟨q, rfl, nq, upd_same⟩
def spTs (C : Addr) : Sp := fun vs H Q _ => ∃ a s, vs = [.ref a] ∧ SetA C H a s ∧ Good s ∧ Rt H Q fun v H' => LsF H H' v (anL (Kp416.cheatingSignals s))
theorem ok_told_signals (T : Txt K mg C) : Ca P w K mg base 3 "told_signals" ["setting"] (spTs C) := by
  have c1 := ok_paying_signals (P := P) (w := w) (base := base) T
  refine ca_of T.d_told_signals sc_told_signals (by rintro vs H Q E ⟨a, s, rfl, _⟩; rfl) fun f cdv A outer s0 H vs Q E hr h => ?_
  obtain ⟨a, s, rfl, hS, G, k⟩ := h
  have h5 := cs_len G
  refine b_cons (s_set (i := 1) sc_told_signals.nd rfl (e_call c1 hr (by decide) (a_cons (e_var 0 rfl rfl (a_nil ⟨a, s, rfl, hS, G, ?_⟩)))))
  rintro _ H1 e1 ⟨l, rfl, hl⟩
  refine b_one (s_ret (e_op op_cat (e_lst (a_cons (e_blt call_len_seq T.b_len (a_cons (e_var 1 rfl rfl (a_nil ⟨l, _, rfl, .inl (SqL.of hl), a_nil ⟨by show 1 ≤ sizeLine; decide, fun q nq => e_var 1 rfl rfl ?_⟩⟩))))))))
  refine ⟨q, l, _, _, rfl, rfl, upd_same, up_eq hl nq, by rw [nv_len]; show 1 + _ ≤ sizeLine; exact small (by omega), fun r nr => ?_⟩
  refine k _ _ (e1.trans ((same_new nq).trans (same_new nr))) ⟨r, rfl, (e1.trans (same_new nq)).free nr, ?_⟩
  rw [upd_same, nv_len]
  rfl
theorem ok_cheating_value (T : Txt K mg C) : Ca P w K mg base 4 "cheating_value" ["setting", "numbers"] (spAsk C 6) := by
  have c1 := ok_signal_count (P := P) (w := w) (base := base) T
  have c2 := ok_profit_of (P := P) (w := w) (base := base) T
  have c3 := ok_told (P := P) (w := w) (base := base) T
  obtain ⟨t, ht⟩ := T.c_NO_SIGNAL
  refine ca_of T.d_cheating_value sc_cheating_value spAsk_len fun f cdv A outer s0 H vs Q E hr h => ?_
  obtain ⟨a, s, l, ns, rfl, hS, G, hl, hask, k⟩ := h
  obtain ⟨n, rfl, hn⟩ := as1 (by decide) hask
  rw [stp6] at k
  refine b_cons (s_if (t_cmp op_ge (e_ix ix_list (e_var 1 rfl rfl (e_int ⟨l, _, _, _, rfl, rfl, SqL.of hl, rfl, e_call c1 hr (by decide) (a_cons (e_var 0 rfl rfl (a_nil ⟨a, s, rfl, hS, G, fun v H1 e1 ev => ?_⟩)))⟩)))))
  subst ev
  refine ⟨_, _, rfl, rfl, _, rfl, dec2 (fun c => ?_) fun c => ?_⟩
  · refine b_one (s_ret (e_err ht fun v H2 e2 hv => k _ _ (e1.trans e2) ?_))
    show LsF H H2 v (if _ then _ else _)
    rw [if_neg (by omega)]
    exact hv.old e1
  · refine b_nil (b_one (s_ret (e_call c3 hr (by decide) (a_cons (e_call c2 hr (by decide) (a_cons (e_var 0 rfl rfl (a_cons (e_lst (a_cons (e_ix ix_list (e_var 1 rfl rfl (e_int ⟨l, _, _, _, rfl, rfl, SqL.of (e1 _ _ hl), rfl, a_nil ⟨by show 1 ≤ sizeLine; decide, fun q nq => ?_⟩⟩)))))))))))))
    refine a_nil ⟨a, s, q, [n], rfl, (hS.mono e1).mono (same_new nq), G, upd_same, fun i hi => ?_, by show 1 ≤ 5; decide, fun u H2 e2 hu => a_nil ⟨u, _, rfl, hu, fun v H3 e3 hv => k _ _ (e1.trans ((same_new nq).trans (e2.trans e3))) ?_⟩⟩
    · obtain rfl := List.mem_singleton.mp hi
      omega
    · show LsF H H3 v (if _ then _ else _)
      rw [if_pos (by omega)]
      have e : Kp416.sumOver (Kp416.cheatingValue s) [n] = Kp416.cheatingValue s n := by
        show Kp416.cheatingValue s n + 0 = _
        exact Rat.add_zero _
      rw [← e]
      exact hv.old (e1.trans ((same_new nq).trans e2))
theorem ok_cheating_signals (T : Txt K mg C) : Ca P w K mg base 4 "cheating_signals" ["setting", "numbers"] (spAsk C 7) := by
  have c1 := ok_told_signals (P := P) (w := w) (base := base) T
  refine ca_of T.d_cheating_signals sc_cheating_signals spAsk_len fun f cdv A outer s0 H vs Q E hr h => ?_
  obtain ⟨a, s, l, ns, rfl, hS, G, hl, hask, k⟩ := h
  obtain rfl := as0 (by decide) hask
  exact b_one (s_ret (e_call c1 hr (by decide) (a_cons (e_var 0 rfl rfl (a_nil ⟨a, s, rfl, hS, G, k⟩)))))
theorem ok_expected_profit (T : Txt K mg C) : Ca P w K mg base 4 "expected_profit" ["setting", "numbers"] (spAsk C 8) := by
  have c1 := ok_paying_signals (P := P) (w := w) (base := base) T
  have c2 := ok_profit_of (P := P) (w := w) (base := base) T
  have c3 := ok_told (P := P) (w := w) (base := base) T
  refine ca_of T.d_expected_profit sc_expected_profit spAsk_len fun f cdv A outer s0 H vs Q E hr h => ?_
  obtain ⟨a, s, l, ns, rfl, hS, G, hl, hask, k⟩ := h
  obtain rfl := as0 (by decide) hask
  refine b_one (s_ret (e_call c3 hr (by decide) (a_cons (e_call c2 hr (by decide) (a_cons (e_var 0 rfl rfl (a_cons (e_call c1 hr (by decide) (a_cons (e_var 0 rfl rfl (a_nil ⟨a, s, rfl, hS, G, ?_⟩)))))))))))
  rintro _ H1 e1 ⟨q, rfl, hq⟩
  exact a_nil ⟨a, s, q, _, rfl, hS.mono e1, G, hq, cs_lt, cs_len G, fun u H2 e2 hu => a_nil ⟨u, _, rfl, hu, fun v H3 e3 hv => k _ _ (e1.trans (e2.trans e3)) (hv.old (e1.trans e2))⟩⟩
theorem ok_expected_profit_of (T : Txt K mg C) : Ca P w K mg base 4 "expected_profit_of" ["setting", "numbers"] (spAsk C 9) := by
  have c1 := ok_signal_count (P := P) (w := w) (base := base) T
  have c2 := ok_profit_of (P := P) (w := w) (base := base) T
  have c3 := ok_told (P := P) (w := w) (base := base) T
  have c4 := ok_signals_in (P := P) (w := w) (base := base) T
  obtain ⟨t, ht⟩ := T.c_BEYOND
  refine ca_of T.d_expected_profit_of sc_expected_profit_of spAsk_len fun f cdv A outer s0 H vs Q E hr h => ?_
  obtain ⟨a, s, l, ns, rfl, hS, G, hl, hask, k⟩ := h
  obtain ⟨n, rfl, hn⟩ := as1 (by decide) hask
  rw [stp9] at k
  have n5 := G.n5
  refine b_cons (s_set (i := 2) sc_expected_profit_of.nd rfl (e_call c4 hr (by decide) (a_cons (e_ix ix_list (e_var 1 rfl rfl (e_int ⟨l, _, _, _, rfl, rfl, SqL.of hl, rfl, a_cons (e_call c1 hr (by decide) (a_cons (e_var 0 rfl rfl (a_nil ⟨a, s, rfl, hS, G, fun v H1 e1 ev => ?_⟩))))⟩))))))
  subst ev
  refine a_nil ⟨n, s.model.testWeights.length, rfl, n5, fun v H2 e2 hv => ?_⟩
  have hv' : if 2 ^ s.model.testWeights.length ≤ n then v = .non else LsN H2 v (sig n s.model.testWeights.length) := hv
  by_cases c : 2 ^ s.model.testWeights.length ≤ n
  · rw [if_pos c] at hv' k
    subst hv'
    refine b_cons (s_if (t_cmp op_isN (e_var 2 rfl rfl (e_non ⟨rfl, _, rfl, dec2 (fun _ => ?_) fun q => absurd rfl q⟩))))
    exact b_one (s_ret (e_err ht fun v H3 e3 hv => k _ _ (e1.trans (e2.trans e3)) (hv.old (e1.trans e2))))
  · rw [if_neg c] at hv' k
    obtain ⟨q, rfl, hq⟩ := hv'
    refine b_cons (s_if (t_cmp op_isN (e_var 2 rfl rfl (e_non ⟨rfl, _, rfl, dec2 (fun q => by cases q) fun _ => b_nil ?_⟩))))
    refine b_one (s_ret (e_call c3 hr (by decide) (a_cons (e_call c2 hr (by decide) (a_cons (e_var 0 rfl rfl (a_cons (e_var 2 rfl rfl (a_nil ?_)))))))))
    refine ⟨a, s, q, _, rfl, hS.mono (e1.trans e2), G, hq, fun i hi => ?_, Nat.le_trans (sig_len _ _) n5, fun u H3 e3 hu => a_nil ⟨u, _, rfl, hu, fun v H4 e4 hv => k _ _ (e1.trans (e2.trans (e3.trans e4))) (hv.old (e1.trans (e2.trans e3)))⟩⟩
    exact List.mem_range.mp (List.mem_filter.mp hi).1
theorem ok_detection_probability (T : Txt K mg C) : Ca P w K mg base 4 "detection_probability" ["setting", "numbers"] (spAsk C 10) := by
  have c2 := ok_detection_of (P := P) (w := w) (base := base) T
  have c3 := ok_told (P := P) (w := w) (base := base) T
  refine ca_of T.d_detection_probability sc_detection_probability spAsk_len fun f cdv A outer s0 H vs Q E hr h => ?_
  obtain ⟨a, s, l, ns, rfl, hS, G, hl, hask, k⟩ := h
  obtain rfl := as0 (by decide) hask
  exact b_one (s_ret (e_call c3 hr (by decide) (a_cons (e_call c2 hr (by decide) (a_cons (e_var 0 rfl rfl (a_nil ⟨a, s, rfl, hS, G, fun u H2 e2 hu => a_nil ⟨u, _, rfl, hu, fun v H3 e3 hv => k _ _ (e2.trans e3) (hv.old e2)⟩⟩)))))))
theorem ok_harm_probability (T : Txt K mg C) : Ca P w K mg base 4 "harm_probability" ["setting", "numbers"] (spAsk C 11) := by
  have c2 := ok_harm_of (P := P) (w := w) (base := base) T
  have c3 := ok_told (P := P) (w := w) (base := base) T
  refine ca_of T.d_harm_probability sc_harm_probability spAsk_len fun f cdv A outer s0 H vs Q E hr h => ?_
  obtain ⟨a, s, l, ns, rfl, hS, G, hl, hask, k⟩ := h
  obtain rfl := as0 (by decide) hask
  exact b_one (s_ret (e_call c3 hr (by decide) (a_cons (e_call c2 hr (by decide) (a_cons (e_var 0 rfl rfl (a_nil ⟨a, s, rfl, hS, G, fun u H2 e2 hu => a_nil ⟨u, _, rfl, hu, fun v H3 e3 hv => k _ _ (e2.trans e3) (hv.old e2)⟩⟩)))))))
theorem ok_total_cost (T : Txt K mg C) : Ca P w K mg base 5 "total_cost" ["setting", "numbers"] (spAsk C 12) := by
  have c2 := ok_cost_of (P := P) (w := w) (base := base) T
  have c3 := ok_told (P := P) (w := w) (base := base) T
  refine ca_of T.d_total_cost sc_total_cost spAsk_len fun f cdv A outer s0 H vs Q E hr h => ?_
  obtain ⟨a, s, l, ns, rfl, hS, G, hl, hask, k⟩ := h
  obtain rfl := as0 (by decide) hask
  exact b_one (s_ret (e_call c3 hr (by decide) (a_cons (e_call c2 hr (by decide) (a_cons (e_var 0 rfl rfl (a_nil ⟨a, s, rfl, hS, G, fun u H2 e2 hu => a_nil ⟨u, _, rfl, hu, fun v H3 e3 hv => k _ _ (e2.trans e3) (hv.old e2)⟩⟩)))))))
end
end Det
/-! asking.py, further -/
namespace Det
open PySem PySem.Spec PyProof.Rows L2
section
variable {P : Program} {w : World} {K : PySem.W.Frag} {mg : Str → Option Value} {base : Heap} {C : Addr}
theorem ok_deterrent_prior_at (T : Txt K mg C) : Ca P w K mg base 4 "deterrent_prior_at" ["setting", "numbers"] (spAsk C 13) := by
  have c1 := ok_signal_count (P := P) (w := w) (base := base) T
  have c2 := ok_deterrent_at (P := P) (w := w) (base := base) T
  have c3 := ok_told (P := P) (w := w) (base := base) T
  obtain ⟨t, ht⟩ := T.c_NO_SIGNAL
  obtain ⟨t', ht'⟩ := T.c_NO_PRIOR
  refine ca_of T.d_deterrent_prior_at sc_deterrent_prior_at spAsk_len fun f cdv A outer s0 H vs Q E hr h => ?_
  obtain ⟨a, s, l, ns, rfl, hS, G, hl, hask, k⟩ := h
  obtain ⟨n, rfl, hn⟩ := as1 (by decide) hask
  rw [stp13] at k
  refine b_cons (s_if (t_cmp op_ge (e_ix ix_list (e_var 1 rfl rfl (e_int ⟨l, _, _, _, rfl, rfl, SqL.of hl, rfl, e_call c1 hr (by decide) (a_cons (e_var 0 rfl rfl (a_nil ⟨a, s, rfl, hS, G, fun v H1 e1 ev => ?_⟩)))⟩)))))
  subst ev
  refine ⟨_, _, rfl, rfl, _, rfl, dec2 (fun c => ?_) fun c => ?_⟩
  · rw [if_neg (by omega)] at k
    exact b_one (s_ret (e_err ht fun v H2 e2 hv => k _ _ (e1.trans e2) (hv.old e1)))
  · rw [if_pos (by omega)] at k
    refine b_nil (b_cons (s_set (i := 2) sc_deterrent_prior_at.nd rfl (e_call c2 hr (by decide) (a_cons (e_var 0 rfl rfl (a_cons (e_ix ix_list (e_var 1 rfl rfl (e_int ⟨l, _, _, _, rfl, rfl, SqL.of (e1 _ _ hl), rfl, a_nil ⟨a, s, n, rfl, hS.mono e1, G, by omega, fun u H2 e2 hu => ?_⟩⟩)))))))))
    replace hu : FrO H2 u (Kp416.deterrentPriorAt s n) := hu
    cases hd : Kp416.deterrentPriorAt s n with
    | none =>
      rw [hd] at hu k
      have eu : u = .non := hu
      subst eu
      exact b_one (s_ret (e_if (t_cmp op_isN (e_var 2 rfl rfl (e_non ⟨rfl, _, rfl, dec2 (fun _ => e_err ht' fun v H3 e3 hv => k _ _ (e1.trans (e2.trans e3)) (hv.old (e1.trans e2))) fun q => absurd rfl q⟩)))))
    | some x =>
      rw [hd] at hu k
      obtain ⟨q, rfl, hq⟩ := hu
      exact b_one (s_ret (e_if (t_cmp op_isN (e_var 2 rfl rfl (e_non ⟨rfl, _, rfl, dec2 (fun q => by cases q) fun _ => e_call c3 hr (by decide) (a_cons (e_var 2 rfl rfl (a_nil ⟨_, x, rfl, ⟨q, rfl, hq⟩, fun v H3 e3 hv => k _ _ (e1.trans (e2.trans e3)) (hv.old (e1.trans e2))⟩)))⟩)))))
theorem ok_deterrent_prior (T : Txt K mg C) : Ca P w K mg base 6 "deterrent_prior" ["setting", "numbers"] (spAsk C 14) := by
  have c2 := ok_deterrent_of (P := P) (w := w) (base := base) T
  have c3 := ok_told (P := P) (w := w) (base := base) T
  obtain ⟨t', ht'⟩ := T.c_NO_PRIOR
  refine ca_of T.d_deterrent_prior sc_deterrent_prior spAsk_len fun f cdv A outer s0 H vs Q E hr h => ?_
  obtain ⟨a, s, l, ns, rfl, hS, G, hl, hask, k⟩ := h
  obtain rfl := as0 (by decide) hask
  rw [stp14] at k
  refine b_cons (s_set (i := 2) sc_deterrent_prior.nd rfl (e_call c2 hr (by decide) (a_cons (e_var 0 rfl rfl (a_nil ⟨a, s, rfl, hS, G, fun u H2 e2 hu => ?_⟩)))))
  replace hu : FrO H2 u (Kp416.deterrentPrior s) := hu
  cases hd : Kp416.deterrentPrior s with
  | none =>
    rw [hd] at hu k
    have eu : u = .non := hu
    subst eu
    exact b_one (s_ret (e_if (t_cmp op_isN (e_var 2 rfl rfl (e_non ⟨rfl, _, rfl, dec2 (fun _ => e_err ht' fun v H3 e3 hv => k _ _ (e2.trans e3) (hv.old e2)) fun q => absurd rfl q⟩)))))
  | some x =>
    rw [hd] at hu k
    obtain ⟨q, rfl, hq⟩ := hu
    exact b_one (s_ret (e_if (t_cmp op_isN (e_var 2 rfl rfl (e_non ⟨rfl, _, rfl, dec2 (fun q => by cases q) fun _ => e_call c3 hr (by decide) (a_cons (e_var 2 rfl rfl (a_nil ⟨_, x, rfl, ⟨q, rfl, hq⟩, fun v H3 e3 hv => k _ _ (e2.trans e3) (hv.old e2)⟩)))⟩)))))
theorem ok_preview_merge (T : Txt K mg C) : Ca P w K mg base 6 "preview_merge" ["setting", "numbers"] (spAsk C 15) := by
  have c1 := ok_is_mapping (P := P) (w := w) (base := base) T
  have c2 := ok_merged (P := P) (w := w) (base := base) T
  have c3 := ok_deterrent_of (P := P) (w := w) (base := base) T
  have c4 := ok_paying_signals (P := P) (w := w) (base := base) T
  have c5 := ok_profit_of (P := P) (w := w) (base := base) T
  have c6 := ok_told (P := P) (w := w) (base := base) T
  obtain ⟨t, ht⟩ := T.c_BEYOND
  obtain ⟨t', ht'⟩ := T.c_NO_PRIOR
  refine ca_of T.d_preview_merge sc_preview_merge spAsk_len fun f cdv A outer s0 H vs Q E hr h => ?_
  obtain ⟨a, s, l, ns, rfl, hS, G, hl, hask, k⟩ := h
  obtain ⟨ws, rfl, hn⟩ := as8 (by decide) hask
  rw [stp15] at k
  refine b_cons (s_if (t_not (t_val (e_call c1 hr (by decide) (a_cons (e_var 0 rfl rfl (a_cons (e_var 1 rfl rfl (a_nil ⟨a, s, l, ws, rfl, hS, G, hl, hn, fun v H1 e1 ev => ⟨_, ev, ?_⟩⟩)))))))))
  cases hv : Kp415.validMapping s.model ws with
  | false =>
    rw [hv, if_neg (by decide)] at k
    refine iteT (b_one (s_ret (e_err ht fun v H2 e2 hv => k _ _ (e1.trans e2) (hv.old e1))))
  | true =>
    rw [hv, if_pos rfl] at k
    refine iteF (b_nil (b_cons (s_set (i := 2) sc_preview_merge.nd rfl (e_call c2 hr (by decide) (a_cons (e_var 0 rfl rfl (a_cons (e_var 1 rfl rfl (a_nil ⟨a, s, l, ws, rfl, hS.mono e1, G, e1 _ _ hl, hv, ?_⟩)))))))))
    rintro _ H2 e2 ⟨b, rfl, hb⟩
    have Gm := good_merge G hv
    refine b_cons (s_set (i := 3) sc_preview_merge.nd rfl (e_call c3 hr (by decide) (a_cons (e_var 2 rfl rfl (a_nil ⟨b, _, rfl, hb, Gm, fun u H3 e3 hu => ?_⟩)))))
    replace hu : FrO H3 u (Kp416.deterrentPrior (Kp416.merged s ws)) := hu
    cases hd : Kp416.deterrentPrior (Kp416.merged s ws) with
    | none =>
      rw [hd] at hu k
      have eu : u = .non := hu
      subst eu
      exact b_cons (s_if (t_cmp op_isN (e_var 3 rfl rfl (e_non ⟨rfl, _, rfl, dec2 (fun _ => b_one (s_ret (e_err ht' fun v H4 e4 hv => k _ _ (e1.trans (e2.trans (e3.trans e4))) (hv.old (e1.trans (e2.trans e3)))))) fun q => absurd rfl q⟩))))
    | some x =>
      rw [hd] at hu k
      obtain ⟨q, rfl, hq⟩ := hu
      refine b_cons (s_if (t_cmp op_isN (e_var 3 rfl rfl (e_non ⟨rfl, _, rfl, dec2 (fun q => by cases q) fun _ => b_nil ?_⟩))))
      refine b_cons (s_set (i := 4) sc_preview_merge.nd rfl (e_call c5 hr (by decide) (a_cons (e_var 2 rfl rfl (a_cons (e_call c4 hr (by decide) (a_cons (e_var 2 rfl rfl (a_nil ⟨b, _, rfl, hb.mono e3, Gm, ?_⟩)))))))))
      rintro _ H4 e4 ⟨q4, rfl, hq4⟩
      refine a_nil ⟨b, _, q4, _, rfl, (hb.mono e3).mono e4, Gm, hq4, cs_lt, cs_len Gm, ?_⟩
      rintro _ H5 e5 ⟨r, rfl, hr5⟩
      refine b_one (s_ret (e_op op_cat (e_call c6 hr (by decide) (a_cons (e_var 3 rfl rfl (a_nil ⟨_, x, rfl, ⟨q, rfl, e5 _ _ (e4 _ _ hq)⟩, ?_⟩))))))
      rintro _ H6 e6 ⟨r6, rfl, _, hr6⟩
      refine e_lst (a_cons (e_ix ix_tup (e_var 4 rfl rfl (e_int ⟨r, _, _, _, rfl, rfl, SqT.of (e6 _ _ hr5), at0, a_cons (e_ix ix_tup (e_var 4 rfl rfl (e_int ⟨r, _, _, _, rfl, rfl, SqT.of (e6 _ _ hr5), at1, a_nil ⟨by show 2 ≤ sizeLine; decide, fun q7 n7 => ?_⟩⟩)))⟩))))
      refine ⟨r6, q7, _, _, rfl, rfl, up_eq hr6 n7, upd_same, by show 5 ≤ sizeLine; decide, fun q8 n8 => ?_⟩
      exact k _ _ (e1.trans (e2.trans (e3.trans (e4.trans (e5.trans (e6.trans ((same_new n7).trans (same_new n8)))))))) ⟨q8, rfl, (e1.trans (e2.trans (e3.trans (e4.trans (e5.trans (e6.trans (same_new n7))))))).free n8, upd_same⟩
theorem ok_cheapest_prior (T : Txt K mg C) : Ca P w K mg base 6 "cheapest_prior" ["setting", "numbers"] (spAsk C 17) := by
  have c2 := ok_cheapest_of (P := P) (w := w) (base := base) T
  have c6 := ok_told (P := P) (w := w) (base := base) T
  refine ca_of T.d_cheapest_prior sc_cheapest_prior spAsk_len fun f cdv A outer s0 H vs Q E hr h => ?_
  obtain ⟨a, s, l, ns, rfl, hS, G, hl, hask, k⟩ := h
  obtain rfl := as0 (by decide) hask
  rw [stp17] at k
  refine b_cons (s_unp (i := 2) (j := 3) sc_cheapest_prior.nd rfl rfl (e_call c2 hr (by decide) (a_cons (e_var 0 rfl rfl (a_nil ⟨a, s, rfl, hS, G, ?_⟩)))))
  rintro _ H1 e1 ⟨p, v1, v2, rfl, hp, f1, ⟨r, rfl, hr2⟩⟩
  refine ⟨p, v1, _, rfl, hp, ?_⟩
  refine b_one (s_ret (e_op op_cat (e_call c6 hr (by decide) (a_cons (e_var 2 rfl rfl (a_nil ⟨_, _, rfl, f1, ?_⟩))))))
  rintro _ H6 e6 ⟨r6, rfl, _, hr6⟩
  refine e_lst (a_cons (e_ix ix_tup (e_var 3 rfl rfl (e_int ⟨r, _, _, _, rfl, rfl, SqT.of (e6 _ _ hr2), at0, a_cons (e_ix ix_tup (e_var 3 rfl rfl (e_int ⟨r, _, _, _, rfl, rfl, SqT.of (e6 _ _ hr2), at1, a_nil ⟨by show 2 ≤ sizeLine; decide, fun q7 n7 => ?_⟩⟩)))⟩))))
  refine ⟨r6, q7, _, _, rfl, rfl, up_eq hr6 n7, upd_same, by show 5 ≤ sizeLine; decide, fun q8 n8 => ?_⟩
  exact k _ _ (e1.trans (e6.trans ((same_new n7).trans (same_new n8)))) ⟨q8, rfl, (e1.trans (e6.trans (same_new n7))).free n8, upd_same⟩
theorem ok_cheating_signals_for_prior (T : Txt K mg C) : Ca P w K mg base 4 "cheating_signals_for_prior" ["setting", "numbers"] (spAsk C 18) := by
  have c1 := ok_is_prior (P := P) (w := w) (base := base) T
  have c2 := ok_with_prior (P := P) (w := w) (base := base) T
  have c3 := ok_told_signals (P := P) (w := w) (base := base) T
  obtain ⟨t, ht⟩ := T.c_BEYOND
  refine ca_of T.d_cheating_signals_for_prior sc_cheating_signals_for_prior spAsk_len fun f cdv A outer s0 H vs Q E hr h => ?_
  obtain ⟨a, s, l, ns, rfl, hS, G, hl, hask, k⟩ := h
  obtain ⟨n, d, rfl, hn, hd⟩ := as2 (by decide) hask
  rw [stp18] at k
  refine b_cons (s_if (t_not (t_val (e_call c1 hr (by decide) (a_cons (e_ix ix_list (e_var 1 rfl rfl (e_int ⟨l, _, _, _, rfl, rfl, SqL.of hl, rfl, a_cons (e_ix ix_list (e_var 1 rfl rfl (e_int ⟨l, _, _, _, rfl, rfl, SqL.of hl, rfl, a_nil ⟨n, d, rfl, fun v H1 e1 ev => ⟨_, ev, ?_⟩⟩⟩)))⟩))))))))
  cases hv : Kp415.validFraction n d with
  | false =>
    rw [hv, if_neg (by decide)] at k
    exact iteT (b_one (s_ret (e_err ht fun v H2 e2 hv => k _ _ (e1.trans e2) (hv.old e1))))
  | true =>
    rw [hv, if_pos rfl] at k
    refine iteF (b_nil (b_one (s_ret (e_call c3 hr (by decide) (a_cons (e_call c2 hr (by decide) (a_cons (e_var 0 rfl rfl (a_cons (e_tup (a_cons (e_ix ix_list (e_var 1 rfl rfl (e_int ⟨l, _, _, _, rfl, rfl, SqL.of (e1 _ _ hl), rfl, ?_⟩))))))))))))))
    refine a_cons (e_ix ix_list (e_var 1 rfl rfl (e_int ⟨l, _, _, _, rfl, rfl, SqL.of (e1 _ _ hl), rfl, a_nil ⟨by show 2 ≤ sizeLine; decide, fun q nq => a_nil ⟨a, s, q, n, d, rfl, (hS.mono e1).mono (same_new nq), upd_same, ?_⟩⟩⟩)))
    rintro _ H2 e2 ⟨b, rfl, hb⟩
    exact a_nil ⟨b, _, rfl, hb, good_pr G hv, fun v H3 e3 h3 => k _ _ (e1.trans ((same_new nq).trans (e2.trans e3))) (h3.old (e1.trans ((same_new nq).trans e2)))⟩
theorem ok_cheating_signals_for_stakes (T : Txt K mg C) : Ca P w K mg base 4 "cheating_signals_for_stakes" ["setting", "numbers"] (spAsk C 19) := by
  have c1 := ok_is_money (P := P) (w := w) (base := base) T
  have c2 := ok_with_stakes (P := P) (w := w) (base := base) T
  have c3 := ok_told_signals (P := P) (w := w) (base := base) T
  obtain ⟨t, ht⟩ := T.c_BEYOND
  refine ca_of T.d_cheating_signals_for_stakes sc_cheating_signals_for_stakes spAsk_len fun f cdv A outer s0 H vs Q E hr h => ?_
  obtain ⟨a, s, l, ns, rfl, hS, G, hl, hask, k⟩ := h
  obtain ⟨n, d, rfl, hn, hd⟩ := as2 (by decide) hask
  rw [stp19] at k
  refine b_cons (s_if (t_not (t_val (e_call c1 hr (by decide) (a_cons (e_ix ix_list (e_var 1 rfl rfl (e_int ⟨l, _, _, _, rfl, rfl, SqL.of hl, rfl, a_cons (e_ix ix_list (e_var 1 rfl rfl (e_int ⟨l, _, _, _, rfl, rfl, SqL.of hl, rfl, a_nil ⟨n, d, rfl, fun v H1 e1 ev => ⟨_, ev, ?_⟩⟩⟩)))⟩))))))))
  cases hv : (Kp416.validAmount n && Kp416.validAmount d) with
  | false =>
    rw [hv, if_neg (by decide)] at k
    exact iteT (b_one (s_ret (e_err ht fun v H2 e2 hv => k _ _ (e1.trans e2) (hv.old e1))))
  | true =>
    rw [hv, if_pos rfl] at k
    refine iteF (b_nil (b_one (s_ret (e_call c3 hr (by decide) (a_cons (e_call c2 hr (by decide) (a_cons (e_var 0 rfl rfl (a_cons (e_tup (a_cons (e_ix ix_list (e_var 1 rfl rfl (e_int ⟨l, _, _, _, rfl, rfl, SqL.of (e1 _ _ hl), rfl, ?_⟩))))))))))))))
    refine a_cons (e_ix ix_list (e_var 1 rfl rfl (e_int ⟨l, _, _, _, rfl, rfl, SqL.of (e1 _ _ hl), rfl, a_nil ⟨by show 2 ≤ sizeLine; decide, fun q nq => a_nil ⟨a, s, q, n, d, rfl, (hS.mono e1).mono (same_new nq), upd_same, ?_⟩⟩⟩)))
    rintro _ H2 e2 ⟨b, rfl, hb⟩
    exact a_nil ⟨b, _, rfl, hb, good_st G hv, fun v H3 e3 h3 => k _ _ (e1.trans ((same_new nq).trans (e2.trans e3))) (h3.old (e1.trans ((same_new nq).trans e2)))⟩
theorem ok_get_settings (T : Txt K mg C) : Ca P w K mg base 2 "get_settings" ["setting", "numbers"] (spAsk C 20) := by
  have c1 := ok_signal_count (P := P) (w := w) (base := base) T
  refine ca_of T.d_get_settings sc_get_settings spAsk_len fun f cdv A outer s0 H vs Q E hr h => ?_
  obtain ⟨a, s, l, ns, rfl, ⟨dx, lt, lu, tp, ts, tq, S⟩, G, hl, hask, k⟩ := h
  obtain rfl := as0 (by decide) hask
  rw [stp20] at k
  have n5 := G.n5
  have hle := G.len
  refine b_cons (s_set (i := 2) sc_get_settings.nd rfl (e_lst (a_cons (e_call c1 hr (by decide) (a_cons (e_var 0 rfl rfl (a_nil ⟨a, s, rfl, S.a, G, fun v H1 e1 ev => ?_⟩)))))))
  subst ev
  have S1 := S.mono e1
  refine a_cons (e_ix ix_tup (f_pr T S1 0 rfl rfl (e_int ⟨tp, _, _, _, rfl, rfl, SqT.of S1.pr, at0, a_cons (e_ix ix_tup (f_pr T S1 0 rfl rfl (e_int ⟨tp, _, _, _, rfl, rfl, SqT.of S1.pr, at1, ?_⟩)))⟩)))
  refine a_cons (e_ix ix_tup (f_st T S1 0 rfl rfl (e_int ⟨ts, _, _, _, rfl, rfl, SqT.of S1.st, at0, a_cons (e_ix ix_tup (f_st T S1 0 rfl rfl (e_int ⟨ts, _, _, _, rfl, rfl, SqT.of S1.st, at1, ?_⟩)))⟩)))
  refine a_nil ⟨by show 5 ≤ sizeLine; decide, fun q nq => ?_⟩
  refine b_one (s_ret (e_op op_cat (e_op op_cat (e_op op_cat (e_var 2 rfl rfl (e_lst ?_))))))
  refine a_cons (e_ix ix_tup (f_pc T (S1.mono (same_new nq)) 0 rfl rfl (e_int ⟨tq, _, _, _, rfl, rfl, SqT.of (up_eq S1.pc nq), at0, a_cons (e_ix ix_tup (f_pc T (S1.mono (same_new nq)) 0 rfl rfl (e_int ⟨tq, _, _, _, rfl, rfl, SqT.of (up_eq S1.pc nq), at1, ?_⟩)))⟩)))
  refine a_nil ⟨by show 2 ≤ sizeLine; decide, fun q2 nq2 => ?_⟩
  refine ⟨q, q2, _, _, rfl, rfl, up_eq upd_same nq2, upd_same, by show 7 ≤ sizeLine; decide, fun q3 nq3 => ?_⟩
  refine f_tw T (((S1.mono (same_new nq)).mono (same_new nq2)).mono (same_new nq3)) 0 rfl rfl ⟨q3, lt, _, _, rfl, rfl, upd_same, up_eq (up_eq (up_eq S1.tw nq) nq2) nq3, by rw [nv_len]; show 7 + _ ≤ sizeLine; exact small (by omega), fun q4 nq4 => ?_⟩
  refine f_uw T ((((S1.mono (same_new nq)).mono (same_new nq2)).mono (same_new nq3)).mono (same_new nq4)) 0 rfl rfl ⟨q4, lu, _, _, rfl, rfl, upd_same, up_eq (up_eq (up_eq (up_eq S1.uw nq) nq2) nq3) nq4, by rw [List.length_append, nv_len, nv_len]; show 7 + _ + _ ≤ sizeLine; exact small (by omega), fun q5 nq5 => ?_⟩
  refine k _ _ (e1.trans ((same_new nq).trans ((same_new nq2).trans ((same_new nq3).trans ((same_new nq4).trans (same_new nq5)))))) ⟨q5, rfl, (e1.trans ((same_new nq).trans ((same_new nq2).trans ((same_new nq3).trans (same_new nq4))))).free nq5, ?_⟩
  rw [upd_same, List.append_assoc, ← nv_app]
  rfl
end
end Det
/-! changing.py -/
namespace Det
open PySem PySem.Spec PyProof.Rows L2
def StV (C : Addr) (H : Hp) (v : V) : Option Stg → Prop
  | none => v = .non
  | some s => ∃ a, v = .ref a ∧ SetA C H a s
theorem StV.mono {C : Addr} {H H' : Hp} {v : V} {st : Option Stg} (e : Same H H') (h : StV C H v st) : StV C H' v st := by
  cases st with
  | none => exact h
  | some s =>
    obtain ⟨a, ha, hs⟩ := h
    exact ⟨a, ha, hs.mono e⟩
/-- a tuple of a setting (or None) and an answer -/
def Pr2 (C : Addr) (H0 H : Hp) (v : V) (r : Option Stg × List Int) : Prop := ∃ p v1 v2, v = .ref p ∧ H p = some (.tup [v1, v2]) ∧ StV C H v1 r.1 ∧ LsF H0 H v2 r.2
def spCh (C : Addr) (wd : Int) : Sp := fun vs H Q _ => ∃ a s l ns, vs = [.ref a, .ref l] ∧ SetA C H a s ∧ Good s ∧ H l = some (.lst (iv ns)) ∧ Kp416Neutral.asked1 [wd :: ns] = true ∧ Rt H Q fun v H' => Pr2 C H H' v (stp (some s) (wd :: ns))
theorem spCh_len {C : Addr} {wd : Int} {x y : Str} : ∀ vs H Q E, spCh C wd vs H Q E → vs.length = [x, y].length := by
  rintro vs H Q E ⟨a, s, l, ns, rfl, _⟩
  rfl
def spCr (C : Addr) : Sp := fun vs H Q _ => ∃ v0 st l ns, vs = [v0, .ref l] ∧ StV C H v0 st ∧ H l = some (.lst (iv ns)) ∧ Kp416Neutral.asked1 [0 :: ns] = true ∧ Rt H Q fun v H' => Pr2 C H H' v (stp st (0 :: ns))
section
variable {X : Cx} {C : Addr} {σ : L2.St} {H : Hp} {Q : VK} {p pos pos' : Pos} {e1 e2 : Expr} {k} {st : Option Stg} {out : List Int}
/-- (a, b), a setting and an answer -/
theorem e_pr2 (H0 : Hp) (h : Ev X e1 σ H fun v1 H1 => StV C H1 v1 st ∧ Ev X e2 σ H1 fun v2 H2 => Same H1 H2 ∧ LsF H0 H2 v2 out ∧ ∀ v H3, Same H2 H3 → Pr2 C H0 H3 v (st, out) → Q v H3)
    (hs1 : starEach [e1, e2] X.env = (false, eval e1 X.env) :: starEach [e2] X.env := by rfl) (hs2 : starEach [e2] X.env = (false, eval e2 X.env) :: starEach [] X.env := by rfl) : Ev X (.Tuple [e1, e2] k pos) σ H Q :=
  e_tup (a_cons (Ev.imp h fun v1 H1 ⟨h1, h2⟩ => a_cons (Ev.imp h2 fun v2 H2 ⟨sm, h3, h4⟩ => a_nil ⟨by show 2 ≤ sizeLine; decide, fun q nq => h4 _ _ (same_new nq) ⟨q, v1, v2, rfl, upd_same, (h1.mono sm).mono (same_new nq), h3.mono (same_new nq)⟩⟩) hs2) hs1)
end
section
variable {P : Program} {w : World} {K : PySem.W.Frag} {mg : Str → Option Value} {base : Heap} {C : Addr}
theorem ok_create (T : Txt K mg C) : Ca P w K mg base 4 "create" ["setting", "numbers"] (spCr C) := by
  have c1 := ok_is_count (P := P) (w := w) (base := base) T
  have c2 := ok_fresh (P := P) (w := w) (base := base) T
  obtain ⟨t, ht⟩ := T.c_BEYOND
  refine ca_of T.d_create sc_create (by rintro vs H Q E ⟨v0, st, l, ns, rfl, _⟩; rfl) fun f cdv A outer s0 H vs Q E hr h => ?_
  obtain ⟨v0, st, l, ns, rfl, hS, hl, hask, k⟩ := h
  obtain ⟨n, rfl, hn⟩ := as1 (by decide) hask
  rw [stp0] at k
  refine b_cons (s_if (t_not (t_val (e_call c1 hr (by decide) (a_cons (e_ix ix_list (e_var 1 rfl rfl (e_int ⟨l, _, _, _, rfl, rfl, SqL.of hl, rfl, a_nil ⟨n, rfl, fun v H1 e1 ev => ⟨_, ev, ?_⟩⟩⟩))))))))
  by_cases c : 1 ≤ n ∧ n ≤ 5
  · rw [decide_eq_true c]
    rw [if_pos c] at k
    refine iteF (b_nil (b_one (s_ret (e_pr2 H (C := C) (st := some ⟨⟨List.replicate n 1, List.replicate n 1, 1, 2⟩, 1, 1, 1, 1⟩) (out := [0]) (e_call c2 hr (by decide) (a_cons (e_ix ix_list (e_var 1 rfl rfl (e_int ⟨l, _, _, _, rfl, rfl, SqL.of (e1 _ _ hl), rfl, a_nil ⟨n, rfl, c.2, ?_⟩⟩)))))))))
    rintro _ H2 e2 ⟨a, rfl, ha⟩
    exact ⟨⟨a, rfl, ha⟩, e_lst (a_cons (e_int (a_nil ⟨by show 1 ≤ sizeLine; decide, fun q nq => ⟨same_new nq, ⟨q, rfl, (e1.trans e2).free nq, upd_same⟩, fun v H3 e3 hv => k _ _ (e1.trans (e2.trans ((same_new nq).trans e3))) hv⟩⟩)))⟩
  · rw [decide_eq_false c]
    rw [if_neg c] at k
    exact iteT (b_one (s_ret (e_pr2 H (C := C) (st := st) (out := [-22]) (e_var 0 rfl rfl ⟨hS.mono e1, e_err ht fun v H2 e2 hv => ⟨e2, hv.old e1, fun v H3 e3 hp => k _ _ (e1.trans (e2.trans e3)) hp⟩⟩))))
theorem ok_set_test_weights (T : Txt K mg C) : Ca P w K mg base 4 "set_test_weights" ["setting", "numbers"] (spCh C 1) := by
  have c0 := ok_signal_count (P := P) (w := w) (base := base) T
  have c1 := ok_are_weights (P := P) (w := w) (base := base) T
  have c2 := ok_with_weights (P := P) (w := w) (base := base) T
  obtain ⟨t, ht⟩ := T.c_BEYOND
  refine ca_of T.d_set_test_weights sc_set_test_weights spCh_len fun f cdv A outer s0 H vs Q E hr h => ?_
  obtain ⟨a, s, l, ns, rfl, ⟨dx, lt, lu, tp, ts, tq, S⟩, G, hl, hask, k⟩ := h
  obtain ⟨ws, rfl, hn⟩ := as8 (by decide) hask
  rw [stp1] at k
  refine b_cons (s_if (t_not (t_val (e_call c1 hr (by decide) (a_cons (e_var 1 rfl rfl (a_cons (e_call c0 hr (by decide) (a_cons (e_var 0 rfl rfl (a_nil ⟨a, s, rfl, S.a, G, fun v H1 e1 ev => ?_⟩)))))))))))
  subst ev
  refine a_nil ⟨l, ws, s.model.testWeights.length, rfl, e1 _ _ hl, hn, fun v H2 e2 ev => ⟨Kp415.validWeights s.model ws, ev, ?_⟩⟩
  cases hv : Kp415.validWeights s.model ws with
  | false =>
    rw [hv, if_neg (by decide)] at k
    exact iteT (b_one (s_ret (e_pr2 H (C := C) (st := some s) (out := [-22]) (e_var 0 rfl rfl ⟨⟨a, rfl, S.a.mono (e1.trans e2)⟩, e_err ht fun v H3 e3 hv => ⟨e3, hv.old (e1.trans e2), fun v H4 e4 hp => k _ _ (e1.trans (e2.trans (e3.trans e4))) hp⟩⟩))))
  | true =>
    rw [hv, if_pos rfl] at k
    have S2 := (S.mono e1).mono e2
    refine iteF (b_nil (b_one (s_ret (e_pr2 H (C := C) (st := some { s with model := { s.model with testWeights := ws } }) (out := [(ni ws).sum]) (e_call c2 hr (by decide) (a_cons (e_var 0 rfl rfl (a_cons (e_var 1 rfl rfl (a_cons (f_uw T S2 0 rfl rfl (a_nil ⟨a, s, l, lu, ws, _, rfl, S2.a, e2 _ _ (e1 _ _ hl), S2.uw, ?_⟩))))))))))))
    rintro _ H3 e3 ⟨b, rfl, hb⟩
    refine ⟨⟨b, rfl, hb⟩, e_lst (a_cons (e_blt (cr_sum rfl) T.b_sum (a_cons (e_var 1 rfl rfl (a_nil ⟨l, ni ws, rfl, SqL.of (e3 _ _ (e2 _ _ (e1 _ _ hl))), a_nil ⟨by show 1 ≤ sizeLine; decide, fun q nq => ⟨same_new nq, ⟨q, rfl, (e1.trans (e2.trans e3)).free nq, upd_same⟩, fun v H4 e4 hv => k _ _ (e1.trans (e2.trans (e3.trans ((same_new nq).trans e4)))) ?_⟩⟩⟩)))))⟩
    rw [ni_sum] at hv
    exact hv
theorem ok_set_production_weights (T : Txt K mg C) : Ca P w K mg base 4 "set_production_weights" ["setting", "numbers"] (spCh C 2) := by
  have c0 := ok_signal_count (P := P) (w := w) (base := base) T
  have c1 := ok_are_weights (P := P) (w := w) (base := base) T
  have c2 := ok_with_weights (P := P) (w := w) (base := base) T
  obtain ⟨t, ht⟩ := T.c_BEYOND
  refine ca_of T.d_set_production_weights sc_set_production_weights spCh_len fun f cdv A outer s0 H vs Q E hr h => ?_
  obtain ⟨a, s, l, ns, rfl, ⟨dx, lt, lu, tp, ts, tq, S⟩, G, hl, hask, k⟩ := h
  obtain ⟨ws, rfl, hn⟩ := as8 (by decide) hask
  rw [stp2] at k
  refine b_cons (s_if (t_not (t_val (e_call c1 hr (by decide) (a_cons (e_var 1 rfl rfl (a_cons (e_call c0 hr (by decide) (a_cons (e_var 0 rfl rfl (a_nil ⟨a, s, rfl, S.a, G, fun v H1 e1 ev => ?_⟩)))))))))))
  subst ev
  refine a_nil ⟨l, ws, s.model.testWeights.length, rfl, e1 _ _ hl, hn, fun v H2 e2 ev => ⟨Kp415.validWeights s.model ws, ev, ?_⟩⟩
  cases hv : Kp415.validWeights s.model ws with
  | false =>
    rw [hv, if_neg (by decide)] at k
    exact iteT (b_one (s_ret (e_pr2 H (C := C) (st := some s) (out := [-22]) (e_var 0 rfl rfl ⟨⟨a, rfl, S.a.mono (e1.trans e2)⟩, e_err ht fun v H3 e3 hv => ⟨e3, hv.old (e1.trans e2), fun v H4 e4 hp => k _ _ (e1.trans (e2.trans (e3.trans e4))) hp⟩⟩))))
  | true =>
    rw [hv, if_pos rfl] at k
    have S2 := (S.mono e1).mono e2
    refine iteF (b_nil (b_one (s_ret (e_pr2 H (C := C) (st := some { s with model := { s.model with productionWeights := ws } }) (out := [(ni ws).sum]) (e_call c2 hr (by decide) (a_cons (e_var 0 rfl rfl (a_cons (f_tw T S2 0 rfl rfl (a_cons (e_var 1 rfl rfl (a_nil ⟨a, s, lt, l, _, ws, rfl, S2.a, S2.tw, e2 _ _ (e1 _ _ hl), ?_⟩))))))))))))
    rintro _ H3 e3 ⟨b, rfl, hb⟩
    refine ⟨⟨b, rfl, hb⟩, e_lst (a_cons (e_blt (cr_sum rfl) T.b_sum (a_cons (e_var 1 rfl rfl (a_nil ⟨l, ni ws, rfl, SqL.of (e3 _ _ (e2 _ _ (e1 _ _ hl))), a_nil ⟨by show 1 ≤ sizeLine; decide, fun q nq => ⟨same_new nq, ⟨q, rfl, (e1.trans (e2.trans e3)).free nq, upd_same⟩, fun v H4 e4 hv => k _ _ (e1.trans (e2.trans (e3.trans ((same_new nq).trans e4)))) ?_⟩⟩⟩)))))⟩
    rw [ni_sum] at hv
    exact hv
theorem ok_set_prior (T : Txt K mg C) : Ca P w K mg base 4 "set_prior" ["setting", "numbers"] (spCh C 3) := by
  have c1 := ok_is_prior (P := P) (w := w) (base := base) T
  have c2 := ok_with_prior (P := P) (w := w) (base := base) T
  obtain ⟨t, ht⟩ := T.c_BEYOND
  refine ca_of T.d_set_prior sc_set_prior spCh_len fun f cdv A outer s0 H vs Q E hr h => ?_
  obtain ⟨a, s, l, ns, rfl, ⟨dx, lt, lu, tp, ts, tq, S⟩, G, hl, hask, k⟩ := h
  obtain ⟨n, d, rfl, hn, hd⟩ := as2 (by decide) hask
  rw [stp3] at k
  refine b_cons (s_if (t_not (t_val (e_call c1 hr (by decide) (a_cons (e_ix ix_list (e_var 1 rfl rfl (e_int ⟨l, _, _, _, rfl, rfl, SqL.of hl, rfl, a_cons (e_ix ix_list (e_var 1 rfl rfl (e_int ⟨l, _, _, _, rfl, rfl, SqL.of hl, rfl, a_nil ⟨n, d, rfl, fun v H1 e1 ev => ⟨_, ev, ?_⟩⟩⟩)))⟩))))))))
  have S1 := S.mono e1
  cases hv : Kp415.validFraction n d with
  | false =>
    rw [hv, if_neg (by decide)] at k
    exact iteT (b_one (s_ret (e_pr2 H (C := C) (st := some s) (out := [-22]) (e_var 0 rfl rfl ⟨⟨a, rfl, S1.a⟩, e_err ht fun v H3 e3 hv => ⟨e3, hv.old e1, fun v H4 e4 hp => k _ _ (e1.trans (e3.trans e4)) hp⟩⟩))))
  | true =>
    rw [hv, if_pos rfl] at k
    refine iteF (b_nil (b_one (s_ret (e_pr2 H (C := C) (st := some { s with model := { s.model with priorNum := n, priorDen := d } }) (out := [0, (s.model.priorNum : Int), (s.model.priorDen : Int)]) (e_call c2 hr (by decide) (a_cons (e_var 0 rfl rfl (a_cons (e_tup (a_cons (e_ix ix_list (e_var 1 rfl rfl (e_int ⟨l, _, _, _, rfl, rfl, SqL.of (e1 _ _ hl), rfl, ?_⟩)))))))))))))
    refine a_cons (e_ix ix_list (e_var 1 rfl rfl (e_int ⟨l, _, _, _, rfl, rfl, SqL.of (e1 _ _ hl), rfl, a_nil ⟨by show 2 ≤ sizeLine; decide, fun q nq => a_nil ⟨a, s, q, n, d, rfl, S1.a.mono (same_new nq), upd_same, ?_⟩⟩⟩)))
    rintro _ H2 e2 ⟨b, rfl, hb⟩
    have e12 := (same_new nq).trans e2
    refine ⟨⟨b, rfl, hb⟩, e_lst (a_cons (e_int (a_cons (e_ix ix_tup (f_pr T (S1.mono e12) 0 rfl rfl (e_int ⟨tp, _, _, _, rfl, rfl, SqT.of (S1.mono e12).pr, at0, ?_⟩))))))⟩
    refine a_cons (e_ix ix_tup (f_pr T (S1.mono e12) 0 rfl rfl (e_int ⟨tp, _, _, _, rfl, rfl, SqT.of (S1.mono e12).pr, at1, a_nil ⟨by show 3 ≤ sizeLine; decide, fun q3 n3 => ⟨same_new n3, ⟨q3, rfl, (e1.trans e12).free n3, upd_same⟩, fun v H4 e4 hv => k _ _ (e1.trans (e12.trans ((same_new n3).trans e4))) hv⟩⟩⟩)))
theorem ok_set_stakes (T : Txt K mg C) : Ca P w K mg base 4 "set_stakes" ["setting", "numbers"] (spCh C 4) := by
  have c1 := ok_is_money (P := P) (w := w) (base := base) T
  have c2 := ok_with_stakes (P := P) (w := w) (base := base) T
  obtain ⟨t, ht⟩ := T.c_BEYOND
  refine ca_of T.d_set_stakes sc_set_stakes spCh_len fun f cdv A outer s0 H vs Q E hr h => ?_
  obtain ⟨a, s, l, ns, rfl, ⟨dx, lt, lu, tp, ts, tq, S⟩, G, hl, hask, k⟩ := h
  obtain ⟨n, d, rfl, hn, hd⟩ := as2 (by decide) hask
  rw [stp4] at k
  refine b_cons (s_if (t_not (t_val (e_call c1 hr (by decide) (a_cons (e_ix ix_list (e_var 1 rfl rfl (e_int ⟨l, _, _, _, rfl, rfl, SqL.of hl, rfl, a_cons (e_ix ix_list (e_var 1 rfl rfl (e_int ⟨l, _, _, _, rfl, rfl, SqL.of hl, rfl, a_nil ⟨n, d, rfl, fun v H1 e1 ev => ⟨_, ev, ?_⟩⟩⟩)))⟩))))))))
  have S1 := S.mono e1
  cases hv : (Kp416.validAmount n && Kp416.validAmount d) with
  | false =>
    rw [hv, if_neg (by decide)] at k
    exact iteT (b_one (s_ret (e_pr2 H (C := C) (st := some s) (out := [-22]) (e_var 0 rfl rfl ⟨⟨a, rfl, S1.a⟩, e_err ht fun v H3 e3 hv => ⟨e3, hv.old e1, fun v H4 e4 hp => k _ _ (e1.trans (e3.trans e4)) hp⟩⟩))))
  | true =>
    rw [hv, if_pos rfl] at k
    refine iteF (b_nil (b_one (s_ret (e_pr2 H (C := C) (st := some { s with gain := n, loss := d }) (out := [0, (s.gain : Int), (s.loss : Int)]) (e_call c2 hr (by decide) (a_cons (e_var 0 rfl rfl (a_cons (e_tup (a_cons (e_ix ix_list (e_var 1 rfl rfl (e_int ⟨l, _, _, _, rfl, rfl, SqL.of (e1 _ _ hl), rfl, ?_⟩)))))))))))))
    refine a_cons (e_ix ix_list (e_var 1 rfl rfl (e_int ⟨l, _, _, _, rfl, rfl, SqL.of (e1 _ _ hl), rfl, a_nil ⟨by show 2 ≤ sizeLine; decide, fun q nq => a_nil ⟨a, s, q, n, d, rfl, S1.a.mono (same_new nq), upd_same, ?_⟩⟩⟩)))
    rintro _ H2 e2 ⟨b, rfl, hb⟩
    have e12 := (same_new nq).trans e2
    refine ⟨⟨b, rfl, hb⟩, e_lst (a_cons (e_int (a_cons (e_ix ix_tup (f_st T (S1.mono e12) 0 rfl rfl (e_int ⟨ts, _, _, _, rfl, rfl, SqT.of (S1.mono e12).st, at0, ?_⟩))))))⟩
    refine a_cons (e_ix ix_tup (f_st T (S1.mono e12) 0 rfl rfl (e_int ⟨ts, _, _, _, rfl, rfl, SqT.of (S1.mono e12).st, at1, a_nil ⟨by show 3 ≤ sizeLine; decide, fun q3 n3 => ⟨same_new n3, ⟨q3, rfl, (e1.trans e12).free n3, upd_same⟩, fun v H4 e4 hv => k _ _ (e1.trans (e12.trans ((same_new n3).trans e4))) hv⟩⟩⟩)))
theorem ok_set_prices (T : Txt K mg C) : Ca P w K mg base 4 "set_prices" ["setting", "numbers"] (spCh C 5) := by
  have c1 := ok_is_money (P := P) (w := w) (base := base) T
  have c2 := ok_with_prices (P := P) (w := w) (base := base) T
  obtain ⟨t, ht⟩ := T.c_BEYOND
  refine ca_of T.d_set_prices sc_set_prices spCh_len fun f cdv A outer s0 H vs Q E hr h => ?_
  obtain ⟨a, s, l, ns, rfl, ⟨dx, lt, lu, tp, ts, tq, S⟩, G, hl, hask, k⟩ := h
  obtain ⟨n, d, rfl, hn, hd⟩ := as2 (by decide) hask
  rw [stp5] at k
  refine b_cons (s_if (t_not (t_val (e_call c1 hr (by decide) (a_cons (e_ix ix_list (e_var 1 rfl rfl (e_int ⟨l, _, _, _, rfl, rfl, SqL.of hl, rfl, a_cons (e_ix ix_list (e_var 1 rfl rfl (e_int ⟨l, _, _, _, rfl, rfl, SqL.of hl, rfl, a_nil ⟨n, d, rfl, fun v H1 e1 ev => ⟨_, ev, ?_⟩⟩⟩)))⟩))))))))
  have S1 := S.mono e1
  cases hv : (Kp416.validAmount n && Kp416.validAmount d) with
  | false =>
    rw [hv, if_neg (by decide)] at k
    exact iteT (b_one (s_ret (e_pr2 H (C := C) (st := some s) (out := [-22]) (e_var 0 rfl rfl ⟨⟨a, rfl, S1.a⟩, e_err ht fun v H3 e3 hv => ⟨e3, hv.old e1, fun v H4 e4 hp => k _ _ (e1.trans (e3.trans e4)) hp⟩⟩))))
  | true =>
    rw [hv, if_pos rfl] at k
    refine iteF (b_nil (b_one (s_ret (e_pr2 H (C := C) (st := some { s with harmPrice := n, testPrice := d }) (out := [0, (s.harmPrice : Int), (s.testPrice : Int)]) (e_call c2 hr (by decide) (a_cons (e_var 0 rfl rfl (a_cons (e_tup (a_cons (e_ix ix_list (e_var 1 rfl rfl (e_int ⟨l, _, _, _, rfl, rfl, SqL.of (e1 _ _ hl), rfl, ?_⟩)))))))))))))
    refine a_cons (e_ix ix_list (e_var 1 rfl rfl (e_int ⟨l, _, _, _, rfl, rfl, SqL.of (e1 _ _ hl), rfl, a_nil ⟨by show 2 ≤ sizeLine; decide, fun q nq => a_nil ⟨a, s, q, n, d, rfl, S1.a.mono (same_new nq), upd_same, ?_⟩⟩⟩)))
    rintro _ H2 e2 ⟨b, rfl, hb⟩
    have e12 := (same_new nq).trans e2
    refine ⟨⟨b, rfl, hb⟩, e_lst (a_cons (e_int (a_cons (e_ix ix_tup (f_pc T (S1.mono e12) 0 rfl rfl (e_int ⟨tq, _, _, _, rfl, rfl, SqT.of (S1.mono e12).pc, at0, ?_⟩))))))⟩
    refine a_cons (e_ix ix_tup (f_pc T (S1.mono e12) 0 rfl rfl (e_int ⟨tq, _, _, _, rfl, rfl, SqT.of (S1.mono e12).pc, at1, a_nil ⟨by show 3 ≤ sizeLine; decide, fun q3 n3 => ⟨same_new n3, ⟨q3, rfl, (e1.trans e12).free n3, upd_same⟩, fun v H4 e4 hv => k _ _ (e1.trans (e12.trans ((same_new n3).trans e4))) hv⟩⟩⟩)))
theorem ok_merge_signals (T : Txt K mg C) : Ca P w K mg base 5 "merge_signals" ["setting", "numbers"] (spCh C 16) := by
  have c1 := ok_is_mapping (P := P) (w := w) (base := base) T
  have c2 := ok_merged (P := P) (w := w) (base := base) T
  have c4 := ok_paying_signals (P := P) (w := w) (base := base) T
  obtain ⟨t, ht⟩ := T.c_BEYOND
  refine ca_of T.d_merge_signals sc_merge_signals spCh_len fun f cdv A outer s0 H vs Q E hr h => ?_
  obtain ⟨a, s, l, ns, rfl, hS, G, hl, hask, k⟩ := h
  obtain ⟨ws, rfl, hn⟩ := as8 (by decide) hask
  rw [stp16] at k
  refine b_cons (s_if (t_not (t_val (e_call c1 hr (by decide) (a_cons (e_var 0 rfl rfl (a_cons (e_var 1 rfl rfl (a_nil ⟨a, s, l, ws, rfl, hS, G, hl, hn, fun v H1 e1 ev => ⟨_, ev, ?_⟩⟩)))))))))
  cases hv : Kp415.validMapping s.model ws with
  | false =>
    rw [hv, if_neg (by decide)] at k
    exact iteT (b_one (s_ret (e_pr2 H (C := C) (st := some s) (out := [-22]) (e_var 0 rfl rfl ⟨⟨a, rfl, hS.mono e1⟩, e_err ht fun v H3 e3 hv => ⟨e3, hv.old e1, fun v H4 e4 hp => k _ _ (e1.trans (e3.trans e4)) hp⟩⟩))))
  | true =>
    rw [hv, if_pos rfl] at k
    have Gm := good_merge G hv
    have h5 := cs_len Gm
    refine iteF (b_nil (b_cons (s_set (i := 2) sc_merge_signals.nd rfl (e_call c2 hr (by decide) (a_cons (e_var 0 rfl rfl (a_cons (e_var 1 rfl rfl (a_nil ⟨a, s, l, ws, rfl, hS.mono e1, G, e1 _ _ hl, hv, ?_⟩)))))))))
    rintro _ H2 e2 ⟨b, rfl, hb⟩
    refine b_cons (s_set (i := 3) sc_merge_signals.nd rfl (e_call c4 hr (by decide) (a_cons (e_var 2 rfl rfl (a_nil ⟨b, _, rfl, hb, Gm, ?_⟩)))))
    rintro _ H3 e3 ⟨l3, rfl, hl3⟩
    refine b_one (s_ret (e_pr2 H (C := C) (st := some (Kp416.merged s ws)) (out := anL (Kp416.cheatingSignals (Kp416.merged s ws))) (e_var 2 rfl rfl ⟨⟨b, rfl, hb.mono e3⟩, e_op op_cat (e_lst (a_cons (e_blt call_len_seq T.b_len (a_cons (e_var 3 rfl rfl (a_nil ⟨l3, _, rfl, .inl (SqL.of hl3), a_nil ⟨by show 1 ≤ sizeLine; decide, fun q nq => e_var 3 rfl rfl ?_⟩⟩))))))⟩)))
    refine ⟨q, l3, _, _, rfl, rfl, upd_same, up_eq hl3 nq, by rw [nv_len]; show 1 + _ ≤ sizeLine; exact small (by omega), fun r nr => ⟨(same_new nq).trans (same_new nr), ⟨r, rfl, (e1.trans (e2.trans (e3.trans (same_new nq)))).free nr, by rw [upd_same, nv_len]; rfl⟩, fun v H4 e4 hp => k _ _ (e1.trans (e2.trans (e3.trans ((same_new nq).trans ((same_new nr).trans e4))))) hp⟩⟩
end
end Det
/-! the tables; done -/
namespace Det
open PySem PySem.Spec PyProof.Rows L2
section
variable {X : Cx} {e : Expr} {es : List Expr} {σ : L2.St} {H : Hp} {Q : VK} {p pos : Pos} {x : Str} {k : Nat}
theorem e_callH (hr : Room k X.A) (i : Nat) (hN : X.N[i]? = some x) (h : ∃ f sp, σ[i]? = some (some (.ref f)) ∧ Held X.prog X.w X.K X.mg X.base k f sp ∧ Av X (e :: es) σ H fun vs H1 => sp vs H1 Q (fun _ _ _ => False))
    (hv : Vis X.env.scope x := by first | exact Or.inl rfl | exact Or.inr (Or.inl rfl) | exact Or.inr (Or.inr rfl)) (hdb : (x == ("__debug__" : Str)) = false := by decide) (hcd : (x == ("__classdict__" : Str)) = false := by decide)
    (he : starEach (e :: es) X.env = (false, eval e X.env) :: starEach es X.env := by rfl) (hpl : (backTo pos (starEach es X.env)).any (·.1) = false := by rfl) : Ev X (.Call (.Name x p) (e :: es) [] pos) σ H Q :=
  Ev.of (pe_callH hr hN hv pa_sem hdb hcd he hpl) h
end
section
variable {P : Program} {w : World} {K : PySem.W.Frag} {mg : Str → Option Value} {base : Heap} {C : Addr}
theorem held_of {k j : Nat} {x : Str} {ps : List Str} {sp : Sp} {f : Addr} (c : Ca P w K mg base k x ps sp) (hf : mg x = some (.ref f)) (hk : k ≤ j) : Held P w K mg base j f sp := by
  obtain ⟨g, fd, F, hm, kp, b, _⟩ := c.ex
  rw [hf] at hm
  cases hm
  exact ⟨fd, ps, F.mono hk, kp, b⟩
def asks : List Int := [6, 7, 8, 9, 10, 11, 12, 13, 14, 15, 17, 18, 19, 20]
def chgs : List Int := [1, 2, 3, 4, 5, 16]
theorem sel_q (T : Txt K mg C) {m : Int → Option Value} (hm : ∀ p ∈ qTab, ∃ f, m p.1 = some (.ref f) ∧ mg p.2 = some (.ref f)) {wd : Int} (hw : wd ∈ asks) : ∃ f, m wd = some (.ref f) ∧ Held P w K mg base 6 f (spAsk C wd) := by
  unfold asks at hw
  simp only [List.mem_cons, List.not_mem_nil, or_false] at hw
  rcases hw with rfl | rfl | rfl | rfl | rfl | rfl | rfl | rfl | rfl | rfl | rfl | rfl | rfl | rfl
  · obtain ⟨f, h1, h2⟩ := hm (6, "cheating_value") (List.mem_of_getElem? (i := 0) rfl)
    exact ⟨f, h1, held_of (ok_cheating_value T) h2 (by decide)⟩
  · obtain ⟨f, h1, h2⟩ := hm (7, "cheating_signals") (List.mem_of_getElem? (i := 1) rfl)
    exact ⟨f, h1, held_of (ok_cheating_signals T) h2 (by decide)⟩
  · obtain ⟨f, h1, h2⟩ := hm (8, "expected_profit") (List.mem_of_getElem? (i := 2) rfl)
    exact ⟨f, h1, held_of (ok_expected_profit T) h2 (by decide)⟩
  · obtain ⟨f, h1, h2⟩ := hm (9, "expected_profit_of") (List.mem_of_getElem? (i := 3) rfl)
    exact ⟨f, h1, held_of (ok_expected_profit_of T) h2 (by decide)⟩
  · obtain ⟨f, h1, h2⟩ := hm (10, "detection_probability") (List.mem_of_getElem? (i := 4) rfl)
    exact ⟨f, h1, held_of (ok_detection_probability T) h2 (by decide)⟩
  · obtain ⟨f, h1, h2⟩ := hm (11, "harm_probability") (List.mem_of_getElem? (i := 5) rfl)
    exact ⟨f, h1, held_of (ok_harm_probability T) h2 (by decide)⟩
  · obtain ⟨f, h1, h2⟩ := hm (12, "total_cost") (List.mem_of_getElem? (i := 6) rfl)
    exact ⟨f, h1, held_of (ok_total_cost T) h2 (by decide)⟩
  · obtain ⟨f, h1, h2⟩ := hm (13, "deterrent_prior_at") (List.mem_of_getElem? (i := 7) rfl)
    exact ⟨f, h1, held_of (ok_deterrent_prior_at T) h2 (by decide)⟩
  · obtain ⟨f, h1, h2⟩ := hm (14, "deterrent_prior") (List.mem_of_getElem? (i := 8) rfl)
    exact ⟨f, h1, held_of (ok_deterrent_prior T) h2 (by decide)⟩
  · obtain ⟨f, h1, h2⟩ := hm (15, "preview_merge") (List.mem_of_getElem? (i := 9) rfl)
    exact ⟨f, h1, held_of (ok_preview_merge T) h2 (by decide)⟩
  · obtain ⟨f, h1, h2⟩ := hm (17, "cheapest_prior") (List.mem_of_getElem? (i := 10) rfl)
    exact ⟨f, h1, held_of (ok_cheapest_prior T) h2 (by decide)⟩
  · obtain ⟨f, h1, h2⟩ := hm (18, "cheating_signals_for_prior") (List.mem_of_getElem? (i := 11) rfl)
    exact ⟨f, h1, held_of (ok_cheating_signals_for_prior T) h2 (by decide)⟩
  · obtain ⟨f, h1, h2⟩ := hm (19, "cheating_signals_for_stakes") (List.mem_of_getElem? (i := 12) rfl)
    exact ⟨f, h1, held_of (ok_cheating_signals_for_stakes T) h2 (by decide)⟩
  · obtain ⟨f, h1, h2⟩ := hm (20, "get_settings") (List.mem_of_getElem? (i := 13) rfl)
    exact ⟨f, h1, held_of (ok_get_settings T) h2 (by decide)⟩
theorem sel_c (T : Txt K mg C) {m : Int → Option Value} (hm : ∀ p ∈ cTab, ∃ f, m p.1 = some (.ref f) ∧ mg p.2 = some (.ref f)) {wd : Int} (hw : wd ∈ chgs) : ∃ f, m wd = some (.ref f) ∧ Held P w K mg base 5 f (spCh C wd) := by
  unfold chgs at hw
  simp only [List.mem_cons, List.not_mem_nil, or_false] at hw
  rcases hw with rfl | rfl | rfl | rfl | rfl | rfl
  · obtain ⟨f, h1, h2⟩ := hm (1, "set_test_weights") (List.mem_of_getElem? (i := 0) rfl)
    exact ⟨f, h1, held_of (ok_set_test_weights T) h2 (by decide)⟩
  · obtain ⟨f, h1, h2⟩ := hm (2, "set_production_weights") (List.mem_of_getElem? (i := 1) rfl)
    exact ⟨f, h1, held_of (ok_set_production_weights T) h2 (by decide)⟩
  · obtain ⟨f, h1, h2⟩ := hm (3, "set_prior") (List.mem_of_getElem? (i := 2) rfl)
    exact ⟨f, h1, held_of (ok_set_prior T) h2 (by decide)⟩
  · obtain ⟨f, h1, h2⟩ := hm (4, "set_stakes") (List.mem_of_getElem? (i := 3) rfl)
    exact ⟨f, h1, held_of (ok_set_stakes T) h2 (by decide)⟩
  · obtain ⟨f, h1, h2⟩ := hm (5, "set_prices") (List.mem_of_getElem? (i := 4) rfl)
    exact ⟨f, h1, held_of (ok_set_prices T) h2 (by decide)⟩
  · obtain ⟨f, h1, h2⟩ := hm (16, "merge_signals") (List.mem_of_getElem? (i := 5) rfl)
    exact ⟨f, h1, held_of (ok_merge_signals T) h2 (by decide)⟩
def spAsked (C : Addr) : Sp := fun vs H Q _ => ∃ a s l ns, ∃ wd : Int, vs = [.ref a, .int wd, .ref l] ∧ wd ∈ asks ∧ SetA C H a s ∧ Good s ∧ H l = some (.lst (iv ns)) ∧ Kp416Neutral.asked1 [wd :: ns] = true ∧ Rt H Q fun v H' => LsF H H' v (stp (some s) (wd :: ns)).2
theorem ok_asked (T : Txt K mg C) : Ca P w K mg base 7 "asked" ["setting", "word", "numbers"] (spAsked C) := by
  obtain ⟨d, hd, m, D, hm, _⟩ := T.qt
  refine ca_of T.d_asked sc_asked (by rintro vs H Q E ⟨a, s, l, ns, wd, rfl, _⟩; rfl) fun f cdv A outer s0 H vs Q E hr h => ?_
  obtain ⟨a, s, l, ns, wd, rfl, hw, hS, G, hl, hask, k⟩ := h
  obtain ⟨g, h1, h2⟩ := sel_q (P := P) (w := w) (base := base) T hm hw
  refine b_cons (s_set (i := 3) sc_asked.nd rfl (e_ix ix_kdi (e_glob (v := .ref d) hd rfl (e_var 1 rfl rfl ⟨d, m, wd, .ref g, .ref g, rfl, rfl, D, h1, rfl, ?_⟩))))
  exact b_one (s_ret (e_callH hr 3 rfl ⟨g, _, rfl, h2, a_cons (e_var 0 rfl rfl (a_cons (e_var 2 rfl rfl (a_nil ⟨a, s, l, ns, rfl, hS, G, hl, hask, k⟩))))⟩))
def spChanged (C : Addr) : Sp := fun vs H Q _ => ∃ a s l ns, ∃ wd : Int, vs = [.ref a, .int wd, .ref l] ∧ wd ∈ chgs ∧ SetA C H a s ∧ Good s ∧ H l = some (.lst (iv ns)) ∧ Kp416Neutral.asked1 [wd :: ns] = true ∧ Rt H Q fun v H' => Pr2 C H H' v (stp (some s) (wd :: ns))
theorem ok_changed (T : Txt K mg C) : Ca P w K mg base 6 "changed" ["setting", "word", "numbers"] (spChanged C) := by
  obtain ⟨d, hd, m, D, hm, _⟩ := T.ct
  refine ca_of T.d_changed sc_changed (by rintro vs H Q E ⟨a, s, l, ns, wd, rfl, _⟩; rfl) fun f cdv A outer s0 H vs Q E hr h => ?_
  obtain ⟨a, s, l, ns, wd, rfl, hw, hS, G, hl, hask, k⟩ := h
  obtain ⟨g, h1, h2⟩ := sel_c (P := P) (w := w) (base := base) T hm hw
  refine b_cons (s_set (i := 3) sc_changed.nd rfl (e_ix ix_kdi (e_glob (v := .ref d) hd rfl (e_var 1 rfl rfl ⟨d, m, wd, .ref g, .ref g, rfl, rfl, D, h1, rfl, ?_⟩))))
  exact b_one (s_ret (e_callH hr 3 rfl ⟨g, _, rfl, h2, a_cons (e_var 0 rfl rfl (a_cons (e_var 2 rfl rfl (a_nil ⟨a, s, l, ns, rfl, hS, G, hl, hask, k⟩))))⟩))
def spIsCh : Sp := fun vs H Q _ => ∃ wd : Int, vs = [.int wd] ∧ Rt H Q fun v _ => v = .bl (decide (wd ∈ chgs))
theorem cTab_ne {k : Int} (h : k ∉ chgs) : ∀ p ∈ cTab, p.1 ≠ k := by
  intro p hp e
  unfold cTab at hp
  simp only [List.mem_cons, List.not_mem_nil, or_false] at hp
  refine h ?_
  rw [← e]
  unfold chgs
  rcases hp with rfl | rfl | rfl | rfl | rfl | rfl <;> simp
theorem ok_is_change (T : Txt K mg C) : Ca P w K mg base 1 "is_change" ["word"] spIsCh := by
  obtain ⟨d, hd, m, D, hm, hn⟩ := T.ct
  refine ca_of T.d_is_change sc_is_change (by rintro vs H Q E ⟨wd, rfl, _⟩; rfl) fun f cdv A outer s0 H vs Q E hr h => ?_
  obtain ⟨wd, rfl, k⟩ := h
  refine b_one (s_ret (e_cmp op_in_kdi (e_var 0 rfl rfl (e_glob (v := .ref d) hd rfl ⟨d, m, wd, rfl, rfl, D, k _ _ (Same.refl _) ?_⟩))))
  refine congrArg V.bl ?_
  by_cases c : wd ∈ chgs
  · obtain ⟨g, h1, _⟩ := sel_c (P := P) (w := w) (base := base) T hm c
    rw [decide_eq_true c, h1]
    rfl
  · rw [decide_eq_false c, hn wd (cTab_ne c)]
    rfl
theorem word_ask {wd : Int} {ns : List Int} (h : Kp416Neutral.asked1 [wd :: ns] = true) (h0 : wd ≠ 0) (hc : wd ∉ chgs) : wd ∈ asks := by
  unfold chgs at hc
  unfold asks
  rcases as_word h with e | e | e | e | e
  · exact absurd e h0
  all_goals
    simp only [List.mem_cons, List.not_mem_nil, or_false, not_or] at e hc ⊢
    omega
theorem stp_ask {s : Stg} {wd : Int} {ns : List Int} (h : Kp416Neutral.asked1 [wd :: ns] = true) (hw : wd ∈ asks) : (stp (some s) (wd :: ns)).1 = some s := by
  unfold asks at hw
  simp only [List.mem_cons, List.not_mem_nil, or_false] at hw
  rcases hw with rfl | rfl | rfl | rfl | rfl | rfl | rfl | rfl | rfl | rfl | rfl | rfl | rfl | rfl
  · obtain ⟨n, rfl, _⟩ := as1 (by decide) h
    rw [stp6]
  · obtain rfl := as0 (by decide) h
    rw [stp7]
  · obtain rfl := as0 (by decide) h
    rw [stp8]
  · obtain ⟨n, rfl, _⟩ := as1 (by decide) h
    rw [stp9]
  · obtain rfl := as0 (by decide) h
    rw [stp10]
  · obtain rfl := as0 (by decide) h
    rw [stp11]
  · obtain rfl := as0 (by decide) h
    rw [stp12]
  · obtain ⟨n, rfl, _⟩ := as1 (by decide) h
    rw [stp13]
  · obtain rfl := as0 (by decide) h
    rw [stp14]
  · obtain ⟨ws, rfl, _⟩ := as8 (by decide) h
    rw [stp15]
  · obtain rfl := as0 (by decide) h
    rw [stp17]
  · obtain ⟨n, d, rfl, _⟩ := as2 (by decide) h
    rw [stp18]
  · obtain ⟨n, d, rfl, _⟩ := as2 (by decide) h
    rw [stp19]
  · obtain rfl := as0 (by decide) h
    rw [stp20]
def spDone (C : Addr) : Sp := fun vs H Q _ => ∃ v0 st l ns, ∃ wd : Int, vs = [v0, .int wd, .ref l] ∧ StV C H v0 st ∧ GoodO st ∧ H l = some (.lst (iv ns)) ∧ Kp416Neutral.asked1 [wd :: ns] = true ∧ Rt H Q fun v H' => Pr2 C H H' v (stp st (wd :: ns))
theorem ok_done (T : Txt K mg C) : Ca P w K mg base 8 "done" ["setting", "word", "numbers"] (spDone C) := by
  have c1 := ok_create (P := P) (w := w) (base := base) T
  have c2 := ok_is_change (P := P) (w := w) (base := base) T
  have c3 := ok_changed (P := P) (w := w) (base := base) T
  have c4 := ok_asked (P := P) (w := w) (base := base) T
  obtain ⟨t0, ht0⟩ := T.c_CREATE
  obtain ⟨t, ht⟩ := T.c_NO_SETTING
  refine ca_of T.d_done sc_done (by rintro vs H Q E ⟨v0, st, l, ns, wd, rfl, _⟩; rfl) fun f cdv A outer s0 H vs Q E hr h => ?_
  obtain ⟨v0, st, l, ns, wd, rfl, hS, G, hl, hask, k⟩ := h
  refine b_cons (s_if (t_cmp op_eq (e_var 1 rfl rfl (e_gi ht0 ⟨rfl, _, rfl, dec2 (fun c => ?_) fun c => ?_⟩))))
  · obtain rfl := V.int.inj c
    exact b_one (s_ret (e_call c1 hr (by decide) (a_cons (e_var 0 rfl rfl (a_cons (e_var 2 rfl rfl (a_nil ⟨v0, st, l, ns, rfl, hS, hl, hask, k⟩)))))))
  · have c' : wd ≠ 0 := fun q => c (congrArg V.int q)
    refine b_nil ?_
    cases st with
    | none =>
      have e0 : v0 = .non := hS
      subst e0
      rw [stpN c' hask] at k
      refine b_cons (s_if (t_cmp op_isN (e_var 0 rfl rfl (e_non ⟨rfl, _, rfl, dec2 (fun _ => ?_) fun q => absurd rfl q⟩))))
      exact b_one (s_ret (e_pr2 H (C := C) (st := none) (out := [-11]) (e_non ⟨rfl, e_err ht fun v H2 e2 hv => ⟨e2, hv, fun v H3 e3 hp => k _ _ (e2.trans e3) hp⟩⟩)))
    | some s =>
      obtain ⟨a, rfl, ha⟩ := hS
      refine b_cons (s_if (t_cmp op_isN (e_var 0 rfl rfl (e_non ⟨rfl, _, rfl, dec2 (fun q => by cases q) fun _ => b_nil ?_⟩))))
      refine b_cons (s_if (t_val (e_call c2 hr (by decide) (a_cons (e_var 1 rfl rfl (a_nil ⟨wd, rfl, fun v H1 e1 ev => ⟨_, ev, dec2 (fun d => ?_) fun d => ?_⟩⟩))))))
      · exact b_one (s_ret (e_call c3 hr (by decide) (a_cons (e_var 0 rfl rfl (a_cons (e_var 1 rfl rfl (a_cons (e_var 2 rfl rfl (a_nil ⟨a, s, l, ns, wd, rfl, d, ha.mono e1, G, e1 _ _ hl, hask, fun v H2 e2 ⟨p, v1, v2, q1, q2, q3, q4⟩ => k _ _ (e1.trans e2) ⟨p, v1, v2, q1, q2, q3, q4.old e1⟩⟩)))))))))
      · have hw := word_ask hask c' d
        have h1 := stp_ask (s := s) hask hw
        have he : stp (some s) (wd :: ns) = (some s, (stp (some s) (wd :: ns)).2) := Prod.ext h1 rfl
        rw [he] at k
        refine b_nil (b_one (s_ret (e_pr2 H (C := C) (st := some s) (out := (stp (some s) (wd :: ns)).2) (e_var 0 rfl rfl ⟨⟨a, rfl, ha.mono e1⟩, e_call c4 hr (by decide) (a_cons (e_var 0 rfl rfl (a_cons (e_var 1 rfl rfl (a_cons (e_var 2 rfl rfl (a_nil ?_)))))))⟩))))
        exact ⟨a, s, l, ns, wd, rfl, hw, ha.mono e1, G, e1 _ _ hl, hask, fun v H2 e2 hv => ⟨e2, hv.old e1, fun v H3 e3 hp => k _ _ (e1.trans (e2.trans e3)) hp⟩⟩
end
end Det
/-! reading.py; desk.py -/
namespace Det
open PySem PySem.Spec PyProof.Rows L2
/-! places -/
theorem dr_get {xs l : List Int} {n : Nat} (h : xs.drop n = l) (j : Nat) : xs[n + j]? = l[j]? := by
  rw [← h, List.getElem?_drop]
theorem dr_drop {xs l : List Int} {n : Nat} (h : xs.drop n = l) (j : Nat) : xs.drop (n + j) = l.drop j := by
  rw [← h, List.drop_drop]
section
variable {xs ns t : List Int} {n : Nat} {p : Int}
theorem pl_at (h : xs.drop n = p :: (ns.length : Int) :: (ns ++ 0 :: t)) : xs[n]? = some p := dr_get h 0
theorem pl_n (h : xs.drop n = p :: (ns.length : Int) :: (ns ++ 0 :: t)) : xs[n + 1]? = some (ns.length : Int) := dr_get h 1
theorem pl_0 (h : xs.drop n = p :: (ns.length : Int) :: (ns ++ 0 :: t)) : xs[n + 2 + ns.length]? = some 0 := by
  rw [Nat.add_assoc, dr_get h (2 + ns.length)]
  show (p :: (ns.length : Int) :: (ns ++ 0 :: t))[2 + ns.length]? = some 0
  rw [Nat.add_comm 2, List.getElem?_cons_succ, List.getElem?_cons_succ, List.getElem?_append_right (Nat.le_refl _), Nat.sub_self]
  rfl
theorem pl_t (h : xs.drop n = p :: (ns.length : Int) :: (ns ++ 0 :: t)) : xs.drop (n + 3 + ns.length) = t := by
  have e := dr_drop h (2 + (ns.length + 1))
  rw [show n + 3 + ns.length = n + (2 + (ns.length + 1)) by omega, e]
  show (p :: (ns.length : Int) :: (ns ++ 0 :: t)).drop (2 + (ns.length + 1)) = t
  rw [Nat.add_comm 2, List.drop_succ_cons, List.drop_succ_cons, List.drop_append]
  simp
theorem pl_lt (h : xs.drop n = p :: (ns.length : Int) :: (ns ++ 0 :: t)) : n + 3 + ns.length ≤ xs.length := by
  have e := congrArg List.length h
  rw [List.length_drop, List.length_cons, List.length_cons, List.length_append, List.length_cons] at e
  omega
theorem pl_ns (h : xs.drop n = p :: (ns.length : Int) :: (ns ++ 0 :: t)) : (xs.drop (n + 2)).take ns.length = ns := by
  rw [dr_drop h 2]
  show (ns ++ 0 :: t).take ns.length = ns
  rw [List.take_left]
theorem cut_eq (h : xs.drop n = p :: (ns.length : Int) :: (ns ++ 0 :: t)) {a b : Int} (ha : a = ((n + 2 : Nat) : Int)) (hb : b = ((n + 2 + ns.length : Nat) : Int)) : cutV (iv xs) (some a) (some b) = iv ns := by
  subst ha hb
  have h1 := pl_lt h
  unfold cutV
  rw [HT.sIx_nat, HT.sIx_nat, iv_len, Nat.min_eq_left (by omega), Nat.min_eq_left (by omega), show n + 2 + ns.length - (n + 2) = ns.length by omega]
  unfold iv
  rw [← List.map_drop, ← List.map_take, pl_ns h]
end
section
variable {P : Program} {w : World} {K : PySem.W.Frag} {mg : Str → Option Value} {base : Heap} {C : Addr}
def spBl (K : PySem.W.Frag) : Sp := fun vs H Q _ => ∃ r xs, ∃ (n : Nat) (z : Int), vs = [.ref r, .int z] ∧ z = (n : Int) ∧ SqL K H r (iv xs) ∧ xs[n]? = some 0 ∧ Rt H Q fun v _ => v = .int (z + 1)
theorem ok_behind_lists (T : Txt K mg C) : Ca P w K mg base 1 "behind_lists" ["row", "at"] (spBl K) := by
  refine ca_of T.d_behind_lists sc_behind_lists (by rintro vs H Q E ⟨r, xs, n, z, rfl, _⟩; rfl) fun f cdv A outer s0 H vs Q E hr h => ?_
  obtain ⟨r, xs, n, z, rfl, hz, hr2, h0, k⟩ := h
  refine b_cons (s_set (i := 2) sc_behind_lists.nd rfl (e_op op_add (e_var 1 rfl rfl (e_int ⟨_, _, rfl, rfl, ?_⟩))))
  refine b_cons (s_for_range T.b_range (pg_name (i := 3) sc_behind_lists.nd rfl (Or.inl rfl)) (e_ix ix_list (e_var 0 rfl rfl (e_var 1 rfl rfl ⟨r, _, _, _, rfl, rfl, hr2, at_of hz (iv_get h0), ?_⟩))))
  refine ⟨0, rfl, by omega, fun i σ H' => σ = [some (.ref r), some (.int z), some (.int (z + 1)), none] ∧ H' = H, ⟨rfl, rfl⟩, fun i σ H' hi => absurd hi (Nat.not_lt_zero _), ?_⟩
  rintro σ H' ⟨rfl, rfl⟩
  exact b_one (s_ret (e_var 2 rfl rfl (k _ _ (Same.refl _) rfl)))
/-- a call: its word and its numbers, made since H0 -/
def CallV (H0 H : Hp) (y : V) (wd : Int) (ns : List Int) : Prop := ∃ t q, y = .ref t ∧ H0 t = none ∧ H0 q = none ∧ H t = some (.tup [.int wd, .ref q]) ∧ H q = some (.lst (iv ns))
/-- all calls -/
def CallsV (H0 H : Hp) (ys : List V) (cs : List (List (List Int))) : Prop := ys.length = cs.length ∧ ∀ (i : Nat) (y : V), ys[i]? = some y → ∃ wd ns, cs[i]? = some [wd :: ns] ∧ Kp416Neutral.asked1 [wd :: ns] = true ∧ CallV H0 H y wd ns
def spCalls (K : PySem.W.Frag) : Sp := fun vs H Q _ => ∃ r xs cs, vs = [.ref r] ∧ SqL K H r (iv xs) ∧ PyWide.calls xs.length xs = some cs ∧ cs.all Kp416Neutral.asked1 = true ∧ cs.length ≤ 60 ∧ Rt H Q fun v H' => ∃ l ys, v = .ref l ∧ H' l = some (.lst ys) ∧ CallsV H H' ys cs
theorem ok_calls_in (T : Txt K mg C) : Ca P w K mg base 2 "calls_in" ["row"] (spCalls K) := by
  have c1 := ok_behind_lists (P := P) (w := w) (base := base) T
  refine ca_of T.d_calls_in sc_calls_in (by rintro vs H Q E ⟨r, xs, cs, rfl, _⟩; rfl) fun f cdv A outer s0 H vs Q E hr h => ?_
  obtain ⟨r, xs, cs, rfl, hR, hcs, hall, hlen, k⟩ := h
  refine b_cons (s_par (i := 1) (j := 2) sc_calls_in.nd rfl rfl (e_lst (a_nil ⟨Nat.zero_le _, fun l nl => e_int ?_⟩)))
  refine b_cons (s_while (fun m σ H' => ∃ (n f : Nat) (done rest : List (List (List Int))) (ys : List V) (x3 x4 : Option V), σ = [some (.ref r), some (.ref l), some (.int ((n : Nat) : Int)), x3, x4] ∧ m = xs.length - n ∧ n ≤ xs.length ∧
    PyWide.calls f (xs.drop n) = some rest ∧ rest.all Kp416Neutral.asked1 = true ∧ cs = done ++ rest ∧ Same H H' ∧ H' l = some (.lst ys) ∧ ys.length = done.length ∧
    ∀ (i : Nat) (y : V), ys[i]? = some y → ∃ wd ns, done[i]? = some [wd :: ns] ∧ Kp416Neutral.asked1 [wd :: ns] = true ∧ ∃ t q, y = .ref t ∧ H t = none ∧ H q = none ∧ t ≠ l ∧ q ≠ l ∧ H' t = some (.tup [.int wd, .ref q]) ∧ H' q = some (.lst (iv ns)))
    xs.length ⟨0, xs.length, [], cs, [], none, none, rfl, rfl, Nat.zero_le _, hcs, hall, rfl, same_new nl, upd_same, rfl, fun i y h => by simp at h⟩ ?_)
  rintro m σ H1 ⟨n, f, done, rest, ys, x3, x4, rfl, rfl, hn, hf, hra, hcr, e1, hl, hyl, hy⟩
  refine t_cmp op_lt (e_var 2 rfl rfl (e_blt call_len_seq T.b_len (a_cons (e_var 0 rfl rfl (a_nil ⟨r, _, rfl, .inl (e1.seq hR), _, _, rfl, rfl, _, rfl, dec2 (fun c => ?_) fun c => ?_⟩)))))
  · rw [iv_len] at c
    rcases calls_inv hf hra with ⟨hd, _⟩ | ⟨p, ns, t, rest', f', hd, hre, hf', hask, hra'⟩
    · exfalso
      have := congrArg List.length hd
      rw [List.length_drop, List.length_nil] at this
      omega
    have hlt := pl_lt hd
    have hdl : done.length < 60 := by
      have := congrArg List.length hcr
      rw [List.length_append, hre, List.length_cons] at this
      omega
    refine b_cons (s_set (i := 3) sc_calls_in.nd rfl (e_op op_add (e_var 2 rfl rfl (e_int ⟨_, _, rfl, rfl, ?_⟩))))
    refine b_cons (s_set (i := 4) sc_calls_in.nd rfl (e_op op_add (e_var 3 rfl rfl (e_ix ix_list (e_var 0 rfl rfl (e_op op_add (e_var 2 rfl rfl (e_int ⟨_, _, rfl, rfl, r, _, _, _, rfl, rfl, e1.seq hR, at_of (j := n + 1) (by omega) (iv_get (pl_n hd)), _, _, rfl, rfl, ?_⟩))))))))
    refine b_cons (s_expr (e_append (e_var 1 rfl rfl ⟨l, _, rfl, hl, e_tup (a_cons (e_ix ix_list (e_var 0 rfl rfl (e_var 2 rfl rfl ⟨r, _, _, _, rfl, rfl, e1.seq hR, atI_nat (iv_get (pl_at hd)), a_cons (e_slice sl_list (e_var 0 rfl rfl (e_var 3 rfl rfl ⟨_, rfl, e_var 4 rfl rfl ⟨_, rfl, r, _, rfl, e1.seq hR, fun q nq => a_nil ⟨by show 2 ≤ sizeLine; decide, fun t2 nt => ?_⟩⟩⟩)))⟩))))⟩)))
    rw [cut_eq hd (by omega) (by omega)] at nt ⊢
    have hql : q ≠ l := fun z => by subst z; rw [nq] at hl; cases hl
    have hl2 : (upd (upd H1 q (.lst (iv ns))) t2 (.tup [.int p, .ref q])) l = some (.lst ys) := up_eq (up_eq hl nq) nt
    have htl : t2 ≠ l := fun z => by subst z; rw [up_eq hl nq] at nt; cases nt
    have e2 : Same H (upd (upd H1 q (.lst (iv ns))) t2 (.tup [.int p, .ref q])) := e1.trans ((same_new nq).trans (same_new nt))
    have ht2 : (upd (upd H1 q (.lst (iv ns))) t2 (.tup [.int p, .ref q])) t2 = some (.tup [.int p, .ref q]) := upd_same
    have hq2 : (upd (upd H1 q (.lst (iv ns))) t2 (.tup [.int p, .ref q])) q = some (.lst (iv ns)) := up_eq upd_same nt
    have keep : ∀ b o, H1 b = some o → (upd (upd H1 q (.lst (iv ns))) t2 (.tup [.int p, .ref q])) b = some o := fun b o e => up_eq (up_eq e nq) nt
    have nqH : H q = none := e1.free nq
    have ntH : H t2 = none := (e1.trans (same_new nq)).free nt
    generalize (upd (upd H1 q (.lst (iv ns))) t2 (.tup [.int p, .ref q])) = H2 at hl2 e2 ht2 hq2 keep ⊢
    refine ⟨ys, hl2, smallT (by omega), ?_⟩
    have e3 : Same H (upd H2 l (.lst (ys ++ [.ref t2]))) := same_mut e2 nl
    refine b_one (s_set (i := 2) sc_calls_in.nd rfl (e_call c1 hr (by decide) (a_cons (e_var 0 rfl rfl (a_cons (e_var 4 rfl rfl (a_nil ⟨r, xs, n + 2 + ns.length, _, rfl, by omega, e3.seq hR, pl_0 hd, fun v H4 e4 ev => ?_⟩)))))))
    subst ev
    refine ⟨xs.length - (n + 3 + ns.length), by omega, n + 3 + ns.length, f', done ++ [[p :: ns]], rest', ys ++ [.ref t2], some (.int ((n : Int) + 2)), some (.int ((n : Int) + 2 + (ns.length : Int))), ?_, rfl, hlt, by rw [pl_t hd]; exact hf', hra', by rw [List.append_assoc, hcr, hre]; rfl, e3.trans e4, e4 _ _ upd_same, by rw [List.length_append, List.length_append, hyl]; rfl, fun i y hy2 => ?_⟩
    · rw [show ((n + 3 + ns.length : Nat) : Int) = (n : Int) + 2 + (ns.length : Int) + 1 by omega]
      rfl
    · by_cases hi : i < ys.length
      · rw [List.getElem?_append_left hi] at hy2
        obtain ⟨wd, ns2, h1, h2, t3, q3, h3, h4, h5, h6, h7, h8, h9⟩ := hy i y hy2
        exact ⟨wd, ns2, by rw [List.getElem?_append_left (by omega)]; exact h1, h2, t3, q3, h3, h4, h5, h6, h7, e4 _ _ (by rw [upd_ne h6]; exact keep _ _ h8), e4 _ _ (by rw [upd_ne h7]; exact keep _ _ h9)⟩
      · have hi2 : i = ys.length := by
          have := (List.getElem?_eq_some_iff.mp hy2).1
          rw [List.length_append, List.length_cons, List.length_nil] at this
          omega
        subst hi2
        rw [List.getElem?_append_right (Nat.le_refl _), Nat.sub_self] at hy2
        have ey : V.ref t2 = y := Option.some.inj hy2
        subst ey
        exact ⟨p, ns, by rw [hyl, List.getElem?_append_right (Nat.le_refl _), Nat.sub_self]; rfl, hask, t2, q, rfl, ntH, nqH, htl, hql, e4 _ _ (by rw [upd_ne htl]; exact ht2), e4 _ _ (by rw [upd_ne hql]; exact hq2)⟩
  · rw [iv_len] at c
    have hnl : n = xs.length := by omega
    rcases calls_inv hf hra with ⟨_, hre⟩ | ⟨p, ns, t, rest', f', hd, _⟩
    · subst hre
      rw [List.append_nil] at hcr
      subst hcr
      refine b_one (s_ret (e_var 1 rfl rfl (k _ _ e1 ⟨l, ys, rfl, hl, hyl, fun i y hy2 => ?_⟩)))
      obtain ⟨wd, ns2, h1, h2, t3, q3, h3, h4, h5, h6, h7, h8, h9⟩ := hy i y hy2
      exact ⟨wd, ns2, h1, h2, t3, q3, h3, h4, h5, h8, h9⟩
    · exfalso
      have := pl_lt hd
      omega
end
end Det
/-! a call that is not handed a list leaves it: the list at l is hidden from the callee -/
namespace Det
open PySem PySem.Spec PyProof.Rows L2
def hid (H : Hp) (l : Addr) : Hp := fun b => if b = l then none else H b
theorem hid_l {H : Hp} {l : Addr} : hid H l l = none := by unfold hid; rw [if_pos rfl]
theorem hid_ne {H : Hp} {l b : Addr} (h : b ≠ l) : hid H l b = H b := by unfold hid; rw [if_neg h]
theorem hid_none {H : Hp} {l b : Addr} (h : H b = none) : hid H l b = none := by
  by_cases e : b = l
  · subst e; exact hid_l
  · rw [hid_ne e]; exact h
theorem hid_of {H : Hp} {l b : Addr} {o : HO} (h : hid H l b = some o) : b ≠ l ∧ H b = some o := by
  by_cases e : b = l
  · subst e; rw [hid_l] at h; cases h
  · rw [hid_ne e] at h; exact ⟨e, h⟩
theorem hid_upd {H : Hp} {l : Addr} {o : HO} : hid (upd H l o) l = hid H l := by
  funext b
  by_cases e : b = l
  · subst e; rw [hid_l, hid_l]
  · rw [hid_ne e, hid_ne e, upd_ne e]
theorem hid_up {H : Hp} {l : Addr} {o : HO} (h : H l = none) : hid (upd H l o) l = H := by
  funext b
  by_cases e : b = l
  · subst e; rw [hid_l, h]
  · rw [hid_ne e, upd_ne e]
theorem hid_same {H : Hp} {l : Addr} : Same (hid H l) H := fun b o h => (hid_of h).2
section
variable {X : Cx} {k : Nat} {f : Addr} {fd : FuncData} {ps : List Str} {sp : Sp}
theorem hok_hid {P : Program} {w : World} {H : Hp} {h : Heap} {l : Addr} {xs : List V} (x : HOk P w H h) (hl : H l = some (.lst xs)) : HOk P w (hid H l) h := fun b u e => by
  obtain ⟨ne, e'⟩ := hid_of e
  refine (x b u e').stay (fun c v _ q => q) (fun c q => ?_) fun c ys q => ?_
  · rw [hid_ne (fun z => by subst z; rw [hl] at q; cases q)]; exact q
  · rw [hid_ne (fun z => by subst z; rw [hl] at q; cases q)]; exact q
theorem run_fnF {pins : List (Addr × Obj)} {σ : L2.St} {H : Hp} {s : Shared} {Q : VK} {us : List Value} {vs : List V} {l : Addr} {xs : List V} (F : FnOk X.prog X.w X.K X.mg X.base L2.CX0 k f fd ps sp) (hr : Room k X.A) (hb : Binds X.K fd ps [])
    (I : Inv X pins σ H s) (r : Vals vs us) (hl : H l = some (.lst xs)) (h : sp vs (hid H l) (fun v H2 => H2 l = none → Q v (upd H2 l (.lst xs))) (fun _ _ _ => False)) : wpAny (model X.prog X.w) X.A (call (.ref f) us) (EP X pins σ Q) X.xe s := by
  have hlen : us.length = ps.length := by rw [← r.length]; exact F.len _ _ _ _ h
  have hb2 := hb s us I.kIn (by rw [List.append_nil]; exact hlen)
  rw [List.append_nil] at hb2
  have e0 := I.env0
  have e1 : Env0 X.prog X.w X.K X.mg X.base X.A X.stack s (hid H l) := ⟨e0.frames, e0.mod, fun b o q => ⟨(e0.bs b o q).1, hid_none (e0.bs b o q).2⟩, e0.bsz, e0.funs, fun b q => hid_none (e0.frf b q), hok_hid e0.hok hl, e0.bare⟩
  refine wpAny_call (codeAny_mono (F.run X.A X.stack s (hid H l) ⟨us, []⟩ us vs _ _ hr e1 hb2 r h) fun r' s' hq => ?_)
  cases r' with
  | error e => exact hq.elim
  | ok fl =>
    cases fl with
    | ret u =>
      obtain ⟨v, H', os, bare, un, hok, rv, q⟩ := hq
      have nfr : l ∉ frs X.stack := fun z => by
        have := I.stkFree l z
        rw [hl] at this
        cases this
      obtain ⟨hz, its, n, vi, go⟩ := I.hok l _ hl
      have hl' : H' l = none := un.free l _ go hid_l (by simp)
      have go' := un.keep l _ go hid_l nfr (by simp)
      have lne : ∀ {b : Addr} {u : HO}, H b = some u → (∀ ys, u ≠ .lst ys) → b ≠ l := fun {b u} e d z => by
        subst z
        rw [hl] at e
        cases e
        exact d xs rfl
      have lne' : ∀ {b : Addr} {u : HO}, H' b = some u → b ≠ l := fun {b u} e z => by
        subst z
        rw [hl'] at e
        cases e
      refine I.after ⟨v, upd H' l (.lst xs), os, bare, ⟨fun b o g n nf ne => un.keep b o g (hid_none n) nf ne, fun b o g n nf ne => un.slot b o g (hid_none n) nf ne, fun b o g n ne => ?_, fun b o g ne => un.there b o g ne, fun b ys e => ?_, fun b o u e => ?_, fun b ps e => ?_⟩, fun b u e => ?_, rv, q hl'⟩
      · have nb : b ≠ l := fun z => by subst z; rw [hl] at n; cases n
        rw [upd_ne nb]
        exact un.free b o g (hid_none n) ne
      · have nb := lne e (fun _ z => by cases z)
        rw [upd_ne nb]
        exact un.tups b ys (by rw [hid_ne nb]; exact e)
      · have nb := lne e (fun _ z => by cases z)
        rw [upd_ne nb]
        exact un.frzs b o u (by rw [hid_ne nb]; exact e)
      · have nb := lne e (fun _ z => by cases z)
        rw [upd_ne nb]
        exact un.tbls b ps (by rw [hid_ne nb]; exact e)
      · by_cases hb' : b = l
        · subst hb'
          rw [upd_same] at e
          cases e
          exact ⟨hz, its, n, vi, go'⟩
        · rw [upd_ne hb'] at e
          exact (hok b u e).stay (fun c v _ g => g) (fun c g => by rw [upd_ne (lne' g)]; exact g) fun c ys g => by rw [upd_ne (lne' g)]; exact g
    | next => exact False.elim hq
    | brk => exact False.elim hq
    | cont => exact False.elim hq
end
section
variable {X : Cx} {e : Expr} {es : List Expr} {σ : L2.St} {H : Hp} {Q : VK} {p pos : Pos} {x : Str} {k j : Nat} {sp : Sp} {ps : List Str}
theorem e_callF (c : Ca X.prog X.w X.K X.mg X.base k x ps sp) (hr : Room j X.A) (hk : k ≤ j)
    (h : Av X (e :: es) σ H fun vs H1 => ∃ l xs, H1 l = some (.lst xs) ∧ sp vs (hid H1 l) (fun v H2 => H2 l = none → Q v (upd H2 l (.lst xs))) (fun _ _ _ => False)) (hg : Gl X x := by rfl)
    (hdb : (x == ("__debug__" : Str)) = false := by decide) (he : starEach (e :: es) X.env = (false, eval e X.env) :: starEach es X.env := by rfl) (hpl : (backTo pos (starEach es X.env)).any (·.1) = false := by rfl) :
    Ev X (.Call (.Name x p) (e :: es) [] pos) σ H Q := by
  obtain ⟨f, fd, F, hm, kp, b, _⟩ := c.ex
  intro pins s I
  refine wpAny_Call_Name_kw (ld_glob I hg hm ?_ hdb)
  refine PySem.W.callWith_K (h₀ := X.base) I.ok.mod.kin kp (thn (h _ pins s I) fun us s1 ⟨vs, H1, I1, r, l, xs, hl, q⟩ => ⟨I1.kIn, ?_⟩) he hpl
  exact run_fnF F (hr.mono hk) b I1 r hl q
end
end Det
/-! answers -/
namespace Det
open PySem PySem.Spec PyProof.Rows L2
theorem asked_of {xs : List Int} (h : PyKp416.answers_asked xs = true) : ∃ cs, PyWide.calls xs.length xs = some cs ∧ cs.length ≤ 60 ∧ cs.all Kp416Neutral.asked1 = true ∧ PyKp416.answers xs = PyFlat.told (PyFlat.played Kp416Neutral.step none cs) := by
  unfold PyKp416.answers_asked at h
  unfold PyKp416.answers
  unfold PyKp416.calls at h ⊢
  cases hc : PyWide.calls xs.length xs with
  | none =>
    rw [hc] at h
    cases h
  | some cs =>
    rw [hc] at h
    have h' : (PyFlat.atMost 60 cs && Kp416Neutral.asked cs && PyFlat.short 10000000 _) = true := h
    rw [Bool.and_eq_true, Bool.and_eq_true] at h'
    obtain ⟨⟨h1, h2⟩, _⟩ := h'
    unfold PyFlat.atMost at h1
    unfold Kp416Neutral.asked at h2
    rw [decide_eq_true_eq] at h1
    rw [Bool.and_eq_true, Bool.and_eq_true] at h2
    exact ⟨cs, rfl, h1, h2.2.2, rfl⟩
def spAns (K : PySem.W.Frag) : Sp := fun vs H Q _ => ∃ r xs, vs = [.ref r] ∧ SqL K H r (iv xs) ∧ PyKp416.answers_asked xs = true ∧ ∀ (H' : Hp) (p : Addr), H' p = some (.lst (iv (PyKp416.answers xs))) → Q (.ref p) H'
section
variable {P : Program} {w : World} {K : PySem.W.Frag} {mg : Str → Option Value} {base : Heap} {C : Addr}
theorem ok_answers (T : Txt K mg C) : Ca P w K mg base 9 "answers" ["calls"] (spAns K) := by
  have c1 := ok_calls_in (P := P) (w := w) (base := base) T
  have c2 := ok_done (P := P) (w := w) (base := base) T
  refine ca_of T.d_answers sc_answers (by rintro vs H Q E ⟨r, xs, rfl, _⟩; rfl) fun f cdv A outer s0 H vs Q E hr h => ?_
  obtain ⟨r, xs, rfl, hR, hask, k⟩ := h
  obtain ⟨cs, hcs, h60, hall, han⟩ := asked_of hask
  refine b_cons (s_par (i := 1) (j := 2) sc_answers.nd rfl rfl (e_lst (a_nil ⟨Nat.zero_le _, fun l nl => e_non ?_⟩)))
  refine b_cons (s_for_list (pg_tup rfl (pgs_cons (pg_name (i := 3) sc_answers.nd rfl (Or.inl rfl)) (pgs_cons (pg_name (i := 4) sc_answers.nd rfl (Or.inl rfl)) pgs_nil))) (e_callF c1 hr (by decide) (a_cons (e_var 0 rfl rfl (a_nil ⟨l, [], upd_same, ?_⟩)))))
  rw [hid_up nl]
  refine ⟨r, xs, cs, rfl, hR, hcs, hall, h60, ?_⟩
  rintro _ H1 e1 ⟨l2, ys, rfl, hl2, hyl, hy⟩ n1
  have n2 : l2 ≠ l := fun z => by subst z; rw [n1] at hl2; cases hl2
  refine ⟨l2, ys, rfl, SqL.of (by rw [upd_ne n2]; exact hl2), fun i σ H' => ∃ (v0 : V) (x3 x4 x5 : Option V), σ = [some (.ref r), some (.ref l), some v0, x3, x4, x5] ∧ StV C (hid H' l) v0 (runS none (cs.take i)) ∧ H' l = some (.lst (iv (PyFlat.told (PyFlat.played Kp416Neutral.step none (cs.take i))))) ∧ Same H1 (hid H' l),
    ⟨.non, none, none, none, rfl, rfl, upd_same, by rw [hid_up n1]; exact Same.refl _⟩, fun i σ H' _ ⟨_, _, _, _, _, _, _, e⟩ => SqL.of (hid_same _ _ (e _ _ hl2)), ?_, ?_⟩
  · rintro i y σ H2 hyi ⟨v0, x3, x4, x5, rfl, hst, hl, e2⟩
    obtain ⟨wd, ns, hci, hak, t, q, rfl, _, _, ht, hq⟩ := hy i y hyi
    have G : GoodO (runS none (cs.take i)) := good_run (s := none) (cs.take i) trivial
    have hlen : (PyFlat.told (PyFlat.played Kp416Neutral.step none (cs.take i))).length ≤ 18 * 60 := by
      have h1 := told_len (played_len (s := none) (cs.take i) trivial)
      rw [played_length, List.length_take] at h1
      omega
    have ho : (stp (runS none (cs.take i)) (wd :: ns)).2.length ≤ 17 := nstep_len G [wd :: ns]
    have hrun : runS none (cs.take (i + 1)) = (stp (runS none (cs.take i)) (wd :: ns)).1 := by rw [take_more hci, runS_snoc]
    have htold : PyFlat.told (PyFlat.played Kp416Neutral.step none (cs.take (i + 1))) = PyFlat.told (PyFlat.played Kp416Neutral.step none (cs.take i)) ++ tell (stp (runS none (cs.take i)) (wd :: ns)).2 := by
      rw [take_more hci, played_snoc, told_snoc]
    refine ⟨t, _, rfl, SqT.of (hid_same _ _ (e2 _ _ ht)), rfl, _, _, rfl, _, _, rfl, rfl, ?_⟩
    -- setting, answer = done(setting, word, numbers)
    refine b_cons (s_unp (i := 2) (j := 5) sc_answers.nd rfl rfl (e_callF c2 hr (by decide) (a_cons (e_var 2 rfl rfl (a_cons (e_var 3 rfl rfl (a_cons (e_var 4 rfl rfl (a_nil ⟨l, _, hl, v0, _, q, ns, wd, rfl, hst, G, e2 _ _ hq, hak, ?_⟩)))))))))
    rintro _ H3 e3 ⟨p, v1, _, rfl, hp, hs1, ⟨q2, rfl, _, hq2⟩⟩ n3
    have np : p ≠ l := fun z => by subst z; rw [n3] at hp; cases hp
    have nq : q2 ≠ l := fun z => by subst z; rw [n3] at hq2; cases hq2
    refine ⟨p, v1, _, rfl, by rw [upd_ne np]; exact hp, ?_⟩
    generalize stp (runS none (cs.take i)) (wd :: ns) = ro at ho hrun htold hs1 hq2
    generalize PyFlat.told (PyFlat.played Kp416Neutral.step none (cs.take i)) = tl at hlen htold hl ⊢
    -- found.append(len(answer))
    refine b_cons (s_expr (e_append (e_var 1 rfl rfl ⟨l, _, rfl, upd_same, e_blt call_len_seq T.b_len (a_cons (e_var 5 rfl rfl (a_nil ⟨q2, _, rfl, .inl (SqL.of (by rw [upd_ne nq]; exact hq2)), _, upd_same, by rw [iv_len]; exact smallT (by omega), ?_⟩)))⟩)))
    -- found.extend(answer)
    refine b_one (s_expr (e_extend (e_var 1 rfl rfl ⟨l, _, rfl, upd_same, e_var 5 rfl rfl ⟨q2, _, _, rfl, upd_same, by rw [upd_ne nq, upd_ne nq]; exact hq2, by rw [List.length_append, iv_len, iv_len]; exact small (by show _ + 1 + _ ≤ 100000; omega), ?_⟩⟩)))
    refine ⟨v1, _, _, _, rfl, ?_, ?_, ?_⟩
    · rw [hid_upd, hid_upd, hid_up n3, hrun]
      exact hs1
    · rw [upd_same, htold, iv_app]
      unfold tell
      rw [List.append_assoc]
      show some (HO.lst (iv tl ++ (V.int ((iv ro.2).length : Int) :: iv ro.2))) = _
      rw [iv_len]
      rfl
    · rw [hid_upd, hid_upd, hid_up n3]
      exact e2.trans e3
  · rintro σ H2 ⟨v0, x3, x4, x5, rfl, hst, hl, e2⟩
    refine b_one (s_ret (e_var 1 rfl rfl (k _ _ ?_)))
    rw [hl, han, hyl, List.take_length]
end
end Det
/-! from what the top has written to the facts -/
namespace Det
open PySem PySem.Spec PyProof.Rows L2
def TabL (K : PySem.W.Frag) : List (Int × Str) → List DictEntry → Prop
  | [], [] => True
  | p :: r, e :: s => (∃ t f, e = ⟨hashInt p.1, .int p.1 t, .ref f⟩ ∧ PySem.W.nsIn K mainGlobals p.2 = some (some (.ref f))) ∧ TabL K r s
  | _, _ => False
theorem tabl_cons {K : PySem.W.Frag} {k : Int} {x : Str} {r : List (Int × Str)} {s : List DictEntry} {j : Int} {t : Tok} {f : Addr} (e : j = hashInt k) (a : PySem.W.nsIn K mainGlobals x = some (some (.ref f))) (h : TabL K r s) : TabL K ((k, x) :: r) (⟨j, .int k t, .ref f⟩ :: s) :=
  ⟨⟨t, f, by rw [e], a⟩, h⟩
theorem isInt_int (k j : Int) (t : Tok) : Value.isInt k (.int j t) = (j == k) := rfl
theorem tab_lit {K : PySem.W.Frag} : ∀ {tb : List (Int × Str)} {l : List DictEntry}, TabL K tb l → ∀ e ∈ l, ∃ k t, e.key = .int k t ∧ e.hash = hashInt k
  | [], [], _, e, h => by cases h
  | p :: r, x :: s, ⟨⟨t, f, ex, _⟩, hr⟩, e, h => by
    cases h with
    | head => exact ⟨p.1, t, by rw [ex], by rw [ex]⟩
    | tail _ h => exact tab_lit hr e h
  | [], _ :: _, h, _, _ => h.elim
  | _ :: _, [], h, _, _ => h.elim
theorem tab_none {K : PySem.W.Frag} {k : Int} : ∀ {tb : List (Int × Str)} {l : List DictEntry}, TabL K tb l → (∀ p ∈ tb, p.1 ≠ k) → l.find? (fun e => Value.isInt k e.key) = none
  | [], [], _, _ => rfl
  | p :: r, x :: s, ⟨⟨t, f, ex, _⟩, hr⟩, hn => by
    have h1 : Value.isInt k x.key = false := by
      rw [ex, isInt_int]
      exact beq_eq_false_iff_ne.mpr (hn p (List.mem_cons_self ..))
    rw [List.find?_cons_of_neg (by rw [h1]; exact Bool.false_ne_true)]
    exact tab_none hr fun q hq => hn q (List.mem_cons_of_mem _ hq)
  | [], _ :: _, h, _ => h.elim
  | _ :: _, [], h, _ => h.elim
theorem tab_some {K : PySem.W.Frag} : ∀ {tb : List (Int × Str)} {l : List DictEntry}, TabL K tb l → (tb.map (·.1)).Nodup → ∀ p ∈ tb, ∃ f, (l.find? (fun e => Value.isInt p.1 e.key)).map (·.val) = some (.ref f) ∧ PySem.W.nsIn K mainGlobals p.2 = some (some (.ref f))
  | [], [], _, _, p, h => by cases h
  | q :: r, x :: s, ⟨⟨t, f, ex, hx⟩, hr⟩, nd, p, h => by
    rw [List.map_cons, List.nodup_cons] at nd
    cases h with
    | head =>
      have h1 : Value.isInt q.1 x.key = true := by
        rw [ex, isInt_int]
        exact beq_self_eq_true _
      exact ⟨f, by rw [List.find?_cons_of_pos (p := fun e : DictEntry => Value.isInt q.1 e.key) h1, ex]; rfl, hx⟩
    | tail _ h =>
      have ne : q.1 ≠ p.1 := fun e => nd.1 (by rw [e]; exact List.mem_map_of_mem h)
      have h1 : Value.isInt p.1 x.key = false := by
        rw [ex, isInt_int]
        exact beq_eq_false_iff_ne.mpr ne
      obtain ⟨g, h2, h3⟩ := tab_some hr nd.2 p h
      exact ⟨g, by rw [List.find?_cons_of_neg (by rw [h1]; exact Bool.false_ne_true)]; exact h2, h3⟩
  | [], _ :: _, h, _, _, _ => h.elim
  | _ :: _, [], h, _, _, _ => h.elim
section
variable {K : PySem.W.Frag} {mg : Str → Option Value} {h : Heap}
theorem tab_mk {x : Str} {tb : List (Int × Str)} {d : Addr} {l : List DictEntry} {n : Nat} (X : K.In h) (G : h.Ns mainGlobals mg) (nd : (tb.map (·.1)).Nodup) (a : PySem.W.nsIn K mainGlobals x = some (some (.ref d))) (hl : K.lookup d = some ⟨.type "dict", none, .dict l.toArray n, #[]⟩)
    (ht : TabL K tb l) (lo : (d == sysModules) = false) : ∃ d, mg x = some (.ref d) ∧ tabOf K mg d tb := by
  have ef : ∀ k, findBy Value.isInt l.toArray k = (l.find? fun e => Value.isInt k e.key).map (·.val) := fun k => by
    unfold findBy
    rw [List.find?_toArray]
  refine ⟨d, PySem.W.mg_of X G a, findBy Value.isInt l.toArray, ⟨⟨l.toArray, n, hl, fun e he => tab_lit ht e (by simpa using he), fun _ => rfl⟩, lo⟩, fun p hp => ?_, fun k hk => ?_⟩
  · obtain ⟨f, h1, h2⟩ := tab_some ht nd p hp
    exact ⟨f, (ef _).trans h1, PySem.W.mg_of X G h2⟩
  · rw [ef, tab_none ht hk]
    rfl
theorem ci_mk {x : Str} {v : Int} {t : Tok} (X : K.In h) (G : h.Ns mainGlobals mg) (a : PySem.W.nsIn K mainGlobals x = some (some (.int v t))) : ∃ t, mg x = some (.int v t) := ⟨t, PySem.W.mg_of X G a⟩
theorem d1_mk {x : Str} {st : Stmt} {ps : List Str} {f : Addr} {oc : Value} {od an : Option Addr} {osl : Array (Option Value)} {kV doc pm cdv ct : Value} (X : K.In h) (G : h.Ns mainGlobals mg) (a : PySem.W.nsIn K mainGlobals x = some (some (.ref f)))
    (l : K.lookup f = some ⟨oc, od, .func (PySem.W.fnOf x x (defArgs st) (defBody st) (defScope st) .none kV doc pm an cdv ct), osl⟩) (c : PySem.W.codeIn K cdv x = true) (k : PySem.W.keepIn K (.ref f) = true)
    (b : ∀ (kV doc pm : Value) (an : Option Addr) (cdv ct : Value) (us : List Value), us.length = ps.length → bindArgs (PySem.W.fnOf x x (defArgs st) (defBody st) (defScope st) .none kV doc pm an cdv ct) ⟨us, []⟩ = pure (ps.zip us)) : D1 K mg x st ps :=
  ⟨f, _, fun_mk l c k, PySem.W.mg_of X G a, (fun_mk l c k).binds b⟩
theorem ini_mk {C f : Addr} {oc : Value} {od an : Option Addr} {osl : Array (Option Value)} {kV doc pm cdv ct : Value} (mk : PySem.W.makesIn K C = true) (a : PySem.W.findIn K (.ref C) "__init__" = some (some (.ref f))) (i : PySem.W.isFn K (.ref f) = true) (kc : PySem.W.keepIn K (.ref C) = true)
    (l : K.lookup f = some ⟨oc, od, .func (PySem.W.fnOf "__init__" "Setting.__init__" (defArgs sInit) (defBody sInit) (defScope sInit) .none kV doc pm an cdv ct), osl⟩) (c : PySem.W.codeIn K cdv "Setting.__init__" = true) (k : PySem.W.keepIn K (.ref f) = true) :
    ∃ fI fd, L2.Fun K "__init__" "Setting.__init__" sInit fI fd ∧ Mk K C fI ∧ Binds K fd ["self", "trial_weights", "use_weights", "prior", "stakes", "prices"] [] :=
  ⟨f, _, fun_mk l c k, ⟨mk, a, i, kc⟩, (fun_mk l c k).binds fun _ _ _ _ _ _ us hl => match us, hl with | [_, _, _, _, _, _], _ => rfl⟩
/-- what walk_specK asks -/
theorem fin_mk {P : Program} {w : World} {C fa : Addr} (hmg : mg "answers" = some (.ref fa)) (T : Txt K mg C) :
    ∃ fd : FuncData, (∀ (s : Shared) (us : List Value), us.length = (["calls"] : List Str).length → BindsTo s fd ⟨us, []⟩ ((["calls"] : List Str).zip us)) ∧ ∀ base : Heap, K.In base → base.Ns mainGlobals mg → FnOk P w K mg base L2.CX0 9 fa fd ["calls"] (spAns K) := by
  obtain ⟨f, fd, F, hm, b⟩ := T.d_answers.ex
  have e := hmg.symm.trans hm
  cases e
  obtain ⟨oc, od, kV, doc, pm, an, cdv, ct, osl, hfd, lk, hcd⟩ := F.ex
  refine ⟨fd, fun s us hl => ?_, fun base _ _ => ?_⟩
  · rw [hfd]
    exact match us, hl with | [_], _ => .of_eq rfl
  · obtain ⟨g, fd2, F2, hm2, _, _, oc2, od2, osl2, lk2⟩ := (ok_answers (P := P) (w := w) (base := base) T).ex
    rw [hm] at hm2
    cases hm2
    rw [lk] at lk2
    cases lk2
    exact F2
end
end Det
open PySem PySem.W PyProof.Rows
set_option maxHeartbeats 0 in
theorem PySem.Challenge.cw_deterrence_s01_answers_holds : PySem.Challenge.rw_deterrence_s01_answers.Holds := by
  w_on; k_headS; (case hw => exact ⟨[.list [.int 0, .int 1, .int 1, .int 0]], by decide +kernel, by decide +kernel⟩)
  k_fillS
  refine L2.walk_specK (r := PySem.Challenge.rw_deterrence_s01_answers) (k := 9) (CX := L2.CX0) (ps := ["calls"]) (sp := Det.spAns) (by decide +kernel) rfl rfl ⟨rfl, by decide, by decide⟩ (fun w h Y => PySem.W.kIn_of Y) ?F ?S (fun _ _ _ _ z => z)
  case F =>
    intro w mg fa h Y KX G hmg
    refine' Det.fin_mk hmg (Det.Txt.mk ⟨?pg, ?hd, ?po, ?sa⟩ ?n1 ?n2 ?n3 ?n4 ?n5 (PySem.W.mg_of KX G ?aC) (Det.ini_mk ?mk ?aI ?iI ?kc ?lI ?cI ?kI) (Det.tab_mk KX G (by decide) ?aq ?lq ?tq ?oq) (Det.tab_mk KX G (by decide) ?ac ?lc ?tc ?oc) (PySem.W.mg_none_of KX G ?b_len) (PySem.W.mg_none_of KX G ?b_sum) (PySem.W.mg_none_of KX G ?b_range) (PySem.W.mg_none_of KX G ?b_abs) (PySem.W.mg_none_of KX G ?b_all) (PySem.W.mg_none_of KX G ?b_list) (Det.ci_mk KX G ?c_NO_SETTING) (Det.ci_mk KX G ?c_NO_SIGNAL) (Det.ci_mk KX G ?c_BEYOND) (Det.ci_mk KX G ?c_NO_PRIOR) (Det.ci_mk KX G ?c_MOST_SIGNALS) (Det.ci_mk KX G ?c_MOST_WEIGHT) (Det.ci_mk KX G ?c_MOST_BOTTOM) (Det.ci_mk KX G ?c_MOST_MONEY) (Det.ci_mk KX G ?c_CREATE) (Det.d1_mk KX G ?a1 ?l1 ?d1 ?k1 (fun _ _ _ _ _ _ us hl => match us, hl with | [_, _], _ => rfl)) (Det.d1_mk KX G ?a2 ?l2 ?d2 ?k2 (fun _ _ _ _ _ _ us hl => match us, hl with | [_, _], _ => rfl)) (Det.d1_mk KX G ?a3 ?l3 ?d3 ?k3 (fun _ _ _ _ _ _ us hl => match us, hl with | [_, _], _ => rfl)) (Det.d1_mk KX G ?a6 ?l6 ?d6 ?k6 (fun _ _ _ _ _ _ us hl => match us, hl with | [_], _ => rfl)) (Det.d1_mk KX G ?a7 ?l7 ?d7 ?k7 (fun _ _ _ _ _ _ us hl => match us, hl with | [_], _ => rfl)) (Det.d1_mk KX G ?a8 ?l8 ?d8 ?k8 (fun _ _ _ _ _ _ us hl => match us, hl with | [_, _, _], _ => rfl)) (Det.d1_mk KX G ?a9 ?l9 ?d9 ?k9 (fun _ _ _ _ _ _ us hl => match us, hl with | [_, _], _ => rfl)) (Det.d1_mk KX G ?a10 ?l10 ?d10 ?k10 (fun _ _ _ _ _ _ us hl => match us, hl with | [_, _], _ => rfl)) (Det.d1_mk KX G ?a11 ?l11 ?d11 ?k11 (fun _ _ _ _ _ _ us hl => match us, hl with | [_, _], _ => rfl)) (Det.d1_mk KX G ?a13 ?l13 ?d13 ?k13 (fun _ _ _ _ _ _ us hl => match us, hl with | [_, _], _ => rfl)) (Det.d1_mk KX G ?a14 ?l14 ?d14 ?k14 (fun _ _ _ _ _ _ us hl => match us, hl with | [_], _ => rfl)) (Det.d1_mk KX G ?a15 ?l15 ?d15 ?k15 (fun _ _ _ _ _ _ us hl => match us, hl with | [_], _ => rfl)) (Det.d1_mk KX G ?a16 ?l16 ?d16 ?k16 (fun _ _ _ _ _ _ us hl => match us, hl with | [_, _], _ => rfl)) (Det.d1_mk KX G ?a17 ?l17 ?d17 ?k17 (fun _ _ _ _ _ _ us hl => match us, hl with | [_, _], _ => rfl)) (Det.d1_mk KX G ?a18 ?l18 ?d18 ?k18 (fun _ _ _ _ _ _ us hl => match us, hl with | [_], _ => rfl)) (Det.d1_mk KX G ?a19 ?l19 ?d19 ?k19 (fun _ _ _ _ _ _ us hl => match us, hl with | [_], _ => rfl)) (Det.d1_mk KX G ?a20 ?l20 ?d20 ?k20 (fun _ _ _ _ _ _ us hl => match us, hl with | [_], _ => rfl)) (Det.d1_mk KX G ?a22 ?l22 ?d22 ?k22 (fun _ _ _ _ _ _ us hl => match us, hl with | [_, _], _ => rfl)) (Det.d1_mk KX G ?a23 ?l23 ?d23 ?k23 (fun _ _ _ _ _ _ us hl => match us, hl with | [_], _ => rfl)) (Det.d1_mk KX G ?a24 ?l24 ?d24 ?k24 (fun _ _ _ _ _ _ us hl => match us, hl with | [_], _ => rfl)) (Det.d1_mk KX G ?a25 ?l25 ?d25 ?k25 (fun _ _ _ _ _ _ us hl => match us, hl with | [_, _, _, _], _ => rfl)) (Det.d1_mk KX G ?a26 ?l26 ?d26 ?k26 (fun _ _ _ _ _ _ us hl => match us, hl with | [_], _ => rfl)) (Det.d1_mk KX G ?a36 ?l36 ?d36 ?k36 (fun _ _ _ _ _ _ us hl => match us, hl with | [_], _ => rfl)) (Det.d1_mk KX G ?a37 ?l37 ?d37 ?k37 (fun _ _ _ _ _ _ us hl => match us, hl with | [_, _], _ => rfl)) (Det.d1_mk KX G ?a38 ?l38 ?d38 ?k38 (fun _ _ _ _ _ _ us hl => match us, hl with | [_, _], _ => rfl)) (Det.d1_mk KX G ?a39 ?l39 ?d39 ?k39 (fun _ _ _ _ _ _ us hl => match us, hl with | [_, _], _ => rfl)) (Det.d1_mk KX G ?a40 ?l40 ?d40 ?k40 (fun _ _ _ _ _ _ us hl => match us, hl with | [_, _], _ => rfl)) (Det.d1_mk KX G ?a42 ?l42 ?d42 ?k42 (fun _ _ _ _ _ _ us hl => match us, hl with | [_, _], _ => rfl)) (Det.d1_mk KX G ?a43 ?l43 ?d43 ?k43 (fun _ _ _ _ _ _ us hl => match us, hl with | [_, _], _ => rfl)) (Det.d1_mk KX G ?a44 ?l44 ?d44 ?k44 (fun _ _ _ _ _ _ us hl => match us, hl with | [_, _], _ => rfl)) (Det.d1_mk KX G ?a46 ?l46 ?d46 ?k46 (fun _ _ _ _ _ _ us hl => match us, hl with | [_], _ => rfl)) (Det.d1_mk KX G ?a47 ?l47 ?d47 ?k47 (fun _ _ _ _ _ _ us hl => match us, hl with | [_], _ => rfl)) (Det.d1_mk KX G ?a48 ?l48 ?d48 ?k48 (fun _ _ _ _ _ _ us hl => match us, hl with | [_, _], _ => rfl)) (Det.d1_mk KX G ?a49 ?l49 ?d49 ?k49 (fun _ _ _ _ _ _ us hl => match us, hl with | [_, _], _ => rfl)) (Det.d1_mk KX G ?a50 ?l50 ?d50 ?k50 (fun _ _ _ _ _ _ us hl => match us, hl with | [_, _], _ => rfl)) (Det.d1_mk KX G ?a51 ?l51 ?d51 ?k51 (fun _ _ _ _ _ _ us hl => match us, hl with | [_, _], _ => rfl)) (Det.d1_mk KX G ?a52 ?l52 ?d52 ?k52 (fun _ _ _ _ _ _ us hl => match us, hl with | [_, _], _ => rfl)) (Det.d1_mk KX G ?a53 ?l53 ?d53 ?k53 (fun _ _ _ _ _ _ us hl => match us, hl with | [_, _], _ => rfl)) (Det.d1_mk KX G ?a54 ?l54 ?d54 ?k54 (fun _ _ _ _ _ _ us hl => match us, hl with | [_, _], _ => rfl)) (Det.d1_mk KX G ?a55 ?l55 ?d55 ?k55 (fun _ _ _ _ _ _ us hl => match us, hl with | [_, _], _ => rfl)) (Det.d1_mk KX G ?a56 ?l56 ?d56 ?k56 (fun _ _ _ _ _ _ us hl => match us, hl with | [_, _], _ => rfl)) (Det.d1_mk KX G ?a57 ?l57 ?d57 ?k57 (fun _ _ _ _ _ _ us hl => match us, hl with | [_, _], _ => rfl)) (Det.d1_mk KX G ?a58 ?l58 ?d58 ?k58 (fun _ _ _ _ _ _ us hl => match us, hl with | [_, _], _ => rfl)) (Det.d1_mk KX G ?a59 ?l59 ?d59 ?k59 (fun _ _ _ _ _ _ us hl => match us, hl with | [_, _], _ => rfl)) (Det.d1_mk KX G ?a60 ?l60 ?d60 ?k60 (fun _ _ _ _ _ _ us hl => match us, hl with | [_, _], _ => rfl)) (Det.d1_mk KX G ?a61 ?l61 ?d61 ?k61 (fun _ _ _ _ _ _ us hl => match us, hl with | [_, _], _ => rfl)) (Det.d1_mk KX G ?a63 ?l63 ?d63 ?k63 (fun _ _ _ _ _ _ us hl => match us, hl with | [_, _, _], _ => rfl)) (Det.d1_mk KX G ?a65 ?l65 ?d65 ?k65 (fun _ _ _ _ _ _ us hl => match us, hl with | [_, _], _ => rfl)) (Det.d1_mk KX G ?a66 ?l66 ?d66 ?k66 (fun _ _ _ _ _ _ us hl => match us, hl with | [_, _], _ => rfl)) (Det.d1_mk KX G ?a67 ?l67 ?d67 ?k67 (fun _ _ _ _ _ _ us hl => match us, hl with | [_, _], _ => rfl)) (Det.d1_mk KX G ?a68 ?l68 ?d68 ?k68 (fun _ _ _ _ _ _ us hl => match us, hl with | [_, _], _ => rfl)) (Det.d1_mk KX G ?a69 ?l69 ?d69 ?k69 (fun _ _ _ _ _ _ us hl => match us, hl with | [_, _], _ => rfl)) (Det.d1_mk KX G ?a70 ?l70 ?d70 ?k70 (fun _ _ _ _ _ _ us hl => match us, hl with | [_, _], _ => rfl)) (Det.d1_mk KX G ?a71 ?l71 ?d71 ?k71 (fun _ _ _ _ _ _ us hl => match us, hl with | [_, _], _ => rfl)) (Det.d1_mk KX G ?a73 ?l73 ?d73 ?k73 (fun _ _ _ _ _ _ us hl => match us, hl with | [_], _ => rfl)) (Det.d1_mk KX G ?a74 ?l74 ?d74 ?k74 (fun _ _ _ _ _ _ us hl => match us, hl with | [_, _, _], _ => rfl)) (Det.d1_mk KX G ?a76 ?l76 ?d76 ?k76 (fun _ _ _ _ _ _ us hl => match us, hl with | [_, _], _ => rfl)) (Det.d1_mk KX G ?a77 ?l77 ?d77 ?k77 (fun _ _ _ _ _ _ us hl => match us, hl with | [_], _ => rfl)) (Det.d1_mk KX G ?a80 ?l80 ?d80 ?k80 (fun _ _ _ _ _ _ us hl => match us, hl with | [_, _, _], _ => rfl)) (Det.d1_mk KX G ?a81 ?l81 ?d81 ?k81 (fun _ _ _ _ _ _ us hl => match us, hl with | [_], _ => rfl)))
    (case aC => k_is)
    (case pg => k_is)
    (case hd => k_is)
    (case po => k_is)
    (case sa => k_is)
    (case mk => k_is)
    (case kc => k_is)
    (case n1 => (unfold L2.NoAttr; k_is))
    (case n2 => (unfold L2.NoAttr; k_is))
    (case n3 => (unfold L2.NoAttr; k_is))
    (case n4 => (unfold L2.NoAttr; k_is))
    (case n5 => (unfold L2.NoAttr; k_is))
    (case aI => k_is)
    (case iI => k_is)
    (case lI => k_is)
    (case cI => k_is)
    (case kI => k_is)
    (case aq => k_is)
    (case lq => k_is)
    (case oq => decide)
    (case tq => (unfold Det.qTab; repeat (first | exact True.intro | (refine' Det.tabl_cons rfl ?_ ?_; k_is))))
    (case ac => k_is)
    (case lc => k_is)
    (case oc => decide)
    (case tc => (unfold Det.cTab; repeat (first | exact True.intro | (refine' Det.tabl_cons rfl ?_ ?_; k_is))))
    (case b_len => k_is)
    (case b_sum => k_is)
    (case b_range => k_is)
    (case b_abs => k_is)
    (case b_all => k_is)
    (case b_list => k_is)
    (case c_NO_SETTING => k_is)
    (case c_NO_SIGNAL => k_is)
    (case c_BEYOND => k_is)
    (case c_NO_PRIOR => k_is)
    (case c_MOST_SIGNALS => k_is)
    (case c_MOST_WEIGHT => k_is)
    (case c_MOST_BOTTOM => k_is)
    (case c_MOST_MONEY => k_is)
    (case c_CREATE => k_is)
    (case a1 => k_is); (case l1 => k_is); (case d1 => k_is); (case k1 => k_is)
    (case a2 => k_is); (case l2 => k_is); (case d2 => k_is); (case k2 => k_is)
    (case a3 => k_is); (case l3 => k_is); (case d3 => k_is); (case k3 => k_is)
    (case a6 => k_is); (case l6 => k_is); (case d6 => k_is); (case k6 => k_is)
    (case a7 => k_is); (case l7 => k_is); (case d7 => k_is); (case k7 => k_is)
    (case a8 => k_is); (case l8 => k_is); (case d8 => k_is); (case k8 => k_is)
    (case a9 => k_is); (case l9 => k_is); (case d9 => k_is); (case k9 => k_is)
    (case a10 => k_is); (case l10 => k_is); (case d10 => k_is); (case k10 => k_is)
    (case a11 => k_is); (case l11 => k_is); (case d11 => k_is); (case k11 => k_is)
    (case a13 => k_is); (case l13 => k_is); (case d13 => k_is); (case k13 => k_is)
    (case a14 => k_is); (case l14 => k_is); (case d14 => k_is); (case k14 => k_is)
    (case a15 => k_is); (case l15 => k_is); (case d15 => k_is); (case k15 => k_is)
    (case a16 => k_is); (case l16 => k_is); (case d16 => k_is); (case k16 => k_is)
    (case a17 => k_is); (case l17 => k_is); (case d17 => k_is); (case k17 => k_is)
    (case a18 => k_is); (case l18 => k_is); (case d18 => k_is); (case k18 => k_is)
    (case a19 => k_is); (case l19 => k_is); (case d19 => k_is); (case k19 => k_is)
    (case a20 => k_is); (case l20 => k_is); (case d20 => k_is); (case k20 => k_is)
    (case a22 => k_is); (case l22 => k_is); (case d22 => k_is); (case k22 => k_is)
    (case a23 => k_is); (case l23 => k_is); (case d23 => k_is); (case k23 => k_is)
    (case a24 => k_is); (case l24 => k_is); (case d24 => k_is); (case k24 => k_is)
    (case a25 => k_is); (case l25 => k_is); (case d25 => k_is); (case k25 => k_is)
    (case a26 => k_is); (case l26 => k_is); (case d26 => k_is); (case k26 => k_is)
    (case a36 => k_is); (case l36 => k_is); (case d36 => k_is); (case k36 => k_is)
    (case a37 => k_is); (case l37 => k_is); (case d37 => k_is); (case k37 => k_is)
    (case a38 => k_is); (case l38 => k_is); (case d38 => k_is); (case k38 => k_is)
    (case a39 => k_is); (case l39 => k_is); (case d39 => k_is); (case k39 => k_is)
    (case a40 => k_is); (case l40 => k_is); (case d40 => k_is); (case k40 => k_is)
    (case a42 => k_is); (case l42 => k_is); (case d42 => k_is); (case k42 => k_is)
    (case a43 => k_is); (case l43 => k_is); (case d43 => k_is); (case k43 => k_is)
    (case a44 => k_is); (case l44 => k_is); (case d44 => k_is); (case k44 => k_is)
    (case a46 => k_is); (case l46 => k_is); (case d46 => k_is); (case k46 => k_is)
    (case a47 => k_is); (case l47 => k_is); (case d47 => k_is); (case k47 => k_is)
    (case a48 => k_is); (case l48 => k_is); (case d48 => k_is); (case k48 => k_is)
    (case a49 => k_is); (case l49 => k_is); (case d49 => k_is); (case k49 => k_is)
    (case a50 => k_is); (case l50 => k_is); (case d50 => k_is); (case k50 => k_is)
    (case a51 => k_is); (case l51 => k_is); (case d51 => k_is); (case k51 => k_is)
    (case a52 => k_is); (case l52 => k_is); (case d52 => k_is); (case k52 => k_is)
    (case a53 => k_is); (case l53 => k_is); (case d53 => k_is); (case k53 => k_is)
    (case a54 => k_is); (case l54 => k_is); (case d54 => k_is); (case k54 => k_is)
    (case a55 => k_is); (case l55 => k_is); (case d55 => k_is); (case k55 => k_is)
    (case a56 => k_is); (case l56 => k_is); (case d56 => k_is); (case k56 => k_is)
    (case a57 => k_is); (case l57 => k_is); (case d57 => k_is); (case k57 => k_is)
    (case a58 => k_is); (case l58 => k_is); (case d58 => k_is); (case k58 => k_is)
    (case a59 => k_is); (case l59 => k_is); (case d59 => k_is); (case k59 => k_is)
    (case a60 => k_is); (case l60 => k_is); (case d60 => k_is); (case k60 => k_is)
    (case a61 => k_is); (case l61 => k_is); (case d61 => k_is); (case k61 => k_is)
    (case a63 => k_is); (case l63 => k_is); (case d63 => k_is); (case k63 => k_is)
    (case a65 => k_is); (case l65 => k_is); (case d65 => k_is); (case k65 => k_is)
    (case a66 => k_is); (case l66 => k_is); (case d66 => k_is); (case k66 => k_is)
    (case a67 => k_is); (case l67 => k_is); (case d67 => k_is); (case k67 => k_is)
    (case a68 => k_is); (case l68 => k_is); (case d68 => k_is); (case k68 => k_is)
    (case a69 => k_is); (case l69 => k_is); (case d69 => k_is); (case k69 => k_is)
    (case a70 => k_is); (case l70 => k_is); (case d70 => k_is); (case k70 => k_is)
    (case a71 => k_is); (case l71 => k_is); (case d71 => k_is); (case k71 => k_is)
    (case a73 => k_is); (case l73 => k_is); (case d73 => k_is); (case k73 => k_is)
    (case a74 => k_is); (case l74 => k_is); (case d74 => k_is); (case k74 => k_is)
    (case a76 => k_is); (case l76 => k_is); (case d76 => k_is); (case k76 => k_is)
    (case a77 => k_is); (case l77 => k_is); (case d77 => k_is); (case k77 => k_is)
    (case a80 => k_is); (case l80 => k_is); (case d80 => k_is); (case k80 => k_is)
    (case a81 => k_is); (case l81 => k_is); (case d81 => k_is); (case k81 => k_is)
  case S =>
    intro K H xs a hO hwi hask hx
    cases hx with
    | cons h1 h2 =>
      cases h2
      cases h1 with
      | lst hs ha =>
        have e := L2.ints_dw a.1 _ ha
        subst e
        exact ⟨_, a.1, rfl, hs, hask, fun H' p hp => .lst (L2.SqL.of hp) (L2.dw_ints _)⟩
#print axioms PySem.Challenge.cw_deterrence_s01_answers_holds
