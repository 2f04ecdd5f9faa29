import PyProof.Rows.All
import Wide.All
import OpenK.AllK
import Wide.FinOn
import KE.KStateDown
import HandS.ForMost
import HandS.Base
import HandS.Call
import HandS.Words
import HandS.Defaults
import HandS.Head0
import HandS.Head1
import HandS.Head2
import HandS.Head3
import HandS.HeadHook1
import HandS.HeadHook2
import HandS.Codes
import HandS.Flow
import HandS.Walk
import HandS.Wide
import HandS.WideMore
import HandS.Gcd
import HandS.More
import HandS.Evl
import HandS.HeadEnd
import PySem.Challenge.RW_meanhold_k33_whole_replies_that_change
set_option Elab.async false
section
set_option Elab.async false
set_option linter.all false
set_option maxRecDepth 100000
set_option maxHeartbeats 4000000
/-! the text by its defs -/
namespace Mh
open PySem PySem.Spec PyProof.Rows L2
abbrev RWX : PySem.W.OpenLaw := PySem.Challenge.rw_meanhold_k33_whole_replies_that_change
def topS (i : Nat) : Stmt := PySem.Challenge.pw_meanhold_k33_whole_replies_that_change.main.body.getD i (.Pass ⟨0, 0, 0, 0⟩)

abbrev s4 : Stmt := topS 4
abbrev s5 : Stmt := topS 5
abbrev s6 : Stmt := topS 6
abbrev s7 : Stmt := topS 7
abbrev s8 : Stmt := topS 8
abbrev s9 : Stmt := topS 9
abbrev s10 : Stmt := topS 10
abbrev s12 : Stmt := topS 12
abbrev s13 : Stmt := topS 13
abbrev s14 : Stmt := topS 14
abbrev s16 : Stmt := topS 16
abbrev s17 : Stmt := topS 17
abbrev s19 : Stmt := topS 19
abbrev s21 : Stmt := topS 21
abbrev s22 : Stmt := topS 22
abbrev s23 : Stmt := topS 23
abbrev s24 : Stmt := topS 24
abbrev s25 : Stmt := topS 25
abbrev s26 : Stmt := topS 26
abbrev s27 : Stmt := topS 27
abbrev s29 : Stmt := topS 29
abbrev s30 : Stmt := topS 30
abbrev s31 : Stmt := topS 31
abbrev s32 : Stmt := topS 32
abbrev s33 : Stmt := topS 33
abbrev s34 : Stmt := topS 34
abbrev s35 : Stmt := topS 35
abbrev s36 : Stmt := topS 36
abbrev s39 : Stmt := topS 39
abbrev s41 : Stmt := topS 41
abbrev s42 : Stmt := topS 42
abbrev s43 : Stmt := topS 43
abbrev s44 : Stmt := topS 44
abbrev s45 : Stmt := topS 45
abbrev s46 : Stmt := topS 46
abbrev s48 : Stmt := topS 48
abbrev s49 : Stmt := topS 49
abbrev s51 : Stmt := topS 51
abbrev s52 : Stmt := topS 52
abbrev s53 : Stmt := topS 53
abbrev s54 : Stmt := topS 54
abbrev s55 : Stmt := topS 55
abbrev s56 : Stmt := topS 56
abbrev s57 : Stmt := topS 57
abbrev s58 : Stmt := topS 58
abbrev s59 : Stmt := topS 59
abbrev s60 : Stmt := topS 60
abbrev s61 : Stmt := topS 61
abbrev s62 : Stmt := topS 62
abbrev s63 : Stmt := topS 63
abbrev s64 : Stmt := topS 64
abbrev s65 : Stmt := topS 65
abbrev s66 : Stmt := topS 66
abbrev s67 : Stmt := topS 67
abbrev s68 : Stmt := topS 68
abbrev s69 : Stmt := topS 69
abbrev s70 : Stmt := topS 70
abbrev s71 : Stmt := topS 71
abbrev s72 : Stmt := topS 72
abbrev s73 : Stmt := topS 73
abbrev s74 : Stmt := topS 74
end Mh
end
section
set_option Elab.async false
set_option linter.all false
set_option maxRecDepth 100000
set_option maxHeartbeats 0
/-! the top: its run, what it leaves -/
namespace Mh
open PySem PySem.Spec PyProof.Rows L2
abbrev mkD (g x : Str) (st : Stmt) : He.DefD := ⟨(g, none), x, x, defArgs st, defBody st, defScope st, [], []⟩

def dd4 : He.DefD := mkD "number" "number" s4
def dd5 : He.DefD := mkD "compare" "compare" s5
def dd6 : He.DefD := mkD "plus" "plus" s6
def dd7 : He.DefD := mkD "minus" "minus" s7
def dd8 : He.DefD := mkD "times" "times" s8
def dd9 : He.DefD := mkD "divided" "divided" s9
def dd10 : He.DefD := mkD "total" "total" s10
def dd12 : He.DefD := mkD "targets" "targets" s12
def dd13 : He.DefD := mkD "copy_of" "copy_of" s13
def dd14 : He.DefD := mkD "with_strategy" "with_strategy" s14
def dd16 : He.DefD := mkD "lessened" "lessened" s16
def dd17 : He.DefD := mkD "solved_equations" "solved" s17
def dd19 : He.DefD := mkD "met" "met" s19
def dd21 : He.DefD := mkD "reached" "reached" s21
def dd22 : He.DefD := mkD "closed_classes" "closed_classes" s22
def dd23 : He.DefD := mkD "shares_in" "shares_in" s23
def dd24 : He.DefD := mkD "weighed_by" "weighed_by" s24
def dd25 : He.DefD := mkD "with_rest" "with_rest" s25
def dd26 : He.DefD := mkD "long_gains" "long_gains" s26
def dd27 : He.DefD := mkD "leads" "leads" s27
def dd29 : He.DefD := mkD "mean_of" "mean_of" s29
def dd30 : He.DefD := mkD "slack_to" "slack_to" s30
def dd31 : He.DefD := mkD "slack_at" "slack_at" s31
def dd32 : He.DefD := mkD "bounding" "bounding" s32
def dd33 : He.DefD := mkD "lift_for" "lift_for" s33
def dd34 : He.DefD := mkD "number_of" "number_of" s34
def dd35 : He.DefD := mkD "lift_of" "lift_of" s35
def dd36 : He.DefD := mkD "lifted_leads" "lifted_leads" s36
def dd39 : He.DefD := mkD "solved_finding" "solved" s39
def dd41 : He.DefD := mkD "worths" "worths" s41
def dd42 : He.DefD := mkD "first_strategy" "first_strategy" s42
def dd43 : He.DefD := mkD "switched" "switched" s43
def dd44 : He.DefD := mkD "replied" "replied" s44
def dd45 : He.DefD := mkD "best_pair" "best_pair" s45
def dd46 : He.DefD := mkD "found_answer" "found_answer" s46
def dd48 : He.DefD := mkD "least_against" "least_against" s48
def dd49 : He.DefD := mkD "greatest_against" "greatest_against" s49
def dd51 : He.DefD := mkD "_law_played" "_law_played" s51
def dd52 : He.DefD := mkD "_law_pool" "_law_pool" s52
def dd53 : He.DefD := mkD "_law_stream" "_law_stream" s53
def dd54 : He.DefD := mkD "_law_pick" "_law_pick" s54
def dd55 : He.DefD := mkD "_law_cut" "_law_cut" s55
def dd56 : He.DefD := mkD "_law_odds" "_law_odds" s56
def dd57 : He.DefD := mkD "_law_gain" "_law_gain" s57
def dd58 : He.DefD := mkD "_law_field" "_law_field" s58
def dd59 : He.DefD := mkD "_law_plan" "_law_plan" s59
def dd60 : He.DefD := mkD "_law_and" "_law_and" s60
def dd61 : He.DefD := mkD "_law_by" "_law_by" s61
def dd62 : He.DefD := mkD "_law_less_by" "_law_less_by" s62
def dd63 : He.DefD := mkD "_law_cleared" "_law_cleared" s63
def dd64 : He.DefD := mkD "_law_flow" "_law_flow" s64
def dd65 : He.DefD := mkD "_law_settling" "_law_settling" s65
def dd66 : He.DefD := mkD "_law_weights" "_law_weights" s66
def dd67 : He.DefD := mkD "_law_long" "_law_long" s67
def dd68 : He.DefD := mkD "_law_order" "_law_order" s68
def dd69 : He.DefD := mkD "_law_round" "_law_round" s69
def dd70 : He.DefD := mkD "_law_extreme" "_law_extreme" s70
def dd71 : He.DefD := mkD "_law_plans" "_law_plans" s71
def dd72 : He.DefD := mkD "_law_low_of" "_law_low_of" s72
def dd73 : He.DefD := mkD "_law_high_of" "_law_high_of" s73
def dd74 : He.DefD := mkD "law" "law" s74
def fns : List He.DefD := [dd4, dd5, dd6, dd7, dd8, dd9, dd10, dd12, dd13, dd14, dd16, dd17, dd19, dd21, dd22, dd23, dd24, dd25, dd26, dd27, dd29, dd30, dd31, dd32, dd33, dd34, dd35, dd36, dd39, dd41, dd42, dd43, dd44, dd45, dd46, dd48, dd49, dd51, dd52, dd53, dd54, dd55, dd56, dd57, dd58, dd59, dd60, dd61, dd62, dd63, dd64, dd65, dd66, dd67, dd68, dd69, dd70, dd71, dd72, dd73, dd74]
def fas : List He.Fa := [.glo "number", .glo "compare", .glo "plus", .glo "minus", .glo "times", .glo "divided", .glo "total", .glo "targets", .glo "copy_of", .glo "with_strategy", .glo "lessened", .glo "solved_equations", .glo "met", .glo "reached", .glo "closed_classes", .glo "shares_in", .glo "weighed_by", .glo "with_rest", .glo "long_gains", .glo "leads", .glo "mean_of", .glo "slack_to", .glo "slack_at", .glo "bounding", .glo "lift_for", .glo "number_of", .glo "lift_of", .glo "lifted_leads", .glo "solved_finding", .glo "worths", .glo "first_strategy", .glo "switched", .glo "replied", .glo "best_pair", .glo "found_answer", .glo "least_against", .glo "greatest_against", .glo "_law_played", .glo "_law_pool", .glo "_law_stream", .glo "_law_pick", .glo "_law_cut", .glo "_law_odds", .glo "_law_gain", .glo "_law_field", .glo "_law_plan", .glo "_law_and", .glo "_law_by", .glo "_law_less_by", .glo "_law_cleared", .glo "_law_flow", .glo "_law_settling", .glo "_law_weights", .glo "_law_long", .glo "_law_order", .glo "_law_round", .glo "_law_extreme", .glo "_law_plans", .glo "_law_low_of", .glo "_law_high_of", .glo "law", .glo "NOUGHT_numbers", .glo "ONE", .glo "NOUGHT_finding", .free "len", .free "range", .free "enumerate", .free "zip", .free "list", .free "dict", .free "sorted", .free "all", .free "any", .free "min", .free "abs", .free "int", .free "sum"]
def exB (K : PySem.W.Frag) : Bool := He.tupB K "NOUGHT_numbers" [.int 0, .int 1] && (He.tupB K "ONE" [.int 1, .int 1] && (He.tupB K "NOUGHT_finding" [.int 0, .int 1] &&
  (He.eqO (PySem.W.nsIn K mainGlobals "gcd") (some (some (.builtin "math.gcd"))) && He.eqO (PySem.W.nsIn K mainGlobals "lcm") (some (some (.builtin "math.lcm"))))))
abbrev AlE : Type := Bool × He.AlD
def obE (K : PySem.W.Frag) : AlE := (exB K, He.obsD fas fns K)
def vaE : AlE := (true, He.valD fns)
def obEG (n : Nat) (g : Addr → Option Obj) : AlE := obE (He.frG g (He.asD g n))
def hk : PySem.W.Hook where
  α := AlE
  obs := fun s => obEG 2 s.heap.get?
  val := fun _ => vaE
  says := fun _ h => ∃ K : PySem.W.Frag, K.In h ∧ obE K = vaE
  of := fun _ _ e => ⟨_, He.frG_in, e⟩
  keeps := fun _ _ _ ⟨K, hK, c⟩ k => ⟨K, PySem.W.Frag.In.keeps hK k, c⟩
abbrev R : PySem.W.OpenRow := PySem.W.OpenLaw.row RWX
def ob (s : PySem.W.SharedT) : AlE := obEG 2 (HandSHeadRun.getT s)
theorem ob_eq (s : PySem.W.SharedT) : ob s = hk.obs s.abs := by
  have e : HandSHeadRun.getT s = s.abs.heap.get? := funext (HandSHeadRun.getT_eq s)
  unfold ob
  rw [e]
  rfl
def nm0 : List PySem.Str := ["NOUGHT_numbers", "ONE", "number", "compare", "plus", "minus", "times", "divided", "total", "targets", "copy_of", "with_strategy"]
def nm1 : List PySem.Str := ["lessened", "solved", "met", "reached", "closed_classes", "shares_in", "weighed_by", "with_rest", "long_gains", "leads", "mean_of", "slack_to"]
def nm2 : List PySem.Str := ["slack_at", "bounding", "lift_for", "number_of", "lift_of", "lifted_leads", "worths", "first_strategy", "switched", "replied", "best_pair", "found_answer"]
def nm3 : List PySem.Str := ["least_against", "greatest_against", "_law_played", "_law_pool", "_law_stream", "_law_pick", "_law_cut", "_law_odds", "_law_gain", "_law_field", "_law_plan", "_law_and"]
def nm4 : List PySem.Str := ["_law_by", "_law_less_by", "_law_cleared", "_law_flow", "_law_settling", "_law_weights", "_law_long", "_law_order", "_law_round", "_law_extreme", "_law_plans", "_law_low_of"]
def nm5 : List PySem.Str := ["_law_high_of", "NOUGHT_finding", "solved_equations", "solved_finding"]
def nms : List PySem.Str := nm0 ++ (nm1 ++ (nm2 ++ (nm3 ++ (nm4 ++ (nm5)))))
abbrev vq : Program := PySem.W.view R.prog [0, 74]
theorem run (w : World) : HandSHeadRun.RunEqI R vq hk ob 4000 nms w := by
  unfold HandSHeadRun.RunEqI
  kernel_rfl
end Mh
end
section
/-! sums -/
namespace Mh
def sm : Nat → (Nat → Rat) → Rat
  | 0, _ => 0
  | n + 1, f => sm n f + f n
theorem sm_congr {n : Nat} {f g : Nat → Rat} (h : ∀ i, i < n → f i = g i) : sm n f = sm n g := by
  induction n with
  | zero => rfl
  | succ n ih =>
    show sm n f + f n = sm n g + g n
    rw [ih (fun i hi => h i (by omega)), h n (by omega)]
theorem sm_add (n : Nat) (f g : Nat → Rat) : sm n (fun i => f i + g i) = sm n f + sm n g := by
  induction n with
  | zero => simp only [sm]; grind
  | succ n ih => simp only [sm, ih]; grind
theorem sm_sub (n : Nat) (f g : Nat → Rat) : sm n (fun i => f i - g i) = sm n f - sm n g := by
  induction n with
  | zero => simp only [sm]; grind
  | succ n ih => simp only [sm, ih]; grind
theorem sm_neg (n : Nat) (f : Nat → Rat) : sm n (fun i => -f i) = -sm n f := by
  induction n with
  | zero => simp only [sm]; grind
  | succ n ih => simp only [sm, ih]; grind
theorem sm_mul (n : Nat) (c : Rat) (f : Nat → Rat) : sm n (fun i => c * f i) = c * sm n f := by
  induction n with
  | zero => simp only [sm]; grind
  | succ n ih => simp only [sm, ih]; grind
theorem sm_mulr (n : Nat) (c : Rat) (f : Nat → Rat) : sm n (fun i => f i * c) = sm n f * c := by
  induction n with
  | zero => simp only [sm]; grind
  | succ n ih => simp only [sm, ih]; grind
theorem sm_zero (n : Nat) {f : Nat → Rat} (h : ∀ i, i < n → f i = 0) : sm n f = 0 := by
  induction n with
  | zero => rfl
  | succ n ih =>
    show sm n f + f n = 0
    rw [ih (fun i hi => h i (by omega)), h n (by omega)]; grind
theorem sm_le {n : Nat} {f g : Nat → Rat} (h : ∀ i, i < n → f i ≤ g i) : sm n f ≤ sm n g := by
  induction n with
  | zero => exact Rat.le_refl
  | succ n ih =>
    show sm n f + f n ≤ sm n g + g n
    have h1 := ih (fun i hi => h i (by omega))
    have h2 := h n (by omega)
    grind
theorem sm_nonneg {n : Nat} {f : Nat → Rat} (h : ∀ i, i < n → 0 ≤ f i) : 0 ≤ sm n f := by
  have := sm_le (n := n) (f := fun _ => 0) (g := f) h
  rw [sm_zero n (fun _ _ => rfl)] at this
  exact this
/-- one term at least -/
theorem sm_ge {n : Nat} {f : Nat → Rat} (h : ∀ i, i < n → 0 ≤ f i) {j : Nat} (hj : j < n) : f j ≤ sm n f := by
  induction n with
  | zero => omega
  | succ n ih =>
    show f j ≤ sm n f + f n
    have h2 := h n (by omega)
    by_cases e : j = n
    · subst e
      have := sm_nonneg (n := j) (f := f) (fun i hi => h i (by omega))
      grind
    · have := ih (fun i hi => h i (by omega)) (by omega)
      grind
theorem sm_pos {n : Nat} {f : Nat → Rat} (h : ∀ i, i < n → 0 ≤ f i) {j : Nat} (hj : j < n) (hp : 0 < f j) : 0 < sm n f := by
  have := sm_ge h hj
  grind
theorem sm_eq_zero {n : Nat} {f : Nat → Rat} (h : ∀ i, i < n → 0 ≤ f i) (e : sm n f ≤ 0) {j : Nat} (hj : j < n) : f j = 0 := by
  have h1 := sm_ge h hj
  have h2 := h j hj
  grind
theorem sm_single {n : Nat} {f : Nat → Rat} {j : Nat} (hj : j < n) (h : ∀ i, i < n → i ≠ j → f i = 0) : sm n f = f j := by
  induction n with
  | zero => omega
  | succ n ih =>
    show sm n f + f n = f j
    by_cases e : j = n
    · subst e
      rw [sm_zero j (fun i hi => h i (by omega) (by omega))]; grind
    · rw [ih (by omega) (fun i hi => h i (by omega)), h n (by omega) (by omega)]; grind
theorem sm_swap (n m : Nat) (f : Nat → Nat → Rat) : sm n (fun i => sm m (fun j => f i j)) = sm m (fun j => sm n (fun i => f i j)) := by
  induction n with
  | zero => simp only [sm]; rw [sm_zero m (fun _ _ => rfl)]
  | succ n ih =>
    simp only [sm]
    rw [ih, sm_add]
theorem sm_succ_left (n : Nat) (f : Nat → Rat) : sm (n + 1) f = f 0 + sm n (fun i => f (i + 1)) := by
  induction n with
  | zero => simp only [sm]; grind
  | succ n ih =>
    show sm (n + 1) f + f (n + 1) = f 0 + (sm n (fun i => f (i + 1)) + f (n + 1))
    rw [ih]; grind
theorem sm_mono_len {n m : Nat} (hnm : n ≤ m) {f : Nat → Rat} (h : ∀ i, n ≤ i → i < m → f i = 0) : sm m f = sm n f := by
  induction m with
  | zero => have : n = 0 := by omega
            subst this; rfl
  | succ m ih =>
    by_cases e : n = m + 1
    · subst e; rfl
    · show sm m f + f m = sm n f
      rw [ih (by omega) (fun i a b => h i a (by omega)), h m (by omega) (by omega)]; grind
/-- absolute value -/
def ab (x : Rat) : Rat := if 0 ≤ x then x else -x
theorem ab_nonneg (x : Rat) : 0 ≤ ab x := by unfold ab; split <;> grind
theorem le_ab (x : Rat) : x ≤ ab x := by unfold ab; split <;> grind
theorem neg_le_ab (x : Rat) : -x ≤ ab x := by unfold ab; split <;> grind
theorem ab_le {x c : Rat} (h1 : x ≤ c) (h2 : -x ≤ c) : ab x ≤ c := by unfold ab; split <;> grind
theorem ab_neg (x : Rat) : ab (-x) = ab x := by unfold ab; split <;> split <;> grind
theorem ab_add (x y : Rat) : ab (x + y) ≤ ab x + ab y := by
  have := le_ab x; have := neg_le_ab x; have := le_ab y; have := neg_le_ab y
  exact ab_le (by grind) (by grind)
theorem ab_sub (x y : Rat) : ab (x - y) ≤ ab x + ab y := by
  have := le_ab x; have := neg_le_ab x; have := le_ab y; have := neg_le_ab y
  exact ab_le (by grind) (by grind)
theorem ab_of_nonneg {x : Rat} (h : 0 ≤ x) : ab x = x := by unfold ab; rw [if_pos h]
theorem ab_of_nonpos {x : Rat} (h : x ≤ 0) : ab x = -x := by unfold ab; split <;> grind
theorem ab_zero : ab 0 = 0 := by unfold ab; grind
theorem ab_eq_zero {x : Rat} (h : ab x = 0) : x = 0 := by unfold ab at h; split at h <;> grind
theorem ab_mul (x y : Rat) : ab (x * y) = ab x * ab y := by
  rcases (show 0 ≤ x ∨ x ≤ 0 by grind) with hx | hx <;> rcases (show 0 ≤ y ∨ y ≤ 0 by grind) with hy | hy
  · rw [ab_of_nonneg hx, ab_of_nonneg hy, ab_of_nonneg (Rat.mul_nonneg hx hy)]
  · have := Rat.mul_nonneg hx (show 0 ≤ -y by grind)
    rw [ab_of_nonneg hx, ab_of_nonpos hy, ab_of_nonpos (by grind)]; grind
  · have := Rat.mul_nonneg (show 0 ≤ -x by grind) hy
    rw [ab_of_nonpos hx, ab_of_nonneg hy, ab_of_nonpos (by grind)]; grind
  · have := Rat.mul_nonneg (show 0 ≤ -x by grind) (show 0 ≤ -y by grind)
    rw [ab_of_nonpos hx, ab_of_nonpos hy, ab_of_nonneg (by grind)]; grind
theorem sm_ab (n : Nat) (f : Nat → Rat) : ab (sm n f) ≤ sm n (fun i => ab (f i)) := by
  induction n with
  | zero => simp only [sm]; rw [ab_zero]; exact Rat.le_refl
  | succ n ih =>
    show ab (sm n f + f n) ≤ sm n (fun i => ab (f i)) + ab (f n)
    have := ab_add (sm n f) (f n)
    grind
theorem mul_le {a b c : Rat} (h : a ≤ b) (hc : 0 ≤ c) : c * a ≤ c * b := Rat.mul_le_mul_of_nonneg_left h hc
theorem mul_le2 {a b c d : Rat} (h : a ≤ b) (h2 : c ≤ d) (ha : 0 ≤ a) (hc : 0 ≤ c) : a * c ≤ b * d := by
  have h1 := mul_le h2 ha
  have h3 := Rat.mul_le_mul_of_nonneg_right h (show 0 ≤ d by grind)
  grind
/-- a greatest value -/
theorem ex_max {n : Nat} (v : Nat → Rat) (A : Nat → Prop) {x : Nat} (hx : x < n) (ax : A x) : ∃ y, y < n ∧ A y ∧ ∀ z, z < n → A z → v z ≤ v y := by
  induction n with
  | zero => omega
  | succ n ih =>
    by_cases h : ∃ z, z < n ∧ A z
    · obtain ⟨z, hz, az⟩ := h
      by_cases e : x < n
      · obtain ⟨y, hy, ay, hm⟩ := ih e
        by_cases c : A n ∧ v y ≤ v n
        · exact ⟨n, by omega, c.1, fun w hw aw => by
            by_cases ew : w = n
            · subst ew; exact Rat.le_refl
            · have := hm w (by omega) aw; have := c.2; grind⟩
        · exact ⟨y, by omega, ay, fun w hw aw => by
            by_cases ew : w = n
            · subst ew
              have : ¬ v y ≤ v w := fun q => c ⟨aw, q⟩
              grind
            · exact hm w (by omega) aw⟩
      · have exn : x = n := by omega
        have key : ∃ y, y < n ∧ A y ∧ ∀ w, w < n → A w → v w ≤ v y := by
          clear ih
          have : ∀ m, m ≤ n → (∃ z, z < m ∧ A z) → ∃ y, y < m ∧ A y ∧ ∀ w, w < m → A w → v w ≤ v y := by
            intro m
            induction m with
            | zero => intro _ ⟨z, h, _⟩; omega
            | succ m ihm =>
              intro hm ⟨z, hz, az⟩
              by_cases hq : ∃ z, z < m ∧ A z
              · obtain ⟨y, hy, ay, hmx⟩ := ihm (by omega) hq
                by_cases c : A m ∧ v y ≤ v m
                · exact ⟨m, by omega, c.1, fun w hw aw => by
                    by_cases ew : w = m
                    · subst ew; exact Rat.le_refl
                    · have := hmx w (by omega) aw; have := c.2; grind⟩
                · exact ⟨y, by omega, ay, fun w hw aw => by
                    by_cases ew : w = m
                    · subst ew
                      have : ¬ v y ≤ v w := fun q => c ⟨aw, q⟩
                      grind
                    · exact hmx w (by omega) aw⟩
              · have : z = m := by
                  rcases Nat.lt_or_ge z m with h | h
                  · exact absurd ⟨z, h, az⟩ hq
                  · omega
                subst this
                exact ⟨z, by omega, az, fun w hw aw => by
                  have : w = z := by
                    rcases Nat.lt_or_ge w z with h | h
                    · exact absurd ⟨w, h, aw⟩ hq
                    · omega
                  subst this; exact Rat.le_refl⟩
          exact this n (Nat.le_refl _) ⟨z, hz, az⟩
        obtain ⟨y, hy, ay, hm⟩ := key
        subst exn
        by_cases c : v y ≤ v x
        · exact ⟨x, by omega, ax, fun w hw aw => by
            by_cases ew : w = x
            · subst ew; exact Rat.le_refl
            · have := hm w (by omega) aw; grind⟩
        · exact ⟨y, by omega, ay, fun w hw aw => by
            by_cases ew : w = x
            · subst ew; grind
            · exact hm w (by omega) aw⟩
    · have exn : x = n := by
        rcases Nat.lt_or_ge x n with q | q
        · exact absurd ⟨x, q, ax⟩ h
        · omega
      subst exn
      exact ⟨x, by omega, ax, fun w hw aw => by
        have : w = x := by
          rcases Nat.lt_or_ge w x with q | q
          · exact absurd ⟨w, q, aw⟩ h
          · omega
        subst this; exact Rat.le_refl⟩
end Mh
end
section
/-! determinants over lists of rows and columns -/
namespace Mh
abbrev Fm := List Nat → Rat
def ext (r : Nat → Rat) : Fm → Fm
  | _, [] => 0
  | φ, c :: cs => r c * φ cs - ext r (fun l => φ (c :: l)) cs
theorem ext_nil (r : Nat → Rat) (φ : Fm) : ext r φ [] = 0 := rfl
theorem ext_cons (r : Nat → Rat) (φ : Fm) (c : Nat) (cs : List Nat) : ext r φ (c :: cs) = r c * φ cs - ext r (fun l => φ (c :: l)) cs := rfl
theorem ext_add (r s : Nat → Rat) : ∀ (cs : List Nat) (φ : Fm), ext (fun c => r c + s c) φ cs = ext r φ cs + ext s φ cs
  | [], φ => by rw [ext_nil, ext_nil, ext_nil]; grind
  | c :: cs, φ => by rw [ext_cons, ext_cons, ext_cons, ext_add r s cs]; grind
theorem ext_smul (a : Rat) (r : Nat → Rat) : ∀ (cs : List Nat) (φ : Fm), ext (fun c => a * r c) φ cs = a * ext r φ cs
  | [], φ => by rw [ext_nil, ext_nil]; grind
  | c :: cs, φ => by rw [ext_cons, ext_cons, ext_smul a r cs]; grind
theorem ext_addR (r : Nat → Rat) : ∀ (cs : List Nat) (φ ψ : Fm), ext r (fun l => φ l + ψ l) cs = ext r φ cs + ext r ψ cs
  | [], φ, ψ => by rw [ext_nil, ext_nil, ext_nil]; grind
  | c :: cs, φ, ψ => by rw [ext_cons, ext_cons, ext_cons, ext_addR r cs]; grind
theorem ext_subR (r : Nat → Rat) : ∀ (cs : List Nat) (φ ψ : Fm), ext r (fun l => φ l - ψ l) cs = ext r φ cs - ext r ψ cs
  | [], φ, ψ => by rw [ext_nil, ext_nil, ext_nil]; grind
  | c :: cs, φ, ψ => by rw [ext_cons, ext_cons, ext_cons, ext_subR r cs]; grind
theorem ext_smulR (a : Rat) (r : Nat → Rat) : ∀ (cs : List Nat) (φ : Fm), ext r (fun l => a * φ l) cs = a * ext r φ cs
  | [], φ => by rw [ext_nil, ext_nil]; grind
  | c :: cs, φ => by rw [ext_cons, ext_cons, ext_smulR a r cs]; grind
theorem ext_zeroR (r : Nat → Rat) : ∀ (cs : List Nat), ext r (fun _ => 0) cs = 0
  | [] => rfl
  | c :: cs => by rw [ext_cons, ext_zeroR r cs]; grind
theorem ext_congr (r : Nat → Rat) {φ ψ : Fm} (h : ∀ l, φ l = ψ l) (cs : List Nat) : ext r φ cs = ext r ψ cs := by
  rw [show φ = ψ from funext h]
/-- r ∧ s = - s ∧ r -/
theorem ext_swap (r s : Nat → Rat) : ∀ (cs : List Nat) (φ : Fm), ext r (ext s φ) cs = - ext s (ext r φ) cs
  | [], φ => by rw [ext_nil, ext_nil]; grind
  | c :: cs, φ => by
    rw [ext_cons, ext_cons]
    have e1 : ext r (fun l => ext s φ (c :: l)) cs = ext r (fun l => s c * φ l - ext s (fun l' => φ (c :: l')) l) cs := rfl
    have e2 : ext s (fun l => ext r φ (c :: l)) cs = ext s (fun l => r c * φ l - ext r (fun l' => φ (c :: l')) l) cs := rfl
    rw [e1, e2, ext_subR, ext_subR, ext_smulR, ext_smulR]
    have ih := ext_swap r s cs (fun l' => φ (c :: l'))
    have e3 : ext r (fun l => ext s (fun l' => φ (c :: l')) l) cs = ext r (ext s (fun l' => φ (c :: l'))) cs := rfl
    have e4 : ext s (fun l => ext r (fun l' => φ (c :: l')) l) cs = ext s (ext r (fun l' => φ (c :: l'))) cs := rfl
    rw [e3, e4]
    grind
theorem ext_self (r : Nat → Rat) (cs : List Nat) (φ : Fm) : ext r (ext r φ) cs = 0 := by
  have := ext_swap r r cs φ
  grind
abbrev Row := Nat → Rat
def unitF : Fm := fun l => if l = [] then 1 else 0
def dtF (φ : Fm) (rs : List Row) : Fm := rs.foldr ext φ
def det (rs : List Row) : Fm := dtF unitF rs
theorem dtF_nil (φ : Fm) : dtF φ [] = φ := rfl
theorem dtF_cons (φ : Fm) (r : Row) (rs : List Row) : dtF φ (r :: rs) = ext r (dtF φ rs) := rfl
theorem dtF_append (φ : Fm) (rs ss : List Row) : dtF φ (rs ++ ss) = dtF (dtF φ ss) rs := by
  unfold dtF; rw [List.foldr_append]
theorem det_cons (r : Row) (rs : List Row) : det (r :: rs) = ext r (det rs) := rfl
theorem det_nil : det [] [] = 1 := rfl
def sg : Nat → Rat
  | 0 => 1
  | n + 1 => - sg n
theorem sg_sq : ∀ n, sg n * sg n = 1
  | 0 => by unfold sg; grind
  | n + 1 => by have := sg_sq n; unfold sg; grind
/-- a row brought to the front: a sign -/
theorem dtF_front (v : Row) : ∀ (A : List Row) (φ : Fm) (cs : List Nat), dtF φ (A ++ [v]) cs = sg A.length * ext v (dtF φ A) cs
  | [], φ, cs => by
      show ext v φ cs = 1 * ext v φ cs
      grind
  | a :: A, φ, cs => by
    have ih := fun l => dtF_front v A φ l
    rw [List.cons_append, dtF_cons, ext_congr a ih, ext_smulR, dtF_cons, ext_swap, List.length_cons]
    show sg A.length * -_ = - sg A.length * _
    grind
/-- multiples of a row taken off other rows -/
theorem dtF_red (v : Row) (φ : Fm) : ∀ (A : List (Row × Rat)) (cs : List Nat), ext v (dtF φ (A.map fun p => fun c => p.1 c - p.2 * v c)) cs = ext v (dtF φ (A.map (·.1))) cs
  | [], cs => rfl
  | (a, y) :: A, cs => by
    have ih := dtF_red v φ A
    rw [List.map_cons, List.map_cons, dtF_cons, dtF_cons, ext_swap, ext_swap v a]
    have e0 : (fun c => a c - y * v c) = (fun c => a c + (-y) * v c) := by funext c; grind
    have e1 : ext (fun c => a c - y * v c) (ext v (dtF φ (A.map fun p => fun c => p.1 c - p.2 * v c))) cs = ext (fun c => a c - y * v c) (ext v (dtF φ (A.map (·.1)))) cs := ext_congr _ ih cs
    show - ext (fun c => a c - y * v c) (ext v (dtF φ (A.map fun p => fun c => p.1 c - p.2 * v c))) cs = _
    rw [e1, e0, ext_add a (fun c => -y * v c), ext_smul, ext_self]
    grind
theorem dtF_mid (u : Row) (X Y : List Row) (φ : Fm) (cs : List Nat) : dtF φ (X ++ u :: Y) cs = sg X.length * ext u (dtF φ (X ++ Y)) cs := by
  have e : X ++ u :: Y = (X ++ [u]) ++ Y := by simp
  rw [e, dtF_append, dtF_front, dtF_append]
/-- a row scaled, its multiples taken off all others -/
theorem dtF_step (v : Row) (q : Rat) (φ : Fm) (A B : List (Row × Rat)) (cs : List Nat) :
    dtF φ ((A.map fun p => fun c => p.1 c - p.2 * v c) ++ (fun c => q * v c) :: (B.map fun p => fun c => p.1 c - p.2 * v c)) cs = q * dtF φ (A.map (·.1) ++ v :: B.map (·.1)) cs := by
  rw [dtF_mid, dtF_mid, ext_smul, List.length_map, List.length_map, ← List.map_append, ← List.map_append, dtF_red]
  grind
/-- all rows vanish at a column -/
theorem ext_van {r : Row} {c : Nat} (hr : r c = 0) : ∀ (cs : List Nat) (φ : Fm), (∀ l, c ∈ l → φ l = 0) → c ∈ cs → ext r φ cs = 0
  | d :: cs, φ, hφ, h => by
    rw [ext_cons]
    by_cases e : c = d
    · subst e
      rw [hr, show (fun l => φ (c :: l)) = fun _ => 0 from funext fun l => hφ _ (by simp), ext_zeroR]; grind
    · have hc : c ∈ cs := by simpa [e] using h
      rw [hφ cs hc, ext_van hr cs (fun l => φ (d :: l)) (fun l hl => hφ _ (by simp [hl])) hc]; grind
theorem dtF_van {c : Nat} {φ : Fm} (hφ : ∀ l, c ∈ l → φ l = 0) : ∀ (rs : List Row), (∀ r ∈ rs, r c = 0) → ∀ l, c ∈ l → dtF φ rs l = 0
  | [], _, l, h => hφ l h
  | r :: rs, hr, l, h => ext_van (hr r (by simp)) l _ (dtF_van hφ rs fun s hs => hr s (by simp [hs])) h
theorem unitF_van (c : Nat) : ∀ l, c ∈ l → unitF l = 0 := fun l h => by
  unfold unitF
  cases l with
  | nil => simp at h
  | cons _ _ => simp
/-- the row vanishes at all these columns -/
theorem ext_zeroL {r : Row} : ∀ (cs : List Nat) (φ : Fm), (∀ c ∈ cs, r c = 0) → ext r φ cs = 0
  | [], _, _ => rfl
  | c :: cs, φ, h => by
    rw [ext_cons, h c (by simp), ext_zeroL cs _ fun d hd => h d (by simp [hd])]; grind
/-- unit columns -/
theorem dtF_unit (ψ : Fm) : ∀ (A : List Row) (k : Nat) (T : List Nat), (∀ a b, a < A.length → b < A.length → ∀ r, A[a]? = some r → r (k + b) = if a = b then 1 else 0) →
    (∀ b, b < A.length → ∀ l, k + b ∈ l → ψ l = 0) → dtF ψ A (List.range' k A.length ++ T) = ψ T
  | [], k, T, _, _ => by simp [dtF_nil]
  | r :: A, k, T, h, hψ => by
    have h0 : r k = 1 := by
      have := h 0 0 (by simp) (by simp) r (by simp)
      simpa using this
    have hz : ∀ s ∈ A, s k = 0 := fun s hs => by
      obtain ⟨a, ha, e⟩ := List.getElem_of_mem hs
      have := h (a + 1) 0 (by simp; omega) (by simp) s (by simp [e, ha])
      simpa using this
    have ih := dtF_unit ψ A (k + 1) T (fun a b ha hb s hs => by
      have := h (a + 1) (b + 1) (by simp; omega) (by simp; omega) s (by simpa using hs)
      rw [show k + 1 + b = k + (b + 1) by omega, this]
      simp) (fun b hb l hl => hψ (b + 1) (by simp; omega) l (by rw [show k + (b + 1) = k + 1 + b by omega]; exact hl))
    rw [List.length_cons, List.range'_succ, List.cons_append, dtF_cons, ext_cons, h0, ih]
    rw [show (fun l => dtF ψ A (k :: l)) = fun _ => 0 from funext fun l => dtF_van (hψ 0 (by simp)) A hz _ (by simp), ext_zeroR]
    grind
end Mh
end
section
/-! entries by determinants; bounds; whole numbers -/
namespace Mh
/-- the rows have unit columns 0 .. |A| - 1 -/
def Unit (A : List Row) : Prop := ∀ a b, a < A.length → b < A.length → ∀ r, A[a]? = some r → r b = if a = b then 1 else 0
theorem det_unit {A : List Row} (h : Unit A) : det A (List.range' 0 A.length) = 1 := by
  have := dtF_unit unitF A 0 [] (fun a b ha hb r hr => by rw [Nat.zero_add]; exact h a b ha hb r hr) (fun b _ l hl => unitF_van _ l hl)
  rw [List.append_nil] at this
  exact this
theorem det_todo {A : List Row} (h : Unit A) {s : Row} (hs : ∀ b, b < A.length → s b = 0) (j : Nat) : det (A ++ [s]) (List.range' 0 A.length ++ [j]) = s j := by
  unfold det
  rw [dtF_append]
  rw [dtF_unit (dtF unitF [s]) A 0 [j] (fun a b ha hb r hr => by rw [Nat.zero_add]; exact h a b ha hb r hr) (fun b hb l hl => dtF_van (unitF_van _) [s] (fun r hr => by
    have : r = s := by simpa using hr
    rw [this, Nat.zero_add]; exact hs b hb) l hl)]
  show ext s unitF [j] = s j
  rw [ext_cons, ext_nil]
  unfold unitF
  simp
  grind
theorem det_done {X Y : List Row} {r : Row} (h : Unit (X ++ r :: Y)) (j : Nat) : det (X ++ r :: Y) (List.range' 0 X.length ++ j :: List.range' (X.length + 1) Y.length) = r j := by
  have hl : (X ++ r :: Y).length = X.length + (Y.length + 1) := by simp
  unfold det
  rw [dtF_append]
  have gX : ∀ a, a < X.length → (X ++ r :: Y)[a]? = X[a]? := fun a ha => List.getElem?_append_left ha
  have gr : (X ++ r :: Y)[X.length]? = some r := by simp
  have gY : ∀ b, (X ++ r :: Y)[X.length + 1 + b]? = Y[b]? := fun b => by
    rw [List.getElem?_append_right (by omega), show X.length + 1 + b - X.length = b + 1 by omega]; simp
  have hv : ∀ s ∈ r :: Y, ∀ b, b < X.length → s b = 0 := fun s hs b hb => by
    rcases List.mem_cons.mp hs with e | hs
    · subst e
      rw [h X.length b (by rw [hl]; omega) (by rw [hl]; omega) s gr, if_neg (by omega)]
    · obtain ⟨i, hi, e⟩ := List.getElem_of_mem hs
      rw [h (X.length + 1 + i) b (by rw [hl]; omega) (by rw [hl]; omega) s (by rw [gY, List.getElem?_eq_getElem hi, e]), if_neg (by omega)]
  rw [dtF_unit (dtF unitF (r :: Y)) X 0 _ (fun a b ha hb s hs => by
      rw [Nat.zero_add]
      exact h a b (by rw [hl]; omega) (by rw [hl]; omega) s (by rw [gX a ha]; exact hs))
    (fun b hb l hll => dtF_van (unitF_van _) _ (fun s hs => by rw [Nat.zero_add]; exact hv s hs b hb) l hll)]
  rw [dtF_cons, ext_cons]
  have e1 := dtF_unit unitF Y (X.length + 1) [] (fun a b ha hb s hs => by
    have := h (X.length + 1 + a) (X.length + 1 + b) (by rw [hl]; omega) (by rw [hl]; omega) s (by rw [gY]; exact hs)
    rw [this]
    by_cases e : a = b
    · subst e; simp
    · rw [if_neg e, if_neg (by omega)]) (fun b _ l hll => unitF_van _ l hll)
  rw [List.append_nil] at e1
  rw [e1, ext_zeroL (r := r) _ _ (fun c hc => by
    obtain ⟨b, hb, rfl⟩ : ∃ b, b < Y.length ∧ c = X.length + 1 + b := by
      have := List.mem_range'_1.mp hc
      exact ⟨c - (X.length + 1), by omega, by omega⟩
    rw [h X.length (X.length + 1 + b) (by rw [hl]; omega) (by rw [hl]; omega) r gr, if_neg (by omega)])]
  show r j * 1 - 0 = r j
  grind
/-! whole numbers -/
def IsI (q : Rat) : Prop := ∃ z : Int, q = (z : Rat)
theorem IsI.add {p q : Rat} : IsI p → IsI q → IsI (p + q) := fun ⟨a, e⟩ ⟨b, f⟩ => ⟨a + b, by rw [e, f, Rat.intCast_add]⟩
theorem IsI.mul {p q : Rat} : IsI p → IsI q → IsI (p * q) := fun ⟨a, e⟩ ⟨b, f⟩ => ⟨a * b, by rw [e, f, Rat.intCast_mul]⟩
theorem IsI.neg {p : Rat} : IsI p → IsI (-p) := fun ⟨a, e⟩ => ⟨-a, by rw [e, Rat.intCast_neg]⟩
theorem IsI.sub {p q : Rat} (a : IsI p) (b : IsI q) : IsI (p - q) := by rw [Rat.sub_eq_add_neg]; exact a.add b.neg
theorem IsI.zero : IsI 0 := ⟨0, rfl⟩
theorem IsI.one : IsI 1 := ⟨1, rfl⟩
theorem IsI.int (z : Int) : IsI (z : Rat) := ⟨z, rfl⟩
theorem IsI.nat (z : Nat) : IsI (z : Rat) := ⟨(z : Int), rfl⟩
theorem IsI.sm {n : Nat} {f : Nat → Rat} (h : ∀ i, i < n → IsI (f i)) : IsI (sm n f) := by
  induction n with
  | zero => exact .zero
  | succ n ih => exact (ih fun i hi => h i (by omega)).add (h n (by omega))
theorem ext_int {r : Row} : ∀ (cs : List Nat) (φ : Fm), (∀ c ∈ cs, IsI (r c)) → (∀ l, (∀ c ∈ l, c ∈ cs) → IsI (φ l)) → IsI (ext r φ cs)
  | [], _, _, _ => .zero
  | c :: cs, φ, h, hφ => by
    rw [ext_cons]
    refine ((h c (by simp)).mul (hφ cs fun d hd => by simp [hd])).sub (ext_int cs _ (fun d hd => h d (by simp [hd])) fun l hl => hφ _ fun d hd => ?_)
    rcases List.mem_cons.mp hd with e | hd
    · simp [e]
    · simp [hl d hd]
theorem det_int : ∀ (rs : List Row) (cs : List Nat), (∀ r ∈ rs, ∀ c ∈ cs, IsI (r c)) → IsI (det rs cs)
  | [], cs, _ => by
    show IsI (unitF cs)
    unfold unitF
    split
    · exact .one
    · exact .zero
  | r :: rs, cs, h => ext_int cs _ (fun c hc => h r (by simp) c hc) fun l hl => det_int rs l fun s hs c hc => h s (by simp [hs]) c (hl c hc)
/-! bounds -/
def prd (b : Nat → Rat) : List Nat → Rat
  | [] => 1
  | c :: cs => b c * prd b cs
theorem prd_append (b : Nat → Rat) : ∀ l m, prd b (l ++ m) = prd b l * prd b m
  | [], m => by show prd b m = 1 * prd b m; grind
  | c :: cs, m => by show b c * prd b (cs ++ m) = b c * prd b cs * prd b m; rw [prd_append b cs m]; grind
theorem prd_nonneg {b : Nat → Rat} : ∀ (l : List Nat), (∀ c ∈ l, 0 ≤ b c) → 0 ≤ prd b l
  | [], _ => by show (0:Rat) ≤ 1; grind
  | c :: cs, hb => Rat.mul_nonneg (hb c (by simp)) (prd_nonneg cs fun d hd => hb d (by simp [hd]))
theorem prd_pos {b : Nat → Rat} : ∀ (l : List Nat), (∀ c ∈ l, 0 < b c) → 0 < prd b l
  | [], _ => by show (0:Rat) < 1; grind
  | c :: cs, hb => Rat.mul_pos (hb c (by simp)) (prd_pos cs fun d hd => hb d (by simp [hd]))
def rpow (N : Rat) : Nat → Rat
  | 0 => 1
  | n + 1 => N * rpow N n
theorem rpow_nonneg {N : Rat} (h : 0 ≤ N) : ∀ n, 0 ≤ rpow N n
  | 0 => by show (0:Rat) ≤ 1; grind
  | n + 1 => Rat.mul_nonneg h (rpow_nonneg h n)
theorem ext_bound {r : Row} {b : Nat → Rat} : ∀ (cs : List Nat) (φ : Fm) (C : Rat), 0 ≤ C → (∀ c ∈ cs, ab (r c) ≤ b c) → (∀ c ∈ cs, 0 ≤ b c) →
    (∀ l, l.length + 1 = cs.length → (∀ c ∈ l, c ∈ cs) → ab (φ l) ≤ C * prd b l) → ab (ext r φ cs) ≤ (cs.length : Rat) * C * prd b cs
  | [], φ, C, hC, _, _, _ => by
    rw [ext_nil, ab_zero]
    show (0:Rat) ≤ ((0:Nat):Rat) * C * 1
    grind
  | c :: cs, φ, C, hC, h, hb, hφ => by
    rw [ext_cons]
    have hc := hb c (by simp)
    have i1 := ext_bound cs (fun l => φ (c :: l)) (C * b c) (Rat.mul_nonneg hC hc) (fun d hd => h d (by simp [hd])) (fun d hd => hb d (by simp [hd])) fun l hl hm => by
      have := hφ (c :: l) (by simp [hl]) fun d hd => by
        rcases List.mem_cons.mp hd with e | hd
        · simp [e]
        · simp [hm d hd]
      have e : prd b (c :: l) = b c * prd b l := rfl
      rw [e] at this
      grind
    have i2 := hφ cs (by simp) fun d hd => by simp [hd]
    have i3 : ab (r c * φ cs) ≤ b c * (C * prd b cs) := by
      rw [ab_mul]
      exact mul_le2 (h c (by simp)) i2 (ab_nonneg _) (ab_nonneg _)
    have i4 := ab_sub (r c * φ cs) (ext r (fun l => φ (c :: l)) cs)
    have e : prd b (c :: cs) = b c * prd b cs := rfl
    have e2 : (((c :: cs).length : Nat) : Rat) = (cs.length : Rat) + 1 := by simp
    rw [e, e2]
    grind
theorem det_bound {b : Nat → Rat} {N : Nat} : ∀ (rs : List Row) (cs : List Nat), cs.length ≤ N → (∀ r ∈ rs, ∀ c ∈ cs, ab (r c) ≤ b c) → (∀ c ∈ cs, 0 ≤ b c) → ab (det rs cs) ≤ rpow (N : Rat) rs.length * prd b cs
  | [], cs, _, _, hb => by
    show ab (unitF cs) ≤ 1 * prd b cs
    unfold unitF
    split
    · rename_i e
      subst e
      rw [ab_of_nonneg (by grind)]
      show (1:Rat) ≤ 1 * 1
      grind
    · rw [ab_zero]
      have := prd_nonneg cs hb
      grind
  | r :: rs, cs, hl, h, hb => by
    have hN : (0:Rat) ≤ (N : Rat) := by exact_mod_cast Nat.zero_le N
    have i := ext_bound (r := r) (b := b) cs (det rs) (rpow (N : Rat) rs.length) (rpow_nonneg hN _) (fun c hc => h r (by simp) c hc) hb fun l hl2 hm => det_bound rs l (by omega) (fun s hs c hc => h s (by simp [hs]) c (hm c hc)) fun c hc => hb c (hm c hc)
    rw [det_cons]
    have hp := prd_nonneg cs hb
    have hr := rpow_nonneg hN rs.length
    have hle : ((cs.length : Nat) : Rat) ≤ (N : Rat) := by exact_mod_cast hl
    have i2 := Rat.mul_le_mul_of_nonneg_right (Rat.mul_le_mul_of_nonneg_right hle hr) hp
    show ab (ext r (det rs) cs) ≤ (N : Rat) * rpow (N : Rat) rs.length * prd b cs
    grind
/-! scales -/
theorem ext_scale {g : Nat → Rat} {r : Row} : ∀ (cs : List Nat) (φ ψ : Fm), (∀ l, ψ l = prd g l * φ l) → ext (fun c => r c * g c) ψ cs = prd g cs * ext r φ cs
  | [], _, _, _ => by rw [ext_nil, ext_nil]; grind
  | c :: cs, φ, ψ, h => by
    rw [ext_cons, ext_cons, h cs]
    have e1 : (fun l => ψ (c :: l)) = fun l => g c * (prd g l * φ (c :: l)) := funext fun l => by
      rw [h]
      show g c * prd g l * _ = _
      grind
    rw [e1, ext_smulR, ext_scaleAux cs (fun l => φ (c :: l))]
    show r c * g c * (prd g cs * φ cs) - _ = g c * prd g cs * _
    grind
where ext_scaleAux {g : Nat → Rat} {r : Row} : ∀ (cs : List Nat) (φ : Fm), ext (fun c => r c * g c) (fun l => prd g l * φ l) cs = prd g cs * ext r φ cs
  | [], _ => by rw [ext_nil, ext_nil]; grind
  | c :: cs, φ => by
    rw [ext_cons, ext_cons]
    have e1 : (fun l => prd g (c :: l) * φ (c :: l)) = fun l => g c * (prd g l * φ (c :: l)) := funext fun l => by
      show g c * prd g l * _ = _
      grind
    rw [e1, ext_smulR, ext_scaleAux cs (fun l => φ (c :: l))]
    show r c * g c * (prd g cs * φ cs) - _ = g c * prd g cs * _
    grind
theorem det_scale (g : Nat → Rat) (ρ : Nat → Rat) (M : Nat → Row) : ∀ (is : List Nat) (cs : List Nat), det (is.map fun i => fun c => ρ i * M i c * g c) cs = prd ρ is * (prd g cs * det (is.map M) cs)
  | [], cs => by
    show unitF cs = 1 * (prd g cs * unitF cs)
    unfold unitF
    split
    · rename_i e; subst e
      show (1:Rat) = 1 * (1 * 1)
      grind
    · grind
  | i :: is, cs => by
    rw [List.map_cons, List.map_cons, det_cons, det_cons]
    have ih := det_scale g ρ M is
    rw [ext_scale (r := fun c => ρ i * M i c) cs (fun l => prd ρ is * det (is.map M) l) _ (fun l => by rw [ih]; grind), ext_smulR, ext_smul]
    show _ = ρ i * prd ρ is * _
    grind
end Mh
end
section
/-! elimination by columns -/
namespace Mh
theorem nd_len : ∀ (m : Nat) (S : List Nat), S.Nodup → (∀ s ∈ S, s < m) → S.length ≤ m
  | 0, [], _, _ => Nat.le_refl _
  | 0, s :: S, _, h => absurd (h s (by simp)) (by omega)
  | m + 1, S, nd, h => by
    by_cases e : m ∈ S
    · have h1 := nd_len m (S.erase m) (nd.erase m) (fun s hs => by
        have := (nd.mem_erase_iff).mp hs
        have := h s this.2
        omega)
      have h2 := List.length_erase_of_mem e
      have h3 : 0 < S.length := List.length_pos_of_mem e
      omega
    · have := nd_len m S nd (fun s hs => by
        have h1 := h s hs
        have : s ≠ m := fun q => e (q ▸ hs)
        omega)
      omega
theorem nd_all {m : Nat} {S : List Nat} (nd : S.Nodup) (h : ∀ s ∈ S, s < m) (hl : m ≤ S.length) {i : Nat} (hi : i < m) : i ∈ S := by
  by_cases e : i ∈ S
  · exact e
  · have := nd_len m (i :: S) (List.nodup_cons.mpr ⟨e, nd⟩) (fun s hs => by
      rcases List.mem_cons.mp hs with q | q
      · omega
      · exact h s q)
    simp at this
    omega
def piv (M : Nat → Row) (r c : Nat) : Nat → Row := fun i j => if i = r then M r j / M r c else M i j - M i c * (M r j / M r c)
structure GJ (m w : Nat) (M0 : Nat → Row) (S : List Nat) (M : Nat → Row) : Prop where
  lt : ∀ s ∈ S, s < m
  nd : S.Nodup
  one : ∀ a s, S[a]? = some s → ∀ i, i < m → M i a = if i = s then 1 else 0
  ker : ∀ v : Nat → Rat, (∀ i, i < m → sm w (fun j => M i j * v j) = 0) ↔ (∀ i, i < m → sm w (fun j => M0 i j * v j) = 0)
  dt : ∃ τ : Rat, τ ≠ 0 ∧ ∀ is : List Nat, (∀ i ∈ is, i < m) → ∀ cs, det ((S ++ is).map M) cs = τ * det ((S ++ is).map M0) cs
section
variable {m w : Nat} {M0 M : Nat → Row} {S : List Nat}
theorem GJ.init (m w : Nat) (M0 : Nat → Row) : GJ m w M0 [] M0 :=
  ⟨fun _ h => absurd h (by simp), List.nodup_nil, fun a s h => by simp at h, fun _ => Iff.rfl, 1, by grind, fun is _ cs => by grind⟩
theorem GJ.len (g : GJ m w M0 S M) : S.length ≤ m := nd_len m S g.nd g.lt
theorem GJ.step (g : GJ m w M0 S M) {r : Nat} (hr : r < m) (hn : r ∉ S) (hp : M r S.length ≠ 0) : GJ m w M0 (S ++ [r]) (piv M r S.length) := by
  have hlen := g.len
  refine ⟨?_, ?_, ?_, ?_, ?_⟩
  · intro s hs
    rcases List.mem_append.mp hs with h | h
    · exact g.lt s h
    · have : s = r := by simpa using h
      omega
  · refine List.nodup_append.mpr ⟨g.nd, by simp, fun a ha b hb e => ?_⟩
    have : b = r := by simpa using hb
    subst this
    subst e
    exact hn ha
  · intro a s hs i hi
    by_cases ha : a < S.length
    · have hs' : S[a]? = some s := by rw [List.getElem?_append_left ha] at hs; exact hs
      have hsm : s ∈ S := List.mem_of_getElem? hs'
      have hrs : r ≠ s := fun q => hn (q ▸ hsm)
      have h1 := g.one a s hs' r hr
      rw [if_neg hrs] at h1
      have h2 := g.one a s hs' i hi
      unfold piv
      by_cases e : i = r
      · subst e
        rw [if_pos rfl, if_neg hrs, h1]; grind
      · rw [if_neg e, h1, h2]; grind
    · have hal : a < (S ++ [r]).length := (List.getElem?_eq_some_iff.mp hs).1
      have : a = S.length := by simp at hal; omega
      subst this
      have : s = r := by simpa using hs.symm
      subst this
      unfold piv
      by_cases e : i = s
      · subst e; rw [if_pos rfl, if_pos rfl]; grind
      · rw [if_neg e, if_neg e]; grind
  · intro v
    rw [← g.ker v]
    have eR : sm w (fun j => M r j * v j) = M r S.length * sm w (fun j => piv M r S.length r j * v j) := by
      rw [← sm_mul]
      refine sm_congr fun j _ => ?_
      unfold piv
      rw [if_pos rfl]; grind
    have eI : ∀ i, i ≠ r → sm w (fun j => M i j * v j) = sm w (fun j => piv M r S.length i j * v j) + M i S.length * sm w (fun j => piv M r S.length r j * v j) := fun i hi => by
      rw [← sm_mul, ← sm_add]
      refine sm_congr fun j _ => ?_
      unfold piv
      rw [if_pos rfl, if_neg hi]; grind
    constructor
    · intro h i hi
      by_cases e : i = r
      · subst e; rw [eR, h i hi]; grind
      · rw [eI i e, h i hi, h r hr]; grind
    · intro h
      have hR : sm w (fun j => piv M r S.length r j * v j) = 0 := by
        have := h r hr
        rw [eR] at this
        grind
      intro i hi
      by_cases e : i = r
      · subst e; exact hR
      · have := h i hi
        rw [eI i e, hR] at this
        grind
  · obtain ⟨τ, hτ, ht⟩ := g.dt
    refine ⟨τ / M r S.length, by grind, fun is his cs => ?_⟩
    let p := M r S.length
    let A : List (Row × Rat) := S.map fun i => (M i, M i S.length / M r S.length)
    let B : List (Row × Rat) := is.map fun i => (M i, if i = r then 1 - 1 / M r S.length else M i S.length / M r S.length)
    have eA : S.map (piv M r S.length) = A.map fun p => fun c => p.1 c - p.2 * M r c := by
      rw [List.map_map]
      refine List.map_congr_left fun i hi => ?_
      have : i ≠ r := fun q => hn (q ▸ hi)
      funext j
      show piv M r S.length i j = M i j - M i S.length / M r S.length * M r j
      unfold piv
      rw [if_neg this]; grind
    have eB : is.map (piv M r S.length) = B.map fun p => fun c => p.1 c - p.2 * M r c := by
      rw [List.map_map]
      refine List.map_congr_left fun i hi => ?_
      funext j
      show piv M r S.length i j = M i j - (if i = r then 1 - 1 / M r S.length else M i S.length / M r S.length) * M r j
      unfold piv
      by_cases e : i = r
      · rw [if_pos e, if_pos e, e]; grind
      · rw [if_neg e, if_neg e]; grind
    have eR : piv M r S.length r = fun c => (1 / M r S.length) * M r c := by
      funext j
      unfold piv
      rw [if_pos rfl]; grind
    have e1 : ((S ++ [r]) ++ is).map (piv M r S.length) = S.map (piv M r S.length) ++ piv M r S.length r :: is.map (piv M r S.length) := by simp
    rw [e1, eA, eB, eR]
    show dtF unitF _ cs = _
    rw [dtF_step]
    have e2 : A.map (·.1) = S.map M := by rw [List.map_map]; rfl
    have e3 : B.map (·.1) = is.map M := by rw [List.map_map]; rfl
    rw [e2, e3]
    have e4 : S.map M ++ M r :: is.map M = (S ++ (r :: is)).map M := by simp
    have e5 : S ++ [r] ++ is = S ++ (r :: is) := by simp
    rw [e4, e5]
    have := ht (r :: is) (fun i hi => by
      rcases List.mem_cons.mp hi with q | q
      · omega
      · exact his i q) cs
    show 1 / M r S.length * det _ cs = _
    rw [this]; grind
/-- all places of the rows that are done -/
theorem GJ.unit (g : GJ m w M0 S M) : Unit (S.map M) := fun a b ha hb r hr => by
  rw [List.length_map] at ha hb
  obtain ⟨sa, ea⟩ : ∃ sa, S[a]? = some sa := ⟨S[a], List.getElem?_eq_getElem ha⟩
  obtain ⟨sb, eb⟩ : ∃ sb, S[b]? = some sb := ⟨S[b], List.getElem?_eq_getElem hb⟩
  rw [List.getElem?_map, ea] at hr
  have : r = M sa := (Option.some.inj hr).symm
  subst this
  rw [g.one b sb eb sa (g.lt sa (List.mem_of_getElem? ea))]
  by_cases e : a = b
  · subst e
    rw [ea] at eb
    cases eb
    rw [if_pos rfl, if_pos rfl]
  · rw [if_neg e, if_neg]
    intro q
    subst q
    obtain ⟨h1, e1⟩ := List.getElem?_eq_some_iff.mp ea
    obtain ⟨h2, e2⟩ := List.getElem?_eq_some_iff.mp eb
    exact e ((List.getElem_inj g.nd).mp (e1.trans e2.symm))
theorem GJ.zero (g : GJ m w M0 S M) {i : Nat} (hi : i < m) (hn : i ∉ S) {b : Nat} (hb : b < S.length) : M i b = 0 := by
  rw [g.one b S[b] (List.getElem?_eq_getElem hb) i hi, if_neg]
  intro e
  exact hn (e ▸ List.getElem_mem hb)
theorem GJ.det_ne (g : GJ m w M0 S M) : det (S.map M0) (List.range' 0 S.length) ≠ 0 := by
  obtain ⟨τ, hτ, ht⟩ := g.dt
  have := ht [] (fun _ h => absurd h (by simp)) (List.range' 0 S.length)
  rw [List.append_nil] at this
  have h1 := det_unit g.unit
  rw [List.length_map] at h1
  rw [h1] at this
  intro e
  rw [e] at this
  grind
theorem GJ.at_done (g : GJ m w M0 S M) {X Y : List Nat} {s : Nat} (e : S = X ++ s :: Y) (j : Nat) :
    M s j * det (S.map M0) (List.range' 0 S.length) = det (S.map M0) (List.range' 0 X.length ++ j :: List.range' (X.length + 1) Y.length) := by
  obtain ⟨τ, hτ, ht⟩ := g.dt
  have h := ht [] (fun _ h => absurd h (by simp))
  rw [List.append_nil] at h
  have h1 := det_unit g.unit
  rw [List.length_map, h] at h1
  have hu := g.unit
  have em : S.map M = X.map M ++ M s :: Y.map M := by rw [e]; simp
  have h2 := det_done (X := X.map M) (Y := Y.map M) (r := M s) (by rw [← em]; exact hu) j
  rw [← em, List.length_map, List.length_map, h] at h2
  rw [← h2]
  grind
theorem GJ.at_todo (g : GJ m w M0 S M) {i : Nat} (hi : i < m) (hn : i ∉ S) (j : Nat) :
    M i j * det (S.map M0) (List.range' 0 S.length) = det ((S ++ [i]).map M0) (List.range' 0 S.length ++ [j]) := by
  obtain ⟨τ, hτ, ht⟩ := g.dt
  have h := ht [] (fun _ h => absurd h (by simp)) (List.range' 0 S.length)
  rw [List.append_nil] at h
  have h1 := det_unit g.unit
  rw [List.length_map, h] at h1
  have h2 := det_todo (A := S.map M) g.unit (s := M i) (fun b hb => g.zero hi hn (by rw [List.length_map] at hb; exact hb)) j
  rw [List.length_map] at h2
  have e : S.map M ++ [M i] = (S ++ [i]).map M := by simp
  rw [e, ht [i] (fun k hk => by have : k = i := by simpa using hk
                                omega)] at h2
  rw [← h2]
  grind
/-- the square system has the one answer 0 to nothing -/
def Inj (m : Nat) (M0 : Nat → Row) : Prop := ∀ v : Nat → Rat, (∀ i, i < m → sm m (fun j => M0 i j * v j) = 0) → ∀ j, j < m → v j = 0
theorem GJ.pivot (g : GJ m (m + 1) M0 S M) (inj : Inj m M0) (hc : S.length < m) : ∃ r, r < m ∧ r ∉ S ∧ M r S.length ≠ 0 := by
  refine Classical.byContradiction fun hno => ?_
  have hz : ∀ i, i < m → i ∉ S → M i S.length = 0 := fun i hi hn => Classical.byContradiction fun q => hno ⟨i, hi, hn, q⟩
  let v : Nat → Rat := fun j => if j < S.length then M (S.getD j 0) S.length else if j = S.length then -1 else 0
  have hk : ∀ i, i < m → sm (m + 1) (fun j => M i j * v j) = 0 := by
    intro i hi
    by_cases hS : i ∈ S
    · obtain ⟨a, ha, ea⟩ := List.getElem_of_mem hS
      have e1 : sm (m + 1) (fun j => M i j * v j) = sm (m + 1) (fun j => (if j = a then M i S.length else 0) + (if j = S.length then - M i S.length else 0)) := by
        refine sm_congr fun j _ => ?_
        show M i j * (if j < S.length then M (S.getD j 0) S.length else if j = S.length then -1 else 0) = _
        by_cases hj : j < S.length
        · rw [if_pos hj, g.one j S[j] (List.getElem?_eq_getElem hj) i hi]
          have e2 : S.getD j 0 = S[j] := by simp [List.getD, List.getElem?_eq_getElem hj]
          rw [e2]
          by_cases eja : j = a
          · subst eja
            rw [if_pos ea.symm, if_pos rfl, if_neg (by omega), ea]; grind
          · rw [if_neg, if_neg eja, if_neg (by omega)]
            · grind
            · intro q
              exact eja ((List.getElem_inj g.nd).mp (q.symm.trans ea.symm))
        · rw [if_neg hj, if_neg (show ¬ j = a by omega)]
          by_cases e3 : j = S.length
          · rw [if_pos e3, if_pos e3, e3]; grind
          · rw [if_neg e3, if_neg e3]; grind
      rw [e1, sm_add, sm_single (j := a) (by omega) (fun j _ hj => by rw [if_neg hj]), sm_single (j := S.length) (by omega) (fun j _ hj => by rw [if_neg hj]), if_pos rfl, if_pos rfl]
      grind
    · refine sm_zero _ fun j _ => ?_
      show M i j * (if j < S.length then M (S.getD j 0) S.length else if j = S.length then -1 else 0) = 0
      by_cases hj : j < S.length
      · rw [g.zero hi hS hj]; grind
      · rw [if_neg hj]
        by_cases e3 : j = S.length
        · rw [e3, hz i hi hS]; grind
        · rw [if_neg e3]; grind
  have hk0 := (g.ker v).mp hk
  have vm : v m = 0 := by
    show (if m < S.length then M (S.getD m 0) S.length else if m = S.length then -1 else 0) = 0
    rw [if_neg (by omega), if_neg (by omega)]
  have := inj v (fun i hi => by
    have h := hk0 i hi
    have e : sm (m + 1) (fun j => M0 i j * v j) = sm m (fun j => M0 i j * v j) + M0 i m * v m := rfl
    rw [e, vm] at h
    grind) S.length hc
  have hv : v S.length = -1 := by
    show (if S.length < S.length then M (S.getD S.length 0) S.length else if S.length = S.length then -1 else 0) = -1
    rw [if_neg (by omega), if_pos rfl]
  rw [hv] at this
  grind
/-- the answer -/
theorem GJ.solved (g : GJ m (m + 1) M0 S M) (hc : S.length = m) : ∀ i, i < m → sm m (fun j => M0 i j * M (S.getD j 0) m) = M0 i m := by
  let v : Nat → Rat := fun j => if j < m then M (S.getD j 0) m else -1
  have hk : ∀ i, i < m → sm (m + 1) (fun j => M i j * v j) = 0 := by
    intro i hi
    have hS := nd_all g.nd g.lt (by omega) hi
    obtain ⟨a, ha, ea⟩ := List.getElem_of_mem hS
    have e : sm (m + 1) (fun j => M i j * v j) = sm m (fun j => M i j * v j) + M i m * v m := rfl
    rw [e, sm_single (j := a) (by omega) (fun j hj hja => ?_)]
    · show M i a * (if a < m then M (S.getD a 0) m else -1) + M i m * (if m < m then M (S.getD m 0) m else -1) = 0
      rw [if_pos (by omega), if_neg (by omega), g.one a S[a] (List.getElem?_eq_getElem ha) i hi, if_pos ea.symm]
      have e2 : S.getD a 0 = i := by simp [List.getD, List.getElem?_eq_getElem ha, ea]
      rw [e2]; grind
    · have hj2 : j < S.length := by omega
      rw [g.one j S[j] (List.getElem?_eq_getElem hj2) i hi, if_neg]
      · grind
      · intro q
        exact hja ((List.getElem_inj g.nd).mp (q.symm.trans ea.symm))
  intro i hi
  have h := (g.ker v).mp hk i hi
  have e : sm (m + 1) (fun j => M0 i j * v j) = sm m (fun j => M0 i j * v j) + M0 i m * v m := rfl
  have vm : v m = -1 := by
    show (if m < m then M (S.getD m 0) m else -1) = -1
    rw [if_neg (by omega)]
  have e2 : sm m (fun j => M0 i j * v j) = sm m (fun j => M0 i j * M (S.getD j 0) m) := sm_congr fun j hj => by
    show M0 i j * (if j < m then M (S.getD j 0) m else -1) = _
    rw [if_pos hj]
  rw [e, vm, e2] at h
  grind
/-- an answer exists -/
theorem solvable (inj : Inj m M0) : ∃ x : Nat → Rat, ∀ i, i < m → sm m (fun j => M0 i j * x j) = M0 i m := by
  have : ∀ c, c ≤ m → ∃ S M, GJ m (m + 1) M0 S M ∧ S.length = c := by
    intro c
    induction c with
    | zero => intro _; exact ⟨[], M0, GJ.init _ _ _, rfl⟩
    | succ c ih =>
      intro hc
      obtain ⟨S, M, g, e⟩ := ih (by omega)
      obtain ⟨r, h1, h2, h3⟩ := g.pivot inj (by omega)
      exact ⟨_, _, g.step h1 h2 h3, by simp [e]⟩
  obtain ⟨S, M, g, e⟩ := this m (Nat.le_refl _)
  exact ⟨_, g.solved e⟩
end
end Mh
end
section
/-! sizes -/
namespace Mh
def Sz (k : Nat) (q : Rat) : Prop := q.num.natAbs < 2 ^ k ∧ q.den < 2 ^ k
theorem Sz.mono {k l : Nat} {q : Rat} (h : Sz k q) (e : k ≤ l) : Sz l q :=
  ⟨Nat.lt_of_lt_of_le h.1 (Nat.pow_le_pow_right (by decide) e), Nat.lt_of_lt_of_le h.2 (Nat.pow_le_pow_right (by decide) e)⟩
theorem num_den (q : Rat) : q * (q.den : Rat) = (q.num : Rat) := by
  have hd : (q.den : Rat) ≠ 0 := by
    have := q.den_nz
    exact_mod_cast this
  have e : (q.num : Rat) / (q.den : Rat) = q := by
    have h := Rat.mkRat_eq_div q.num q.den
    rw [Rat.mkRat_self] at h
    exact h.symm
  have e2 : q * (q.den : Rat) = (q.num : Rat) / (q.den : Rat) * (q.den : Rat) := by rw [e]
  rw [e2]; grind
theorem cross {q : Rat} {n d : Int} (h : q * (d : Rat) = (n : Rat)) : q.num * d = n * (q.den : Int) := by
  have h1 := num_den q
  have : ((q.num * d : Int) : Rat) = ((n * (q.den : Int) : Int) : Rat) := by
    rw [Rat.intCast_mul, Rat.intCast_mul, ← h1, ← h]
    have : (((q.den : Nat) : Int) : Rat) = (q.den : Rat) := rfl
    rw [this]
    grind
  exact_mod_cast this
theorem den_le {q : Rat} {n d : Int} (h : q * (d : Rat) = (n : Rat)) (hd : d ≠ 0) : q.den ≤ d.natAbs := by
  have h1 := cross h
  have h2 : q.den ∣ q.num.natAbs * d.natAbs := by
    rw [← Int.natAbs_mul, h1, Int.natAbs_mul]
    exact Nat.dvd_mul_left _ _
  have h3 := (Nat.Coprime.dvd_of_dvd_mul_left (q.reduced.symm) h2)
  exact Nat.le_of_dvd (by omega) h3
theorem num_le {q : Rat} {n d : Int} (h : q * (d : Rat) = (n : Rat)) (hd : d ≠ 0) : q.num.natAbs ≤ n.natAbs := by
  have h1 := cross h
  by_cases e : n = 0
  · subst e
    rw [Int.zero_mul] at h1
    rcases Int.mul_eq_zero.mp h1 with q | q
    · rw [q]; exact Nat.zero_le _
    · exact absurd q hd
  · have h2 : q.num.natAbs ∣ n.natAbs * q.den := by
      have : (n * (q.den : Int)).natAbs = n.natAbs * q.den := by rw [Int.natAbs_mul]; simp
      rw [← this, ← h1, Int.natAbs_mul]
      exact Nat.dvd_mul_right _ _
    have h3 := Nat.Coprime.dvd_of_dvd_mul_right q.reduced h2
    exact Nat.le_of_dvd (by omega) h3
theorem Sz.of {q : Rat} {n d : Int} {k : Nat} (h : q * (d : Rat) = (n : Rat)) (hd : d ≠ 0) (h1 : n.natAbs < 2 ^ k) (h2 : d.natAbs < 2 ^ k) : Sz k q :=
  ⟨Nat.lt_of_le_of_lt (num_le h hd) h1, Nat.lt_of_le_of_lt (den_le h hd) h2⟩
theorem den_ne (q : Rat) : (q.den : Int) ≠ 0 := by have := q.den_nz; omega
theorem num_den' (q : Rat) : q * ((q.den : Int) : Rat) = (q.num : Rat) := num_den q
theorem natAbs_mul_lt {a b : Int} {i j : Nat} (h1 : a.natAbs < 2 ^ i) (h2 : b.natAbs < 2 ^ j) : (a * b).natAbs < 2 ^ (i + j) := by
  rw [Int.natAbs_mul, Nat.pow_add]
  exact Nat.mul_lt_mul'' h1 h2
theorem Sz.mul {a b : Rat} {i j : Nat} (h : Sz i a) (g : Sz j b) : Sz (i + j) (a * b) := by
  refine Sz.of (n := a.num * b.num) (d := (a.den : Int) * (b.den : Int)) ?_ (Int.mul_ne_zero (den_ne a) (den_ne b)) (natAbs_mul_lt h.1 g.1) (natAbs_mul_lt (by simpa using h.2) (by simpa using g.2))
  rw [Rat.intCast_mul, Rat.intCast_mul, ← num_den' a, ← num_den' b]; grind
theorem Sz.neg {a : Rat} {i : Nat} (h : Sz i a) : Sz i (-a) := by
  refine Sz.of (n := -a.num) (d := (a.den : Int)) ?_ (den_ne a) (by simpa using h.1) (by simpa using h.2)
  rw [Rat.intCast_neg, ← num_den' a]; grind
theorem Sz.add {a b : Rat} {i j : Nat} (h : Sz i a) (g : Sz j b) : Sz (i + j + 1) (a + b) := by
  refine Sz.of (n := a.num * b.den + b.num * a.den) (d := (a.den : Int) * (b.den : Int)) ?_ (Int.mul_ne_zero (den_ne a) (den_ne b)) ?_ ?_
  · rw [Rat.intCast_mul, Rat.intCast_add, Rat.intCast_mul, Rat.intCast_mul, ← num_den' a, ← num_den' b]; grind
  · have h1 := natAbs_mul_lt h.1 (show (b.den : Int).natAbs < 2 ^ j by simpa using g.2)
    have h2 := natAbs_mul_lt g.1 (show (a.den : Int).natAbs < 2 ^ i by simpa using h.2)
    have h3 := Int.natAbs_add_le (a.num * b.den) (b.num * a.den)
    have e : (2:Nat) ^ (i + j + 1) = 2 ^ (i + j) + 2 ^ (i + j) := by rw [Nat.pow_succ]; omega
    rw [Nat.add_comm j i] at h2
    omega
  · have := natAbs_mul_lt (show (a.den : Int).natAbs < 2 ^ i by simpa using h.2) (show (b.den : Int).natAbs < 2 ^ j by simpa using g.2)
    exact Nat.lt_of_lt_of_le this (Nat.pow_le_pow_right (by decide) (by omega))
theorem Sz.sub {a b : Rat} {i j : Nat} (h : Sz i a) (g : Sz j b) : Sz (i + j + 1) (a - b) := by
  rw [Rat.sub_eq_add_neg]; exact h.add g.neg
theorem Sz.inv {a : Rat} {i : Nat} (h : Sz i a) (ha : a ≠ 0) : Sz i (1 / a) := by
  have hn : a.num ≠ 0 := fun e => ha (Rat.num_eq_zero.mp e)
  refine Sz.of (n := (a.den : Int)) (d := a.num) ?_ hn (by simpa using h.2) h.1
  have := num_den' a
  rw [← this]
  grind
theorem Sz.int {z : Int} {k : Nat} (h : z.natAbs < 2 ^ k) (hk : 0 < k) : Sz k (z : Rat) :=
  Sz.of (n := z) (d := 1) (by show (z : Rat) * 1 = z; grind) (by decide) h (by have := Nat.one_lt_two_pow (n := k) (by omega); simpa using this)
theorem Sz.zero {k : Nat} (hk : 0 < k) : Sz k 0 := Sz.int (z := 0) (Nat.two_pow_pos _) hk
theorem Sz.one {k : Nat} (hk : 0 < k) : Sz k 1 := Sz.int (z := 1) (by have := Nat.one_lt_two_pow (n := k) (by omega); simpa using this) hk
/-- a common denominator and a bound -/
theorem Sz.den {q : Rat} {D K : Nat} {k : Nat} (hi : IsI (q * (D : Rat))) (hD : D ≠ 0) (hK : ab q ≤ (K : Rat)) (h1 : K * D < 2 ^ k) (h2 : D < 2 ^ k) : Sz k q := by
  obtain ⟨n, e⟩ := hi
  refine Sz.of (n := n) (d := (D : Int)) e (by omega) (Nat.lt_of_le_of_lt ?_ h1) (by simpa using h2)
  have hb : ab (n : Rat) ≤ (K : Rat) * (D : Rat) := by
    rw [← e, ab_mul]
    have hD0 : (0:Rat) ≤ (D : Rat) := by exact_mod_cast Nat.zero_le D
    rw [ab_of_nonneg hD0]
    exact Rat.mul_le_mul_of_nonneg_right hK hD0
  have h3 := le_ab (n : Rat)
  have h4 := neg_le_ab (n : Rat)
  have h5 : (n : Rat) ≤ ((K * D : Nat) : Rat) := by rw [Rat.natCast_mul]; grind
  have h6 : ((-n : Int) : Rat) ≤ ((K * D : Nat) : Rat) := by rw [Rat.natCast_mul, Rat.intCast_neg]; grind
  have h7 : n ≤ ((K * D : Nat) : Int) := by exact_mod_cast h5
  have h8 : -n ≤ ((K * D : Nat) : Int) := by exact_mod_cast h6
  omega
theorem natAbs_of_ab {n : Int} {K : Nat} (h : ab (n : Rat) ≤ (K : Rat)) : n.natAbs ≤ K := by
  have h3 := le_ab (n : Rat)
  have h4 := neg_le_ab (n : Rat)
  have h5 : (n : Rat) ≤ (K : Rat) := by grind
  have h6 : ((-n : Int) : Rat) ≤ (K : Rat) := by rw [Rat.intCast_neg]; grind
  have h7 : n ≤ (K : Int) := by exact_mod_cast h5
  have h8 : -n ≤ (K : Int) := by exact_mod_cast h6
  omega
end Mh
end
section
/-! sizes along an elimination -/
namespace Mh
theorem rpow_cast (N : Nat) : ∀ k, rpow (N : Rat) k = ((N ^ k : Nat) : Rat)
  | 0 => rfl
  | k + 1 => by
    show (N : Rat) * rpow (N : Rat) k = _
    rw [rpow_cast N k, Nat.pow_succ, Nat.mul_comm, Rat.natCast_mul]
structure Scl (m : Nat) (M0 : Nat → Row) (ρ γ : Nat → Nat) (B B' R G1 G2 : Nat) : Prop where
  rp : ∀ i, i < m → 0 < ρ i ∧ ρ i ≤ R
  gp : ∀ j, j < m + 1 → 0 < γ j ∧ γ j ≤ G2
  g1 : ∀ j, j < m → γ j ≤ G1
  int : ∀ i, i < m → ∀ j, j < m + 1 → IsI ((ρ i : Rat) * M0 i j * (γ j : Rat))
  bd : ∀ i, i < m → ∀ j, j < m → ab ((ρ i : Rat) * M0 i j * (γ j : Rat)) ≤ (B : Rat)
  bl : ∀ i, i < m → ab ((ρ i : Rat) * M0 i m * (γ m : Rat)) ≤ (B' : Rat)
  b1 : 1 ≤ B
  b2 : 1 ≤ B'
def Wn (m B B' G1 : Nat) : Nat := (m + 1) ^ (m + 1) * B ^ m * B' * G1
def Wd (m B R G2 : Nat) : Nat := (m + 1) ^ (m + 1) * B ^ m * R * G2
theorem cast_le {a b : Nat} (h : a ≤ b) : (a : Rat) ≤ (b : Rat) := by exact_mod_cast h
theorem cast_nn (a : Nat) : (0:Rat) ≤ (a : Rat) := by exact_mod_cast Nat.zero_le a
theorem cast_pos {a : Nat} (h : 0 < a) : (0:Rat) < (a : Rat) := by exact_mod_cast h
section
variable {m : Nat} {M0 M : Nat → Row} {S : List Nat} {ρ γ : Nat → Nat} {B B' R G1 G2 : Nat}
def bnd (m B B' : Nat) : Nat → Nat := fun j => if j < m then B else B'
def prdN (b : Nat → Nat) : List Nat → Nat
  | [] => 1
  | c :: cs => b c * prdN b cs
theorem prd_cast (b : Nat → Nat) : ∀ l, prd (fun j => (b j : Rat)) l = ((prdN b l : Nat) : Rat)
  | [] => rfl
  | c :: cs => by
    show (b c : Rat) * prd (fun j => (b j : Rat)) cs = ((b c * prdN b cs : Nat) : Rat)
    rw [prd_cast b cs, Rat.natCast_mul]
theorem prdN_append (b : Nat → Nat) : ∀ l k, prdN b (l ++ k) = prdN b l * prdN b k
  | [], k => by show prdN b k = 1 * prdN b k; omega
  | c :: cs, k => by show b c * prdN b (cs ++ k) = b c * prdN b cs * prdN b k; rw [prdN_append b cs k, Nat.mul_assoc]
theorem prdN_low {m B B' : Nat} : ∀ l : List Nat, (∀ c ∈ l, c < m) → prdN (bnd m B B') l = B ^ l.length
  | [], _ => rfl
  | c :: cs, h => by
    show bnd m B B' c * prdN (bnd m B B') cs = _
    rw [prdN_low cs fun d hd => h d (by simp [hd]), List.length_cons, Nat.pow_succ, Nat.mul_comm]
    unfold bnd
    rw [if_pos (h c (by simp))]
theorem prdN_mid {m B B' : Nat} (b1 : 1 ≤ B) (b2 : 1 ≤ B') (X Y : List Nat) (j : Nat) (hX : ∀ c ∈ X, c < m) (hY : ∀ c ∈ Y, c < m) : prdN (bnd m B B') (X ++ j :: Y) ≤ B ^ (X.length + Y.length + 1) * B' := by
  rw [prdN_append]
  show prdN _ X * (bnd m B B' j * prdN _ Y) ≤ _
  rw [prdN_low X hX, prdN_low Y hY]
  have hj : bnd m B B' j ≤ B * B' := by
    unfold bnd
    split
    · exact Nat.le_mul_of_pos_right _ b2
    · exact Nat.le_mul_of_pos_left _ b1
  calc B ^ X.length * (bnd m B B' j * B ^ Y.length) ≤ B ^ X.length * ((B * B') * B ^ Y.length) := Nat.mul_le_mul_left _ (Nat.mul_le_mul_right _ hj)
    _ = B ^ (X.length + Y.length + 1) * B' := by
      rw [Nat.pow_succ, Nat.pow_add]
      simp only [Nat.mul_assoc, Nat.mul_comm, Nat.mul_left_comm]
/-- the whole-number rows -/
def wr (M0 : Nat → Row) (ρ γ : Nat → Nat) : Nat → Row := fun i c => (ρ i : Rat) * M0 i c * (γ c : Rat)
theorem Scl.det_int (h : Scl m M0 ρ γ B B' R G1 G2) (is cs : List Nat) (hi : ∀ i ∈ is, i < m) (hc : ∀ c ∈ cs, c < m + 1) : IsI (det (is.map (wr M0 ρ γ)) cs) :=
  Mh.det_int _ _ fun r hr c hcc => by
    obtain ⟨i, hii, rfl⟩ := List.mem_map.mp hr
    exact h.int i (hi i hii) c (hc c hcc)
theorem Scl.det_bd (h : Scl m M0 ρ γ B B' R G1 G2) (is cs : List Nat) (hi : ∀ i ∈ is, i < m) (hc : ∀ c ∈ cs, c < m + 1) (hl : cs.length ≤ m + 1) (hil : is.length ≤ m + 1) : ab (det (is.map (wr M0 ρ γ)) cs) ≤ (((m + 1) ^ (m + 1) * prdN (bnd m B B') cs : Nat) : Rat) := by
  have h1 := det_bound (b := fun j => ((bnd m B B' j : Nat) : Rat)) (N := m + 1) (is.map (wr M0 ρ γ)) cs hl (fun r hr c hcc => by
    obtain ⟨i, hii, rfl⟩ := List.mem_map.mp hr
    show ab _ ≤ ((bnd m B B' c : Nat) : Rat)
    unfold bnd
    by_cases e : c < m
    · rw [if_pos e]; exact h.bd i (hi i hii) c e
    · have : c = m := by have := hc c hcc; omega
      rw [if_neg e, this]; exact h.bl i (hi i hii)) (fun c _ => cast_nn _)
  rw [prd_cast, List.length_map, rpow_cast] at h1
  refine Rat.le_trans h1 ?_
  rw [← Rat.natCast_mul]
  exact cast_le (Nat.mul_le_mul_right _ (Nat.pow_le_pow_right (by omega) hil))
theorem det_wr (M0 : Nat → Row) (ρ γ : Nat → Nat) (is cs : List Nat) : det (is.map (wr M0 ρ γ)) cs = prd (fun i => (ρ i : Rat)) is * (prd (fun j => (γ j : Rat)) cs * det (is.map M0) cs) := by
  have := det_scale (fun j => (γ j : Rat)) (fun i => (ρ i : Rat)) M0 is cs
  rw [← this]
  rfl
/-- an entry as a quotient of bounded whole numbers -/
theorem GJ.entry (g : GJ m (m + 1) M0 S M) (h : Scl m M0 ρ γ B B' R G1 G2) {i j : Nat} (hi : i < m) (hj : j < m + 1) :
    ∃ n d : Int, d ≠ 0 ∧ M i j * (d : Rat) = (n : Rat) ∧ n.natAbs ≤ Wn m B B' G1 ∧ d.natAbs ≤ Wd m B R G2 := by
  have hlen := g.len
  have rP : ∀ is : List Nat, (∀ i ∈ is, i < m) → 0 < prd (fun i => (ρ i : Rat)) is := fun is his => prd_pos is fun c hc => cast_pos (h.rp c (his c hc)).1
  have gP : ∀ cs : List Nat, (∀ c ∈ cs, c < m + 1) → 0 < prd (fun i => (γ i : Rat)) cs := fun cs hcs => prd_pos cs fun c hc => cast_pos (h.gp c (hcs c hc)).1
  have cl : ∀ c ∈ List.range' 0 S.length, c < m := fun c hc => by
    have := List.mem_range'_1.mp hc
    omega
  have cl1 : ∀ c ∈ List.range' 0 S.length, c < m + 1 := fun c hc => by have := cl c hc; omega
  obtain ⟨N2, e2⟩ := h.det_int S (List.range' 0 S.length) g.lt cl1
  have b2 := h.det_bd S (List.range' 0 S.length) g.lt cl1 (by simp; omega) (by omega)
  rw [prdN_low _ cl, e2] at b2
  have b2' := natAbs_of_ab b2
  rw [List.length_range'] at b2'
  have d2 := det_wr M0 ρ γ S (List.range' 0 S.length)
  have hne : N2 ≠ 0 := by
    intro e
    rw [e2, e] at d2
    have h1 := g.det_ne
    have h2 := rP S g.lt
    have h3 := gP _ cl1
    have h4 : prd (fun i => (ρ i : Rat)) S * (prd (fun j => (γ j : Rat)) (List.range' 0 S.length) * det (S.map M0) (List.range' 0 S.length)) = 0 := d2.symm
    rcases Rat.mul_eq_zero.mp h4 with q | q
    · grind
    · rcases Rat.mul_eq_zero.mp q with q | q
      · grind
      · exact h1 q
  have hB : B ^ S.length ≤ B ^ m := Nat.pow_le_pow_right h.b1 hlen
  obtain ⟨gj0, gj2⟩ := h.gp j hj
  by_cases hS : i ∈ S
  · obtain ⟨X, Y, e⟩ := List.append_of_mem hS
    have hXY : X.length + Y.length + 1 = S.length := by rw [e]; simp; omega
    have hd := g.at_done e j
    let cs := List.range' 0 X.length ++ j :: List.range' (X.length + 1) Y.length
    have cX : ∀ c ∈ List.range' 0 X.length, c < m := fun c hc => by
      have := List.mem_range'_1.mp hc
      omega
    have cY : ∀ c ∈ List.range' (X.length + 1) Y.length, c < m := fun c hc => by
      have := List.mem_range'_1.mp hc
      omega
    have ccs : ∀ c ∈ cs, c < m + 1 := fun c hc => by
      rcases List.mem_append.mp hc with q | q
      · have := cX c q; omega
      · rcases List.mem_cons.mp q with q | q
        · omega
        · have := cY c q; omega
    obtain ⟨N1, e1⟩ := h.det_int S cs g.lt ccs
    have b1 := h.det_bd S cs g.lt ccs (by simp [cs]; omega) (by omega)
    rw [e1] at b1
    have b1' := natAbs_of_ab b1
    have b1'' := prdN_mid h.b1 h.b2 _ _ j cX cY
    rw [List.length_range', List.length_range', hXY] at b1''
    have d1 := det_wr M0 ρ γ S cs
    rw [e1] at d1
    rw [e2] at d2
    have eG : prd (fun j => (γ j : Rat)) (List.range' 0 S.length) = prd (fun j => (γ j : Rat)) (List.range' 0 X.length) * ((γ X.length : Rat) * prd (fun j => (γ j : Rat)) (List.range' (X.length + 1) Y.length)) := by
      have : List.range' 0 S.length = List.range' 0 X.length ++ X.length :: List.range' (X.length + 1) Y.length := by
        rw [← hXY, show X.length + Y.length + 1 = X.length + (Y.length + 1) by omega, ← List.range'_append, List.range'_succ]
        simp
      rw [this, prd_append]
      rfl
    have eG2 : prd (fun j => (γ j : Rat)) cs = prd (fun j => (γ j : Rat)) (List.range' 0 X.length) * ((γ j : Rat) * prd (fun j => (γ j : Rat)) (List.range' (X.length + 1) Y.length)) := by
      show prd _ (List.range' 0 X.length ++ j :: List.range' (X.length + 1) Y.length) = _
      rw [prd_append]
      rfl
    have hXm : X.length < m := by omega
    refine ⟨N1 * (γ X.length : Int), N2 * (γ j : Int), Int.mul_ne_zero hne (by omega), ?_, ?_, ?_⟩
    · rw [Rat.intCast_mul, Rat.intCast_mul, d1, d2, eG, eG2, ← hd]
      have q1 : (((γ X.length : Nat) : Int) : Rat) = (γ X.length : Rat) := rfl
      have q2 : (((γ j : Nat) : Int) : Rat) = (γ j : Rat) := rfl
      rw [q1, q2]
      grind
    · rw [Int.natAbs_mul]
      have q1 := h.g1 X.length hXm
      have q2 : ((γ X.length : Nat) : Int).natAbs = γ X.length := by simp
      rw [q2]
      unfold Wn
      refine Nat.mul_le_mul ?_ q1
      refine Nat.le_trans b1' ?_
      rw [Nat.mul_assoc]
      exact Nat.mul_le_mul_left _ (Nat.le_trans b1'' (Nat.mul_le_mul_right _ hB))
    · rw [Int.natAbs_mul]
      have q2 : ((γ j : Nat) : Int).natAbs = γ j := by simp
      rw [q2]
      unfold Wd
      refine Nat.mul_le_mul ?_ gj2
      refine Nat.le_trans b2' ?_
      have hR : 1 ≤ R := by have := h.rp i hi; omega
      exact Nat.le_trans (Nat.mul_le_mul_left _ hB) (Nat.le_mul_of_pos_right _ hR)
  · have hlt : S.length < m := by
      rcases Nat.lt_or_ge S.length m with q | q
      · exact q
      · exact absurd (nd_all g.nd g.lt q hi) hS
    have hd := g.at_todo hi hS j
    have his : ∀ k ∈ S ++ [i], k < m := fun k hk => by
      rcases List.mem_append.mp hk with q | q
      · exact g.lt k q
      · have : k = i := by simpa using q
        omega
    have ccs : ∀ c ∈ List.range' 0 S.length ++ [j], c < m + 1 := fun c hc => by
      rcases List.mem_append.mp hc with q | q
      · exact cl1 c q
      · have : c = j := by simpa using q
        omega
    obtain ⟨N1, e1⟩ := h.det_int (S ++ [i]) (List.range' 0 S.length ++ [j]) his ccs
    have b1 := h.det_bd (S ++ [i]) (List.range' 0 S.length ++ [j]) his ccs (by simp; omega) (by simp; omega)
    rw [e1] at b1
    have b1' := natAbs_of_ab b1
    have b1'' := prdN_mid h.b1 h.b2 (List.range' 0 S.length) [] j cl (by simp)
    rw [List.length_range'] at b1''
    have d1 := det_wr M0 ρ γ (S ++ [i]) (List.range' 0 S.length ++ [j])
    rw [e1, prd_append, prd_append] at d1
    rw [e2] at d2
    obtain ⟨r0, rR⟩ := h.rp i hi
    have hG1 : 1 ≤ G1 := by have := h.g1 i hi; have := h.gp i (by omega); omega
    refine ⟨N1, N2 * ((ρ i : Int) * (γ j : Int)), Int.mul_ne_zero hne (Int.mul_ne_zero (by omega) (by omega)), ?_, ?_, ?_⟩
    · rw [Rat.intCast_mul, Rat.intCast_mul, d1, d2, ← hd]
      have q1 : (((ρ i : Nat) : Int) : Rat) = (ρ i : Rat) := rfl
      have q2 : (((γ j : Nat) : Int) : Rat) = (γ j : Rat) := rfl
      have q3 : prd (fun i => (ρ i : Rat)) [i] = (ρ i : Rat) * 1 := rfl
      have q4 : prd (fun i => (γ i : Rat)) [j] = (γ j : Rat) * 1 := rfl
      rw [q1, q2, q3, q4]
      grind
    · unfold Wn
      refine Nat.le_trans ?_ (Nat.le_mul_of_pos_right _ hG1)
      refine Nat.le_trans b1' ?_
      rw [Nat.mul_assoc]
      refine Nat.mul_le_mul_left _ (Nat.le_trans b1'' (Nat.mul_le_mul_right _ (Nat.pow_le_pow_right h.b1 ?_)))
      simp
      omega
    · rw [Int.natAbs_mul, Int.natAbs_mul]
      have q1 : ((ρ i : Nat) : Int).natAbs = ρ i := by simp
      have q2 : ((γ j : Nat) : Int).natAbs = γ j := by simp
      rw [q1, q2]
      unfold Wd
      rw [Nat.mul_assoc _ R G2]
      exact Nat.mul_le_mul (Nat.le_trans b2' (Nat.mul_le_mul_left _ hB)) (Nat.mul_le_mul rR gj2)
/-- the answers' common denominator -/
theorem GJ.answer (g : GJ m (m + 1) M0 S M) (h : Scl m M0 ρ γ B B' R G1 G2) (hc : S.length = m) :
    ∃ N : Nat, N ≠ 0 ∧ N ≤ (m + 1) ^ (m + 1) * B ^ m ∧ ∀ a, a < m → IsI (M (S.getD a 0) m * ((N * γ m : Nat) : Rat)) ∧ ab (M (S.getD a 0) m) * (γ m : Rat) ≤ (((m + 1) ^ (m + 1) * B ^ m * B' * G1 : Nat) : Rat) := by
  have hlen := g.len
  have rP : ∀ is : List Nat, (∀ i ∈ is, i < m) → 0 < prd (fun i => (ρ i : Rat)) is := fun is his => prd_pos is fun c hc => cast_pos (h.rp c (his c hc)).1
  have gP : ∀ cs : List Nat, (∀ c ∈ cs, c < m + 1) → 0 < prd (fun i => (γ i : Rat)) cs := fun cs hcs => prd_pos cs fun c hc => cast_pos (h.gp c (hcs c hc)).1
  have cl : ∀ c ∈ List.range' 0 S.length, c < m := fun c hc => by
    have := List.mem_range'_1.mp hc
    omega
  have cl1 : ∀ c ∈ List.range' 0 S.length, c < m + 1 := fun c hc => by have := cl c hc; omega
  obtain ⟨N2, e2⟩ := h.det_int S (List.range' 0 S.length) g.lt cl1
  have b2 := h.det_bd S (List.range' 0 S.length) g.lt cl1 (by simp; omega) (by omega)
  rw [prdN_low _ cl, e2] at b2
  have b2' := natAbs_of_ab b2
  rw [List.length_range'] at b2'
  have d2 := det_wr M0 ρ γ S (List.range' 0 S.length)
  have hne : N2 ≠ 0 := by
    intro e
    rw [e2, e] at d2
    have h1 := g.det_ne
    have h2 := rP S g.lt
    have h3 := gP _ cl1
    have h4 : prd (fun i => (ρ i : Rat)) S * (prd (fun j => (γ j : Rat)) (List.range' 0 S.length) * det (S.map M0) (List.range' 0 S.length)) = 0 := d2.symm
    rcases Rat.mul_eq_zero.mp h4 with q | q
    · grind
    · rcases Rat.mul_eq_zero.mp q with q | q
      · grind
      · exact h1 q
  obtain ⟨gj0, gj2⟩ := h.gp m (by omega)
  have hB : B ^ S.length ≤ B ^ m := Nat.pow_le_pow_right h.b1 hlen
  refine ⟨N2.natAbs, by omega, ?_, fun a ha => ?_⟩
  · exact Nat.le_trans b2' (Nat.mul_le_mul_left _ hB)
  · have haS : a < S.length := by omega
    obtain ⟨X, Y, e, eX⟩ : ∃ X Y, S = X ++ S.getD a 0 :: Y ∧ X.length = a := by
      refine ⟨S.take a, S.drop (a + 1), ?_, by simp; omega⟩
      have : S.getD a 0 = S[a] := by simp [List.getD, List.getElem?_eq_getElem haS]
      rw [this]
      rw [List.getElem_cons_drop, List.take_append_drop]
    have hXY : X.length + Y.length + 1 = S.length := by
      have := congrArg List.length e
      simp at this
      omega
    have hd := g.at_done e m
    let cs := List.range' 0 X.length ++ m :: List.range' (X.length + 1) Y.length
    have cX : ∀ c ∈ List.range' 0 X.length, c < m := fun c hc => by
      have := List.mem_range'_1.mp hc
      omega
    have cY : ∀ c ∈ List.range' (X.length + 1) Y.length, c < m := fun c hc => by
      have := List.mem_range'_1.mp hc
      omega
    have ccs : ∀ c ∈ cs, c < m + 1 := fun c hc => by
      rcases List.mem_append.mp hc with q | q
      · have := cX c q; omega
      · rcases List.mem_cons.mp q with q | q
        · omega
        · have := cY c q; omega
    obtain ⟨N1, e1⟩ := h.det_int S cs g.lt ccs
    have b1 := h.det_bd S cs g.lt ccs (by simp [cs]; omega) (by omega)
    have b1'' := prdN_mid h.b1 h.b2 _ _ m cX cY
    rw [List.length_range', List.length_range', hXY] at b1''
    have d1 := det_wr M0 ρ γ S cs
    rw [e2] at d2
    have eG : prd (fun j => (γ j : Rat)) (List.range' 0 S.length) = prd (fun j => (γ j : Rat)) (List.range' 0 X.length) * ((γ X.length : Rat) * prd (fun j => (γ j : Rat)) (List.range' (X.length + 1) Y.length)) := by
      have : List.range' 0 S.length = List.range' 0 X.length ++ X.length :: List.range' (X.length + 1) Y.length := by
        rw [← hXY, show X.length + Y.length + 1 = X.length + (Y.length + 1) by omega, ← List.range'_append, List.range'_succ]
        simp
      rw [this, prd_append]
      rfl
    have eG2 : prd (fun j => (γ j : Rat)) cs = prd (fun j => (γ j : Rat)) (List.range' 0 X.length) * ((γ m : Rat) * prd (fun j => (γ j : Rat)) (List.range' (X.length + 1) Y.length)) := by
      show prd _ (List.range' 0 X.length ++ m :: List.range' (X.length + 1) Y.length) = _
      rw [prd_append]
      rfl
    have key : M (S.getD a 0) m * ((N2 : Rat) * (γ m : Rat)) = det (S.map (wr M0 ρ γ)) cs * (γ X.length : Rat) := by
      rw [d1, d2, eG, eG2, ← hd]
      grind
    obtain ⟨s, hs, es⟩ : ∃ s : Int, (s = 1 ∨ s = -1) ∧ (N2.natAbs : Int) = s * N2 := by
      rcases Int.natAbs_eq N2 with q | q
      · exact ⟨1, .inl rfl, by omega⟩
      · exact ⟨-1, .inr rfl, by omega⟩
    have e3 : ((N2.natAbs : Nat) : Rat) = (s : Rat) * (N2 : Rat) := by
      have : (((N2.natAbs : Nat) : Int) : Rat) = (s : Rat) * (N2 : Rat) := by rw [es, Rat.intCast_mul]
      exact this
    have e4 : M (S.getD a 0) m * ((N2.natAbs * γ m : Nat) : Rat) = (s : Rat) * (det (S.map (wr M0 ρ γ)) cs * (γ X.length : Rat)) := by
      rw [Rat.natCast_mul, e3, ← key]; grind
    have e5 : ab (M (S.getD a 0) m * ((N2.natAbs * γ m : Nat) : Rat)) ≤ (((m + 1) ^ (m + 1) * B ^ m * B' * G1 : Nat) : Rat) := by
      rw [e4]
      have as1 : ab (s : Rat) = 1 := by
        rcases hs with q | q
        · rw [q]; show ab 1 = 1; exact ab_of_nonneg (by grind)
        · rw [q]; show ab ((-1 : Int) : Rat) = 1
          rw [ab_of_nonpos (by grind)]; grind
      rw [ab_mul, as1, ab_mul, ab_of_nonneg (cast_nn (γ X.length))]
      have q1 := cast_le (h.g1 X.length (by omega))
      have q2 := mul_le2 b1 q1 (ab_nonneg _) (cast_nn _)
      rw [← Rat.natCast_mul] at q2
      rw [Rat.one_mul]
      refine Rat.le_trans q2 (cast_le (Nat.mul_le_mul_right _ ?_))
      rw [Nat.mul_assoc]
      exact Nat.mul_le_mul_left _ (Nat.le_trans b1'' (Nat.mul_le_mul_right _ hB))
    refine ⟨?_, ?_⟩
    · rw [e4]
      exact (IsI.int s).mul (IsI.mul ⟨N1, e1⟩ (IsI.nat _))
    · refine Rat.le_trans ?_ e5
      rw [ab_mul, ab_of_nonneg (cast_nn _)]
      refine mul_le (cast_le ?_) (ab_nonneg _)
      exact Nat.le_mul_of_pos_left _ (by omega)
end
end Mh
end
section
set_option linter.unusedVariables false
/-! elimination in the natural order; whole numbers kept -/
namespace Mh
theorem dt_piv (M : Nat → Row) {S : List Nat} {r : Nat} (c : Nat) (hn : r ∉ S) (hp : M r c ≠ 0) (is cs : List Nat) :
    det ((S ++ [r] ++ is).map (piv M r c)) cs = 1 / M r c * det ((S ++ [r] ++ is).map M) cs := by
  let A : List (Row × Rat) := S.map fun i => (M i, M i c / M r c)
  let B : List (Row × Rat) := is.map fun i => (M i, if i = r then 1 - 1 / M r c else M i c / M r c)
  have eA : S.map (piv M r c) = A.map fun p => fun c => p.1 c - p.2 * M r c := by
    rw [List.map_map]
    refine List.map_congr_left fun i hi => ?_
    have : i ≠ r := fun q => hn (q ▸ hi)
    funext j
    show piv M r c i j = M i j - M i c / M r c * M r j
    unfold piv
    rw [if_neg this]; grind
  have eB : is.map (piv M r c) = B.map fun p => fun c => p.1 c - p.2 * M r c := by
    rw [List.map_map]
    refine List.map_congr_left fun i hi => ?_
    funext j
    show piv M r c i j = M i j - (if i = r then 1 - 1 / M r c else M i c / M r c) * M r j
    unfold piv
    by_cases e : i = r
    · rw [if_pos e, if_pos e, e]; grind
    · rw [if_neg e, if_neg e]; grind
  have eR : piv M r c r = fun d => (1 / M r c) * M r d := by
    funext j
    unfold piv
    rw [if_pos rfl]; grind
  have e1 : ((S ++ [r]) ++ is).map (piv M r c) = S.map (piv M r c) ++ piv M r c r :: is.map (piv M r c) := by simp
  rw [e1, eA, eB, eR]
  show dtF unitF _ cs = _
  rw [dtF_step]
  have e2 : A.map (·.1) = S.map M := by rw [List.map_map]; rfl
  have e3 : B.map (·.1) = is.map M := by rw [List.map_map]; rfl
  rw [e2, e3]
  have e4 : S.map M ++ M r :: is.map M = (S ++ [r] ++ is).map M := by simp
  rw [e4]
  rfl
def Nst (A : Nat → Row) : Nat → Nat → Row
  | 0 => A
  | k + 1 => piv (Nst A k) k k
def Dl (A : Nat → Row) : Nat → Rat
  | 0 => 1
  | k + 1 => Dl A k * Nst A k k k
/-- nothing above 0 beside the middle; the sum above 0 -/
def Dom (m k : Nat) (A : Nat → Row) : Prop := ∀ i, k ≤ i → i < m → (∀ j, j < m → j ≠ i → A i j ≤ 0) ∧ 0 < sm m (A i)
theorem Dom.pos {m k : Nat} {A : Nat → Row} (h : Dom m k A) {i : Nat} (h1 : k ≤ i) (h2 : i < m) : 0 < A i i := by
  obtain ⟨ho, hs⟩ := h i h1 h2
  have e : sm m (A i) = sm m (fun j => (if j = i then A i i else 0) + (if j = i then 0 else A i j)) := sm_congr fun j hj => by
    by_cases q : j = i
    · rw [if_pos q, if_pos q, q]; grind
    · rw [if_neg q, if_neg q]; grind
  rw [e, sm_add, sm_single (j := i) h2 (fun j _ q => by rw [if_neg q]), if_pos rfl] at hs
  have : sm m (fun j => if j = i then 0 else A i j) ≤ sm m (fun _ => 0) := sm_le fun j hj => by
    by_cases q : j = i
    · rw [if_pos q]; grind
    · rw [if_neg q]; exact ho j hj q
  rw [sm_zero m (fun _ _ => rfl)] at this
  grind
theorem Dom.step {m k : Nat} {A : Nat → Row} (h : Dom m k A) (hk : k < m) : Dom m (k + 1) (piv A k k) := by
  intro i h1 h2
  obtain ⟨ho, hs⟩ := h i (by omega) h2
  obtain ⟨hok, hsk⟩ := h k (Nat.le_refl _) hk
  have hp := h.pos (Nat.le_refl _) hk
  have hik : A i k ≤ 0 := ho k hk (by omega)
  have hq : 0 ≤ - (A i k / A k k) := by
    rcases (show 0 ≤ - (A i k / A k k) ∨ 0 < A i k / A k k by grind) with q | q
    · exact q
    · have h1 := Rat.mul_pos q hp
      have h2 : A i k / A k k * A k k = A i k := by grind
      grind
  have ev : ∀ j, piv A k k i j = A i j + - (A i k / A k k) * A k j := fun j => by
    unfold piv
    rw [if_neg (show i ≠ k by omega)]; grind
  refine ⟨fun j hj hji => ?_, ?_⟩
  · rw [ev]
    by_cases q : j = k
    · subst q
      have : A i j + - (A i j / A j j) * A j j = 0 := by grind
      rw [this]; grind
    · have h3 := hok j hj q
      have h4 := Rat.mul_nonneg hq (show 0 ≤ - A k j by grind)
      have h5 := ho j hj hji
      grind
  · rw [sm_congr (fun j _ => ev j), sm_add, sm_mul]
    have := Rat.mul_nonneg hq (show 0 ≤ sm m (A k) by grind)
    grind
structure NatOk (m w : Nat) (A : Nat → Row) (k : Nat) : Prop where
  g : GJ m w A (List.range k) (Nst A k)
  pos : 0 < Dl A k
  dom : Dom m k (Nst A k)
  dt : ∀ is cs, det ((List.range k ++ is).map (Nst A k)) cs * Dl A k = det ((List.range k ++ is).map A) cs
theorem nat_ok {m : Nat} (w : Nat) {A : Nat → Row} (h : Dom m 0 A) : ∀ k, k ≤ m → NatOk m w A k
  | 0, _ => ⟨GJ.init _ _ _, by show (0:Rat) < 1; grind, h, fun is cs => by show det ((List.range 0 ++ is).map A) cs * 1 = _; rw [Rat.mul_one]⟩
  | k + 1, hk => by
    have ih := nat_ok w h k (by omega)
    have hp := ih.dom.pos (Nat.le_refl _) (show k < m by omega)
    have hl : (List.range k).length = k := List.length_range
    have hn : k ∉ List.range k := by simp
    have g2 := ih.g.step (r := k) (by omega) hn (by rw [hl]; grind)
    rw [hl, ← List.range_succ] at g2
    refine ⟨g2, Rat.mul_pos ih.pos hp, ih.dom.step (by omega), fun is cs => ?_⟩
    rw [List.range_succ]
    have h1 := dt_piv (Nst A k) k hn (by grind) is cs
    have h2 := ih.dt ([k] ++ is) cs
    rw [← List.append_assoc] at h2
    show det ((List.range k ++ [k] ++ is).map (piv (Nst A k) k k)) cs * (Dl A k * Nst A k k k) = _
    rw [h1, ← h2]
    grind
section
variable {m : Nat} {A : Nat → Row} {k : Nat}
theorem NatOk.det (h : NatOk m w A k) : Mh.det ((List.range k).map A) (List.range' 0 k) = Dl A k := by
  have h1 := det_unit h.g.unit
  rw [List.length_map, List.length_range] at h1
  have h2 := h.dt [] (List.range' 0 k)
  rw [List.append_nil, h1] at h2
  rw [← h2]; grind
theorem NatOk.done (h : NatOk m w A k) {i : Nat} (hi : i < k) (j : Nat) : Dl A k * Nst A k i j = Mh.det ((List.range k).map A) (List.range' 0 i ++ j :: List.range' (i + 1) (k - i - 1)) := by
  have e : List.range k = List.range i ++ i :: (List.range' (i + 1) (k - i - 1)) := by
    rw [List.range_eq_range', List.range_eq_range', ← List.range'_succ, show i = 0 + 1 * i by omega]
    simp only [Nat.zero_add, Nat.one_mul]
    have := List.range'_append (s := 0) (m := i) (n := k - i - 1 + 1) (step := 1)
    rw [Nat.zero_add, Nat.one_mul] at this
    rw [this, show i + (k - i - 1 + 1) = k by omega]
  have := h.g.at_done e j
  rw [List.length_range, h.det, List.length_range, List.length_range'] at this
  rw [← this]; grind
theorem NatOk.todo (h : NatOk m w A k) {i : Nat} (hi : i < m) (hk : k ≤ i) (j : Nat) : Dl A k * Nst A k i j = Mh.det ((List.range k ++ [i]).map A) (List.range' 0 k ++ [j]) := by
  have := h.g.at_todo hi (show i ∉ List.range k by simp; omega) j
  rw [List.length_range, h.det] at this
  rw [← this]; grind
/-- whole numbers stay whole -/
theorem NatOk.int (h : NatOk m (m + 1) A k) (hk : k ≤ m) (hA : ∀ i, i < m → ∀ j, j < m + 1 → IsI (A i j)) {i j : Nat} (hi : i < m) (hj : j < m + 1) : IsI (Dl A k * Nst A k i j) := by
  have q : ∀ (is cs : List Nat), (∀ i ∈ is, i < m) → (∀ c ∈ cs, c < m + 1) → IsI (Mh.det (is.map A) cs) := fun is cs h1 h2 => det_int _ _ fun r hr c hc => by
    obtain ⟨x, hx, rfl⟩ := List.mem_map.mp hr
    exact hA x (h1 x hx) c (h2 c hc)
  rcases Nat.lt_or_ge i k with c | c
  · rw [h.done c]
    refine q _ _ (fun x hx => ?_) (fun x hx => ?_)
    · have := List.mem_range.mp hx; omega
    · rcases List.mem_append.mp hx with z | z
      · have := List.mem_range'_1.mp z; omega
      · rcases List.mem_cons.mp z with z | z
        · omega
        · have := List.mem_range'_1.mp z; omega
  · rw [h.todo hi c]
    refine q _ _ (fun x hx => ?_) (fun x hx => ?_)
    · rcases List.mem_append.mp hx with z | z
      · have := List.mem_range.mp z; omega
      · have : x = i := by simpa using z
        omega
    · rcases List.mem_append.mp hx with z | z
      · have := List.mem_range'_1.mp z; omega
      · have : x = j := by simpa using z
        omega
theorem NatOk.bound (h : NatOk m (m + 1) A k) (hk : k ≤ m) {B : Nat} (b1 : 1 ≤ B) (hA : ∀ i, i < m → ∀ j, j < m + 1 → ab (A i j) ≤ (B : Rat)) {i j : Nat} (hi : i < m) (hj : j < m + 1) :
    ab (Dl A k * Nst A k i j) ≤ (((m + 1) ^ (m + 1) * B ^ (m + 1) : Nat) : Rat) := by
  have q : ∀ (is cs : List Nat), (∀ i ∈ is, i < m) → (∀ c ∈ cs, c < m + 1) → is.length ≤ m + 1 → cs.length ≤ m + 1 → ab (Mh.det (is.map A) cs) ≤ (((m + 1) ^ (m + 1) * B ^ (m + 1) : Nat) : Rat) := fun is cs h1 h2 h3 h4 => by
    have := det_bound (b := fun _ => ((B : Nat) : Rat)) (N := m + 1) (is.map A) cs h4 (fun r hr c hc => by
      obtain ⟨x, hx, rfl⟩ := List.mem_map.mp hr
      exact hA x (h1 x hx) c (h2 c hc)) (fun _ _ => cast_nn _)
    refine Rat.le_trans this ?_
    have e : prd (fun _ => ((B : Nat) : Rat)) cs = ((B ^ cs.length : Nat) : Rat) := by
      rw [prd_cast (fun _ => B)]
      congr 1
      clear this h2 h4
      induction cs with
      | nil => rfl
      | cons c cs ih => show B * prdN _ cs = _; rw [ih, List.length_cons, Nat.pow_succ, Nat.mul_comm]
    rw [e, List.length_map, rpow_cast, ← Rat.natCast_mul]
    exact cast_le (Nat.mul_le_mul (Nat.pow_le_pow_right (by omega) h3) (Nat.pow_le_pow_right b1 h4))
  rcases Nat.lt_or_ge i k with c | c
  · rw [h.done c]
    refine q _ _ (fun x hx => ?_) (fun x hx => ?_) (by simp; omega) (by simp; omega)
    · have := List.mem_range.mp hx; omega
    · rcases List.mem_append.mp hx with z | z
      · have := List.mem_range'_1.mp z; omega
      · rcases List.mem_cons.mp z with z | z
        · omega
        · have := List.mem_range'_1.mp z; omega
  · rw [h.todo hi c]
    refine q _ _ (fun x hx => ?_) (fun x hx => ?_) (by simp; omega) (by simp; omega)
    · rcases List.mem_append.mp hx with z | z
      · have := List.mem_range.mp z; omega
      · have : x = i := by simpa using z
        omega
    · rcases List.mem_append.mp hx with z | z
      · have := List.mem_range'_1.mp z; omega
      · have : x = j := by simpa using z
        omega
/-- a turn of the whole-number elimination -/
theorem NatOk.turn (h : NatOk m w A k) (hk : k < m) {i j : Nat} (hik : i ≠ k) :
    Dl A (k + 1) * Nst A (k + 1) i j * Dl A k = Dl A k * Nst A k i j * (Dl A k * Nst A k k k) - Dl A k * Nst A k i k * (Dl A k * Nst A k k j) := by
  have hp := h.dom.pos (Nat.le_refl _) hk
  show Dl A k * Nst A k k k * piv (Nst A k) k k i j * Dl A k = _
  unfold piv
  rw [if_neg hik]; grind
theorem NatOk.turn0 (h : NatOk m w A k) (hk : k < m) (j : Nat) : Dl A (k + 1) * Nst A (k + 1) k j = Dl A k * Nst A k k j := by
  have hp := h.dom.pos (Nat.le_refl _) hk
  show Dl A k * Nst A k k k * piv (Nst A k) k k k j = _
  unfold piv
  rw [if_pos rfl]; grind
/-- the answer -/
theorem NatOk.solved (h : NatOk m (m + 1) A m) : ∀ i, i < m → sm m (fun j => A i j * Nst A m j m) = A i m := by
  intro i hi
  rw [← h.g.solved List.length_range i hi]
  refine sm_congr fun j hj => ?_
  have : (List.range m).getD j 0 = j := by simp [List.getD, hj]
  rw [this]
end
theorem Dom.inj {m : Nat} {A : Nat → Row} (h : Dom m 0 A) : Inj m A := by
  intro v hv j hj
  have go : ∀ u : Nat → Rat, (∀ i, i < m → sm m (fun j => A i j * u j) = 0) → ∀ j, j < m → u j ≤ 0 := by
    intro u hu
    obtain ⟨y, hy, -, hm⟩ := ex_max u (fun _ => True) hj trivial
    by_cases c : u y ≤ 0
    · intro j hj
      have := hm j hj trivial
      grind
    · exfalso
      obtain ⟨ho, hs⟩ := h y (Nat.zero_le _) hy
      have h1 : sm m (fun j => A y j * u y) ≤ sm m (fun j => A y j * u j) := sm_le fun j hj => by
        by_cases q : j = y
        · rw [q]; exact Rat.le_refl
        · have h2 := ho j hj q
          have h3 := hm j hj trivial
          have := Rat.mul_nonneg (show 0 ≤ - A y j by grind) (show 0 ≤ u y - u j by grind)
          grind
      rw [hu y hy, sm_mulr] at h1
      have := Rat.mul_pos hs (show 0 < u y by grind)
      grind
  have h1 := go v hv j hj
  have h2 := go (fun j => - v j) (fun i hi => by
    have e : sm m (fun j => A i j * - v j) = - sm m (fun j => A i j * v j) := by
      rw [← sm_neg]
      exact sm_congr fun j _ => by grind
    rw [e, hv i hi]; grind) j hj
  grind
end Mh
end
section
set_option linter.unusedVariables false
/-! chains: what is reached, the greatest value, long gains -/
namespace Mh
abbrev Mat := Nat → Nat → Rat
structure Stoch (n : Nat) (P : Mat) : Prop where
  nn : ∀ x, x < n → ∀ y, y < n → 0 ≤ P x y
  one : ∀ x, x < n → sm n (P x) = 1
def mn (n : Nat) (P : Mat) (v : Nat → Rat) (x : Nat) : Rat := sm n (fun y => P x y * v y)
inductive Rc (n : Nat) (P : Mat) : Nat → Nat → Prop
  | refl (x : Nat) : Rc n P x x
  | step {x y z : Nat} : Rc n P x y → z < n → 0 < P y z → Rc n P x z
def Recu (n : Nat) (P : Mat) (x : Nat) : Prop := ∀ y, Rc n P x y → Rc n P y x
section
variable {n : Nat} {P : Mat}
theorem Rc.trans {x y z : Nat} (h : Rc n P x y) (g : Rc n P y z) : Rc n P x z := by
  induction g with
  | refl => exact h
  | step _ hz hp ih => exact .step ih hz hp
theorem Rc.lt {x y : Nat} (h : Rc n P x y) (hx : x < n) : y < n := by
  induction h with
  | refl => exact hx
  | step _ hz _ _ => exact hz
theorem Rc.one {x y : Nat} (hy : y < n) (hp : 0 < P x y) : Rc n P x y := .step (.refl x) hy hp
theorem Recu.of {x y : Nat} (h : Recu n P x) (g : Rc n P x y) : Recu n P y := fun z hz => (h z (g.trans hz)).trans g
theorem mn_add (v u : Nat → Rat) (x : Nat) : mn n P (fun y => v y + u y) x = mn n P v x + mn n P u x := by
  unfold mn; rw [← sm_add]; exact sm_congr fun i _ => by grind
theorem mn_sub (v u : Nat → Rat) (x : Nat) : mn n P (fun y => v y - u y) x = mn n P v x - mn n P u x := by
  unfold mn; rw [← sm_sub]; exact sm_congr fun i _ => by grind
theorem mn_smul (c : Rat) (v : Nat → Rat) (x : Nat) : mn n P (fun y => c * v y) x = c * mn n P v x := by
  unfold mn; rw [← sm_mul]; exact sm_congr fun i _ => by grind
theorem mn_neg (v : Nat → Rat) (x : Nat) : mn n P (fun y => - v y) x = - mn n P v x := by
  unfold mn; rw [← sm_neg]; exact sm_congr fun i _ => by grind
theorem mn_congr {v u : Nat → Rat} (h : ∀ y, y < n → v y = u y) (x : Nat) : mn n P v x = mn n P u x := by
  unfold mn; exact sm_congr fun i hi => by rw [h i hi]
theorem Stoch.mn_le (S : Stoch n P) {v u : Nat → Rat} (h : ∀ y, y < n → v y ≤ u y) {x : Nat} (hx : x < n) : mn n P v x ≤ mn n P u x := by
  unfold mn; exact sm_le fun i hi => mul_le (h i hi) (S.nn x hx i hi)
theorem Stoch.mn_const (S : Stoch n P) (c : Rat) {x : Nat} (hx : x < n) : mn n P (fun _ => c) x = c := by
  unfold mn; rw [sm_mulr]
  have : sm n (fun i => P x i) = 1 := S.one x hx
  rw [this, Rat.one_mul]
/-- where a value that is greatest in a closed set is no more than the mean, all that is reached has it -/
theorem Stoch.spread (S : Stoch n P) {v : Nat → Rat} {A : Nat → Prop} (hA : ∀ x y, A x → x < n → y < n → 0 < P x y → A y) {x : Nat} (hx : x < n) (ax : A x)
    (hm : ∀ z, z < n → A z → v z ≤ v x) (hs : ∀ y, y < n → A y → v y = v x → v y ≤ mn n P v y) : ∀ y, Rc n P x y → y < n ∧ A y ∧ v y = v x := by
  intro y hy
  induction hy with
  | refl => exact ⟨hx, ax, rfl⟩
  | @step y z hy hz hp ih =>
    obtain ⟨h1, h2, h3⟩ := ih
    have h4 := hs y h1 h2 h3
    have az : A z := hA y z h2 h1 hz hp
    have key : sm n (fun i => P y i * (v x - v i)) ≤ 0 := by
      have e : sm n (fun i => P y i * (v x - v i)) = v x - mn n P v y := by
        have := S.mn_const (v x) h1
        unfold mn at this ⊢
        rw [← this, ← sm_sub]
        exact sm_congr fun i _ => by rw [this]; grind
      rw [e]; grind
    have hz0 := sm_eq_zero (n := n) (f := fun i => P y i * (v x - v i)) (fun i hi => by
      rcases (show P y i = 0 ∨ 0 < P y i by have := S.nn y h1 i hi; grind) with q | q
      · rw [q]; grind
      · exact Rat.mul_nonneg (by grind) (by have := hm i hi (hA y i h2 h1 hi q); grind)) key hz
    have hz1 : P y z * (v x - v z) = 0 := hz0
    refine ⟨hz, az, ?_⟩
    rcases Rat.mul_eq_zero.mp hz1 with q | q <;> grind
/-- the greatest value stands where it is bounded -/
theorem Stoch.maxp (S : Stoch n P) {v : Nat → Rat} {c : Rat} {B : Nat → Prop} (hs : ∀ y, y < n → ¬ B y → v y ≤ mn n P v y) (hb : ∀ y, y < n → B y → v y ≤ c)
    (hr : ∀ x, x < n → ∃ y, B y ∧ Rc n P x y) : ∀ x, x < n → v x ≤ c := by
  intro x hx
  obtain ⟨y, hy, -, hm⟩ := ex_max v (fun _ => True) hx trivial
  by_cases q : v y ≤ c
  · have := hm x hx trivial
    grind
  · exfalso
    obtain ⟨z, bz, hz⟩ := hr y hy
    have := S.spread (A := fun _ => True) (fun _ _ _ _ _ _ => trivial) hy trivial hm (fun w hw _ e => hs w hw fun bw => by
      have := hb w hw bw
      grind) z hz
    have h2 := hb z this.1 bz
    grind
/-- a place that comes back is reached from each place -/
theorem ex_recu (n : Nat) (P : Mat) : ∀ x, x < n → ∃ y, y < n ∧ Rc n P x y ∧ Recu n P y := by
  open Classical in
  have key : ∀ k, ∀ x, x < n → ((List.range n).filter fun y => decide (Rc n P x y)).length ≤ k → ∃ y, y < n ∧ Rc n P x y ∧ Recu n P y := by
    intro k
    induction k with
    | zero =>
      intro x hx hk
      have : x ∈ (List.range n).filter fun y => decide (Rc n P x y) := List.mem_filter.mpr ⟨List.mem_range.mpr hx, decide_eq_true (Rc.refl x)⟩
      have := List.length_pos_of_mem this
      omega
    | succ k ih =>
      intro x hx hk
      by_cases hr : Recu n P x
      · exact ⟨x, hx, .refl x, hr⟩
      · obtain ⟨y, hy⟩ := Classical.not_forall.mp hr
        obtain ⟨h1, h2⟩ := Classical.not_imp.mp hy
        have hyn := h1.lt hx
        have : ((List.range n).filter fun z => decide (Rc n P y z)).length < ((List.range n).filter fun z => decide (Rc n P x z)).length := by
          have e : (List.range n).filter (fun z => decide (Rc n P y z)) = ((List.range n).filter fun z => decide (Rc n P x z)).filter fun z => decide (Rc n P y z) := by
            rw [List.filter_filter]
            refine List.filter_congr fun z _ => ?_
            by_cases q : Rc n P y z
            · rw [decide_eq_true q, decide_eq_true (h1.trans q)]; rfl
            · rw [decide_eq_false q]; rfl
          rw [e]
          refine List.length_filter_lt_length_iff_exists.mpr ⟨x, List.mem_filter.mpr ⟨List.mem_range.mpr hx, decide_eq_true (Rc.refl x)⟩, ?_⟩
          simpa using h2
        obtain ⟨z, hz, hyz, hrz⟩ := ih y hyn (by omega)
        exact ⟨z, hz, h1.trans hyz, hrz⟩
  exact fun x hx => key _ x hx (Nat.le_refl _)
/-- a stationary distribution that lives where x comes -/
structure Dist (n : Nat) (P : Mat) (μ : Nat → Rat) (x : Nat) : Prop where
  nn : ∀ y, y < n → 0 ≤ μ y
  one : sm n μ = 1
  st : ∀ y, y < n → sm n (fun z => μ z * P z y) = μ y
  sup : ∀ y, y < n → ¬ Rc n P x y → μ y = 0
theorem Dist.mean (D : Dist n P μ x) (v : Nat → Rat) : sm n (fun z => μ z * mn n P v z) = sm n (fun y => μ y * v y) := by
  have e1 : sm n (fun z => μ z * mn n P v z) = sm n (fun z => sm n (fun y => μ z * P z y * v y)) := sm_congr fun z _ => by
    unfold mn
    rw [← sm_mul]
    exact sm_congr fun y _ => by grind
  rw [e1, sm_swap]
  refine sm_congr fun y hy => ?_
  rw [sm_mulr, D.st y hy]
theorem Recu.const (S : Stoch n P) {x : Nat} (hx : x < n) (h : Recu n P x) {v : Nat → Rat} (hv : ∀ y, y < n → Rc n P x y → v y ≤ mn n P v y) : ∀ y, Rc n P x y → v y = v x := by
  obtain ⟨m, hm, am, hmx⟩ := ex_max v (fun y => Rc n P x y) hx (Rc.refl x)
  have sp := S.spread (A := fun y => Rc n P x y) (fun a b ha _ hb hp => ha.step hb hp) hm am hmx (fun y hy ay _ => hv y hy ay)
  intro y hy
  have h1 := (sp x (h m am)).2.2
  have h2 := (sp y ((h m am).trans hy)).2.2
  rw [h1, h2]
/-- the long gains: harmonic, and the mean by a stationary distribution where a place comes back -/
structure Long (n : Nat) (P : Mat) (r g : Nat → Rat) : Prop where
  har : ∀ x, x < n → g x = mn n P g x
  rec_ : ∀ x, x < n → Recu n P x → ∃ μ, Dist n P μ x ∧ g x = sm n (fun y => μ y * r y)
/-- rows below -/
structure Lower (n : Nat) (P : Mat) (r G h : Nat → Rat) : Prop where
  a : ∀ x, x < n → G x ≤ mn n P G x
  b : ∀ x, x < n → G x + h x ≤ r x + mn n P h x
theorem Lower.le (L : Lower n P r G h) (S : Stoch n P) (Lg : Long n P r g) : ∀ x, x < n → G x ≤ g x := by
  have hrec : ∀ x, x < n → Recu n P x → G x ≤ g x := by
    intro x hx hr
    obtain ⟨μ, D, e⟩ := Lg.rec_ x hx hr
    have hc := hr.const S hx (fun y hy _ => L.a y hy)
    have e1 : sm n (fun y => μ y * G y) = G x := by
      have : sm n (fun y => μ y * G y) = sm n (fun y => μ y * G x) := sm_congr fun y hy => by
        by_cases q : Rc n P x y
        · rw [hc y q]
        · rw [D.sup y hy q]; grind
      rw [this, sm_mulr, D.one, Rat.one_mul]
    have e2 : sm n (fun y => μ y * (G y + h y)) ≤ sm n (fun y => μ y * (r y + mn n P h y)) := sm_le fun y hy => mul_le (L.b y hy) (D.nn y hy)
    have e3 : sm n (fun y => μ y * (G y + h y)) = sm n (fun y => μ y * G y) + sm n (fun y => μ y * h y) := by
      rw [← sm_add]; exact sm_congr fun y _ => by grind
    have e4 : sm n (fun y => μ y * (r y + mn n P h y)) = sm n (fun y => μ y * r y) + sm n (fun y => μ y * mn n P h y) := by
      rw [← sm_add]; exact sm_congr fun y _ => by grind
    rw [e3, e4, D.mean, e1] at e2
    rw [e]; grind
  have hm := S.maxp (v := fun x => G x - g x) (c := 0) (B := Recu n P) (fun y hy _ => by
    rw [mn_sub]
    have h1 := L.a y hy
    have h2 := Lg.har y hy
    show G y - g y ≤ _
    grind) (fun y hy hb => by have := hrec y hy hb; show G y - g y ≤ 0; grind) (fun x hx => by
      obtain ⟨y, _, h1, h2⟩ := ex_recu n P x hx
      exact ⟨y, h2, h1⟩)
  intro x hx
  have := hm x hx
  grind
theorem Long.neg (Lg : Long n P r g) : Long n P (fun x => - r x) (fun x => - g x) := by
  refine ⟨fun x hx => ?_, fun x hx hr => ?_⟩
  · rw [mn_neg, ← Lg.har x hx]
  · obtain ⟨μ, D, e⟩ := Lg.rec_ x hx hr
    refine ⟨μ, D, ?_⟩
    rw [e, ← sm_neg]
    exact sm_congr fun y _ => by grind
structure Upper (n : Nat) (P : Mat) (r G h : Nat → Rat) : Prop where
  a : ∀ x, x < n → mn n P G x ≤ G x
  b : ∀ x, x < n → r x + mn n P h x ≤ G x + h x
theorem Upper.neg (U : Upper n P r G h) : Lower n P (fun x => - r x) (fun x => - G x) (fun x => - h x) :=
  ⟨fun x hx => by rw [mn_neg]; have := U.a x hx; grind, fun x hx => by rw [mn_neg]; have := U.b x hx; grind⟩
theorem Upper.ge (U : Upper n P r G h) (S : Stoch n P) (Lg : Long n P r g) : ∀ x, x < n → g x ≤ G x := fun x hx => by
  have := U.neg.le S Lg.neg x hx
  grind
/-- both -/
structure Exact (n : Nat) (P : Mat) (r G h : Nat → Rat) : Prop where
  a : ∀ x, x < n → G x = mn n P G x
  b : ∀ x, x < n → G x + h x = r x + mn n P h x
theorem Exact.eq (E : Exact n P r G h) (S : Stoch n P) (Lg : Long n P r g) : ∀ x, x < n → G x = g x := fun x hx => by
  have h1 := (Lower.mk (fun x hx => by rw [← E.a x hx]; exact Rat.le_refl) (fun x hx => by rw [← E.b x hx]; exact Rat.le_refl) : Lower n P r G h).le S Lg x hx
  have h2 := (Upper.mk (fun x hx => by rw [← E.a x hx]; exact Rat.le_refl) (fun x hx => by rw [← E.b x hx]; exact Rat.le_refl) : Upper n P r G h).ge S Lg x hx
  grind
end
end Mh
end
section
set_option linter.unusedVariables false
/-! stationary weights of a closed class -/
namespace Mh
section
variable {m : Nat} {P : Mat}
def Irr (m : Nat) (P : Mat) : Prop := ∀ i j, i < m → j < m → Rc m P i j
/-- the first equation follows from the others -/
theorem stat_first (S : Stoch m P) {ν : Nat → Rat} (h : ∀ i, 1 ≤ i → i < m → sm m (fun j => ν j * P j i) = ν i) : ∀ i, i < m → sm m (fun j => ν j * P j i) = ν i := by
  intro i hi
  by_cases e : 1 ≤ i
  · exact h i e hi
  · have : i = 0 := by omega
    subst this
    have e1 : sm m (fun i => sm m (fun j => ν j * P j i)) = sm m ν := by
      rw [sm_swap]
      refine sm_congr fun j hj => ?_
      have := S.one j hj
      have e2 : sm m (fun i => P j i) = 1 := this
      rw [sm_mul, e2, Rat.mul_one]
    have e2 : sm m (fun i => sm m (fun j => ν j * P j i) - ν i) = 0 := by rw [sm_sub, e1]; grind
    rw [sm_single (j := 0) hi (fun i hi h0 => by rw [h i (by omega) hi]; grind)] at e2
    grind
theorem stat_spread (S : Stoch m P) (I : Irr m P) {a : Nat → Rat} (ha : ∀ i, i < m → 0 ≤ a i) (h : ∀ i, i < m → sm m (fun j => a j * P j i) = a i) {i : Nat} (hi : i < m) (hp : 0 < a i) : ∀ j, j < m → 0 < a j := by
  intro j hj
  have := I i j hi hj
  induction this with
  | refl => exact hp
  | @step y z hy hz hpz ih =>
    have hym := hy.lt hi
    have h1 := ih hym
    rw [← h z hz]
    exact sm_pos (fun k hk => Rat.mul_nonneg (ha k hk) (S.nn k hk z hz)) hym (Rat.mul_pos h1 hpz)
/-- a stationary row has one sign -/
theorem stat_sign (S : Stoch m P) (I : Irr m P) {ν : Nat → Rat} (h : ∀ i, i < m → sm m (fun j => ν j * P j i) = ν i) :
    (∀ i, i < m → 0 < ν i) ∨ (∀ i, i < m → ν i < 0) ∨ (∀ i, i < m → ν i = 0) := by
  have habs : ∀ i, i < m → sm m (fun j => ab (ν j) * P j i) = ab (ν i) := by
    have h1 : ∀ i, i < m → ab (ν i) ≤ sm m (fun j => ab (ν j) * P j i) := fun i hi => by
      have := sm_ab m (fun j => ν j * P j i)
      rw [h i hi] at this
      refine Rat.le_trans this (sm_le fun j hj => ?_)
      rw [ab_mul, ab_of_nonneg (S.nn j hj i hi)]
      exact Rat.le_refl
    have e1 : sm m (fun i => sm m (fun j => ab (ν j) * P j i)) = sm m (fun i => ab (ν i)) := by
      rw [sm_swap]
      refine sm_congr fun j hj => ?_
      have e2 : sm m (fun i => P j i) = 1 := S.one j hj
      rw [sm_mul, e2, Rat.mul_one]
    intro i hi
    have := sm_eq_zero (n := m) (f := fun i => sm m (fun j => ab (ν j) * P j i) - ab (ν i)) (fun i hi => by have := h1 i hi; grind) (by rw [sm_sub, e1]; grind) hi
    grind
  have hA : ∀ i, i < m → sm m (fun j => (ab (ν j) + ν j) * P j i) = ab (ν i) + ν i := fun i hi => by
    rw [← habs i hi, ← h i hi, ← sm_add]
    exact sm_congr fun j hj => by grind
  have hB : ∀ i, i < m → sm m (fun j => (ab (ν j) - ν j) * P j i) = ab (ν i) - ν i := fun i hi => by
    have e : sm m (fun j => (ab (ν j) - ν j) * P j i) = sm m (fun j => ab (ν j) * P j i) - sm m (fun j => ν j * P j i) := by
      rw [← sm_sub]; exact sm_congr fun j _ => by grind
    rw [e, habs i hi, h i hi]
  by_cases c1 : ∃ i, i < m ∧ 0 < ν i
  · obtain ⟨i, hi, hp⟩ := c1
    left
    have := stat_spread S I (a := fun j => ab (ν j) + ν j) (fun j _ => by have := neg_le_ab (ν j); show 0 ≤ ab (ν j) + ν j; grind) hA hi (by have := ab_nonneg (ν i); show 0 < ab (ν i) + ν i; grind)
    intro j hj
    have h2 := this j hj
    rcases (show 0 < ν j ∨ ν j ≤ 0 by grind) with q | q
    · exact q
    · have h3 : 0 < ab (ν j) + ν j := h2
      rw [ab_of_nonpos q] at h3
      grind
  · by_cases c2 : ∃ i, i < m ∧ ν i < 0
    · obtain ⟨i, hi, hp⟩ := c2
      right; left
      have := stat_spread S I (a := fun j => ab (ν j) - ν j) (fun j _ => by have := le_ab (ν j); show 0 ≤ ab (ν j) - ν j; grind) hB hi (by have := ab_nonneg (ν i); show 0 < ab (ν i) - ν i; grind)
      intro j hj
      have h2 := this j hj
      rcases (show ν j < 0 ∨ 0 ≤ ν j by grind) with q | q
      · exact q
      · have h3 : 0 < ab (ν j) - ν j := h2
        rw [ab_of_nonneg q] at h3
        grind
    · right; right
      intro i hi
      have h1 : ¬ 0 < ν i := fun q => c1 ⟨i, hi, q⟩
      have h2 : ¬ ν i < 0 := fun q => c2 ⟨i, hi, q⟩
      grind
theorem stat_inj (S : Stoch m P) (I : Irr m P) {ν : Nat → Rat} (h : ∀ i, 1 ≤ i → i < m → sm m (fun j => ν j * P j i) = ν i) (h1 : sm m ν = 0) : ∀ i, i < m → ν i = 0 := by
  intro i hi
  rcases stat_sign S I (stat_first S h) with q | q | q
  · have := sm_pos (fun j hj => by have := q j hj; grind) hi (q i hi)
    grind
  · have := sm_pos (f := fun j => - ν j) (fun j hj => by have := q j hj; grind) hi (by have := q i hi; grind)
    rw [sm_neg] at this
    grind
  · exact q i hi
theorem stat_pos (S : Stoch m P) (I : Irr m P) {ν : Nat → Rat} (h : ∀ i, 1 ≤ i → i < m → sm m (fun j => ν j * P j i) = ν i) (h1 : sm m ν = 1) : ∀ i, i < m → 0 < ν i := by
  rcases stat_sign S I (stat_first S h) with q | q | q
  · exact q
  · exfalso
    have := sm_nonneg (n := m) (f := fun j => - ν j) (fun j hj => by have := q j hj; grind)
    rw [sm_neg] at this
    grind
  · exfalso
    rw [sm_zero m q] at h1
    grind
end
/-! a class as a list of places -/
theorem sm_room : ∀ (room : List Nat) (n : Nat) (f : Nat → Rat), room.Nodup → (∀ x ∈ room, x < n) → (∀ y, y < n → y ∉ room → f y = 0) → sm n f = sm room.length (fun j => f (room.getD j 0))
  | [], n, f, _, _, h => by
    show sm n f = 0
    exact sm_zero n fun y hy => h y hy (by simp)
  | a :: room, n, f, nd, hl, h => by
    have ha := hl a (by simp)
    obtain ⟨n1, n2⟩ := List.nodup_cons.mp nd
    have ih := sm_room room n (fun y => if y = a then 0 else f y) n2 (fun x hx => hl x (by simp [hx])) (fun y hy hn => by
      by_cases e : y = a
      · rw [if_pos e]
      · rw [if_neg e]; exact h y hy (by simp [e, hn]))
    have e : sm n f = sm n (fun y => (if y = a then f a else 0) + (if y = a then 0 else f y)) := sm_congr fun y _ => by
      by_cases e : y = a
      · rw [if_pos e, if_pos e, e]; grind
      · rw [if_neg e, if_neg e]; grind
    rw [e, sm_add, sm_single (j := a) ha (fun y _ q => by rw [if_neg q]), if_pos rfl, ih, List.length_cons, sm_succ_left]
    have e2 : sm room.length (fun j => if room.getD j 0 = a then 0 else f (room.getD j 0)) = sm room.length (fun i => f ((a :: room).getD (i + 1) 0)) := sm_congr fun j hj => by
      have : room.getD j 0 = room[j] := by simp [List.getD, hj]
      rw [List.getD_cons_succ, if_neg]
      rw [this]
      intro q
      exact n1 (q ▸ List.getElem_mem hj)
    rw [e2]
    rfl
structure Klass (n : Nat) (P : Mat) (room : List Nat) : Prop where
  nd : room.Nodup
  lt : ∀ x ∈ room, x < n
  cl : ∀ x ∈ room, ∀ y, y < n → 0 < P x y → y ∈ room
  rc : ∀ x ∈ room, ∀ y ∈ room, Rc n P x y
def sub (P : Mat) (room : List Nat) : Mat := fun i j => P (room.getD i 0) (room.getD j 0)
section
variable {n : Nat} {P : Mat} {room : List Nat}
theorem getD_mem {l : List Nat} {i : Nat} (h : i < l.length) : l.getD i 0 ∈ l := by
  have : l.getD i 0 = l[i] := by simp [List.getD, h]
  rw [this]; exact List.getElem_mem h
theorem getD_idx {l : List Nat} {x : Nat} (h : x ∈ l) : l.getD (l.idxOf x) 0 = x := by
  have h1 := List.idxOf_lt_length_of_mem h
  have : l.getD (l.idxOf x) 0 = l[l.idxOf x] := by simp [List.getD, h1]
  rw [this]; exact List.getElem_idxOf h1
theorem idx_getD {l : List Nat} (nd : l.Nodup) {i : Nat} (h : i < l.length) : l.idxOf (l.getD i 0) = i := by
  have : l.getD i 0 = l[i] := by simp [List.getD, h]
  rw [this]; exact List.Nodup.idxOf_getElem nd i h
theorem Klass.zero (R : Klass n P room) (S : Stoch n P) {x : Nat} (hx : x ∈ room) {y : Nat} (hy : y < n) (hn : y ∉ room) : P x y = 0 := by
  rcases (show P x y = 0 ∨ 0 < P x y by have := S.nn x (R.lt x hx) y hy; grind) with q | q
  · exact q
  · exact absurd (R.cl x hx y hy q) hn
theorem Klass.mean (R : Klass n P room) (S : Stoch n P) {x : Nat} (hx : x ∈ room) (v : Nat → Rat) : mn n P v x = sm room.length (fun j => P x (room.getD j 0) * v (room.getD j 0)) := by
  unfold mn
  exact sm_room room n _ R.nd R.lt fun y hy hn => by rw [R.zero S hx hy hn]; grind
theorem Klass.stoch (R : Klass n P room) (S : Stoch n P) : Stoch room.length (sub P room) := by
  refine ⟨fun i hi j hj => S.nn _ (R.lt _ (getD_mem hi)) _ (R.lt _ (getD_mem hj)), fun i hi => ?_⟩
  have := sm_room room n (P (room.getD i 0)) R.nd R.lt fun y hy hn => R.zero S (getD_mem hi) hy hn
  rw [← S.one _ (R.lt _ (getD_mem hi)), this]
  rfl
theorem Klass.irr (R : Klass n P room) : Irr room.length (sub P room) := by
  intro i j hi hj
  have h := R.rc _ (getD_mem hi) _ (getD_mem hj)
  have key : ∀ y, Rc n P (room.getD i 0) y → y ∈ room ∧ Rc room.length (sub P room) i (room.idxOf y) := by
    intro y hy
    induction hy with
    | refl => exact ⟨getD_mem hi, by rw [idx_getD R.nd hi]; exact .refl i⟩
    | @step y z hy hz hp ih =>
      have hzr := R.cl y ih.1 z hz hp
      refine ⟨hzr, ih.2.step (List.idxOf_lt_length_of_mem hzr) ?_⟩
      show 0 < P (room.getD (room.idxOf y) 0) (room.getD (room.idxOf z) 0)
      rw [getD_idx ih.1, getD_idx hzr]
      exact hp
  have := (key _ h).2
  rw [idx_getD R.nd hj] at this
  exact this
theorem Klass.recu (R : Klass n P room) {x : Nat} (hx : x ∈ room) : Recu n P x := by
  intro y hy
  have : y ∈ room := by
    induction hy with
    | refl => exact hx
    | step _ hz hp ih => exact R.cl _ ih _ hz hp
  exact R.rc y this x hx
theorem Klass.reach (R : Klass n P room) {x y : Nat} (hx : x ∈ room) (hy : Rc n P x y) : y ∈ room := by
  induction hy with
  | refl => exact hx
  | step _ hz hp ih => exact R.cl _ ih _ hz hp
/-- the weights as a distribution -/
theorem Klass.dist (R : Klass n P room) (S : Stoch n P) {ν : Nat → Rat} (h : ∀ i, 1 ≤ i → i < room.length → sm room.length (fun j => ν j * sub P room j i) = ν i) (h1 : sm room.length ν = 1) {x : Nat} (hx : x ∈ room) :
    Dist n P (fun y => if y ∈ room then ν (room.idxOf y) else 0) x := by
  have hpos := stat_pos (R.stoch S) R.irr h h1
  have hst := stat_first (R.stoch S) h
  have hsum : ∀ f : Nat → Rat, sm n (fun y => (if y ∈ room then ν (room.idxOf y) else 0) * f y) = sm room.length (fun j => ν j * f (room.getD j 0)) := fun f => by
    rw [sm_room room n _ R.nd R.lt (fun y _ hn => by rw [if_neg hn]; grind)]
    refine sm_congr fun j hj => ?_
    rw [if_pos (getD_mem hj), idx_getD R.nd hj]
  refine ⟨fun y hy => ?_, ?_, fun y hy => ?_, fun y hy hn => ?_⟩
  · show 0 ≤ if y ∈ room then ν (room.idxOf y) else 0
    by_cases q : y ∈ room
    · rw [if_pos q]
      have := hpos _ (List.idxOf_lt_length_of_mem q)
      grind
    · rw [if_neg q]; grind
  · have := hsum (fun _ => 1)
    rw [sm_congr (fun j _ => Rat.mul_one _), sm_congr (n := room.length) (fun j _ => Rat.mul_one _)] at this
    rw [this, h1]
  · rw [hsum (fun z => P z y)]
    by_cases q : y ∈ room
    · rw [if_pos q]
      have := hst _ (List.idxOf_lt_length_of_mem q)
      rw [← this]
      refine sm_congr fun j hj => ?_
      show ν j * P (room.getD j 0) y = ν j * P (room.getD j 0) (room.getD (room.idxOf y) 0)
      rw [getD_idx q]
    · rw [if_neg q]
      exact sm_zero _ fun j hj => by rw [R.zero S (getD_mem hj) hy q]; grind
  · show (if y ∈ room then ν (room.idxOf y) else 0) = 0
    rw [if_neg]
    intro q
    exact hn (R.rc x hx y q)
theorem Klass.dist_sum (R : Klass n P room) (ν : Nat → Rat) (f : Nat → Rat) : sm n (fun y => (if y ∈ room then ν (room.idxOf y) else 0) * f y) = sm room.length (fun j => ν j * f (room.getD j 0)) := by
  rw [sm_room room n _ R.nd R.lt (fun y _ hn => by rw [if_neg hn]; grind)]
  refine sm_congr fun j hj => ?_
  rw [if_pos (getD_mem hj), idx_getD R.nd hj]
end
end Mh
end
section
set_option linter.unusedVariables false
/-! Poisson's equation; discounts near 1 -/
namespace Mh
section
variable {n : Nat} {P : Mat}
theorem Dist.pos (D : Dist n P μ x) (S : Stoch n P) (hx : x < n) (hr : Recu n P x) : 0 < μ x := by
  have h1 : ∃ y, y < n ∧ 0 < μ y := by
    refine Classical.byContradiction fun q => ?_
    have : sm n μ = 0 := sm_zero n fun y hy => by
      have h1 := D.nn y hy
      have h2 : ¬ 0 < μ y := fun z => q ⟨y, hy, z⟩
      grind
    rw [D.one] at this
    grind
  obtain ⟨y, hy, hp⟩ := h1
  have hxy : Rc n P x y := Classical.byContradiction fun q => by
    rw [D.sup y hy q] at hp
    grind
  have hyx := hr y hxy
  clear hxy
  induction hyx with
  | refl => exact hp
  | @step a b ha hb hpab ih =>
    have han := ha.lt hy
    have := D.st b hb
    rw [← this]
    have h3 : 0 < μ a := by
      clear this hb hpab ih
      induction ha with
      | refl => exact hp
      | @step c d hc hd hpcd ihc =>
        have hcn := hc.lt hy
        rw [← D.st d hd]
        exact sm_pos (fun k hk => Rat.mul_nonneg (D.nn k hk) (S.nn k hk d hd)) hcn (Rat.mul_pos (ihc hcn) hpcd)
    exact sm_pos (fun k hk => Rat.mul_nonneg (D.nn k hk) (S.nn k hk b hb)) han (Rat.mul_pos h3 hpab)
/-- the least place of a class -/
def Least (n : Nat) (P : Mat) (x : Nat) : Prop := Recu n P x ∧ ∀ y, Rc n P x y → x ≤ y
theorem ex_least (n : Nat) (P : Mat) {x : Nat} (hx : x < n) : ∃ y, y < n ∧ Rc n P x y ∧ Least n P y := by
  obtain ⟨y, hy, hxy, hr⟩ := ex_recu n P x hx
  obtain ⟨z, hz, hyz, hm⟩ := ex_max (n := n) (fun i => - (i : Rat)) (fun i => Rc n P y i) hy (.refl y)
  refine ⟨z, hz, hxy.trans hyz, hr.of hyz, fun u hu => ?_⟩
  have h1 := hu.lt hz
  have h2 := hm u h1 (hyz.trans hu)
  have h3 : (z : Rat) ≤ (u : Rat) := by grind
  exact_mod_cast h3
theorem poisson (S : Stoch n P) {e : Nat → Rat} (he : ∀ x, x < n → Recu n P x → ∃ μ, Dist n P μ x ∧ sm n (fun y => μ y * e y) = 0) : ∃ k : Nat → Rat, ∀ x, x < n → k x = e x + mn n P k x := by
  open Classical in
  let A : Nat → Row := fun x y => if y = n then (if Least n P x then 0 else e x) else (if x = y then 1 else 0) - (if Least n P x then 0 else P x y)
  have hA : ∀ v : Nat → Rat, ∀ x, x < n → sm n (fun y => A x y * v y) = v x - (if Least n P x then 0 else mn n P v x) := fun v x hx => by
    have e1 : sm n (fun y => A x y * v y) = sm n (fun y => (if y = x then v x else 0) - (if Least n P x then 0 else P x y * v y)) := sm_congr fun y hy => by
      show (if y = n then (if Least n P x then 0 else e x) else (if x = y then 1 else 0) - (if Least n P x then 0 else P x y)) * v y = _
      rw [if_neg (by omega)]
      by_cases q : y = x
      · subst q
        rw [if_pos rfl, if_pos rfl]
        split <;> grind
      · rw [if_neg (by omega), if_neg q]
        split <;> grind
    rw [e1, sm_sub, sm_single (j := x) hx (fun y _ q => by rw [if_neg q]), if_pos rfl]
    by_cases q : Least n P x
    · rw [if_pos q, sm_zero n fun y _ => by rw [if_pos q]]
    · rw [if_neg q]
      unfold mn
      congr 1
      exact sm_congr fun y _ => by rw [if_neg q]
  have inj : Inj n A := by
    intro v hv
    have hv2 : ∀ x, x < n → v x - (if Least n P x then 0 else mn n P v x) = 0 := fun x hx => by rw [← hA v x hx]; exact hv x hx
    have go : ∀ u : Nat → Rat, (∀ x, x < n → u x - (if Least n P x then 0 else mn n P u x) = 0) → ∀ x, x < n → u x ≤ 0 := fun u hu => S.maxp (B := Least n P) (fun y hy hb => by
        have := hu y hy
        rw [if_neg hb] at this
        grind) (fun y hy hb => by
        have := hu y hy
        rw [if_pos hb] at this
        grind) (fun x hx => by
        obtain ⟨y, _, h1, h2⟩ := ex_least n P hx
        exact ⟨y, h2, h1⟩)
    intro x hx
    have h1 := go v hv2 x hx
    have h2 := go (fun x => - v x) (fun x hx => by
      have := hv2 x hx
      rw [mn_neg]
      by_cases q : Least n P x
      · rw [if_pos q] at this ⊢; grind
      · rw [if_neg q] at this ⊢; grind) x hx
    grind
  obtain ⟨k, hk⟩ := solvable inj
  have hk2 : ∀ x, x < n → k x - (if Least n P x then 0 else mn n P k x) = (if Least n P x then 0 else e x) := fun x hx => by
    rw [← hA k x hx, hk x hx]
    show (if n = n then (if Least n P x then 0 else e x) else _) = _
    rw [if_pos rfl]
  refine ⟨k, fun x hx => ?_⟩
  by_cases q : Least n P x
  · obtain ⟨μ, D, h0⟩ := he x hx q.1
    have e1 : sm n (fun y => μ y * (k y - mn n P k y - e y)) = 0 := by
      have : sm n (fun y => μ y * (k y - mn n P k y - e y)) = sm n (fun y => μ y * k y) - sm n (fun y => μ y * mn n P k y) - sm n (fun y => μ y * e y) := by
        rw [← sm_sub, ← sm_sub]; exact sm_congr fun y _ => by grind
      rw [this, D.mean, h0]; grind
    rw [sm_single (j := x) hx (fun y hy hyx => by
      by_cases r : Rc n P x y
      · have nl : ¬ Least n P y := fun l => by
          have h1 := q.2 y r
          have h2 := l.2 x (q.1 y r)
          omega
        have := hk2 y hy
        rw [if_neg nl, if_neg nl] at this
        rw [this]; grind
      · rw [D.sup y hy r]; grind)] at e1
    have hp := D.pos S hx q.1
    rcases Rat.mul_eq_zero.mp e1 with z | z <;> grind
  · have := hk2 x hx
    rw [if_neg q, if_neg q] at this
    grind
/-- contraction -/
theorem contr (S : Stoch n P) {u c : Nat → Rat} {t C : Rat} (ht : 1 ≤ t) (h : ∀ x, x < n → t * u x = (t - 1) * mn n P u x + c x) (hc : ∀ x, x < n → c x ≤ C) : ∀ x, x < n → u x ≤ C := by
  intro x hx
  obtain ⟨y, hy, -, hm⟩ := ex_max u (fun _ => True) hx trivial
  have h1 : mn n P u y ≤ u y := by
    have := S.mn_le (u := fun _ => u y) (fun z hz => hm z hz trivial) hy
    rw [S.mn_const _ hy] at this
    exact this
  have h2 := mul_le h1 (show 0 ≤ t - 1 by grind)
  have h3 := h y hy
  have h4 := hc y hy
  have h5 := hm x hx trivial
  grind
/-- discounted worths: each later step counts 1 - 1 / t of the one before it -/
def IsW (n : Nat) (P : Mat) (r : Nat → Rat) (t : Rat) (w : Nat → Rat) : Prop := ∀ x, x < n → t * w x = t * r x + (t - 1) * mn n P w x
theorem near (S : Stoch n P) {r g h k w : Nat → Rat} {t K : Rat} (E : Exact n P r g h) (hk : ∀ x, x < n → h x = mn n P k x - k x) (ht : 1 ≤ t) (hw : IsW n P r t w)
    (hK : ∀ x, x < n → ab (mn n P k x) ≤ K) : ∀ x, x < n → ab (w x - (t * g x + h x)) * t ≤ 2 * K := by
  have hkk : ∀ x, x < n → mn n P h x = mn n P (fun y => mn n P k y) x - mn n P k x := fun x hx => by
    rw [mn_congr hk, mn_sub]
  have tp : 0 < t := by grind
  let u : Nat → Rat := fun x => (w x - (t * g x + h x)) * t - mn n P k x
  have hu : ∀ x, x < n → t * u x = (t - 1) * mn n P u x + - mn n P (fun y => mn n P k y) x := fun x hx => by
    have e1 : mn n P u x = t * (mn n P w x - (t * mn n P g x + mn n P h x)) - mn n P (fun y => mn n P k y) x := by
      have : mn n P u x = mn n P (fun x => t * (w x - (t * g x + h x))) x - mn n P (fun y => mn n P k y) x := by
        rw [← mn_sub]
        exact mn_congr (fun y _ => by show (w y - (t * g y + h y)) * t - _ = _; grind) x
      rw [this, mn_smul, mn_sub, mn_add, mn_smul]
    rw [e1]
    have a1 := hw x hx
    have a2 := E.a x hx
    have a3 := E.b x hx
    have a4 := hkk x hx
    show t * ((w x - (t * g x + h x)) * t - mn n P k x) = _
    generalize mn n P w x = W at *
    generalize mn n P g x = G at *
    generalize mn n P h x = H at *
    generalize mn n P (fun y => mn n P k y) x = KK at *
    generalize mn n P k x = Kx at *
    have b1 : t * (w x) * t = (t * r x + (t - 1) * W) * t := by rw [a1]
    grind
  have hc1 : ∀ x, x < n → - mn n P (fun y => mn n P k y) x ≤ K := fun x hx => by
    rw [← mn_neg]
    have := S.mn_le (v := fun y => - mn n P k y) (u := fun _ => K) (fun y hy => by
      have h1 := hK y hy
      have h2 := neg_le_ab (mn n P k y)
      grind) hx
    rw [S.mn_const _ hx] at this
    exact this
  have hc2 : ∀ x, x < n → mn n P (fun y => mn n P k y) x ≤ K := fun x hx => by
    have := S.mn_le (v := fun y => mn n P k y) (u := fun _ => K) (fun y hy => by
      have h1 := hK y hy
      have h2 := le_ab (mn n P k y)
      grind) hx
    rw [S.mn_const _ hx] at this
    exact this
  have c1 := contr S ht hu hc1
  have c2 := contr S (u := fun x => - u x) (c := fun x => mn n P (fun y => mn n P k y) x) ht (fun x hx => by
    have := hu x hx
    rw [mn_neg]; grind) hc2
  intro x hx
  have d1 := c1 x hx
  have d2 := c2 x hx
  have d3 := hK x hx
  have d4 := le_ab (mn n P k x)
  have d5 := neg_le_ab (mn n P k x)
  have e : ab (w x - (t * g x + h x)) * t = ab ((w x - (t * g x + h x)) * t) := by
    rw [ab_mul, ab_of_nonneg (show 0 ≤ t by grind)]
  rw [e]
  refine ab_le ?_ ?_
  · have : u x ≤ K := d1
    have : (w x - (t * g x + h x)) * t - mn n P k x ≤ K := this
    grind
  · have : - u x ≤ K := d2
    have : - ((w x - (t * g x + h x)) * t - mn n P k x) ≤ K := this
    grind
theorem ex_w (S : Stoch n P) (r : Nat → Rat) {t : Rat} (ht : 1 ≤ t) : ∃ w, IsW n P r t w := by
  let A : Nat → Row := fun x y => if y = n then t * r x else (if x = y then t else 0) - (t - 1) * P x y
  have ev : ∀ x, x < n → ∀ v : Nat → Rat, sm n (fun y => A x y * v y) = t * v x - (t - 1) * mn n P v x := fun x hx v => by
    have e1 : sm n (fun y => A x y * v y) = sm n (fun y => (if y = x then t * v x else 0) - (t - 1) * (P x y * v y)) := sm_congr fun y hy => by
      show (if y = n then t * r x else (if x = y then t else 0) - (t - 1) * P x y) * v y = _
      rw [if_neg (by omega)]
      by_cases q : y = x
      · subst q; rw [if_pos rfl, if_pos rfl]; grind
      · rw [if_neg (by omega), if_neg q]; grind
    rw [e1, sm_sub, sm_single (j := x) hx (fun y _ q => by rw [if_neg q]), if_pos rfl, sm_mul]
    rfl
  have dom : Dom n 0 A := by
    intro x _ hx
    refine ⟨fun y hy q => ?_, ?_⟩
    · show (if y = n then t * r x else (if x = y then t else 0) - (t - 1) * P x y) ≤ 0
      rw [if_neg (by omega), if_neg (by omega)]
      have := Rat.mul_nonneg (show 0 ≤ t - 1 by grind) (S.nn x hx y hy)
      grind
    · have := ev x hx (fun _ => 1)
      rw [S.mn_const _ hx] at this
      have e : sm n (A x) = sm n (fun y => A x y * 1) := sm_congr fun y _ => by grind
      rw [e, this]; grind
  obtain ⟨w, hw⟩ := solvable dom.inj
  refine ⟨w, fun x hx => ?_⟩
  have h1 := hw x hx
  rw [ev x hx w] at h1
  have h2 : A x n = t * r x := by show (if n = n then t * r x else _) = _; rw [if_pos rfl]
  rw [h2] at h1
  grind
/-- the order of the worths for all discounts near 1 is that of the gains, then the leads -/
theorem lex (S : Stoch n P) {r g h k : Nat → Rat} (E : Exact n P r g h) (hk : ∀ x, x < n → h x = mn n P k x - k x) {y z : Nat} (hy : y < n) (hz : z < n) {t0 : Rat} (h0 : 1 ≤ t0)
    (hw : ∀ t, t0 ≤ t → ∀ w, IsW n P r t w → w y ≤ w z) : g y ≤ g z ∧ (g y = g z → h y ≤ h z) := by
  obtain ⟨m, hm, -, hmx⟩ := ex_max (n := n) (fun x => ab (mn n P k x)) (fun _ => True) hy trivial
  let K := ab (mn n P k m)
  have K0 : 0 ≤ K := ab_nonneg _
  have key : ∀ t, t0 ≤ t → t * (t * (g y - g z) + (h y - h z)) ≤ 4 * K := fun t ht => by
    obtain ⟨w, w1⟩ := ex_w S r (show 1 ≤ t by grind)
    have h1 := hw t ht w w1
    have h2 := near S (K := K) E hk (show 1 ≤ t by grind) w1 (fun x hx => hmx x hx trivial)
    have hy1 := h2 y hy
    have hz1 := h2 z hz
    have tp : 0 < t := by grind
    have e1 := Rat.mul_le_mul_of_nonneg_right (neg_le_ab (w y - (t * g y + h y))) (show 0 ≤ t by grind)
    have e2 := Rat.mul_le_mul_of_nonneg_right (le_ab (w z - (t * g z + h z))) (show 0 ≤ t by grind)
    have e3 := Rat.mul_le_mul_of_nonneg_right h1 (show 0 ≤ t by grind)
    grind
  constructor
  · rcases (show g y ≤ g z ∨ 0 < g y - g z by grind) with q | q
    · exact q
    · exfalso
      -- a t so great that the left side is greater
      let a := g y - g z
      let b := h y - h z
      let T := t0 + (4 * K + 1 + ab b) / a
      have ha : 0 < a := q
      have hdiv : 0 ≤ (4 * K + 1 + ab b) / a := by
        rcases (show 0 ≤ (4 * K + 1 + ab b) / a ∨ (4 * K + 1 + ab b) / a < 0 by grind) with c | c
        · exact c
        · have h1 := Rat.mul_pos (show 0 < - ((4 * K + 1 + ab b) / a) by grind) ha
          have h2 : (4 * K + 1 + ab b) / a * a = 4 * K + 1 + ab b := by grind
          have h3 := ab_nonneg b
          grind
      have hT : t0 ≤ T := by show t0 ≤ t0 + _; grind
      have h1 := key T hT
      have h2 : T * a = t0 * a + (4 * K + 1 + ab b) := by show (t0 + _) * a = _; grind
      have h3 := neg_le_ab b
      have h4 : 4 * K + 1 ≤ T * a + b := by
        have := Rat.mul_nonneg (show 0 ≤ t0 by grind) (show 0 ≤ a by grind)
        grind
      have h5 : (T * a + b) * 1 ≤ T * (T * a + b) := by
        have := Rat.mul_le_mul_of_nonneg_right (show 1 ≤ T by grind) (show 0 ≤ T * a + b by grind)
        grind
      have h6 : T * (T * a + b) ≤ 4 * K := h1
      grind
  · intro e
    rcases (show h y ≤ h z ∨ 0 < h y - h z by grind) with q | q
    · exact q
    · exfalso
      let b := h y - h z
      let T := t0 + (4 * K + 1) / b
      have hb : 0 < b := q
      have hdiv : 0 ≤ (4 * K + 1) / b := by
        rcases (show 0 ≤ (4 * K + 1) / b ∨ (4 * K + 1) / b < 0 by grind) with c | c
        · exact c
        · have h1 := Rat.mul_pos (show 0 < - ((4 * K + 1) / b) by grind) hb
          have h2 : (4 * K + 1) / b * b = 4 * K + 1 := by grind
          grind
      have hT : t0 ≤ T := by show t0 ≤ t0 + _; grind
      have h1 := key T hT
      have h2 : T * b = t0 * b + (4 * K + 1) := by show (t0 + _) * b = _; grind
      have h3 : T * (T * (g y - g z) + (h y - h z)) = T * b := by rw [e]; show _ = T * (h y - h z); grind
      have := Rat.mul_nonneg (show 0 ≤ t0 by grind) (show 0 ≤ b by grind)
      grind
end
end Mh
end
section
set_option linter.unusedVariables false
/-! polynomials with whole factors; from which discount on the order stays -/
namespace Mh
def ev : List Int → Rat → Rat
  | [], _ => 0
  | a :: p, t => (a : Rat) + t * ev p t
def nrm : List Int → Nat
  | [] => 0
  | a :: p => a.natAbs + nrm p
def padd : List Int → List Int → List Int
  | [], q => q
  | p, [] => p
  | a :: p, b :: q => (a + b) :: padd p q
def pscl (c : Int) : List Int → List Int
  | [] => []
  | a :: p => c * a :: pscl c p
def pmul : List Int → List Int → List Int
  | [], _ => []
  | a :: p, q => padd (pscl a q) (0 :: pmul p q)
theorem ev_padd (t : Rat) : ∀ p q, ev (padd p q) t = ev p t + ev q t
  | [], q => by cases q <;> (show _ = 0 + _; rw [Rat.zero_add]; rfl)
  | a :: p, [] => by show ev (a :: p) t = ev (a :: p) t + 0; rw [Rat.add_zero]
  | a :: p, b :: q => by
    show ((a + b : Int) : Rat) + t * ev (padd p q) t = (a : Rat) + t * ev p t + ((b : Rat) + t * ev q t)
    rw [ev_padd t p q, Rat.intCast_add]; grind
theorem ev_pscl (c : Int) (t : Rat) : ∀ p, ev (pscl c p) t = (c : Rat) * ev p t
  | [] => by show (0:Rat) = _ * 0; rw [Rat.mul_zero]
  | a :: p => by
    show ((c * a : Int) : Rat) + t * ev (pscl c p) t = (c : Rat) * ((a : Rat) + t * ev p t)
    rw [ev_pscl c t p, Rat.intCast_mul]; grind
theorem ev_pmul (t : Rat) : ∀ p q, ev (pmul p q) t = ev p t * ev q t
  | [], q => by show (0:Rat) = 0 * _; rw [Rat.zero_mul]
  | a :: p, q => by
    show ev (padd (pscl a q) (0 :: pmul p q)) t = ((a : Rat) + t * ev p t) * ev q t
    rw [ev_padd, ev_pscl]
    show _ + (((0:Int) : Rat) + t * ev (pmul p q) t) = _
    rw [ev_pmul t p q]
    have : ((0:Int):Rat) = 0 := rfl
    rw [this]; grind
theorem nrm_padd : ∀ p q, nrm (padd p q) ≤ nrm p + nrm q
  | [], q => by cases q <;> simp [padd, nrm]
  | a :: p, [] => by simp [padd, nrm]
  | a :: p, b :: q => by
    show (a + b).natAbs + nrm (padd p q) ≤ a.natAbs + nrm p + (b.natAbs + nrm q)
    have := nrm_padd p q
    have := Int.natAbs_add_le a b
    omega
theorem nrm_pscl (c : Int) : ∀ p, nrm (pscl c p) = c.natAbs * nrm p
  | [] => rfl
  | a :: p => by
    show (c * a).natAbs + nrm (pscl c p) = c.natAbs * (a.natAbs + nrm p)
    rw [nrm_pscl c p, Int.natAbs_mul, Nat.mul_add]
theorem nrm_pmul : ∀ p q, nrm (pmul p q) ≤ nrm p * nrm q
  | [], q => Nat.zero_le _
  | a :: p, q => by
    show nrm (padd (pscl a q) (0 :: pmul p q)) ≤ (a.natAbs + nrm p) * nrm q
    have h1 := nrm_padd (pscl a q) (0 :: pmul p q)
    have h2 := nrm_pmul p q
    rw [nrm_pscl] at h1
    have h3 : nrm (0 :: pmul p q) = nrm (pmul p q) := by simp [nrm]
    rw [Nat.add_mul]
    omega
def Pol (q : Rat → Rat) (B : Nat) : Prop := ∃ p : List Int, nrm p ≤ B ∧ ∀ t, q t = ev p t
theorem Pol.mono {q : Rat → Rat} {B C : Nat} (h : Pol q B) (e : B ≤ C) : Pol q C := let ⟨p, h1, h2⟩ := h; ⟨p, by omega, h2⟩
theorem Pol.add {p q : Rat → Rat} {B C : Nat} (h : Pol p B) (g : Pol q C) : Pol (fun t => p t + q t) (B + C) := by
  obtain ⟨a, h1, h2⟩ := h
  obtain ⟨b, g1, g2⟩ := g
  exact ⟨padd a b, by have := nrm_padd a b; omega, fun t => by show p t + q t = _; rw [ev_padd, h2, g2]⟩
theorem Pol.mul {p q : Rat → Rat} {B C : Nat} (h : Pol p B) (g : Pol q C) : Pol (fun t => p t * q t) (B * C) := by
  obtain ⟨a, h1, h2⟩ := h
  obtain ⟨b, g1, g2⟩ := g
  exact ⟨pmul a b, Nat.le_trans (nrm_pmul a b) (Nat.mul_le_mul h1 g1), fun t => by show p t * q t = _; rw [ev_pmul, h2, g2]⟩
theorem Pol.neg {p : Rat → Rat} {B : Nat} (h : Pol p B) : Pol (fun t => - p t) B := by
  obtain ⟨a, h1, h2⟩ := h
  exact ⟨pscl (-1) a, by rw [nrm_pscl]; simpa using h1, fun t => by
    show - p t = _
    rw [ev_pscl, h2]
    have : ((-1 : Int) : Rat) = -1 := rfl
    rw [this]; grind⟩
theorem Pol.sub {p q : Rat → Rat} {B C : Nat} (h : Pol p B) (g : Pol q C) : Pol (fun t => p t - q t) (B + C) := by
  obtain ⟨a, h1, h2⟩ := h.add g.neg
  exact ⟨a, h1, fun t => by rw [← h2 t]; grind⟩
theorem Pol.int (z : Int) : Pol (fun _ => (z : Rat)) z.natAbs := ⟨[z], by simp [nrm], fun t => by show (z : Rat) = (z : Rat) + t * 0; grind⟩
theorem Pol.zero : Pol (fun _ => 0) 0 := ⟨[], by simp [nrm], fun t => rfl⟩
theorem Pol.one : Pol (fun _ => 1) 1 := Pol.int 1
theorem Pol.lin (a b : Int) : Pol (fun t => (a : Rat) + t * (b : Rat)) (a.natAbs + b.natAbs) := ⟨[a, b], by simp [nrm], fun t => by show _ = (a : Rat) + t * ((b : Rat) + t * 0); grind⟩
theorem ext_pol {r : Rat → Row} {B : Nat} : ∀ (cs : List Nat) (φ : Rat → Fm) (C : Nat), (∀ c ∈ cs, Pol (fun t => r t c) B) → (∀ l, l.length + 1 = cs.length → (∀ c ∈ l, c ∈ cs) → Pol (fun t => φ t l) C) →
    Pol (fun t => ext (r t) (φ t) cs) (cs.length * (B * C))
  | [], φ, C, _, _ => Pol.zero.mono (Nat.zero_le _)
  | c :: cs, φ, C, h, hφ => by
    have i1 := (h c (by simp)).mul (hφ cs (by simp) fun d hd => by simp [hd])
    have i2 := ext_pol cs (fun t l => φ t (c :: l)) C (fun d hd => h d (by simp [hd])) fun l hl hm => hφ (c :: l) (by simp [hl]) fun d hd => by
      rcases List.mem_cons.mp hd with e | hd
      · simp [e]
      · simp [hm d hd]
    refine (i1.sub i2).mono ?_
    rw [List.length_cons, Nat.add_mul]
    omega
theorem det_pol {A : Rat → Nat → Row} {B N : Nat} : ∀ (is cs : List Nat), cs.length ≤ N → (∀ i ∈ is, ∀ c ∈ cs, Pol (fun t => A t i c) B) → Pol (fun t => det (is.map (A t)) cs) ((N * B) ^ is.length)
  | [], cs, _, _ => by
    show Pol (fun _ => unitF cs) 1
    unfold unitF
    split
    · exact Pol.one
    · exact Pol.zero.mono (by omega)
  | i :: is, cs, hl, h => by
    have := ext_pol (r := fun t => A t i) (B := B) cs (fun t => det (is.map (A t))) ((N * B) ^ is.length) (fun c hc => h i (by simp) c hc) fun l hl2 hm => det_pol is l (by omega) fun k hk c hc => h k (by simp [hk]) c (hm c hc)
    refine Pol.mono this ?_
    rw [List.length_cons, Nat.pow_succ]
    calc cs.length * (B * (N * B) ^ is.length) ≤ N * (B * (N * B) ^ is.length) := Nat.mul_le_mul_right _ hl
      _ = (N * B) ^ is.length * (N * B) := by rw [← Nat.mul_assoc, Nat.mul_comm]
def lead : List Int → Int
  | [] => 0
  | a :: p => if lead p = 0 then a else lead p
theorem ev_lead0 (t : Rat) : ∀ p, lead p = 0 → ev p t = 0
  | [], _ => rfl
  | a :: p, h => by
    have h2 : (if lead p = 0 then a else lead p) = 0 := h
    by_cases q : lead p = 0
    · rw [if_pos q] at h2
      show (a : Rat) + t * ev p t = 0
      rw [h2, ev_lead0 t p q]
      have : ((0:Int):Rat) = 0 := rfl
      rw [this]; grind
    · rw [if_neg q] at h2
      exact absurd h2 q
theorem cast1 {z : Int} (h : 0 < z) : (1:Rat) ≤ (z : Rat) := by
  have : ((1:Int):Rat) ≤ (z : Rat) := by exact_mod_cast h
  exact this
theorem abs_cast (a : Int) : - ((a.natAbs : Nat) : Rat) ≤ (a : Rat) ∧ (a : Rat) ≤ ((a.natAbs : Nat) : Rat) := by
  have h1 : - ((a.natAbs : Nat) : Int) ≤ a := by omega
  have h2 : a ≤ ((a.natAbs : Nat) : Int) := by omega
  have e : (((a.natAbs : Nat) : Int) : Rat) = ((a.natAbs : Nat) : Rat) := rfl
  constructor
  · rw [← e, ← Rat.intCast_neg]; exact_mod_cast h1
  · rw [← e]; exact_mod_cast h2
theorem ev_pos {t : Rat} : ∀ p, 0 < lead p → ((nrm p : Nat) : Rat) + 1 ≤ t → 1 ≤ ev p t
  | [], h, _ => absurd h (by decide)
  | a :: p, h, ht => by
    have h2 : 0 < (if lead p = 0 then a else lead p) := h
    have ht2 : ((a.natAbs : Nat) : Rat) + ((nrm p : Nat) : Rat) + 1 ≤ t := by
      have : ((nrm (a :: p) : Nat) : Rat) = ((a.natAbs : Nat) : Rat) + ((nrm p : Nat) : Rat) := by show ((a.natAbs + nrm p : Nat) : Rat) = _; rw [Rat.natCast_add]
      rw [this] at ht; exact ht
    have c1 := cast_nn a.natAbs
    have c2 := cast_nn (nrm p)
    show 1 ≤ (a : Rat) + t * ev p t
    by_cases q : lead p = 0
    · rw [if_pos q] at h2
      have := cast1 h2
      rw [ev_lead0 t p q]; grind
    · rw [if_neg q] at h2
      have ih := ev_pos (t := t) p h2 (by grind)
      have h3 := mul_le ih (show 0 ≤ t by grind)
      have h4 := (abs_cast a).1
      grind
theorem ev_neg {t : Rat} : ∀ p, lead p < 0 → ((nrm p : Nat) : Rat) + 1 ≤ t → ev p t ≤ -1
  | [], h, _ => absurd h (by decide)
  | a :: p, h, ht => by
    have h2 : (if lead p = 0 then a else lead p) < 0 := h
    have ht2 : ((a.natAbs : Nat) : Rat) + ((nrm p : Nat) : Rat) + 1 ≤ t := by
      have : ((nrm (a :: p) : Nat) : Rat) = ((a.natAbs : Nat) : Rat) + ((nrm p : Nat) : Rat) := by show ((a.natAbs + nrm p : Nat) : Rat) = _; rw [Rat.natCast_add]
      rw [this] at ht; exact ht
    have c1 := cast_nn a.natAbs
    have c2 := cast_nn (nrm p)
    show (a : Rat) + t * ev p t ≤ -1
    by_cases q : lead p = 0
    · rw [if_pos q] at h2
      have := cast1 (show 0 < -a by omega)
      rw [Rat.intCast_neg] at this
      rw [ev_lead0 t p q]; grind
    · rw [if_neg q] at h2
      have ih := ev_neg (t := t) p h2 (by grind)
      have h3 := mul_le ih (show 0 ≤ t by grind)
      have h4 := (abs_cast a).2
      grind
/-- the sign stays -/
theorem Pol.stays {q : Rat → Rat} {B : Nat} (h : Pol q B) {t0 : Rat} (h0 : (B : Rat) + 1 ≤ t0) (hs : q t0 ≤ 0) : ∀ t, t0 ≤ t → q t ≤ 0 := by
  obtain ⟨p, h1, h2⟩ := h
  have hb := cast_le h1
  intro t ht
  rw [h2] at hs ⊢
  rcases Int.lt_trichotomy (lead p) 0 with c | c | c
  · have := ev_neg p c (show ((nrm p : Nat) : Rat) + 1 ≤ t by grind)
    grind
  · rw [ev_lead0 t p c]; exact Rat.le_refl
  · have := ev_pos p c (show ((nrm p : Nat) : Rat) + 1 ≤ t0 by grind)
    grind
section
variable {n : Nat} {P : Mat}
theorem Stoch.le_one (S : Stoch n P) {x y : Nat} (hx : x < n) (hy : y < n) : P x y ≤ 1 := by
  rw [← S.one x hx]; exact sm_ge (fun i hi => S.nn x hx i hi) hy
/-- the system whose answer the worths are -/
def wA (n : Nat) (P : Mat) (r : Nat → Rat) (ρ : Nat → Nat) (t : Rat) : Nat → Row := fun x y =>
  if y = n then t * ((ρ x : Rat) * r x) else (if x = y then t * (ρ x : Rat) else 0) - (t - 1) * ((ρ x : Rat) * P x y)
theorem wA_sum (n : Nat) (P : Mat) (r : Nat → Rat) (ρ : Nat → Nat) (t : Rat) {x : Nat} (hx : x < n) (v : Nat → Rat) : sm n (fun y => wA n P r ρ t x y * v y) = (ρ x : Rat) * (t * v x - (t - 1) * mn n P v x) := by
  have e1 : sm n (fun y => wA n P r ρ t x y * v y) = sm n (fun y => (if y = x then (ρ x : Rat) * (t * v x) else 0) - (ρ x : Rat) * (t - 1) * (P x y * v y)) := sm_congr fun y hy => by
    unfold wA
    rw [if_neg (by omega)]
    by_cases q : y = x
    · subst q; rw [if_pos rfl, if_pos rfl]; grind
    · rw [if_neg (by omega), if_neg q]; grind
  rw [e1, sm_sub, sm_single (j := x) hx (fun y _ q => by rw [if_neg q]), if_pos rfl, sm_mul]
  unfold mn
  grind
theorem wA_dom (S : Stoch n P) (r : Nat → Rat) {ρ : Nat → Nat} (hρ : ∀ x, x < n → 0 < ρ x) {t : Rat} (ht : 1 ≤ t) : Dom n 0 (wA n P r ρ t) := by
  intro x _ hx
  have hp := cast_pos (hρ x hx)
  refine ⟨fun y hy q => ?_, ?_⟩
  · unfold wA
    rw [if_neg (by omega), if_neg (by omega)]
    have := Rat.mul_nonneg (show 0 ≤ t - 1 by grind) (Rat.mul_nonneg (show (0:Rat) ≤ (ρ x : Rat) by grind) (S.nn x hx y hy))
    grind
  · have := wA_sum n P r ρ t hx (fun _ => 1)
    rw [S.mn_const _ hx] at this
    have e : sm n (wA n P r ρ t x) = sm n (fun y => wA n P r ρ t x y * 1) := sm_congr fun y _ => by grind
    rw [e, this]; grind
theorem IsW.uniq (S : Stoch n P) {r : Nat → Rat} {t : Rat} (ht : 1 ≤ t) {w v : Nat → Rat} (hw : IsW n P r t w) (hv : IsW n P r t v) : ∀ x, x < n → w x = v x := by
  have go : ∀ a b : Nat → Rat, IsW n P r t a → IsW n P r t b → ∀ x, x < n → a x - b x ≤ 0 := fun a b ha hb => contr S (u := fun x => a x - b x) (c := fun _ => 0) (C := 0) ht (fun x hx => by
    rw [mn_sub]
    have := ha x hx
    have := hb x hx
    grind) (fun _ _ => Rat.le_refl)
  intro x hx
  have h1 := go w v hw hv x hx
  have h2 := go v w hv hw x hx
  grind
/-- the worths are the answer -/
theorem wA_answer (S : Stoch n P) (r : Nat → Rat) {ρ : Nat → Nat} (hρ : ∀ x, x < n → 0 < ρ x) {t : Rat} (ht : 1 ≤ t) : IsW n P r t (fun x => Nst (wA n P r ρ t) n x n) := by
  have ok := nat_ok (n + 1) (wA_dom S r hρ ht) n (Nat.le_refl _)
  intro x hx
  have h1 := ok.solved x hx
  rw [wA_sum n P r ρ t hx] at h1
  have h2 : wA n P r ρ t x n = t * ((ρ x : Rat) * r x) := by unfold wA; rw [if_pos rfl]
  rw [h2] at h1
  have hp := cast_pos (hρ x hx)
  have h3 : (ρ x : Rat) * (t * Nst (wA n P r ρ t) n x n - (t - 1) * mn n P (fun x => Nst (wA n P r ρ t) n x n) x - t * r x) = 0 := by grind
  rcases Rat.mul_eq_zero.mp h3 with q | q
  · grind
  · grind
theorem wA_pol (S : Stoch n P) {r : Nat → Rat} {ρ : Nat → Nat} {R G : Nat} (hR : ∀ x, x < n → ρ x ≤ R) (hP : ∀ x, x < n → ∀ y, y < n → IsI ((ρ x : Rat) * P x y)) (hr : ∀ x, x < n → IsI ((ρ x : Rat) * r x))
    (hG : ∀ x, x < n → ab (r x) ≤ (G : Rat)) (h2 : 2 ≤ G) {x y : Nat} (hx : x < n) (hy : y < n + 1) : Pol (fun t => wA n P r ρ t x y) (R * G) := by
  have hρ := cast_le (hR x hx)
  have hρ0 := cast_nn (ρ x)
  have hR2 : R * 2 ≤ R * G := Nat.mul_le_mul_left _ h2
  by_cases e : y = n
  · obtain ⟨z, hz⟩ := hr x hx
    have : z.natAbs ≤ R * G := by
      apply natAbs_of_ab
      rw [← hz, ab_mul, ab_of_nonneg hρ0, Rat.natCast_mul]
      exact mul_le2 hρ (hG x hx) hρ0 (ab_nonneg _)
    refine ((Pol.lin 0 z).mono (C := R * G) (by simpa using this)) |> fun ⟨p, p1, p2⟩ => ⟨p, p1, fun t => ?_⟩
    rw [← p2]
    show wA n P r ρ t x y = ((0:Int):Rat) + t * (z : Rat)
    unfold wA
    rw [if_pos e, hz]
    have : ((0:Int):Rat) = 0 := rfl
    rw [this]; grind
  · have hyn : y < n := by omega
    obtain ⟨z, hz⟩ := hP x hx y hyn
    have hp0 := S.nn x hx y hyn
    have hp1 := S.le_one hx hyn
    have hz0 : 0 ≤ (z : Rat) := by rw [← hz]; exact Rat.mul_nonneg hρ0 hp0
    have hz1 : (z : Rat) ≤ (ρ x : Rat) := by
      rw [← hz]
      have := mul_le hp1 hρ0
      grind
    have z0 : 0 ≤ z := by
      have : ((0:Int):Rat) ≤ (z : Rat) := hz0
      exact_mod_cast this
    have z1 : z ≤ (ρ x : Int) := by
      have : (z : Rat) ≤ (((ρ x : Nat) : Int) : Rat) := hz1
      exact_mod_cast this
    have hRx := hR x hx
    by_cases q : x = y
    · refine ((Pol.lin z ((ρ x : Int) - z)).mono (C := R * G) (by omega)) |> fun ⟨p, p1, p2⟩ => ⟨p, p1, fun t => ?_⟩
      rw [← p2]
      show wA n P r ρ t x y = (z : Rat) + t * (((ρ x : Int) - z : Int) : Rat)
      unfold wA
      rw [if_neg e, if_pos q, hz, Rat.intCast_sub]
      have : (((ρ x : Nat) : Int) : Rat) = (ρ x : Rat) := rfl
      rw [this]; grind
    · refine ((Pol.lin z (-z)).mono (C := R * G) (by omega)) |> fun ⟨p, p1, p2⟩ => ⟨p, p1, fun t => ?_⟩
      rw [← p2]
      show wA n P r ρ t x y = (z : Rat) + t * ((-z : Int) : Rat)
      unfold wA
      rw [if_neg e, if_neg q, hz, Rat.intCast_neg]; grind
/-- from a far discount on the order of two worths stays -/
theorem order_stays (S : Stoch n P) {r : Nat → Rat} {ρ : Nat → Nat} {R G : Nat} (hρ : ∀ x, x < n → 0 < ρ x) (hR : ∀ x, x < n → ρ x ≤ R) (hP : ∀ x, x < n → ∀ y, y < n → IsI ((ρ x : Rat) * P x y)) (hr : ∀ x, x < n → IsI ((ρ x : Rat) * r x))
    (hG : ∀ x, x < n → ab (r x) ≤ (G : Rat)) (h2 : 2 ≤ G) {y z : Nat} (hy : y < n) (hz : z < n) {t0 : Rat} (h0 : ((2 * ((n + 1) * (R * G)) ^ n : Nat) : Rat) + 1 ≤ t0) {w0 : Nat → Rat} (hw0 : IsW n P r t0 w0) (hs : w0 y ≤ w0 z) :
    ∀ t, t0 ≤ t → ∀ w, IsW n P r t w → w y ≤ w z := by
  let cs : Nat → List Nat := fun a => List.range' 0 a ++ n :: List.range' (a + 1) (n - a - 1)
  have hcs : ∀ a, a < n → (cs a).length ≤ n + 1 ∧ ∀ c ∈ cs a, c < n + 1 := fun a ha => by
    refine ⟨by simp [cs]; omega, fun c hc => ?_⟩
    rcases List.mem_append.mp hc with q | q
    · have := List.mem_range'_1.mp q; omega
    · rcases List.mem_cons.mp q with q | q
      · omega
      · have := List.mem_range'_1.mp q; omega
  have hpol : ∀ a, a < n → Pol (fun t => det ((List.range n).map (wA n P r ρ t)) (cs a)) (((n + 1) * (R * G)) ^ n) := fun a ha => by
    have := det_pol (A := fun t => wA n P r ρ t) (B := R * G) (N := n + 1) (List.range n) (cs a) (hcs a ha).1 fun i hi c hc => wA_pol S hR hP hr hG h2 (List.mem_range.mp hi) ((hcs a ha).2 c hc)
    rw [List.length_range] at this
    exact this
  have hQ := (hpol y hy).sub (hpol z hz)
  rw [← Nat.two_mul] at hQ
  have one : ∀ t, 1 ≤ t → ∀ w, IsW n P r t w → ∀ a, a < n → Dl (wA n P r ρ t) n * w a = det ((List.range n).map (wA n P r ρ t)) (cs a) := fun t ht w hw a ha => by
    have ok := nat_ok (n + 1) (wA_dom S r hρ ht) n (Nat.le_refl _)
    rw [IsW.uniq S ht hw (wA_answer S r hρ ht) a ha]
    exact ok.done ha n
  have t01 : 1 ≤ t0 := by have := cast_nn (2 * ((n + 1) * (R * G)) ^ n); grind
  have hs0 : det ((List.range n).map (wA n P r ρ t0)) (cs y) - det ((List.range n).map (wA n P r ρ t0)) (cs z) ≤ 0 := by
    rw [← one t0 t01 w0 hw0 y hy, ← one t0 t01 w0 hw0 z hz]
    have ok := nat_ok (n + 1) (wA_dom S r hρ t01) n (Nat.le_refl _)
    have := mul_le hs (show 0 ≤ Dl (wA n P r ρ t0) n by have := ok.pos; grind)
    grind
  intro t ht w hw
  have h3 := hQ.stays h0 hs0 t ht
  have t1 : 1 ≤ t := by grind
  have h4 : det ((List.range n).map (wA n P r ρ t)) (cs y) - det ((List.range n).map (wA n P r ρ t)) (cs z) ≤ 0 := h3
  rw [← one t t1 w hw y hy, ← one t t1 w hw z hz] at h4
  have ok := nat_ok (n + 1) (wA_dom S r hρ t1) n (Nat.le_refl _)
  rcases (show w y ≤ w z ∨ 0 < w y - w z by grind) with q | q
  · exact q
  · have := Rat.mul_pos ok.pos q
    grind
/-- a better strategy has better worths -/
theorem improve (S : Stoch n P) {P' : Mat} (S' : Stoch n P') {r w w' : Nat → Rat} {t : Rat} (ht : 1 < t) (hw : IsW n P r t w) (hw' : IsW n P' r t w') (h : ∀ x, x < n → mn n P w x ≤ mn n P' w x) :
    (∀ x, x < n → w x ≤ w' x) ∧ ∀ x, x < n → mn n P w x < mn n P' w x → w x < w' x := by
  have h1 : ∀ x, x < n → w x - w' x ≤ 0 := contr S' (u := fun x => w x - w' x) (c := fun x => (t - 1) * (mn n P w x - mn n P' w x)) (C := 0) (t := t) (by grind) (fun x hx => by
    rw [mn_sub]
    have := hw x hx
    have := hw' x hx
    grind) (fun x hx => by
    have := Rat.mul_nonneg (show 0 ≤ t - 1 by grind) (show 0 ≤ mn n P' w x - mn n P w x by have := h x hx; grind)
    grind)
  refine ⟨fun x hx => by have := h1 x hx; grind, fun x hx hlt => ?_⟩
  have a1 := hw x hx
  have a2 := hw' x hx
  have a3 : mn n P' w x ≤ mn n P' w' x := S'.mn_le (fun y hy => by have := h1 y hy; grind) hx
  have a4 := Rat.mul_pos (show 0 < t - 1 by grind) (show 0 < mn n P' w' x - mn n P w x by grind)
  have a5 : 0 < t * (w' x - w x) := by grind
  rcases (show w x < w' x ∨ 0 ≤ w x - w' x by grind) with q | q
  · exact q
  · have := Rat.mul_nonneg (show 0 ≤ t by grind) q
    grind
end
end Mh
end
section
set_option linter.unusedVariables false
/-! places, chains of places -/
namespace Mh
inductive Kd where
  | draw | ours | theirs
  deriving DecidableEq
structure Pl where
  g : Rat
  k : Kd
  bs : List (Rat × Nat)
def pl (G : List Pl) (x : Nat) : Pl := G.getD x ⟨0, .draw, []⟩
theorem pl_mem {G : List Pl} {x : Nat} (h : x < G.length) : pl G x ∈ G := by
  have : pl G x = G[x] := by simp [pl, List.getD, h]
  rw [this]; exact List.getElem_mem h
theorem pl_at {G : List Pl} {x : Nat} (h : x < G.length) : G[x]? = some (pl G x) := by simp [pl, List.getD, h]
def sumq : List Rat → Rat
  | [] => 0
  | a :: r => a + sumq r
theorem sumq_append : ∀ l m : List Rat, sumq (l ++ m) = sumq l + sumq m
  | [], m => by show sumq m = 0 + sumq m; grind
  | a :: l, m => by show a + sumq (l ++ m) = a + sumq l + sumq m; rw [sumq_append l m]; grind
theorem sumq_snoc (q : Rat) (l : List Rat) : sumq (l ++ [q]) = sumq l + q := by
  rw [sumq_append]; show sumq l + (q + 0) = _; grind
theorem sumq_nonneg : ∀ l : List Rat, (∀ q ∈ l, 0 ≤ q) → 0 ≤ sumq l
  | [], _ => by show (0:Rat) ≤ 0; grind
  | a :: l, h => by
    have := sumq_nonneg l fun q hq => h q (by simp [hq])
    have := h a (by simp)
    show 0 ≤ a + sumq l
    grind
/-- the chance from a list of branches to a place -/
def wt (bs : List (Rat × Nat)) (y : Nat) : Rat := sumq ((bs.filter fun b => decide (b.2 = y)).map (·.1))
theorem wt_nil (y : Nat) : wt [] y = 0 := rfl
theorem wt_cons (b : Rat × Nat) (bs : List (Rat × Nat)) (y : Nat) : wt (b :: bs) y = (if b.2 = y then b.1 else 0) + wt bs y := by
  unfold wt
  by_cases e : b.2 = y
  · rw [List.filter_cons_of_pos (by simpa using e), if_pos e]; rfl
  · rw [List.filter_cons_of_neg (by simpa using e), if_neg e]; grind
theorem wt_snoc (bs : List (Rat × Nat)) (b : Rat × Nat) (y : Nat) : wt (bs ++ [b]) y = wt bs y + (if b.2 = y then b.1 else 0) := by
  induction bs with
  | nil => rw [List.nil_append, wt_cons, wt_nil]; grind
  | cons c bs ih => rw [List.cons_append, wt_cons, wt_cons, ih]; grind
theorem wt_nonneg {bs : List (Rat × Nat)} (h : ∀ b ∈ bs, 0 < b.1) (y : Nat) : 0 ≤ wt bs y := by
  refine sumq_nonneg _ fun q hq => ?_
  obtain ⟨b, hb, rfl⟩ := List.mem_map.mp hq
  have := h b (List.mem_filter.mp hb).1
  grind
theorem wt_pos {bs : List (Rat × Nat)} (h : ∀ b ∈ bs, 0 < b.1) (y : Nat) : 0 < wt bs y ↔ ∃ b ∈ bs, b.2 = y := by
  induction bs with
  | nil => rw [wt_nil]; simp
  | cons b bs ih =>
    have ih := ih fun c hc => h c (by simp [hc])
    have hb := h b (by simp)
    have hn := wt_nonneg (fun c hc => h c (by simp [hc]) : ∀ c ∈ bs, 0 < c.1) y
    rw [wt_cons]
    by_cases e : b.2 = y
    · rw [if_pos e]
      exact ⟨fun _ => ⟨b, by simp, e⟩, fun _ => by grind⟩
    · rw [if_neg e, Rat.zero_add, ih]
      constructor
      · rintro ⟨c, hc, ec⟩; exact ⟨c, by simp [hc], ec⟩
      · rintro ⟨c, hc, ec⟩
        rcases List.mem_cons.mp hc with z | z
        · subst z; exact absurd ec e
        · exact ⟨c, z, ec⟩
/-- the mean by branches and by places -/
theorem wt_sum {n : Nat} : ∀ (bs : List (Rat × Nat)) (v : Nat → Rat), (∀ b ∈ bs, b.2 < n) → sm n (fun y => wt bs y * v y) = sumq (bs.map fun b => b.1 * v b.2)
  | [], v, _ => by
    show _ = (0:Rat)
    exact sm_zero _ fun y _ => by rw [wt_nil]; grind
  | b :: bs, v, h => by
    have ih := wt_sum bs v fun c hc => h c (by simp [hc])
    have e : sm n (fun y => wt (b :: bs) y * v y) = sm n (fun y => (if y = b.2 then b.1 * v b.2 else 0) + wt bs y * v y) := sm_congr fun y _ => by
      rw [wt_cons]
      by_cases z : b.2 = y
      · rw [if_pos z, if_pos z.symm, z]; grind
      · rw [if_neg z, if_neg (fun q => z q.symm)]; grind
    rw [e, sm_add, sm_single (j := b.2) (h b (by simp)) (fun y _ q => by rw [if_neg q]), if_pos rfl, ih]
    rfl
theorem wt_int {bs : List (Rat × Nat)} {S : Rat} (h : ∀ b ∈ bs, IsI (b.1 * S)) (y : Nat) : IsI (wt bs y * S) := by
  induction bs with
  | nil => rw [wt_nil, Rat.zero_mul]; exact IsI.zero
  | cons b bs ih =>
    rw [wt_cons, Rat.add_mul]
    refine IsI.add ?_ (ih fun c hc => h c (by simp [hc]))
    split
    · exact h b (by simp)
    · rw [Rat.zero_mul]; exact IsI.zero
structure PlOk (n : Nat) (p : Pl) : Prop where
  dr : p.k = .draw
  t : ∀ b ∈ p.bs, b.2 < n
  pos : ∀ b ∈ p.bs, 0 < b.1
  one : sumq (p.bs.map (·.1)) = 1
  den : ∃ S : Nat, 0 < S ∧ S ≤ 360 ∧ ∀ b ∈ p.bs, IsI (b.1 * (S : Rat))
  gi : IsI (p.g * (27720 : Nat))
  gb : ab p.g ≤ ((1000 : Nat) : Rat)
  gd : p.g.den ≤ 12
  br : p.bs.length ≤ 6
structure ChOk (n : Nat) (C : List Pl) : Prop where
  len : C.length = n
  ok : ∀ p ∈ C, PlOk n p
def Pm (C : List Pl) : Mat := fun x y => wt (pl C x).bs y
def gm (C : List Pl) : Nat → Rat := fun x => (pl C x).g
section
variable {n : Nat} {C : List Pl}
theorem ChOk.at (h : ChOk n C) {x : Nat} (hx : x < n) : PlOk n (pl C x) := h.ok _ (pl_mem (by rw [h.len]; exact hx))
theorem ChOk.stoch (h : ChOk n C) : Stoch n (Pm C) := by
  refine ⟨fun x hx y _ => wt_nonneg (h.at hx).pos y, fun x hx => ?_⟩
  have := wt_sum (pl C x).bs (fun _ => 1) (h.at hx).t
  have e : sm n (Pm C x) = sm n (fun y => wt (pl C x).bs y * 1) := sm_congr fun y _ => by unfold Pm; grind
  rw [e, this]
  have e2 : (pl C x).bs.map (fun b => b.1 * 1) = (pl C x).bs.map (·.1) := List.map_congr_left fun b _ => by grind
  rw [e2]
  exact (h.at hx).one
theorem ChOk.mean (h : ChOk n C) {x : Nat} (hx : x < n) (v : Nat → Rat) : mn n (Pm C) v x = sumq ((pl C x).bs.map fun b => b.1 * v b.2) := wt_sum _ v (h.at hx).t
theorem ChOk.pos_iff (h : ChOk n C) {x : Nat} (hx : x < n) (y : Nat) : 0 < Pm C x y ↔ ∃ b ∈ (pl C x).bs, b.2 = y := wt_pos (h.at hx).pos y
end
/-! ### what is reached, as a list -/
open Classical in
noncomputable def reachL (n : Nat) (P : Mat) (x : Nat) : List Nat := (List.range n).filter fun y => decide (Rc n P x y)
open Classical in
theorem mem_reachL {n : Nat} {P : Mat} {x y : Nat} : y ∈ reachL n P x ↔ y < n ∧ Rc n P x y := by
  unfold reachL
  rw [List.mem_filter, List.mem_range, decide_eq_true_iff]
open Classical in
theorem reachL_lt {n : Nat} {P : Mat} {x : Nat} : (reachL n P x).Pairwise (· < ·) := List.Pairwise.filter _ List.pairwise_lt_range
open Classical in
theorem reachL_nd {n : Nat} {P : Mat} {x : Nat} : (reachL n P x).Nodup := List.Pairwise.filter _ List.nodup_range
open Classical in
theorem reachL_len {n : Nat} {P : Mat} {x : Nat} : (reachL n P x).length ≤ n := by
  have : (reachL n P x).length ≤ (List.range n).length := List.length_filter_le _ _
  rw [List.length_range] at this
  exact this
/-- rising lists with the same members are the same -/
theorem rising_eq : ∀ {l m : List Nat}, l.Pairwise (· < ·) → m.Pairwise (· < ·) → (∀ x, x ∈ l ↔ x ∈ m) → l = m
  | [], [], _, _, _ => rfl
  | [], b :: m, _, _, h => absurd ((h b).mpr (by simp)) (by simp)
  | a :: l, [], _, _, h => absurd ((h a).mp (by simp)) (by simp)
  | a :: l, b :: m, hl, hm, h => by
    obtain ⟨l1, l2⟩ := List.pairwise_cons.mp hl
    obtain ⟨m1, m2⟩ := List.pairwise_cons.mp hm
    have e : a = b := by
      rcases List.mem_cons.mp ((h a).mp (by simp)) with q | q
      · exact q
      · rcases List.mem_cons.mp ((h b).mpr (by simp)) with r | r
        · exact r.symm
        · have := m1 a q
          have := l1 b r
          omega
    subst e
    rw [rising_eq l2 m2 fun x => ?_]
    constructor
    · intro hx
      rcases List.mem_cons.mp ((h x).mp (by simp [hx])) with q | q
      · have := l1 x hx; omega
      · exact q
    · intro hx
      rcases List.mem_cons.mp ((h x).mpr (by simp [hx])) with q | q
      · have := m1 x hx; omega
      · exact q
theorem reach_room {n : Nat} {P : Mat} {x : Nat} (hx : x < n) (hr : Recu n P x) : Klass n P (reachL n P x) := by
  refine ⟨reachL_nd, fun y hy => (mem_reachL.mp hy).1, fun y hy z hz hp => mem_reachL.mpr ⟨hz, (mem_reachL.mp hy).2.step hz hp⟩, fun y hy z hz => ?_⟩
  exact (hr y (mem_reachL.mp hy).2).trans (mem_reachL.mp hz).2
end Mh
end
section
set_option linter.unusedVariables false
/-! the systems of the program and the law -/
namespace Mh
def Small (m : Nat) (M0 : Nat → Row) : Prop := ∀ S M, GJ m (m + 1) M0 S M → ∀ i, i < m → ∀ j, j < m + 1 → Sz 2900 (M i j)
/-- the answer of an elimination -/
def Ans (m : Nat) (M0 : Nat → Row) (x : Nat → Rat) : Prop := ∃ S M, GJ m (m + 1) M0 S M ∧ S.length = m ∧ ∀ a, a < m → x a = M (S.getD a 0) m
theorem Scl.small {m : Nat} {M0 : Nat → Row} {ρ γ : Nat → Nat} {B B' R G1 G2 : Nat} (h : Scl m M0 ρ γ B B' R G1 G2) (h1 : Wn m B B' G1 < 2 ^ 2900) (h2 : Wd m B R G2 < 2 ^ 2900) : Small m M0 := fun S M g i hi j hj => by
  obtain ⟨n, d, hd, e, hn, hdd⟩ := g.entry h hi hj
  exact Sz.of e hd (by omega) (by omega)
theorem Ans.solves {m : Nat} {M0 : Nat → Row} {x : Nat → Rat} (h : Ans m M0 x) : ∀ i, i < m → sm m (fun j => M0 i j * x j) = M0 i m := by
  obtain ⟨S, M, g, hS, hx⟩ := h
  intro i hi
  rw [← g.solved hS i hi]
  exact sm_congr fun j hj => by rw [hx j hj]
theorem Ans.den {m : Nat} {M0 : Nat → Row} {x : Nat → Rat} {ρ γ : Nat → Nat} {B B' R G1 G2 : Nat} (h : Ans m M0 x) (s : Scl m M0 ρ γ B B' R G1 G2) :
    ∃ N : Nat, N ≠ 0 ∧ N ≤ (m + 1) ^ (m + 1) * B ^ m ∧ ∀ a, a < m → IsI (x a * ((N * γ m : Nat) : Rat)) ∧ ab (x a) * (γ m : Rat) ≤ (((m + 1) ^ (m + 1) * B ^ m * B' * G1 : Nat) : Rat) := by
  obtain ⟨S, M, g, hS, hx⟩ := h
  obtain ⟨N, h1, h2, h3⟩ := g.answer s hS
  exact ⟨N, h1, h2, fun a ha => by rw [hx a ha]; exact h3 a ha⟩
theorem pw_le {m k B : Nat} (h : m ≤ k) (b1 : 1 ≤ B) : (m + 1) ^ (m + 1) * B ^ m ≤ (k + 1) ^ (k + 1) * B ^ k :=
  Nat.mul_le_mul (Nat.le_trans (Nat.pow_le_pow_left (by omega) _) (Nat.pow_le_pow_right (by omega) (by omega))) (Nat.pow_le_pow_right b1 h)
theorem IsI.scale {q a b : Rat} (h : IsI (q * a)) (hb : IsI b) : IsI (q * (a * b)) := by rw [← Rat.mul_assoc]; exact h.mul hb
theorem IsI.natmul {q : Rat} {a : Nat} (h : IsI (q * (a : Rat))) (b : Nat) : IsI (q * ((a * b : Nat) : Rat)) := by rw [Rat.natCast_mul]; exact h.scale (IsI.nat b)
theorem IsI.natmul' {q : Rat} {a : Nat} (h : IsI (q * (a : Rat))) (b : Nat) : IsI (q * ((b * a : Nat) : Rat)) := by rw [Nat.mul_comm]; exact h.natmul b
/-! ### stationary weights -/
structure StatSys (m : Nat) (P : Mat) (M0 : Nat → Row) : Prop where
  row : ∀ i, i < m → (∀ j, j < m + 1 → M0 i j = 1) ∨ ∃ k, 1 ≤ k ∧ k < m ∧ (∀ j, j < m → M0 i j = P j k - (if j = k then 1 else 0)) ∧ M0 i m = 0
  has1 : ∃ i, i < m ∧ ∀ j, j < m + 1 → M0 i j = 1
  has : ∀ k, 1 ≤ k → k < m → ∃ i, i < m ∧ (∀ j, j < m → M0 i j = P j k - (if j = k then 1 else 0)) ∧ M0 i m = 0
section
variable {m : Nat} {P : Mat} {M0 : Nat → Row}
theorem stat_row {x : Nat → Rat} {k i : Nat} (hk : k < m) (h : ∀ j, j < m → M0 i j = P j k - (if j = k then 1 else 0)) : sm m (fun j => M0 i j * x j) = sm m (fun j => x j * P j k) - x k := by
  have e : sm m (fun j => M0 i j * x j) = sm m (fun j => x j * P j k - (if j = k then x k else 0)) := sm_congr fun j hj => by
    rw [h j hj]
    by_cases q : j = k
    · rw [if_pos q, if_pos q, q]; grind
    · rw [if_neg q, if_neg q]; grind
  rw [e, sm_sub, sm_single (f := fun j => if j = k then x k else 0) (j := k) hk (fun j _ q => by rw [if_neg q]), if_pos rfl]
theorem StatSys.inj (h : StatSys m P M0) (S : Stoch m P) (I : Irr m P) : Inj m M0 := by
  intro v hv j hj
  refine stat_inj S I (fun i h1 hi => ?_) ?_ j hj
  · obtain ⟨r, hr, er, _⟩ := h.has i h1 hi
    have := hv r hr
    rw [stat_row hi er] at this
    grind
  · obtain ⟨r, hr, er⟩ := h.has1
    have := hv r hr
    rw [sm_congr (fun j hj => by rw [er j (by omega), Rat.one_mul])] at this
    exact this
theorem StatSys.ans (h : StatSys m P M0) {x : Nat → Rat} (hx : ∀ i, i < m → sm m (fun j => M0 i j * x j) = M0 i m) : sm m x = 1 ∧ ∀ i, 1 ≤ i → i < m → sm m (fun j => x j * P j i) = x i := by
  constructor
  · obtain ⟨r, hr, er⟩ := h.has1
    have := hx r hr
    rw [sm_congr (fun j hj => by rw [er j (by omega), Rat.one_mul]), er m (by omega)] at this
    exact this
  · intro i h1 hi
    obtain ⟨r, hr, er, e0⟩ := h.has i h1 hi
    have := hx r hr
    rw [stat_row hi er, e0] at this
    grind
theorem StatSys.scl (h : StatSys m P M0) (S : Stoch m P) {γ : Nat → Nat} (hγ : ∀ j, j < m → 0 < γ j ∧ γ j ≤ 360 ∧ ∀ k, k < m → IsI (P j k * (γ j : Rat))) :
    Scl m M0 (fun _ => 1) (fun j => if j < m then γ j else 1) 360 1 1 360 360 := by
  have h1 : ((1 : Nat) : Rat) = 1 := rfl
  have val : ∀ i, i < m → ∀ j, j < m → IsI (M0 i j * (γ j : Rat)) ∧ ab (M0 i j) ≤ 1 := fun i hi j hj => by
    obtain ⟨g0, g1, g2⟩ := hγ j hj
    rcases h.row i hi with q | ⟨k, k1, k2, q, _⟩
    · rw [q j (by omega), Rat.one_mul]
      exact ⟨IsI.nat _, by rw [ab_of_nonneg (by grind)]; exact Rat.le_refl⟩
    · rw [q j hj, show ∀ a b c : Rat, (a - b) * c = a * c - b * c from fun a b c => by grind]
      have p0 := S.nn j hj k k2
      have p1 : P j k ≤ 1 := by rw [← S.one j hj]; exact sm_ge (fun i hi => S.nn j hj i hi) k2
      refine ⟨(g2 k k2).sub ?_, ?_⟩
      · split
        · rw [Rat.one_mul]; exact IsI.nat _
        · rw [Rat.zero_mul]; exact IsI.zero
      · split
        · exact ab_le (by grind) (by grind)
        · exact ab_le (by grind) (by grind)
  refine ⟨fun i hi => ⟨by decide, Nat.le_refl _⟩, fun j hj => ?_, fun j hj => ?_, fun i hi j hj => ?_, fun i hi j hj => ?_, fun i hi => ?_, by decide, by decide⟩
  · show 0 < (if j < m then γ j else 1) ∧ (if j < m then γ j else 1) ≤ 360
    split
    · exact ⟨(hγ j ‹_›).1, (hγ j ‹_›).2.1⟩
    · exact ⟨by decide, by decide⟩
  · show (if j < m then γ j else 1) ≤ 360
    rw [if_pos hj]; exact (hγ j hj).2.1
  · show IsI (((1 : Nat) : Rat) * M0 i j * (((if j < m then γ j else 1) : Nat) : Rat))
    rw [h1, Rat.one_mul]
    by_cases q : j < m
    · rw [if_pos q]; exact (val i hi j q).1
    · have : j = m := by omega
      rw [if_neg q, this, h1, Rat.mul_one]
      rcases h.row i hi with z | ⟨k, _, _, _, z⟩
      · rw [z m (by omega)]; exact IsI.one
      · rw [z]; exact IsI.zero
  · show ab (((1 : Nat) : Rat) * M0 i j * (((if j < m then γ j else 1) : Nat) : Rat)) ≤ ((360 : Nat) : Rat)
    rw [h1, Rat.one_mul, if_pos hj, ab_mul, ab_of_nonneg (cast_nn _)]
    have a1 := (val i hi j hj).2
    have a2 := cast_le (hγ j hj).2.1
    have a3 := mul_le2 a1 a2 (ab_nonneg _) (cast_nn _)
    rw [Rat.one_mul] at a3
    exact a3
  · show ab (((1 : Nat) : Rat) * M0 i m * (((if m < m then γ m else 1) : Nat) : Rat)) ≤ ((1 : Nat) : Rat)
    rw [h1, Rat.one_mul, if_neg (by omega), h1, Rat.mul_one]
    rcases h.row i hi with z | ⟨k, _, _, _, z⟩
    · rw [z m (by omega), ab_of_nonneg (by grind)]; exact Rat.le_refl
    · rw [z, ab_zero]; grind
end
/-! ### numbers that meet their mean -/
structure MetSys (n : Nat) (P : Mat) (R : List Nat) (e kv : Nat → Rat) (M0 : Nat → Row) : Prop where
  a : ∀ i, i < R.length → ∀ j, j < R.length → M0 i j = (if i = j then 1 else 0) - P (R.getD i 0) (R.getD j 0)
  b : ∀ i, i < R.length → M0 i R.length = e (R.getD i 0) + mn n P kv (R.getD i 0)
/-- the answers at the places, the known numbers elsewhere -/
def glue (R : List Nat) (y kv : Nat → Rat) : Nat → Rat := fun z => if z ∈ R then y (R.idxOf z) else kv z
section
variable {n : Nat} {P : Mat} {R : List Nat} {e kv : Nat → Rat} {M0 : Nat → Row}
theorem glue_mean (nd : R.Nodup) (hl : ∀ x ∈ R, x < n) (hk : ∀ x ∈ R, kv x = 0) (y : Nat → Rat) (x : Nat) :
    mn n P (glue R y kv) x = sm R.length (fun j => P x (R.getD j 0) * y j) + mn n P kv x := by
  have e1 : mn n P (glue R y kv) x = sm n (fun z => (if z ∈ R then P x z * y (R.idxOf z) else 0)) + mn n P kv x := by
    unfold mn
    rw [← sm_add]
    refine sm_congr fun z _ => ?_
    unfold glue
    by_cases q : z ∈ R
    · rw [if_pos q, if_pos q, hk z q]; grind
    · rw [if_neg q, if_neg q]; grind
  rw [e1, sm_room R n _ nd hl (fun z _ q => by rw [if_neg q])]
  congr 1
  refine sm_congr fun j hj => ?_
  rw [if_pos (getD_mem hj), idx_getD nd hj]
theorem MetSys.eval (h : MetSys n P R e kv M0) (y : Nat → Rat) {i : Nat} (hi : i < R.length) : sm R.length (fun j => M0 i j * y j) = y i - sm R.length (fun j => P (R.getD i 0) (R.getD j 0) * y j) := by
  have e1 : sm R.length (fun j => M0 i j * y j) = sm R.length (fun j => (if j = i then y i else 0) - P (R.getD i 0) (R.getD j 0) * y j) := sm_congr fun j hj => by
    rw [h.a i hi j hj]
    by_cases q : j = i
    · rw [if_pos q, if_pos q.symm, q]; grind
    · rw [if_neg q, if_neg (fun z => q z.symm)]; grind
  rw [e1, sm_sub, sm_single (j := i) hi (fun j _ q => by rw [if_neg q]), if_pos rfl]
theorem MetSys.inj (h : MetSys n P R e kv M0) (S : Stoch n P) (nd : R.Nodup) (hl : ∀ x ∈ R, x < n) (hr : ∀ x, x < n → ∃ y, y ∉ R ∧ Rc n P x y) : Inj R.length M0 := by
  have go : ∀ v : Nat → Rat, (∀ i, i < R.length → sm R.length (fun j => M0 i j * v j) = 0) → ∀ j, j < R.length → v j ≤ 0 := fun v hv j hj => by
    have key := S.maxp (v := glue R v (fun _ => 0)) (c := 0) (B := fun z => z ∉ R) (fun z hz hn => ?_) (fun z hz hn => by unfold glue; rw [if_neg hn]; grind) hr (R.getD j 0) (hl _ (getD_mem hj))
    · unfold glue at key
      rw [if_pos (getD_mem hj), idx_getD nd hj] at key
      exact key
    · have hz2 : z ∈ R := Classical.byContradiction hn
      have hi := List.idxOf_lt_length_of_mem hz2
      have h1 := hv _ hi
      rw [h.eval v hi, getD_idx hz2] at h1
      rw [glue_mean nd hl (fun _ _ => rfl)]
      have e2 : mn n P (fun _ => 0) z = 0 := by unfold mn; exact sm_zero _ fun _ _ => by grind
      rw [e2]
      unfold glue
      rw [if_pos hz2]
      grind
  intro v hv j hj
  have h1 := go v hv j hj
  have h2 := go (fun j => - v j) (fun i hi => by
    have : sm R.length (fun j => M0 i j * - v j) = - sm R.length (fun j => M0 i j * v j) := by
      rw [← sm_neg]; exact sm_congr fun j _ => by grind
    rw [this, hv i hi]; grind) j hj
  grind
theorem MetSys.ans (h : MetSys n P R e kv M0) (nd : R.Nodup) (hl : ∀ x ∈ R, x < n) (hk : ∀ x ∈ R, kv x = 0) {y : Nat → Rat} (hy : ∀ i, i < R.length → sm R.length (fun j => M0 i j * y j) = M0 i R.length) :
    ∀ x ∈ R, glue R y kv x = e x + mn n P (glue R y kv) x := by
  intro x hx
  have hi := List.idxOf_lt_length_of_mem hx
  have h1 := hy _ hi
  rw [h.eval y hi, h.b _ hi, getD_idx hx] at h1
  rw [glue_mean nd hl hk]
  unfold glue
  rw [if_pos hx]
  grind
/-- a common denominator and a bound -/
structure Dn (n : Nat) (v : Nat → Rat) (D K : Nat) : Prop where
  pos : 0 < D
  i : ∀ x, x < n → IsI (v x * (D : Rat))
  b : ∀ x, x < n → ab (v x) ≤ (K : Rat)
theorem Dn.sz (h : Dn n v D K) {k : Nat} (h1 : K * D < 2 ^ k) (h2 : D < 2 ^ k) {x : Nat} (hx : x < n) : Sz k (v x) := Sz.den (h.i x hx) (by have := h.pos; omega) (h.b x hx) h1 h2
theorem Dn.mul (h : Dn n v D K) {E : Nat} (hE : 0 < E) : Dn n v (D * E) K := ⟨Nat.mul_pos h.pos hE, fun x hx => (h.i x hx).natmul E, h.b⟩
theorem Dn.bound (h : Dn n v D K) {L : Nat} (hl : K ≤ L) : Dn n v D L := ⟨h.pos, h.i, fun x hx => Rat.le_trans (h.b x hx) (cast_le hl)⟩
theorem Stoch.mn_ab (S : Stoch n P) {v : Nat → Rat} {K : Rat} (h : ∀ y, y < n → ab (v y) ≤ K) {x : Nat} (hx : x < n) : ab (mn n P v x) ≤ K := by
  refine ab_le ?_ ?_
  · have := S.mn_le (v := v) (u := fun _ => K) (fun y hy => by have := h y hy; have := le_ab (v y); grind) hx
    rw [S.mn_const _ hx] at this; exact this
  · rw [← mn_neg]
    have := S.mn_le (v := fun y => - v y) (u := fun _ => K) (fun y hy => by have := h y hy; have := neg_le_ab (v y); grind) hx
    rw [S.mn_const _ hx] at this; exact this
theorem MetSys.scl (h : MetSys n P R e kv M0) (S : Stoch n P) (hl : ∀ x ∈ R, x < n) {s : Nat → Nat} (hs : ∀ x, x < n → 0 < s x ∧ s x ≤ 360 ∧ ∀ y, y < n → IsI (P x y * (s x : Rat))) {D Ke Kk : Nat} (he : Dn n e D Ke) (hk : Dn n kv D Kk) (hK : 1 ≤ Ke + Kk) :
    Scl R.length M0 (fun i => s (R.getD i 0)) (fun j => if j < R.length then 1 else D) 360 (360 * (Ke + Kk) * D) 360 1 D := by
  have h1 : ((1 : Nat) : Rat) = 1 := rfl
  have hx : ∀ i, i < R.length → R.getD i 0 < n := fun i hi => hl _ (getD_mem hi)
  have hm : ∀ i, i < R.length → IsI ((s (R.getD i 0) : Rat) * M0 i R.length * (D : Rat)) ∧ ab (M0 i R.length) ≤ ((Ke + Kk : Nat) : Rat) := fun i hi => by
    obtain ⟨s0, s1, s2⟩ := hs _ (hx i hi)
    rw [h.b i hi]
    constructor
    · have e1 : (s (R.getD i 0) : Rat) * (e (R.getD i 0) + mn n P kv (R.getD i 0)) * (D : Rat) = (s (R.getD i 0) : Rat) * (e (R.getD i 0) * (D : Rat)) + sm n (fun y => P (R.getD i 0) y * (s (R.getD i 0) : Rat) * (kv y * (D : Rat))) := by
        have : sm n (fun y => P (R.getD i 0) y * (s (R.getD i 0) : Rat) * (kv y * (D : Rat))) = (s (R.getD i 0) : Rat) * mn n P kv (R.getD i 0) * (D : Rat) := by
          unfold mn
          rw [← sm_mul, ← sm_mulr]
          exact sm_congr fun y _ => by grind
        rw [this]; grind
      rw [e1]
      exact ((IsI.nat _).mul (he.i _ (hx i hi))).add (IsI.sm fun y hy => (s2 y hy).mul (hk.i y hy))
    · have a1 := he.b _ (hx i hi)
      have a2 := S.mn_ab hk.b (hx i hi)
      have a3 := ab_add (e (R.getD i 0)) (mn n P kv (R.getD i 0))
      rw [Rat.natCast_add]; grind
  have ha : ∀ i, i < R.length → ∀ j, j < R.length → ab (M0 i j) ≤ 1 := fun i hi j hj => by
    rw [h.a i hi j hj]
    have p0 := S.nn _ (hx i hi) _ (hx j hj)
    have p1 : P (R.getD i 0) (R.getD j 0) ≤ 1 := by rw [← S.one _ (hx i hi)]; exact sm_ge (fun k hk => S.nn _ (hx i hi) k hk) (hx j hj)
    split
    · exact ab_le (by grind) (by grind)
    · exact ab_le (by grind) (by grind)
  refine ⟨fun i hi => ⟨(hs _ (hx i hi)).1, (hs _ (hx i hi)).2.1⟩, fun j hj => ?_, fun j hj => ?_, fun i hi j hj => ?_, fun i hi j hj => ?_, fun i hi => ?_, by decide, ?_⟩
  · show 0 < (if j < R.length then 1 else D) ∧ (if j < R.length then 1 else D) ≤ D
    have := he.pos
    split <;> omega
  · show (if j < R.length then 1 else D) ≤ 1
    rw [if_pos hj]; exact Nat.le_refl _
  · show IsI ((s (R.getD i 0) : Rat) * M0 i j * (((if j < R.length then 1 else D) : Nat) : Rat))
    by_cases q : j < R.length
    · rw [if_pos q, h1, Rat.mul_one, h.a i hi j q, show ∀ a b c : Rat, a * (b - c) = a * b - a * c from fun a b c => by grind]
      refine IsI.sub ?_ ?_
      · split
        · rw [Rat.mul_one]; exact IsI.nat _
        · rw [Rat.mul_zero]; exact IsI.zero
      · rw [Rat.mul_comm]; exact (hs _ (hx i hi)).2.2 _ (hx j q)
    · have : j = R.length := by omega
      rw [if_neg q, this]
      exact (hm i hi).1
  · show ab ((s (R.getD i 0) : Rat) * M0 i j * (((if j < R.length then 1 else D) : Nat) : Rat)) ≤ ((360 : Nat) : Rat)
    rw [if_pos hj, h1, Rat.mul_one, ab_mul, ab_of_nonneg (cast_nn _)]
    have a2 := mul_le2 (cast_le (hs _ (hx i hi)).2.1) (ha i hi j hj) (cast_nn _) (ab_nonneg _)
    rw [Rat.mul_one] at a2
    exact a2
  · show ab ((s (R.getD i 0) : Rat) * M0 i R.length * (((if R.length < R.length then 1 else D) : Nat) : Rat)) ≤ ((360 * (Ke + Kk) * D : Nat) : Rat)
    rw [if_neg (by omega), ab_mul, ab_mul, ab_of_nonneg (cast_nn _), ab_of_nonneg (cast_nn D), Rat.natCast_mul, Rat.natCast_mul]
    refine Rat.mul_le_mul_of_nonneg_right ?_ (cast_nn _)
    exact mul_le2 (cast_le (hs _ (hx i hi)).2.1) (hm i hi).2 (cast_nn _) (ab_nonneg _)
  · have := he.pos
    exact Nat.mul_pos (Nat.mul_pos (by decide) (by omega)) this
end
end Mh
end
section
set_option Elab.async false
set_option linter.all false
set_option maxRecDepth 100000
set_option maxHeartbeats 4000000
/-! the walk's own kit: what stands still and what is told of it -/
namespace Mh
open PySem PySem.Spec PyProof.Rows L2
/-! ### data in a heap -/
mutual
inductive Is (K : PySem.W.Frag) (H : Hp) : V → PyData → Prop
  | non : Is K H .non .none
  | bl (b : Bool) : Is K H (.bl b) (.bool b)
  | int (i : Int) : Is K H (.int i) (.int i)
  | str (x : Str) : Is K H (.str x) (.str x)
  | lst {a : Addr} {xs : List V} {ds : List PyData} : H a = some (.lst xs) → IsA K H xs ds → Is K H (.ref a) (.list ds)
  | tup {a : Addr} {xs : List V} {ds : List PyData} : SqT K H a xs → IsA K H xs ds → Is K H (.ref a) (.tuple ds)
inductive IsA (K : PySem.W.Frag) (H : Hp) : List V → List PyData → Prop
  | nil : IsA K H [] []
  | cons {v : V} {vs : List V} {d : PyData} {ds : List PyData} : Is K H v d → IsA K H vs ds → IsA K H (v :: vs) (d :: ds)
end
section
variable {K : PySem.W.Frag} {H H' : Hp}
theorem sqt_up {a : Addr} {xs : List V} (e : Same H H') (h : SqT K H a xs) : SqT K H' a xs := by
  rcases h with (h | ⟨o, h⟩) | h
  · exact .inl (.inl (e _ _ h))
  · exact .inl (.inr ⟨o, e _ _ h⟩)
  · exact .inr h
mutual
theorem Is.up (e : Same H H') : ∀ {v : V} {d : PyData}, Is K H v d → Is K H' v d
  | _, _, .non => .non
  | _, _, .bl b => .bl b
  | _, _, .int i => .int i
  | _, _, .str x => .str x
  | _, _, .lst h a => .lst (e _ _ h) (IsA.up e a)
  | _, _, .tup h a => .tup (sqt_up e h) (IsA.up e a)
theorem IsA.up (e : Same H H') : ∀ {vs : List V} {ds : List PyData}, IsA K H vs ds → IsA K H' vs ds
  | _, _, .nil => .nil
  | _, _, .cons a b => .cons (Is.up e a) (IsA.up e b)
end
theorem IsA.len : ∀ {vs : List V} {ds : List PyData}, IsA K H vs ds → vs.length = ds.length
  | _, _, .nil => rfl
  | _, _, .cons _ b => by rw [List.length_cons, List.length_cons, IsA.len b]
theorem IsA.get : ∀ {vs : List V} {ds : List PyData} {i : Nat} {d : PyData}, IsA K H vs ds → ds[i]? = some d → ∃ v, vs[i]? = some v ∧ Is K H v d
  | _, _, _, _, .nil, h => by simp at h
  | _, _, 0, _, .cons a _, h => ⟨_, rfl, by have := Option.some.inj h; subst this; exact a⟩
  | _, _, i + 1, _, .cons _ b, h => IsA.get (i := i) b h
theorem IsA.get' : ∀ {vs : List V} {ds : List PyData} {i : Nat} {v : V}, IsA K H vs ds → vs[i]? = some v → ∃ d, ds[i]? = some d ∧ Is K H v d
  | _, _, _, _, .nil, h => by simp at h
  | _, _, 0, _, .cons a _, h => ⟨_, rfl, by have := Option.some.inj h; subst this; exact a⟩
  | _, _, i + 1, _, .cons _ b, h => IsA.get' (i := i) b h
theorem IsA.append : ∀ {vs ws : List V} {ds es : List PyData}, IsA K H vs ds → IsA K H ws es → IsA K H (vs ++ ws) (ds ++ es)
  | _, _, _, _, .nil, b => b
  | _, _, _, _, .cons a c, b => .cons a (IsA.append c b)
theorem IsA.snoc {vs : List V} {ds : List PyData} {v : V} {d : PyData} (a : IsA K H vs ds) (b : Is K H v d) : IsA K H (vs ++ [v]) (ds ++ [d]) := a.append (.cons b .nil)
theorem IsA.set : ∀ {vs : List V} {ds : List PyData} {v : V} {d : PyData} (i : Nat), IsA K H vs ds → Is K H v d → IsA K H (vs.set i v) (ds.set i d)
  | _, _, _, _, _, .nil, _ => .nil
  | _, _, _, _, 0, .cons _ b, c => .cons c b
  | _, _, _, _, i + 1, .cons a b, c => .cons a (IsA.set i b c)
theorem IsA.drop : ∀ {vs : List V} {ds : List PyData} (i : Nat), IsA K H vs ds → IsA K H (vs.drop i) (ds.drop i)
  | _, _, 0, a => a
  | _, _, _ + 1, .nil => .nil
  | _, _, i + 1, .cons _ b => IsA.drop i b
theorem IsA.take : ∀ {vs : List V} {ds : List PyData} (i : Nat), IsA K H vs ds → IsA K H (vs.take i) (ds.take i)
  | _, _, 0, _ => .nil
  | _, _, _ + 1, .nil => .nil
  | _, _, i + 1, .cons a b => .cons a (IsA.take i b)
theorem IsA.ints : ∀ {vs : List V} {ns : List Int}, IsA K H vs (ns.map PyData.int) → vs = ns.map V.int
  | _, [], .nil => rfl
  | _, _ :: _, .cons (.int _) b => by rw [IsA.ints b]; rfl
theorem IsA.bls : ∀ {vs : List V} {ns : List Bool}, IsA K H vs (ns.map PyData.bool) → vs = ns.map V.bl
  | _, [], .nil => rfl
  | _, _ :: _, .cons (.bl _) b => by rw [IsA.bls b]; rfl
theorem IsA.of_ints : ∀ (ns : List Int), IsA K H (ns.map V.int) (ns.map PyData.int)
  | [] => .nil
  | n :: ns => .cons (.int n) (IsA.of_ints ns)
theorem IsA.of_bls : ∀ (ns : List Bool), IsA K H (ns.map V.bl) (ns.map PyData.bool)
  | [] => .nil
  | n :: ns => .cons (.bl n) (IsA.of_bls ns)
theorem Is.list {v : V} {ds : List PyData} (h : Is K H v (.list ds)) : ∃ a xs, v = .ref a ∧ H a = some (.lst xs) ∧ IsA K H xs ds := by
  cases h with
  | lst h1 h2 => exact ⟨_, _, rfl, h1, h2⟩
theorem Is.tuple {v : V} {ds : List PyData} (h : Is K H v (.tuple ds)) : ∃ a xs, v = .ref a ∧ SqT K H a xs ∧ IsA K H xs ds := by
  cases h with
  | tup h1 h2 => exact ⟨_, _, rfl, h1, h2⟩
theorem Is.int' {v : V} {i : Int} (h : Is K H v (.int i)) : v = .int i := by cases h; rfl
theorem Is.str' {v : V} {i : Str} (h : Is K H v (.str i)) : v = .str i := by cases h; rfl
theorem Is.bl' {v : V} {i : Bool} (h : Is K H v (.bool i)) : v = .bl i := by cases h; rfl
theorem Is.non' {v : V} (h : Is K H v .none) : v = .non := by cases h; rfl
theorem IsA.one {vs : List V} {d : PyData} (h : IsA K H vs [d]) : ∃ v, vs = [v] ∧ Is K H v d := by
  cases h with
  | cons a b => cases b; exact ⟨_, rfl, a⟩
theorem IsA.two {vs : List V} {d e : PyData} (h : IsA K H vs [d, e]) : ∃ v w, vs = [v, w] ∧ Is K H v d ∧ Is K H w e := by
  cases h with
  | cons a b => cases b with
    | cons b c => cases c; exact ⟨_, _, rfl, a, b⟩
theorem IsA.three {vs : List V} {d e f : PyData} (h : IsA K H vs [d, e, f]) : ∃ v w x, vs = [v, w, x] ∧ Is K H v d ∧ Is K H w e ∧ Is K H x f := by
  cases h with
  | cons a b => cases b with
    | cons b c => cases c with
      | cons c d => cases d; exact ⟨_, _, _, rfl, a, b, c⟩
theorem IsA.four {vs : List V} {d e f g : PyData} (h : IsA K H vs [d, e, f, g]) : ∃ v w x y, vs = [v, w, x, y] ∧ Is K H v d ∧ Is K H w e ∧ Is K H x f ∧ Is K H y g := by
  cases h with
  | cons a b => cases b with
    | cons b c => cases c with
      | cons c d => cases d with
        | cons d e => cases e; exact ⟨_, _, _, _, rfl, a, b, c, d⟩
theorem Is.pair {v : V} {d e : PyData} (h : Is K H v (.tuple [d, e])) : ∃ a x y, v = .ref a ∧ SqT K H a [x, y] ∧ Is K H x d ∧ Is K H y e := by
  obtain ⟨a, xs, rfl, h1, h2⟩ := h.tuple
  obtain ⟨x, y, rfl, h3, h4⟩ := h2.two
  exact ⟨a, x, y, rfl, h1, h3, h4⟩
theorem Is.triple {v : V} {d e f : PyData} (h : Is K H v (.tuple [d, e, f])) : ∃ a x y z, v = .ref a ∧ SqT K H a [x, y, z] ∧ Is K H x d ∧ Is K H y e ∧ Is K H z f := by
  obtain ⟨a, xs, rfl, h1, h2⟩ := h.tuple
  obtain ⟨x, y, z, rfl, h3, h4, h5⟩ := h2.three
  exact ⟨a, x, y, z, rfl, h1, h3, h4, h5⟩
mutual
theorem Is.dp : ∀ {v : V} {d : PyData}, Is K H v d → Dp K H v d
  | _, _, .non => .non
  | _, _, .bl b => .bl b
  | _, _, .int i => .int i
  | _, _, .str x => .str x
  | _, _, .lst h a => .lst (SqL.of h) (IsA.dp a)
  | _, _, .tup h a => .tup h (IsA.dp a)
theorem IsA.dp : ∀ {vs : List V} {ds : List PyData}, IsA K H vs ds → DpAll K H vs ds
  | _, _, .nil => .nil
  | _, _, .cons a b => .cons (Is.dp a) (IsA.dp b)
end
end
/-! ### what stands still -/
structure Ext (M : Addr → Prop) (Hs H Hs' H' : Hp) : Prop where
  s : Same Hs Hs'
  t : Same Hs' H'
  k : ∀ a o, ¬ M a → H a = some o → H' a = some o
  n : ∀ a o, H a = some o → ∃ o', H' a = some o'
  f : ∀ a o, ¬ M a → H a = some o → Hs a = none → Hs' a = none
abbrev N0 : Addr → Prop := fun _ => False
abbrev Ext0 := Ext N0
theorem same_new {H : Hp} {p : Addr} {o : HO} (h : H p = none) : Same H (upd H p o) := fun b x e => by
  rw [upd_ne (ne_of_none e h)]
  exact e
section
variable {M : Addr → Prop} {Hs H Hs1 H1 Hs2 H2 : Hp} {p : Addr} {o : HO}
theorem Ext.refl (t : Same Hs H) : Ext M Hs H Hs H := ⟨Same.refl _, t, fun _ _ _ h => h, fun _ o h => ⟨o, h⟩, fun _ _ _ _ h => h⟩
theorem Ext.trans (a : Ext M Hs H Hs1 H1) (b : Ext M Hs1 H1 Hs2 H2) : Ext M Hs H Hs2 H2 :=
  ⟨a.s.trans b.s, b.t, fun p o n h => b.k p o n (a.k p o n h), fun p o h => let ⟨o1, h1⟩ := a.n p o h; b.n p o1 h1, fun p o m h h0 => let ⟨o1, h1⟩ := a.n p o h; b.f p o1 m h1 (a.f p o m h h0)⟩
theorem Ext.weak {M' : Addr → Prop} (a : Ext M Hs H Hs1 H1) (h : ∀ p, M p → M' p) : Ext M' Hs H Hs1 H1 := ⟨a.s, a.t, fun p o n e => a.k p o (fun m => n (h p m)) e, a.n, fun p o n e => a.f p o (fun m => n (h p m)) e⟩
theorem Ext.any (a : Ext0 Hs H Hs1 H1) : Ext M Hs H Hs1 H1 := a.weak fun _ h => h.elim
theorem Ext.same (a : Ext0 Hs H Hs1 H1) : Same H H1 := fun p o h => a.k p o (fun z => z) h
/-- a new thing that stays -/
theorem Ext.new (a : Ext M Hs H Hs1 H1) (h : H1 p = none) : Ext M Hs H (upd Hs1 p o) (upd H1 p o) := by
  have h2 : Hs1 p = none := a.t.free h
  refine a.trans ⟨same_new h2, fun b x e => ?_, fun b x _ e => same_new h b x e, fun b x e => ⟨x, same_new h b x e⟩, fun b x _ e e2 => ?_⟩
  · by_cases q : b = p
    · subst q; rw [upd_same] at e ⊢; exact e
    · rw [upd_ne q] at e ⊢; exact a.t b x e
  · rw [upd_ne (ne_of_none e h)]; exact e2
/-- a new thing that may change -/
theorem Ext.newM (a : Ext M Hs H Hs1 H1) (h : H1 p = none) : Ext M Hs H Hs1 (upd H1 p o) := by
  refine a.trans ⟨Same.refl _, a.t.trans (same_new h), fun b x _ e => same_new h b x e, fun b x e => ⟨x, same_new h b x e⟩, fun b x _ e e2 => e2⟩
/-- a thing that may change does -/
theorem Ext.mut (a : Ext M Hs H Hs1 H1) (h0 : H p = none ∨ M p) (h : Hs1 p = none) : Ext M Hs H Hs1 (upd H1 p o) := by
  refine ⟨a.s, fun b x e => ?_, fun b x n e => ?_, fun b x e => ?_, a.f⟩
  · rw [upd_ne (ne_of_none e h)]; exact a.t b x e
  · have hb : b ≠ p := fun q => by
      subst q
      rcases h0 with q | q
      · rw [q] at e; cases e
      · exact n q
    rw [upd_ne hb]; exact a.k b x n e
  · by_cases q : b = p
    · subst q; exact ⟨o, upd_same⟩
    · rw [upd_ne q]; exact a.n b x e
/-- a thing of our own is left as it is from now on -/
theorem Ext.frz (a : Ext M Hs H Hs1 H1) (h0 : H p = none) (h : Hs1 p = none) (h1 : H1 p = some o) : Ext M Hs H (upd Hs1 p o) H1 := by
  refine ⟨a.s.trans (same_new h), fun b x e => ?_, a.k, a.n, fun b x m e e2 => ?_⟩
  · by_cases q : b = p
    · subst q; rw [upd_same] at e; rw [← e]; exact h1
    · rw [upd_ne q] at e; exact a.t b x e
  · rw [upd_ne (ne_of_none e h0)]; exact a.f b x m e e2
theorem Ext.frzM (a : Ext M Hs H Hs1 H1) (h0 : M p) (h : Hs1 p = none) (h1 : H1 p = some o) : Ext M Hs H (upd Hs1 p o) H1 := by
  refine ⟨a.s.trans (same_new h), fun b x e => ?_, a.k, a.n, fun b x m e e2 => ?_⟩
  · by_cases q : b = p
    · subst q; rw [upd_same] at e; rw [← e]; exact h1
    · rw [upd_ne q] at e; exact a.t b x e
  · rw [upd_ne (show b ≠ p from fun z => m (by rw [z]; exact h0))]; exact a.f b x m e e2
/-- what only the callee changes is nothing to the one who made it -/
theorem Ext.hide (a : Ext0 Hs H Hs1 H1) (b : Ext (fun q => q = p) Hs1 H1 Hs2 H2) (h : H p = none) : Ext0 Hs H Hs2 H2 := by
  have ne : ∀ {q o}, H q = some o → ¬ q = p := fun {q o} e z => by rw [z, h] at e; cases e
  exact ⟨a.s.trans b.s, b.t, fun q o n e => b.k q o (ne e) (a.k q o n e), fun q o e => let ⟨o1, h1⟩ := a.n q o e; b.n q o1 h1, fun q o m e e0 => let ⟨o1, h1⟩ := a.n q o e; b.f q o1 (ne e) h1 (a.f q o m e e0)⟩
/-- what may change, carried -/
theorem Ext.own (a : Ext M Hs H Hs1 H1) (m : ¬ M p) (h : H p = some o) (h0 : Hs p = none) : Hs1 p = none ∧ H1 p = some o := ⟨a.f p o m h h0, a.k p o m h⟩
theorem Ext.free (a : Ext M Hs H Hs1 H1) (h : H1 p = none) : H p = none := by
  cases q : H p with
  | none => rfl
  | some o =>
    obtain ⟨o', e⟩ := a.n p o q
    rw [h] at e; cases e
end
/-! ### comprehensions -/
section
variable {K : PySem.W.Frag} {J : It} {n : Nat} {G : Hp → Prop} {Y : Nat → Hp → V → Hp → Prop} {g : TG} {tt : TT} {te : TE} {vs : List Nat} {σ : L2.St} {Hs H1 : Hp} {D : Addr} {Qd : Hp → Prop}
theorem big_lt {n : Nat} (h : n ≤ 100000) : n < sizeLine := Nat.lt_of_le_of_lt h (by decide)
theorem lc_go (w : Walk J n G Y) (st : Same Hs H1) (fG : ∀ H, Same Hs H → G H) (hD : H1 D = none) (pick : Nat → Option PyData) (hn : n ≤ 100000)
    (hs : ∀ (i : Nat) (x : V) (Hs' H H' : Hp) (C : VK) (N : Hp → Prop), i < n → Ext0 Hs H1 Hs' H → Hs' D = none → Y i H x H' → (∀ y Hs4 H4 d, pick i = some d → Ext0 Hs' H Hs4 H4 → Is K Hs4 y d → C y H4) → (∀ Hs3 H3, pick i = none → Ext0 Hs' H Hs3 H3 → N H3) →
      g x (wipe σ vs) H' fun σ2 H2 => wipe σ2 vs = wipe σ vs ∧ tt σ2 H2 fun b H3 => if b = true then te σ2 H3 C else N H3)
    (hd : ∀ Hs' H' ys, Ext0 Hs H1 Hs' H' → Hs' D = none → H' D = some (.lst ys) → IsA K Hs' ys ((List.range n).filterMap pick) → Qd H') :
    ∃ W : Nat → Nat → Hp → Prop, (∃ m, W 0 m (upd H1 D (.lst []))) ∧ ∀ i m H, W i m H →
      (J.stop i H ∧ Qd H) ∨ (J.go i H ∧ ∃ Nx : Hp → Prop, (∀ H', Nx H' → ∃ m', m' < m ∧ W (i + 1) m' H') ∧ ∀ x H', J.yld i H x H' → g x (wipe σ vs) H' fun σ2 H2 => wipe σ2 vs = wipe σ vs ∧ tt σ2 H2 fun b H3 =>
        if b = true then te σ2 H3 fun y H4 => ∃ acc, H4 D = some (.lst acc) ∧ acc.length < sizeLine ∧ Nx (upd H4 D (.lst (acc ++ [y]))) else Nx H3) := by
  have hlen : ∀ i, ((List.range i).filterMap pick).length ≤ i := fun i => by
    have := List.length_filterMap_le pick (List.range i)
    rw [List.length_range] at this
    exact this
  refine lc_it (Qd := Qd) w (fun i H => ∃ Hs' acc, Ext0 Hs H1 Hs' H ∧ Hs' D = none ∧ H D = some (.lst acc) ∧ IsA K Hs' acc ((List.range i).filterMap pick))
    ⟨Hs, [], (Ext.refl st).newM hD, st.free hD, upd_same, .nil⟩ (fun i H _ ⟨Hs', acc, e, _⟩ => fG H (e.s.trans e.t)) (fun i x H H' hi ⟨Hs', acc, e, d0, d1, ha⟩ y => ?_) (fun H ⟨Hs', acc, e, d0, d1, ha⟩ => hd Hs' H acc e d0 d1 ha)
  refine hs i x Hs' H H' _ _ hi e d0 y (fun v Hs4 H4 d hp e4 hv => ?_) (fun Hs3 H3 hp e3 => ?_)
  · obtain ⟨f0, f1⟩ := e4.own (fun z => z) d1 d0
    have l1 := ha.len
    have l2 := hlen i
    refine ⟨acc, f1, big_lt (by omega), Hs4, acc ++ [v], (e.trans e4).mut (.inl hD) f0, f0, upd_same, ?_⟩
    rw [List.range_succ, List.filterMap_append]
    refine (ha.up e4.s).append ?_
    simp only [List.filterMap_cons, List.filterMap_nil, hp]
    exact .cons hv .nil
  · obtain ⟨f0, f1⟩ := e3.own (fun z => z) d1 d0
    refine ⟨Hs3, acc, e.trans e3, f0, f1, ?_⟩
    rw [List.range_succ, List.filterMap_append]
    simp only [List.filterMap_cons, List.filterMap_nil, hp, List.append_nil]
    exact ha.up e3.s
/-- .. without a test -/
theorem lc_map (w : Walk J n G Y) (st : Same Hs H1) (fG : ∀ H, Same Hs H → G H) (hD : H1 D = none) (f : Nat → PyData) (hn : n ≤ 100000)
    (hs : ∀ (i : Nat) (x : V) (Hs' H H' : Hp) (C : VK), i < n → Ext0 Hs H1 Hs' H → Hs' D = none → Y i H x H' → (∀ y Hs4 H4, Ext0 Hs' H Hs4 H4 → Is K Hs4 y (f i) → C y H4) →
      g x (wipe σ vs) H' fun σ2 H2 => wipe σ2 vs = wipe σ vs ∧ te σ2 H2 C)
    (hd : ∀ Hs' H' ys, Ext0 Hs H1 Hs' H' → Hs' D = none → H' D = some (.lst ys) → IsA K Hs' ys ((List.range n).map f) → Qd H') :
    ∃ W : Nat → Nat → Hp → Prop, (∃ m, W 0 m (upd H1 D (.lst []))) ∧ ∀ i m H, W i m H →
      (J.stop i H ∧ Qd H) ∨ (J.go i H ∧ ∃ Nx : Hp → Prop, (∀ H', Nx H' → ∃ m', m' < m ∧ W (i + 1) m' H') ∧ ∀ x H', J.yld i H x H' → g x (wipe σ vs) H' fun σ2 H2 => wipe σ2 vs = wipe σ vs ∧ tYes σ2 H2 fun b H3 =>
        if b = true then te σ2 H3 fun y H4 => ∃ acc, H4 D = some (.lst acc) ∧ acc.length < sizeLine ∧ Nx (upd H4 D (.lst (acc ++ [y]))) else Nx H3) := by
  refine lc_go (K := K) w st fG hD (fun i => some (f i)) hn (fun i x Hs' H H' C N hi e d0 y c1 _ => ?_) (fun Hs' H' ys e d0 d1 ha => hd Hs' H' ys e d0 d1 (by rw [show (fun i => some (f i)) = some ∘ f from rfl, List.filterMap_eq_map] at ha; exact ha))
  have := hs i x Hs' H H' C hi e d0 y (fun y Hs4 H4 e4 h => c1 y Hs4 H4 _ rfl e4 h)
  exact this
end
end Mh
end
section
set_option Elab.async false
set_option linter.all false
set_option maxRecDepth 100000
set_option maxHeartbeats 4000000
/-! what the text gives; rules by values, in short; numbers and places as data -/
namespace Mh
open PySem PySem.Spec PyProof.Rows L2
open C8 (Cal pe_c)
/-- a def of the text that is called by the name g -/
def Tx (K : PySem.W.Frag) (mg : Str → Option Value) (g x : Str) (st : Stmt) (ps : List Str) : Prop := ∃ (f : Addr) (fd : FuncData), Fun K x x st f fd ∧ mg g = some (.ref f) ∧ Binds K fd ps []
theorem Tx.cal {P : Program} {w : World} {K : PySem.W.Frag} {mg : Str → Option Value} {base : Heap} {g x : Str} {st : Stmt} {N ps : List Str} {k : Nat} {sp : Sp} (F : Tx K mg g x st ps) (S : FnScope N ps (defScope st)) (len : ∀ vs H Q E, sp vs H Q E → vs.length = ps.length)
    (hbody : ∀ (cdv : Value) (A : Around) (outer : List Env) (f : Addr) (s : Shared) (H : Hp) (vs : List V) (Q : VK) (E : XK), Room k (A.deeper (envOfC x (defScope st) s.heap.objs.size f cdv)) → sp vs H Q E →
      ∃ t, PSs (cxOf CX0 P w K mg base N x (defScope st) f cdv A outer s H E).nox (defBody st) t ∧ t { nx := fun _ H' => Q .non H', rt := Q } (start N vs) H) : Cal P w K mg base (k + 1) g sp [] := by
  obtain ⟨f, fd, F, hm, b⟩ := F
  exact ⟨f, fd, ps, [], F.ok S len fun cdv A outer s H vs Q E hr h => hbody cdv A outer f s H vs Q E hr h, hm, F.kp, b, .nil⟩
structure Txt (K : PySem.W.Frag) (mg : Str → Option Value) : Prop where
  d4 : Tx K mg "number" "number" s4 ["n", "d"]
  d5 : Tx K mg "compare" "compare" s5 ["a", "b"]
  d6 : Tx K mg "plus" "plus" s6 ["a", "b"]
  d7 : Tx K mg "minus" "minus" s7 ["a", "b"]
  d8 : Tx K mg "times" "times" s8 ["a", "b"]
  d9 : Tx K mg "divided" "divided" s9 ["a", "b"]
  d10 : Tx K mg "total" "total" s10 ["numbers"]
  d12 : Tx K mg "targets" "targets" s12 ["game", "place"]
  d13 : Tx K mg "copy_of" "copy_of" s13 ["place"]
  d14 : Tx K mg "with_strategy" "with_strategy" s14 ["game", "side", "strategy"]
  d16 : Tx K mg "lessened" "lessened" s16 ["row", "column", "by"]
  d17 : Tx K mg "solved_equations" "solved" s17 ["rows"]
  d19 : Tx K mg "met" "met" s19 ["chain", "places", "known", "extras"]
  d21 : Tx K mg "reached" "reached" s21 ["chain", "place"]
  d22 : Tx K mg "closed_classes" "closed_classes" s22 ["chain"]
  d23 : Tx K mg "shares_in" "shares_in" s23 ["chain", "closed"]
  d24 : Tx K mg "weighed_by" "weighed_by" s24 ["shares", "numbers"]
  d25 : Tx K mg "with_rest" "with_rest" s25 ["chain", "known", "extras"]
  d26 : Tx K mg "long_gains" "long_gains" s26 ["chain"]
  d27 : Tx K mg "leads" "leads" s27 ["chain"]
  d29 : Tx K mg "mean_of" "mean_of" s29 ["branches", "numbers"]
  d30 : Tx K mg "slack_to" "slack_to" s30 ["game", "rows", "place", "ahead"]
  d31 : Tx K mg "slack_at" "slack_at" s31 ["game", "rows", "place"]
  d32 : Tx K mg "bounding" "bounding" s32 ["game", "rows", "side", "strategy"]
  d33 : Tx K mg "lift_for" "lift_for" s33 ["slacks", "way"]
  d34 : Tx K mg "number_of" "number_of" s34 ["second", "first"]
  d35 : Tx K mg "lift_of" "lift_of" s35 ["game", "rows", "ours", "theirs"]
  d36 : Tx K mg "lifted_leads" "lifted_leads" s36 ["rows", "by", "more"]
  d39 : Tx K mg "solved_finding" "solved" s39 ["rows"]
  d41 : Tx K mg "worths" "worths" s41 ["chain", "far"]
  d42 : Tx K mg "first_strategy" "first_strategy" s42 ["game", "side"]
  d43 : Tx K mg "switched" "switched" s43 ["game", "side", "strategy", "numbers"]
  d44 : Tx K mg "replied" "replied" s44 ["game", "ours", "theirs", "far"]
  d45 : Tx K mg "best_pair" "best_pair" s45 ["game", "ours", "theirs", "far"]
  d46 : Tx K mg "found_answer" "found_answer" s46 ["game"]
  d48 : Tx K mg "least_against" "least_against" s48 ["game", "ours"]
  d49 : Tx K mg "greatest_against" "greatest_against" s49 ["game", "theirs"]
  d51 : Tx K mg "_law_played" "_law_played" s51 ["_law_game", "_law_plans_here"]
  d52 : Tx K mg "_law_pool" "_law_pool" s52 ["_law_script"]
  d53 : Tx K mg "_law_stream" "_law_stream" s53 ["_law_script"]
  d54 : Tx K mg "_law_pick" "_law_pick" s54 ["_law_pool_here", "_law_many"]
  d55 : Tx K mg "_law_cut" "_law_cut" s55 ["_law_n", "_law_d"]
  d56 : Tx K mg "_law_odds" "_law_odds" s56 ["_law_pool_here", "_law_size"]
  d57 : Tx K mg "_law_gain" "_law_gain" s57 ["_law_pool_here"]
  d58 : Tx K mg "_law_field" "_law_field" s58 ["_law_pool_here", "_law_most", "_law_pairs"]
  d59 : Tx K mg "_law_plan" "_law_plan" s59 ["_law_pool_here", "_law_game", "_law_side"]
  d60 : Tx K mg "_law_and" "_law_and" s60 ["_law_numbers"]
  d61 : Tx K mg "_law_by" "_law_by" s61 ["_law_one", "_law_other"]
  d62 : Tx K mg "_law_less_by" "_law_less_by" s62 ["_law_one", "_law_other"]
  d63 : Tx K mg "_law_cleared" "_law_cleared" s63 ["_law_rows"]
  d64 : Tx K mg "_law_flow" "_law_flow" s64 ["_law_chain"]
  d65 : Tx K mg "_law_settling" "_law_settling" s65 ["_law_flow_here"]
  d66 : Tx K mg "_law_weights" "_law_weights" s66 ["_law_flow_here", "_law_room"]
  d67 : Tx K mg "_law_long" "_law_long" s67 ["_law_chain"]
  d68 : Tx K mg "_law_order" "_law_order" s68 ["_law_one", "_law_other"]
  d69 : Tx K mg "_law_round" "_law_round" s69 ["_law_game", "_law_replies"]
  d70 : Tx K mg "_law_extreme" "_law_extreme" s70 ["_law_lists", "_law_way"]
  d71 : Tx K mg "_law_plans" "_law_plans" s71 ["_law_game", "_law_side"]
  d72 : Tx K mg "_law_low_of" "_law_low_of" s72 ["_law_game", "_law_ours"]
  d73 : Tx K mg "_law_high_of" "_law_high_of" s73 ["_law_game", "_law_theirs"]
  d74 : Tx K mg "law" "law" s74 ["_law_script"]
  b_len : mg "len" = none
  b_range : mg "range" = none
  b_enumerate : mg "enumerate" = none
  b_zip : mg "zip" = none
  b_list : mg "list" = none
  b_dict : mg "dict" = none
  b_sorted : mg "sorted" = none
  b_all : mg "all" = none
  b_any : mg "any" = none
  b_min : mg "min" = none
  b_abs : mg "abs" = none
  b_int : mg "int" = none
  b_sum : mg "sum" = none
  gcd : mg "gcd" = some (.builtin "math.gcd")
  lcm : mg "lcm" = some (.builtin "math.lcm")
  zero : mg "NOUGHT_numbers" = some (.ref (He.ga K "NOUGHT_numbers")) ∧ ∀ H, SqT K H (He.ga K "NOUGHT_numbers") [.int 0, .int 1]
  one : mg "ONE" = some (.ref (He.ga K "ONE")) ∧ ∀ H, SqT K H (He.ga K "ONE") [.int 1, .int 1]
  zerF : mg "NOUGHT_finding" = some (.ref (He.ga K "NOUGHT_finding")) ∧ ∀ H, SqT K H (He.ga K "NOUGHT_finding") [.int 0, .int 1]
/-! ### rules by values -/
abbrev rAddI : R2 := rI0 fun i j => .int (i + j)
abbrev rSubI : R2 := rI0 fun i j => .int (i - j)
abbrev rMulI : R2 := rI CMulW fun i j => .int (i * j)
abbrev rDivI : R2 := rI CDivW fun i j => .int (i / j)
abbrev rModI : R2 := rI (fun _ j => 0 < j) fun i j => .int (i % j)
abbrev rPowI : R2 := rI CPow fun i j => .int (i ^ j.toNat)
abbrev rNegI : V → Hp → VK → Prop := rU fun i => .int (-i)
abbrev rLtI : R2 := rI0 fun i j => .bl (decide (i < j))
abbrev rLeI : R2 := rI0 fun i j => .bl (decide (i ≤ j))
abbrev rGtI : R2 := rI0 fun i j => .bl (decide (j < i))
abbrev rGeI : R2 := rI0 fun i j => .bl (decide (j ≤ i))
abbrev rLenQ (K : PySem.W.Frag) : List V → Hp → VK → Prop := fun xs H Q => ∃ p ys, xs = [.ref p] ∧ (SqL K H p ys ∨ SqT K H p ys) ∧ Q (.int ys.length) H
abbrev rListQ (K : PySem.W.Frag) : List V → Hp → VK → Prop := fun xs H Q => ∃ p ys, xs = [.ref p] ∧ (SqL K H p ys ∨ SqT K H p ys) ∧ ∀ l, H l = none → Q (.ref l) (upd H l (.lst ys))
abbrev rDictD : List V → Hp → VK → Prop := fun xs H Q => ∃ (a : Addr) (kvs : List (Key × V)), xs = [.ref a] ∧ Rd H a (.dK kvs) ∧ ∀ p, H p = none → Q (.ref p) (upd H p (.dK kvs))
abbrev rMin2 : List V → Hp → VK → Prop := fun xs H Q => ∃ i j, xs = [.int i, .int j] ∧ Q (.int (if j < i then j else i)) H
abbrev rAbs : List V → Hp → VK → Prop := fun xs H Q => ∃ i, xs = [.int i] ∧ Q (.int (if i < 0 then -i else i)) H
abbrev rInt1 : List V → Hp → VK → Prop := fun xs H Q => (∃ i, xs = [.int i] ∧ Q (.int i) H) ∨ ∃ k, xs = [.bl k] ∧ Q (.int (if k then 1 else 0)) H
abbrev tTruQ (K : PySem.W.Frag) (ta : TE) : TT := fun σ H Q => ta σ H fun x H' => ∃ k, TruV K x H' k ∧ Q k H'
theorem bt_len : bootBuiltins "len" = some (.builtin "len") := PySem.boot_len
theorem bt_min : bootBuiltins "min" = some (.builtin "min") := by decide +kernel
theorem bt_abs : bootBuiltins "abs" = some (.builtin "abs") := by decide +kernel
theorem bt_sum : bootBuiltins "sum" = some (.builtin "sum") := by decide +kernel
theorem bt_all : bootBuiltins "all" = some (.builtin "all") := by decide +kernel
theorem bt_any : bootBuiltins "any" = some (.builtin "any") := by decide +kernel
theorem bt_sorted : bootBuiltins "sorted" = some (.builtin "sorted") := by decide +kernel
theorem bt_int : bootBuiltins "int" = some (.type "int") := by decide +kernel
theorem bt_list : bootBuiltins "list" = some (.type "list") := by decide +kernel
theorem bt_dict : bootBuiltins "dict" = some (.type "dict") := by decide +kernel
def rLcm : List V → Hp → VK → Prop := fun vs H Q => ∃ a b : Nat, vs = [.int a, .int b] ∧ a < 2 ^ 32 ∧ b < 2 ^ 32 ∧ Q (.int ((Nat.lcm a b : Nat) : Int)) H
section
variable {X : Cx}
theorem cr_lcm : CallR X (.builtin "math.lcm") rLcm := by
  intro pins s σ H vs us Q I r h
  obtain ⟨a, b, rfl, ha, hb, q⟩ := h
  obtain ⟨t, u, rfl⟩ := Vals.int2 r
  have e : (Nat.lcm 1 (a : Int).natAbs).lcm (b : Int).natAbs = Nat.lcm a b := by
    rw [Nat.lcm_one_left]; rfl
  have hl : Nat.lcm a b < 2 ^ 64 := by
    by_cases h0 : a = 0
    · subst h0; rw [Nat.lcm_zero_left]; decide
    · by_cases h1 : b = 0
      · subst h1; rw [Nat.lcm_zero_right]; decide
      · have : Nat.lcm a b ≤ a * b := Nat.le_of_dvd (Nat.mul_pos (by omega) (by omega)) (Nat.lcm_dvd_mul a b)
        have h2 : a * b < 2 ^ 32 * 2 ^ 32 := Nat.mul_lt_mul'' ha hb
        omega
  refine PySem.W.mg_lcm (by simp; omega) (by simp; omega) ?_ ?_
  · rw [e]
    have : (((Nat.lcm a b : Nat) : Int)).natAbs.log2 < 64 := PySem.Flt.log2_lt_of (by decide) (by simpa using hl)
    exact Nat.lt_of_lt_of_le this (by decide)
  · rw [e]
    exact ⟨.int _, H, I.tok _, ⟨_, rfl⟩, q⟩
theorem pg_list : PGet X (rIxL X.K) := by
  intro pins s σ H o i ov iv Q I rx ry h
  obtain ⟨p, xs, i, z, rfl, rfl, hq, he, q⟩ := h
  cases rx
  obtain ⟨t, rfl⟩ := ry
  obtain ⟨its, r, pl, hz⟩ := I.list hq
  obtain ⟨j, h1, h2, h3, h4, h5⟩ := atI_get he
  obtain ⟨w, ew, rw'⟩ := r.get h2
  have hl := r.length
  have hn := line63
  have fin : EP X pins σ Q w s := ⟨z, H, I, rw', q⟩
  by_cases h0 : 0 ≤ i
  · have hj : i.toNat = j := by
      rw [seqIndex_of h0 h5] at h1
      exact Option.some.inj h1
    exact wpAny_getItem_list pl.isList h0 (by omega) (by rw [hj]; simpa using ew) fin
  · have hj : (i + (its.toArray.size : Int)).toNat = j := by
      rw [seqIndex_neg (by omega) h4] at h1
      rw [List.size_toArray, ← hl]
      exact Option.some.inj h1
    exact wpAny_getItem_list_neg pl.isList (by omega) (by rw [List.size_toArray] <;> omega) (by omega) (by rw [hj]; simpa using ew) fin
end
end Mh
end
section
set_option Elab.async false
set_option linter.all false
set_option maxRecDepth 100000
set_option maxHeartbeats 4000000
/-! numbers: what is promised -/
namespace Mh
open PySem PySem.Spec PyProof.Rows L2
open C8 (Cal pe_c)
def qd (q : Rat) : PyData := .tuple [.int q.num, .int (q.den : Int)]
section
variable (K : PySem.W.Frag)
def sp4 : Sp := fun vs H Q _ => ∃ (n d : Int) (Hs : Hp), vs = [.int n, .int d] ∧ d ≠ 0 ∧ n.natAbs < 2 ^ 8995 ∧ d.natAbs < 2 ^ 8995 ∧ Same Hs H ∧ ∀ v Hs' H', Ext0 Hs H Hs' H' → Is K Hs' v (qd ((n : Rat) / (d : Rat))) → Q v H'
/-- two numbers in, a number out -/
def spQ2 (ok : Rat → Rat → Prop) (f : Rat → Rat → Rat) : Sp := fun vs H Q _ => ∃ (a b : Rat) (i j : Nat) (x y : V) (Hs : Hp), vs = [x, y] ∧ Is K Hs x (qd a) ∧ Is K Hs y (qd b) ∧ Sz i a ∧ Sz j b ∧ i + j ≤ 8990 ∧ ok a b ∧ Same Hs H ∧
  ∀ v Hs' H', Ext0 Hs H Hs' H' → Is K Hs' v (qd (f a b)) → Q v H'
def cmpq (a b : Rat) : Int := if a < b then -1 else if b < a then 1 else 0
def sp5 : Sp := fun vs H Q _ => ∃ (a b : Rat) (i j : Nat) (x y : V), vs = [x, y] ∧ Is K H x (qd a) ∧ Is K H y (qd b) ∧ Sz i a ∧ Sz j b ∧ i + j ≤ 90000 ∧ Q (.int (cmpq a b)) H
def sp6 : Sp := spQ2 K (fun _ _ => True) fun a b => a + b
def sp7 : Sp := spQ2 K (fun _ _ => True) fun a b => a - b
def sp8 : Sp := spQ2 K (fun _ _ => True) fun a b => a * b
def sp9 : Sp := spQ2 K (fun _ b => b ≠ 0) fun a b => a / b
def sp10 : Sp := fun vs H Q _ => ∃ (qs : List Rat) (k : Nat) (x : V) (Hs : Hp), vs = [x] ∧ Is K Hs x (.list (qs.map qd)) ∧ qs.length ≤ 1000 ∧ k ≤ 4490 ∧ (∀ q ∈ qs, Sz k q) ∧ (∀ i, i ≤ qs.length → Sz k (sumq (qs.take i))) ∧ Same Hs H ∧
  ∀ v Hs' H', Ext0 Hs H Hs' H' → Is K Hs' v (qd (sumq qs)) → Q v H'
end
/-! number -/
abbrev n4 : List Str := ["n", "d", "common"]
theorem sc4 : FnScope n4 ["n", "d"] (defScope s4) := ⟨rfl, rfl, rfl, by decide +kernel, rfl, by decide +kernel, by decide +kernel⟩
def t4 (K : PySem.W.Frag) : TS :=
    (tSeq (tIfS (tTest (tOp rLtI (tVar 1) (tC (.int 0)))) (tPar 0 1 (tCons (tUn rNegI (tVar 0)) (tCons (tUn rNegI (tVar 1)) tNil))) tNext)
    (tSeq (tAsg (tCB rGcd (tCons (tVar 0) (tCons (tVar 1) tNil))) (gName 2))
    (tRet (tTup (tCons (tOp rDivI (tVar 0) (tVar 2)) (tCons (tOp rDivI (tVar 1) (tVar 2)) tNil))))))
theorem der4 {P : Program} {w : World} {K : PySem.W.Frag} {mg : Str → Option Value} {base : Heap} {f : Addr} {cdv : Value} {A : Around} {outer : List Env} {s : Shared} {H : Hp} {E : XK} {qual : Str} (T : Txt K mg) (hr : Room 0 (A.deeper (envOfC qual (defScope s4) s.heap.objs.size f cdv))) :
    PSs (cxOf CX0 P w K mg base n4 qual (defScope s4) f cdv A outer s H E).nox (defBody s4) (t4 K) :=
    (pss_cons (ps_if (pt_cmpR op_lt (pv 1) pe_int (nomark _)) (pss_one (ps_par (i := 0) (j := 1) rfl sc4.nd rfl rfl (by decide) rfl rfl (pa_cons (pe_un un_neg (pv 0)) (pa_cons (pe_un un_neg (pv 1)) pa_nil)) (by rfl))) pss_nil)
    (pss_cons (ps_set (i := 2) sc4.nd rfl (.inl rfl) (pe_callBfun cr_gcd (by rfl) T.gcd (pa_cons (pv 0) (pa_cons (pv 1) pa_nil))))
    (pss_one (ps_ret (pe_tup (pa_cons (pe_op op_fdivW (pv 0) (pv 2)) (pa_cons (pe_op op_fdivW (pv 1) (pv 2)) pa_nil)))))))
theorem cal4 {P : Program} {w : World} {K : PySem.W.Frag} {mg : Str → Option Value} {base : Heap} (T : Txt K mg)
    (h : ∀ (vs : List V) (H : Hp) (Q : VK) (E : XK), sp4 K vs H Q E → t4 K { nx := fun _ H' => Q .non H', rt := Q } (start n4 vs) H) (len : ∀ vs H Q E, sp4 K vs H Q E → vs.length = 2) : Cal P w K mg base 1 "number" (sp4 K) [] :=
  Tx.cal T.d4 sc4 len fun cdv A outer f s H vs Q E hr hs => ⟨t4 K, der4 T hr, h vs H Q E hs⟩

/-! compare -/
abbrev n5 : List Str := ["a", "b", "left", "right"]
theorem sc5 : FnScope n5 ["a", "b"] (defScope s5) := ⟨rfl, rfl, rfl, by decide +kernel, rfl, by decide +kernel, by decide +kernel⟩
def t5 (K : PySem.W.Frag) : TS :=
    (tSeq (tPar 2 3 (tCons (tOp rMulI (tOp (rIxT K) (tVar 0) (tC (.int 0))) (tOp (rIxT K) (tVar 1) (tC (.int 1)))) (tCons (tOp rMulI (tOp (rIxT K) (tVar 1) (tC (.int 0))) (tOp (rIxT K) (tVar 0) (tC (.int 1)))) tNil)))
    (tSeq (tIfS (tTest (tOp rLtI (tVar 2) (tVar 3))) (tRet (tUn rNegI (tC (.int 1)))) tNext)
    (tRet (tCB rInt1 (tCons (tOp rGtI (tVar 2) (tVar 3)) tNil)))))
theorem der5 {P : Program} {w : World} {K : PySem.W.Frag} {mg : Str → Option Value} {base : Heap} {f : Addr} {cdv : Value} {A : Around} {outer : List Env} {s : Shared} {H : Hp} {E : XK} {qual : Str} (T : Txt K mg) (hr : Room 0 (A.deeper (envOfC qual (defScope s5) s.heap.objs.size f cdv))) :
    PSs (cxOf CX0 P w K mg base n5 qual (defScope s5) f cdv A outer s H E).nox (defBody s5) (t5 K) :=
    (pss_cons (ps_par (i := 2) (j := 3) rfl sc5.nd rfl rfl (by decide) rfl rfl (pa_cons (pe_op op_mulW (pe_ix ix_tup (pv 0) pe_int (fun _ _ => rfl)) (pe_ix ix_tup (pv 1) pe_int (fun _ _ => rfl))) (pa_cons (pe_op op_mulW (pe_ix ix_tup (pv 1) pe_int (fun _ _ => rfl)) (pe_ix ix_tup (pv 0) pe_int (fun _ _ => rfl))) pa_nil)) (by rfl))
    (pss_cons (ps_if (pt_cmpR op_lt (pv 2) (pv 3) (nomark _)) (pss_one (ps_ret (pe_un un_neg pe_int))) pss_nil)
    (pss_one (ps_ret (pe_callTy call_int1 (by rfl) T.b_int bt_int (pa_cons (pe_cmpR op_gt (pv 2) (pv 3) (nomark _)) pa_nil))))))
theorem cal5 {P : Program} {w : World} {K : PySem.W.Frag} {mg : Str → Option Value} {base : Heap} (T : Txt K mg)
    (h : ∀ (vs : List V) (H : Hp) (Q : VK) (E : XK), sp5 K vs H Q E → t5 K { nx := fun _ H' => Q .non H', rt := Q } (start n5 vs) H) (len : ∀ vs H Q E, sp5 K vs H Q E → vs.length = 2) : Cal P w K mg base 1 "compare" (sp5 K) [] :=
  Tx.cal T.d5 sc5 len fun cdv A outer f s H vs Q E hr hs => ⟨t5 K, der5 T hr, h vs H Q E hs⟩

/-! plus -/
abbrev n6 : List Str := ["a", "b"]
theorem sc6 : FnScope n6 ["a", "b"] (defScope s6) := ⟨rfl, rfl, rfl, by decide +kernel, rfl, by decide +kernel, by decide +kernel⟩
def t6 (K : PySem.W.Frag) : TS :=
    (tRet (tCall (sp4 K) [] E0 (tCons (tOp rAddI (tOp rMulI (tOp (rIxT K) (tVar 0) (tC (.int 0))) (tOp (rIxT K) (tVar 1) (tC (.int 1)))) (tOp rMulI (tOp (rIxT K) (tVar 1) (tC (.int 0))) (tOp (rIxT K) (tVar 0) (tC (.int 1))))) (tCons (tOp rMulI (tOp (rIxT K) (tVar 0) (tC (.int 1))) (tOp (rIxT K) (tVar 1) (tC (.int 1)))) tNil))))
theorem der6 {P : Program} {w : World} {K : PySem.W.Frag} {mg : Str → Option Value} {base : Heap} {f : Addr} {cdv : Value} {A : Around} {outer : List Env} {s : Shared} {H : Hp} {E : XK} {qual : Str} (T : Txt K mg) (hr : Room 1 (A.deeper (envOfC qual (defScope s6) s.heap.objs.size f cdv))) (C4 : Cal P w K mg base 1 "number" (sp4 K) []) :
    PSs (cxOf CX0 P w K mg base n6 qual (defScope s6) f cdv A outer s H E).nox (defBody s6) (t6 K) :=
    (pss_one (ps_ret (pe_c C4 hr (by decide) (by rfl) (pa_cons (pe_op op_add (pe_op op_mulW (pe_ix ix_tup (pv 0) pe_int (fun _ _ => rfl)) (pe_ix ix_tup (pv 1) pe_int (fun _ _ => rfl))) (pe_op op_mulW (pe_ix ix_tup (pv 1) pe_int (fun _ _ => rfl)) (pe_ix ix_tup (pv 0) pe_int (fun _ _ => rfl)))) (pa_cons (pe_op op_mulW (pe_ix ix_tup (pv 0) pe_int (fun _ _ => rfl)) (pe_ix ix_tup (pv 1) pe_int (fun _ _ => rfl))) pa_nil)))))
theorem cal6 {P : Program} {w : World} {K : PySem.W.Frag} {mg : Str → Option Value} {base : Heap} (T : Txt K mg) (C4 : Cal P w K mg base 1 "number" (sp4 K) [])
    (h : ∀ (vs : List V) (H : Hp) (Q : VK) (E : XK), sp6 K vs H Q E → t6 K { nx := fun _ H' => Q .non H', rt := Q } (start n6 vs) H) (len : ∀ vs H Q E, sp6 K vs H Q E → vs.length = 2) : Cal P w K mg base 2 "plus" (sp6 K) [] :=
  Tx.cal T.d6 sc6 len fun cdv A outer f s H vs Q E hr hs => ⟨t6 K, der6 T hr C4, h vs H Q E hs⟩

/-! minus -/
abbrev n7 : List Str := ["a", "b"]
theorem sc7 : FnScope n7 ["a", "b"] (defScope s7) := ⟨rfl, rfl, rfl, by decide +kernel, rfl, by decide +kernel, by decide +kernel⟩
def t7 (K : PySem.W.Frag) : TS :=
    (tRet (tCall (sp4 K) [] E0 (tCons (tOp rSubI (tOp rMulI (tOp (rIxT K) (tVar 0) (tC (.int 0))) (tOp (rIxT K) (tVar 1) (tC (.int 1)))) (tOp rMulI (tOp (rIxT K) (tVar 1) (tC (.int 0))) (tOp (rIxT K) (tVar 0) (tC (.int 1))))) (tCons (tOp rMulI (tOp (rIxT K) (tVar 0) (tC (.int 1))) (tOp (rIxT K) (tVar 1) (tC (.int 1)))) tNil))))
theorem der7 {P : Program} {w : World} {K : PySem.W.Frag} {mg : Str → Option Value} {base : Heap} {f : Addr} {cdv : Value} {A : Around} {outer : List Env} {s : Shared} {H : Hp} {E : XK} {qual : Str} (T : Txt K mg) (hr : Room 1 (A.deeper (envOfC qual (defScope s7) s.heap.objs.size f cdv))) (C4 : Cal P w K mg base 1 "number" (sp4 K) []) :
    PSs (cxOf CX0 P w K mg base n7 qual (defScope s7) f cdv A outer s H E).nox (defBody s7) (t7 K) :=
    (pss_one (ps_ret (pe_c C4 hr (by decide) (by rfl) (pa_cons (pe_op op_sub (pe_op op_mulW (pe_ix ix_tup (pv 0) pe_int (fun _ _ => rfl)) (pe_ix ix_tup (pv 1) pe_int (fun _ _ => rfl))) (pe_op op_mulW (pe_ix ix_tup (pv 1) pe_int (fun _ _ => rfl)) (pe_ix ix_tup (pv 0) pe_int (fun _ _ => rfl)))) (pa_cons (pe_op op_mulW (pe_ix ix_tup (pv 0) pe_int (fun _ _ => rfl)) (pe_ix ix_tup (pv 1) pe_int (fun _ _ => rfl))) pa_nil)))))
theorem cal7 {P : Program} {w : World} {K : PySem.W.Frag} {mg : Str → Option Value} {base : Heap} (T : Txt K mg) (C4 : Cal P w K mg base 1 "number" (sp4 K) [])
    (h : ∀ (vs : List V) (H : Hp) (Q : VK) (E : XK), sp7 K vs H Q E → t7 K { nx := fun _ H' => Q .non H', rt := Q } (start n7 vs) H) (len : ∀ vs H Q E, sp7 K vs H Q E → vs.length = 2) : Cal P w K mg base 2 "minus" (sp7 K) [] :=
  Tx.cal T.d7 sc7 len fun cdv A outer f s H vs Q E hr hs => ⟨t7 K, der7 T hr C4, h vs H Q E hs⟩

/-! times -/
abbrev n8 : List Str := ["a", "b"]
theorem sc8 : FnScope n8 ["a", "b"] (defScope s8) := ⟨rfl, rfl, rfl, by decide +kernel, rfl, by decide +kernel, by decide +kernel⟩
def t8 (K : PySem.W.Frag) : TS :=
    (tRet (tCall (sp4 K) [] E0 (tCons (tOp rMulI (tOp (rIxT K) (tVar 0) (tC (.int 0))) (tOp (rIxT K) (tVar 1) (tC (.int 0)))) (tCons (tOp rMulI (tOp (rIxT K) (tVar 0) (tC (.int 1))) (tOp (rIxT K) (tVar 1) (tC (.int 1)))) tNil))))
theorem der8 {P : Program} {w : World} {K : PySem.W.Frag} {mg : Str → Option Value} {base : Heap} {f : Addr} {cdv : Value} {A : Around} {outer : List Env} {s : Shared} {H : Hp} {E : XK} {qual : Str} (T : Txt K mg) (hr : Room 1 (A.deeper (envOfC qual (defScope s8) s.heap.objs.size f cdv))) (C4 : Cal P w K mg base 1 "number" (sp4 K) []) :
    PSs (cxOf CX0 P w K mg base n8 qual (defScope s8) f cdv A outer s H E).nox (defBody s8) (t8 K) :=
    (pss_one (ps_ret (pe_c C4 hr (by decide) (by rfl) (pa_cons (pe_op op_mulW (pe_ix ix_tup (pv 0) pe_int (fun _ _ => rfl)) (pe_ix ix_tup (pv 1) pe_int (fun _ _ => rfl))) (pa_cons (pe_op op_mulW (pe_ix ix_tup (pv 0) pe_int (fun _ _ => rfl)) (pe_ix ix_tup (pv 1) pe_int (fun _ _ => rfl))) pa_nil)))))
theorem cal8 {P : Program} {w : World} {K : PySem.W.Frag} {mg : Str → Option Value} {base : Heap} (T : Txt K mg) (C4 : Cal P w K mg base 1 "number" (sp4 K) [])
    (h : ∀ (vs : List V) (H : Hp) (Q : VK) (E : XK), sp8 K vs H Q E → t8 K { nx := fun _ H' => Q .non H', rt := Q } (start n8 vs) H) (len : ∀ vs H Q E, sp8 K vs H Q E → vs.length = 2) : Cal P w K mg base 2 "times" (sp8 K) [] :=
  Tx.cal T.d8 sc8 len fun cdv A outer f s H vs Q E hr hs => ⟨t8 K, der8 T hr C4, h vs H Q E hs⟩

/-! divided -/
abbrev n9 : List Str := ["a", "b"]
theorem sc9 : FnScope n9 ["a", "b"] (defScope s9) := ⟨rfl, rfl, rfl, by decide +kernel, rfl, by decide +kernel, by decide +kernel⟩
def t9 (K : PySem.W.Frag) : TS :=
    (tRet (tCall (sp4 K) [] E0 (tCons (tOp rMulI (tOp (rIxT K) (tVar 0) (tC (.int 0))) (tOp (rIxT K) (tVar 1) (tC (.int 1)))) (tCons (tOp rMulI (tOp (rIxT K) (tVar 0) (tC (.int 1))) (tOp (rIxT K) (tVar 1) (tC (.int 0)))) tNil))))
theorem der9 {P : Program} {w : World} {K : PySem.W.Frag} {mg : Str → Option Value} {base : Heap} {f : Addr} {cdv : Value} {A : Around} {outer : List Env} {s : Shared} {H : Hp} {E : XK} {qual : Str} (T : Txt K mg) (hr : Room 1 (A.deeper (envOfC qual (defScope s9) s.heap.objs.size f cdv))) (C4 : Cal P w K mg base 1 "number" (sp4 K) []) :
    PSs (cxOf CX0 P w K mg base n9 qual (defScope s9) f cdv A outer s H E).nox (defBody s9) (t9 K) :=
    (pss_one (ps_ret (pe_c C4 hr (by decide) (by rfl) (pa_cons (pe_op op_mulW (pe_ix ix_tup (pv 0) pe_int (fun _ _ => rfl)) (pe_ix ix_tup (pv 1) pe_int (fun _ _ => rfl))) (pa_cons (pe_op op_mulW (pe_ix ix_tup (pv 0) pe_int (fun _ _ => rfl)) (pe_ix ix_tup (pv 1) pe_int (fun _ _ => rfl))) pa_nil)))))
theorem cal9 {P : Program} {w : World} {K : PySem.W.Frag} {mg : Str → Option Value} {base : Heap} (T : Txt K mg) (C4 : Cal P w K mg base 1 "number" (sp4 K) [])
    (h : ∀ (vs : List V) (H : Hp) (Q : VK) (E : XK), sp9 K vs H Q E → t9 K { nx := fun _ H' => Q .non H', rt := Q } (start n9 vs) H) (len : ∀ vs H Q E, sp9 K vs H Q E → vs.length = 2) : Cal P w K mg base 2 "divided" (sp9 K) [] :=
  Tx.cal T.d9 sc9 len fun cdv A outer f s H vs Q E hr hs => ⟨t9 K, der9 T hr C4, h vs H Q E hs⟩

/-! total -/
abbrev n10 : List Str := ["numbers", "found", "one"]
theorem sc10 : FnScope n10 ["numbers"] (defScope s10) := ⟨rfl, rfl, rfl, by decide +kernel, rfl, by decide +kernel, by decide +kernel⟩
def t10 (K : PySem.W.Frag) : TS :=
    (tSeq (tAsg (tC (.ref (He.ga K "NOUGHT_numbers"))) (gName 1))
    (tSeq (tFor (iList K (tVar 0)) (gName 2)
      (tAsg (tCall (sp6 K) [] E0 (tCons (tVar 1) (tCons (tVar 2) tNil))) (gName 1)))
    (tRet (tVar 1))))
theorem der10 {P : Program} {w : World} {K : PySem.W.Frag} {mg : Str → Option Value} {base : Heap} {f : Addr} {cdv : Value} {A : Around} {outer : List Env} {s : Shared} {H : Hp} {E : XK} {qual : Str} (T : Txt K mg) (hr : Room 2 (A.deeper (envOfC qual (defScope s10) s.heap.objs.size f cdv))) (C6 : Cal P w K mg base 2 "plus" (sp6 K) []) :
    PSs (cxOf CX0 P w K mg base n10 qual (defScope s10) f cdv A outer s H E).nox (defBody s10) (t10 K) :=
    (pss_cons (ps_set (i := 1) sc10.nd rfl (.inl rfl) (pe_glob (by rfl) T.zero.1 rfl))
    (pss_cons (ps_for PassesOwn.never rfl (pi_list (pv 0)) (pg_name (i := 2) sc10.nd rfl (.inl rfl))
      (pss_one (ps_set (i := 1) sc10.nd rfl (.inl rfl) (pe_c C6 hr (by decide) (by rfl) (pa_cons (pv 1) (pa_cons (pv 2) pa_nil))))))
    (pss_one (ps_ret (pv 1)))))
theorem cal10 {P : Program} {w : World} {K : PySem.W.Frag} {mg : Str → Option Value} {base : Heap} (T : Txt K mg) (C6 : Cal P w K mg base 2 "plus" (sp6 K) [])
    (h : ∀ (vs : List V) (H : Hp) (Q : VK) (E : XK), sp10 K vs H Q E → t10 K { nx := fun _ H' => Q .non H', rt := Q } (start n10 vs) H) (len : ∀ vs H Q E, sp10 K vs H Q E → vs.length = 1) : Cal P w K mg base 3 "total" (sp10 K) [] :=
  Tx.cal T.d10 sc10 len fun cdv A outer f s H vs Q E hr hs => ⟨t10 K, der10 T hr C6, h vs H Q E hs⟩

end Mh
end
section
set_option Elab.async false
set_option linter.all false
set_option maxRecDepth 100000
set_option maxHeartbeats 4000000
/-! numbers: the readings -/
namespace Mh
open PySem PySem.Spec PyProof.Rows L2
open C8 (Cal pe_c)
theorem quot_pos {n d : Int} (hd : 0 < d) : ((n : Rat) / (d : Rat)).num = n / ((Nat.gcd n.natAbs d.natAbs : Nat) : Int) ∧ (((n : Rat) / (d : Rat)).den : Int) = d / ((Nat.gcd n.natAbs d.natAbs : Nat) : Int) := by
  obtain ⟨m, rfl⟩ : ∃ m : Nat, d = (m : Int) := ⟨d.toNat, by omega⟩
  have hm : m ≠ 0 := by omega
  have e : (n : Rat) / (((m : Int)) : Rat) = Rat.normalize n m hm := by
    rw [Rat.normalize_eq_mkRat, Rat.mkRat_eq_div]
    rfl
  rw [e, Rat.num_normalize, Rat.den_normalize]
  simp
theorem quot_neg {n d : Int} (hd : d < 0) : (n : Rat) / (d : Rat) = ((-n : Int) : Rat) / ((-d : Int) : Rat) := by
  rw [Rat.intCast_neg, Rat.intCast_neg]
  have : (d : Rat) ≠ 0 := by
    intro e
    have : d = 0 := by exact_mod_cast e
    omega
  grind
theorem tup2 {K : PySem.W.Frag} {H : Hp} {p : Addr} {i j : Int} (h : H p = some (.tup [.int i, .int j])) : Is K H (.ref p) (.tuple [.int i, .int j]) := .tup (SqT.of h) (.cons (.int _) (.cons (.int _) .nil))
theorem gcd_lt {n d : Int} {k : Nat} (hd : d ≠ 0) (h : d.natAbs < 2 ^ k) : ((Nat.gcd n.natAbs d.natAbs : Nat) : Int).natAbs < 2 ^ k := by
  have : Nat.gcd n.natAbs d.natAbs ≤ d.natAbs := Nat.gcd_le_right _ (by omega)
  simp
  omega
section
variable {K : PySem.W.Frag}
theorem h4 (vs : List V) (H : Hp) (Q : VK) (E : XK) (h : sp4 K vs H Q E) : t4 K { nx := fun _ H' => Q .non H', rt := Q } (start n4 vs) H := by
  obtain ⟨n, d, Hs, rfl, hd, hn, hdd, st, q⟩ := h
  have go : ∀ n d : Int, 0 < d → n.natAbs < 2 ^ 8995 → d.natAbs < 2 ^ 8995 → (∀ v Hs' H', Ext0 Hs H Hs' H' → Is K Hs' v (qd ((n : Rat) / (d : Rat))) → Q v H') →
      (tSeq (tAsg (tCB rGcd (tCons (tVar 0) (tCons (tVar 1) tNil))) (gName 2)) (tRet (tTup (tCons (tOp rDivI (tVar 0) (tVar 2)) (tCons (tOp rDivI (tVar 1) (tVar 2)) tNil))))) { nx := fun _ H' => Q .non H', rt := Q } [some (.int n), some (.int d), none] H := by
    intro n d hd hn hdd q
    refine ⟨_, rfl, _, rfl, n, d, rfl, ?_⟩
    have g0 : (0 : Int) < ((Nat.gcd n.natAbs d.natAbs : Nat) : Int) := by
      have := Nat.gcd_pos_of_pos_right n.natAbs (show 0 < d.natAbs by omega)
      omega
    have gw : ∀ i : Int, CDivW i ((Nat.gcd n.natAbs d.natAbs : Nat) : Int) := fun i => wide_div g0 (gcd_lt (by omega) hdd) (by decide) (by decide)
    refine ⟨_, rfl, _, rfl, _, _, rfl, rfl, gw _, _, rfl, _, rfl, _, _, rfl, rfl, gw _, (by show 2 ≤ sizeLine; decide), fun p hp => ?_⟩
    refine q _ _ _ ((Ext.refl st).new hp) ?_
    obtain ⟨e1, e2⟩ := quot_pos (n := n) hd
    unfold qd
    rw [e1, e2]
    exact tup2 upd_same
  refine ⟨_, rfl, _, _, rfl, rfl, _, rfl, ?_⟩
  refine ite2 (fun e => ?_) (fun e => ?_)
  · have e1 : d < 0 := of_decide_eq_true e
    refine ⟨_, rfl, _, rfl, _, rfl, _, rfl, _, _, rfl, ?_⟩
    exact go (-n) (-d) (by omega) (by omega) (by omega) (fun v Hs' H' ex hv => q v Hs' H' ex (by rw [quot_neg e1]; exact hv))
  · have e1 : ¬ d < 0 := fun z => e (decide_eq_true z)
    exact go n d (by omega) hn hdd q
theorem Sz.n {k : Nat} {a : Rat} (h : Sz k a) : (a.num).natAbs < 2 ^ k := h.1
theorem Sz.d {k : Nat} {a : Rat} (h : Sz k a) : ((a.den : Int)).natAbs < 2 ^ k := by simpa using h.2
theorem mulw {i j : Int} {a b : Nat} (ha : i.natAbs < 2 ^ a) (hb : j.natAbs < 2 ^ b) (h : a + b ≤ 900000) : CMulW i j :=
  wide_mul (Nat.lt_of_lt_of_le ha (Nat.pow_le_pow_right (by decide) (Nat.le_succ a))) (Nat.lt_of_lt_of_le hb (Nat.pow_le_pow_right (by decide) (Nat.le_succ b))) (by omega) (by omega) (by omega)
theorem denpos (a : Rat) : 0 < (a.den : Int) := by have := a.den_pos; omega
theorem lt_iff' (a b : Rat) : (a.num * b.den < b.num * a.den) ↔ a < b := (Rat.lt_iff a b).symm
theorem h5 (vs : List V) (H : Hp) (Q : VK) (E : XK) (h : sp5 K vs H Q E) : t5 K { nx := fun _ H' => Q .non H', rt := Q } (start n5 vs) H := by
  obtain ⟨a, b, i, j, x, y, rfl, hx, hy, za, zb, hij, q⟩ := h
  obtain ⟨pa, xa, xb, rfl, sa, q1, q2⟩ := hx.pair
  obtain ⟨pb, ya, yb, rfl, sb, q3, q4⟩ := hy.pair
  cases q1.int'; cases q2.int'; cases q3.int'; cases q4.int'
  refine ⟨_, rfl, _, _, 0, _, rfl, rfl, sa, rfl, _, rfl, _, _, 1, _, rfl, rfl, sb, rfl, _, _, rfl, rfl, mulw za.n zb.d (by omega), ?_⟩
  refine ⟨_, rfl, _, _, 0, _, rfl, rfl, sb, rfl, _, rfl, _, _, 1, _, rfl, rfl, sa, rfl, _, _, rfl, rfl, mulw zb.n za.d (by omega), _, _, rfl, ?_⟩
  refine ⟨_, rfl, _, rfl, _, _, rfl, rfl, _, rfl, ?_⟩
  refine ite2 (fun e => ?_) (fun e => ?_)
  · have e1 : a < b := (lt_iff' a b).mp (of_decide_eq_true e)
    refine ⟨_, rfl, ?_⟩
    have : cmpq a b = -1 := by unfold cmpq; rw [if_pos e1]
    rw [this] at q
    exact q
  · have e1 : ¬ a < b := fun z => e (decide_eq_true ((lt_iff' a b).mpr z))
    refine ⟨_, rfl, _, rfl, _, _, rfl, rfl, .inr ⟨_, rfl, ?_⟩⟩
    have : cmpq a b = (if decide (b.num * (a.den : Int) < a.num * (b.den : Int)) = true then (1 : Int) else 0) := by
      unfold cmpq
      rw [if_neg e1]
      by_cases e2 : b < a
      · rw [if_pos e2, if_pos (decide_eq_true ((lt_iff' b a).mpr e2))]
      · rw [if_neg e2, if_neg]
        intro z
        exact e2 ((lt_iff' b a).mp (of_decide_eq_true z))
    rw [this] at q
    exact q
theorem pw2 {k : Nat} (h : k ≤ 8995) {n : Nat} (e : n < 2 ^ k) : n < 2 ^ 8995 := Nat.lt_of_lt_of_le e (Nat.pow_le_pow_right (by decide) h)
theorem natAbs_mul_lt' {a b : Int} {i j : Nat} (h1 : a.natAbs < 2 ^ i) (h2 : b.natAbs < 2 ^ j) (h : i + j ≤ 8990) : (a * b).natAbs < 2 ^ 8990 :=
  Nat.lt_of_lt_of_le (natAbs_mul_lt h1 h2) (Nat.pow_le_pow_right (by decide) h)
theorem sum_lt {a b : Int} (h1 : a.natAbs < 2 ^ 8990) (h2 : b.natAbs < 2 ^ 8990) : (a + b).natAbs < 2 ^ 8995 := by
  have := Int.natAbs_add_le a b
  have e : (2:Nat) ^ 8995 = 2 ^ 8990 * 32 := by rw [show 8995 = 8990 + 5 by omega, Nat.pow_add]
  omega
theorem up8 {n : Nat} (e : n < 2 ^ 8990) : n < 2 ^ 8995 := Nat.lt_of_lt_of_le e (Nat.pow_le_pow_right (by decide) (by decide))
theorem quot_add (a b : Rat) : ((a.num * (b.den : Int) + b.num * (a.den : Int) : Int) : Rat) / (((a.den : Int) * (b.den : Int) : Int) : Rat) = a + b := by
  rw [Rat.intCast_add, Rat.intCast_mul, Rat.intCast_mul, Rat.intCast_mul]
  have h1 := num_den' a
  have h2 := num_den' b
  have h3 : (((a.den : Int)) : Rat) ≠ 0 := by have := denpos a; intro e; have : (a.den : Int) = 0 := by exact_mod_cast e
                                              omega
  have h4 : (((b.den : Int)) : Rat) ≠ 0 := by have := denpos b; intro e; have : (b.den : Int) = 0 := by exact_mod_cast e
                                              omega
  rw [← h1, ← h2]; grind
theorem quot_sub (a b : Rat) : ((a.num * (b.den : Int) - b.num * (a.den : Int) : Int) : Rat) / (((a.den : Int) * (b.den : Int) : Int) : Rat) = a - b := by
  rw [Rat.intCast_sub, Rat.intCast_mul, Rat.intCast_mul, Rat.intCast_mul]
  have h1 := num_den' a
  have h2 := num_den' b
  have h3 : (((a.den : Int)) : Rat) ≠ 0 := by have := denpos a; intro e; have : (a.den : Int) = 0 := by exact_mod_cast e
                                              omega
  have h4 : (((b.den : Int)) : Rat) ≠ 0 := by have := denpos b; intro e; have : (b.den : Int) = 0 := by exact_mod_cast e
                                              omega
  rw [← h1, ← h2]; grind
theorem quot_mul (a b : Rat) : ((a.num * b.num : Int) : Rat) / (((a.den : Int) * (b.den : Int) : Int) : Rat) = a * b := by
  rw [Rat.intCast_mul, Rat.intCast_mul]
  have h1 := num_den' a
  have h2 := num_den' b
  have h3 : (((a.den : Int)) : Rat) ≠ 0 := by have := denpos a; intro e; have : (a.den : Int) = 0 := by exact_mod_cast e
                                              omega
  have h4 : (((b.den : Int)) : Rat) ≠ 0 := by have := denpos b; intro e; have : (b.den : Int) = 0 := by exact_mod_cast e
                                              omega
  rw [← h1, ← h2]; grind
theorem quot_div (a b : Rat) (hb : b ≠ 0) : ((a.num * (b.den : Int) : Int) : Rat) / (((a.den : Int) * b.num : Int) : Rat) = a / b := by
  rw [Rat.intCast_mul, Rat.intCast_mul]
  have h1 := num_den' a
  have h2 := num_den' b
  have h3 : (((a.den : Int)) : Rat) ≠ 0 := by have := denpos a; intro e; have : (a.den : Int) = 0 := by exact_mod_cast e
                                              omega
  have h4 : (((b.den : Int)) : Rat) ≠ 0 := by have := denpos b; intro e; have : (b.den : Int) = 0 := by exact_mod_cast e
                                              omega
  have h5 : ((b.num : Int) : Rat) ≠ 0 := by rw [← h2]; grind
  rw [← h1, ← h2]
  rw [← h2] at h5
  grind
theorem h6 (vs : List V) (H : Hp) (Q : VK) (E : XK) (h : sp6 K vs H Q E) : t6 K { nx := fun _ H' => Q .non H', rt := Q } (start n6 vs) H := by
  obtain ⟨a, b, i, j, x, y, Hs, rfl, hx, hy, za, zb, hij, -, st, q⟩ := h
  obtain ⟨pa, xa, xb, rfl, sa, q1, q2⟩ := (hx.up st).pair
  obtain ⟨pb, ya, yb, rfl, sb, q3, q4⟩ := (hy.up st).pair
  cases q1.int'; cases q2.int'; cases q3.int'; cases q4.int'
  refine ⟨_, rfl, _, _, 0, _, rfl, rfl, sa, rfl, _, rfl, _, _, 1, _, rfl, rfl, sb, rfl, _, _, rfl, rfl, mulw za.n zb.d (by omega), ?_⟩
  refine ⟨_, rfl, _, _, 0, _, rfl, rfl, sb, rfl, _, rfl, _, _, 1, _, rfl, rfl, sa, rfl, _, _, rfl, rfl, mulw zb.n za.d (by omega), _, _, rfl, rfl, ?_⟩
  refine ⟨_, rfl, _, _, 1, _, rfl, rfl, sa, rfl, _, rfl, _, _, 1, _, rfl, rfl, sb, rfl, _, _, rfl, rfl, mulw za.d zb.d (by omega), ?_⟩
  refine ⟨_, _, Hs, rfl, Int.mul_ne_zero (den_ne a) (den_ne b), sum_lt (natAbs_mul_lt' za.n zb.d hij) (natAbs_mul_lt' zb.n za.d (by omega)), up8 (natAbs_mul_lt' za.d zb.d hij), st, ?_⟩
  intro v Hs' H' e hv
  rw [quot_add] at hv
  exact q v Hs' H' e hv
theorem h7 (vs : List V) (H : Hp) (Q : VK) (E : XK) (h : sp7 K vs H Q E) : t7 K { nx := fun _ H' => Q .non H', rt := Q } (start n7 vs) H := by
  obtain ⟨a, b, i, j, x, y, Hs, rfl, hx, hy, za, zb, hij, -, st, q⟩ := h
  obtain ⟨pa, xa, xb, rfl, sa, q1, q2⟩ := (hx.up st).pair
  obtain ⟨pb, ya, yb, rfl, sb, q3, q4⟩ := (hy.up st).pair
  cases q1.int'; cases q2.int'; cases q3.int'; cases q4.int'
  refine ⟨_, rfl, _, _, 0, _, rfl, rfl, sa, rfl, _, rfl, _, _, 1, _, rfl, rfl, sb, rfl, _, _, rfl, rfl, mulw za.n zb.d (by omega), ?_⟩
  refine ⟨_, rfl, _, _, 0, _, rfl, rfl, sb, rfl, _, rfl, _, _, 1, _, rfl, rfl, sa, rfl, _, _, rfl, rfl, mulw zb.n za.d (by omega), _, _, rfl, rfl, ?_⟩
  refine ⟨_, rfl, _, _, 1, _, rfl, rfl, sa, rfl, _, rfl, _, _, 1, _, rfl, rfl, sb, rfl, _, _, rfl, rfl, mulw za.d zb.d (by omega), ?_⟩
  have e1 := sum_lt (natAbs_mul_lt' za.n zb.d hij) (show (-(b.num * (a.den : Int))).natAbs < 2 ^ 8990 by rw [Int.natAbs_neg]; exact natAbs_mul_lt' zb.n za.d (by omega))
  rw [← Int.sub_eq_add_neg] at e1
  refine ⟨_, _, Hs, rfl, Int.mul_ne_zero (den_ne a) (den_ne b), e1, up8 (natAbs_mul_lt' za.d zb.d hij), st, ?_⟩
  intro v Hs' H' e hv
  rw [quot_sub] at hv
  exact q v Hs' H' e hv
theorem h8 (vs : List V) (H : Hp) (Q : VK) (E : XK) (h : sp8 K vs H Q E) : t8 K { nx := fun _ H' => Q .non H', rt := Q } (start n8 vs) H := by
  obtain ⟨a, b, i, j, x, y, Hs, rfl, hx, hy, za, zb, hij, -, st, q⟩ := h
  obtain ⟨pa, xa, xb, rfl, sa, q1, q2⟩ := (hx.up st).pair
  obtain ⟨pb, ya, yb, rfl, sb, q3, q4⟩ := (hy.up st).pair
  cases q1.int'; cases q2.int'; cases q3.int'; cases q4.int'
  refine ⟨_, rfl, _, _, 0, _, rfl, rfl, sa, rfl, _, rfl, _, _, 0, _, rfl, rfl, sb, rfl, _, _, rfl, rfl, mulw za.n zb.n (by omega), ?_⟩
  refine ⟨_, rfl, _, _, 1, _, rfl, rfl, sa, rfl, _, rfl, _, _, 1, _, rfl, rfl, sb, rfl, _, _, rfl, rfl, mulw za.d zb.d (by omega), ?_⟩
  refine ⟨_, _, Hs, rfl, Int.mul_ne_zero (den_ne a) (den_ne b), up8 (natAbs_mul_lt' za.n zb.n hij), up8 (natAbs_mul_lt' za.d zb.d hij), st, ?_⟩
  intro v Hs' H' e hv
  rw [quot_mul] at hv
  exact q v Hs' H' e hv
theorem num_ne {b : Rat} (hb : b ≠ 0) : b.num ≠ 0 := fun e => hb (Rat.num_eq_zero.mp e)
theorem h9 (vs : List V) (H : Hp) (Q : VK) (E : XK) (h : sp9 K vs H Q E) : t9 K { nx := fun _ H' => Q .non H', rt := Q } (start n9 vs) H := by
  obtain ⟨a, b, i, j, x, y, Hs, rfl, hx, hy, za, zb, hij, hb, st, q⟩ := h
  obtain ⟨pa, xa, xb, rfl, sa, q1, q2⟩ := (hx.up st).pair
  obtain ⟨pb, ya, yb, rfl, sb, q3, q4⟩ := (hy.up st).pair
  cases q1.int'; cases q2.int'; cases q3.int'; cases q4.int'
  refine ⟨_, rfl, _, _, 0, _, rfl, rfl, sa, rfl, _, rfl, _, _, 1, _, rfl, rfl, sb, rfl, _, _, rfl, rfl, mulw za.n zb.d (by omega), ?_⟩
  refine ⟨_, rfl, _, _, 1, _, rfl, rfl, sa, rfl, _, rfl, _, _, 0, _, rfl, rfl, sb, rfl, _, _, rfl, rfl, mulw za.d zb.n (by omega), ?_⟩
  refine ⟨_, _, Hs, rfl, Int.mul_ne_zero (den_ne a) (num_ne hb), up8 (natAbs_mul_lt' za.n zb.d hij), up8 (natAbs_mul_lt' za.d zb.n hij), st, ?_⟩
  intro v Hs' H' e hv
  rw [quot_div a b hb] at hv
  exact q v Hs' H' e hv
theorem zero_is {a : Addr} {H : Hp} (h : SqT K H a [.int 0, .int 1]) : Is K H (.ref a) (qd 0) := .tup h (.cons (.int _) (.cons (.int _) .nil))
theorem one_is {a : Addr} {H : Hp} (h : SqT K H a [.int 1, .int 1]) : Is K H (.ref a) (qd 1) := .tup h (.cons (.int _) (.cons (.int _) .nil))
theorem h10 (T : Txt K mg) (vs : List V) (H : Hp) (Q : VK) (E : XK) (h : sp10 K vs H Q E) : t10 K { nx := fun _ H' => Q .non H', rt := Q } (start n10 vs) H := by
  obtain ⟨qs, k, x, Hs, rfl, hx, hlen, hk, hz, hs, st, q⟩ := h
  obtain ⟨a, xs, rfl, ha, hxs⟩ := hx.list
  have hl : xs.length = qs.length := by rw [hxs.len, List.length_map]
  refine ⟨_, rfl, a, rfl, ⟨xs, SqL.of (st _ _ ha)⟩, for_it (walk_list (xs := xs)) (fun i σ H' => ∃ (Hs' : Hp) (v : V) (y : Option V), σ = [some (.ref a), some v, y] ∧ Ext0 Hs H Hs' H' ∧ Is K Hs' v (qd (sumq (qs.take i))))
    ⟨Hs, _, none, rfl, Ext.refl st, zero_is (T.zero.2 _)⟩ (fun i σ H' _ ⟨Hs', v, y, e, ex, _⟩ => SqL.of (ex.t _ _ (ex.s _ _ ha))) ?_ ?_⟩
  · rintro i x σ H1 H' hi ⟨Hs', v, y, rfl, ex, hv⟩ ⟨rfl, hx⟩
    obtain ⟨d, hd, hxd⟩ := hxs.get' hx
    have hi' : i < qs.length := by omega
    have hd' : d = qd qs[i] := by
      rw [List.getElem?_map, List.getElem?_eq_getElem hi'] at hd
      exact (Option.some.inj hd).symm
    subst hd'
    refine ⟨_, rfl, _, rfl, ?_⟩
    refine ⟨sumq (qs.take i), qs[i], k, k, v, x, Hs', rfl, hv, hxd.up ex.s, hs i (by omega), hz _ (List.getElem_mem hi'), by omega, trivial, ex.t, fun v2 Hs2 H2 e2 hv2 => ?_⟩
    refine ⟨Hs2, v2, some x, rfl, ex.trans e2, ?_⟩
    have : qs.take (i + 1) = qs.take i ++ [qs[i]] := by rw [List.take_succ, List.getElem?_eq_getElem hi']; rfl
    rw [this, sumq_snoc]
    exact hv2
  · rintro σ H' ⟨Hs', v, y, rfl, ex, hv⟩
    refine ⟨_, rfl, ?_⟩
    rw [hl, List.take_length] at hv
    exact q _ _ _ ex hv
end
end Mh
end
section
set_option Elab.async false
set_option linter.all false
set_option maxRecDepth 100000
set_option maxHeartbeats 4000000
/-! equations: promises and derivations -/
namespace Mh
open PySem PySem.Spec PyProof.Rows L2
open C8 (Cal pe_c)
/-- a list of so many things -/
def fl (n : Nat) (f : Nat → PyData) : List PyData := (List.range n).map f
theorem fl_len (n : Nat) (f : Nat → PyData) : (fl n f).length = n := by simp [fl]
theorem fl_get {n : Nat} {f : Nat → PyData} {i : Nat} (h : i < n) : (fl n f)[i]? = some (f i) := by simp [fl, h]
theorem fl_congr {n : Nat} {f g : Nat → PyData} (h : ∀ i, i < n → f i = g i) : fl n f = fl n g := List.map_congr_left fun i hi => h i (List.mem_range.mp hi)
theorem fl_set {n : Nat} {f : Nat → PyData} (i : Nat) (d : PyData) : (fl n f).set i d = fl n (fun j => if j = i then d else f j) := by
  apply List.ext_getElem?
  intro j
  by_cases hj : j < n
  · rw [fl_get hj, List.getElem?_set]
    by_cases e : i = j
    · subst e
      rw [if_pos rfl, if_pos rfl, if_pos (by rw [fl_len]; exact hj)]
    · rw [if_neg e, if_neg (fun q => e q.symm), fl_get hj]
  · rw [List.getElem?_eq_none (by rw [List.length_set, fl_len]; omega), List.getElem?_eq_none (by rw [fl_len]; omega)]
theorem fl_append (n m : Nat) (f g : Nat → PyData) : fl n f ++ fl m g = fl (n + m) (fun i => if i < n then f i else g (i - n)) := by
  apply List.ext_getElem?
  intro j
  by_cases hj : j < n
  · rw [List.getElem?_append_left (by rw [fl_len]; exact hj), fl_get hj, fl_get (by omega), if_pos hj]
  · by_cases h2 : j < n + m
    · rw [List.getElem?_append_right (by rw [fl_len]; omega), fl_len, fl_get (by omega), fl_get h2, if_neg hj]
    · rw [List.getElem?_eq_none (by simp [fl]; omega), List.getElem?_eq_none (by rw [fl_len]; omega)]
theorem fl_snoc (n : Nat) (f : Nat → PyData) : fl (n + 1) f = fl n f ++ [f n] := by unfold fl; rw [List.range_succ, List.map_append]; rfl
theorem fl_zero (f : Nat → PyData) : fl 0 f = [] := rfl
theorem fl_one (f : Nat → PyData) : fl 1 f = [f 0] := rfl
section
variable {K : PySem.W.Frag} {H : Hp}
theorem IsA.fget {xs : List V} {n : Nat} {f : Nat → PyData} (h : IsA K H xs (fl n f)) {i : Nat} (hi : i < n) : ∃ v, xs[i]? = some v ∧ Is K H v (f i) := h.get (fl_get hi)
theorem IsA.fget' {xs : List V} {n : Nat} {f : Nat → PyData} (h : IsA K H xs (fl n f)) {i : Nat} {v : V} (e : xs[i]? = some v) : i < n ∧ Is K H v (f i) := by
  obtain ⟨d, hd, hv⟩ := h.get' e
  have hi : i < n := by
    have := (List.getElem?_eq_some_iff.mp hd).1
    rw [fl_len] at this; exact this
  rw [fl_get hi] at hd
  cases hd
  exact ⟨hi, hv⟩
theorem IsA.flen {xs : List V} {n : Nat} {f : Nat → PyData} (h : IsA K H xs (fl n f)) : xs.length = n := by rw [h.len, fl_len]
theorem IsA.fset {xs : List V} {n : Nat} {f : Nat → PyData} (h : IsA K H xs (fl n f)) (i : Nat) {v : V} {d : PyData} (hv : Is K H v d) : IsA K H (xs.set i v) (fl n (fun j => if j = i then d else f j)) := by
  rw [← fl_set]; exact h.set i hv
theorem IsA.fcongr {xs : List V} {n : Nat} {f g : Nat → PyData} (h : IsA K H xs (fl n f)) (e : ∀ i, i < n → f i = g i) : IsA K H xs (fl n g) := by rw [← fl_congr e]; exact h
end
/-- a vector of numbers -/
def vd (n : Nat) (f : Nat → Rat) : PyData := .list (fl n fun j => qd (f j))
/-- rows of numbers -/
def md (m w : Nat) (M : Nat → Nat → Rat) : PyData := .list (fl m fun i => vd w (M i))
section
variable (K : PySem.W.Frag)
def sp16 : Sp := fun vs H Q _ => ∃ (L c : Nat) (ra rb : Nat → Rat) (x y : V) (Hs : Hp), vs = [x, .int c, y] ∧ c < L ∧ L ≤ 1000 ∧ Is K Hs x (vd L ra) ∧ Is K Hs y (vd L rb) ∧ (∀ j, j < L → Sz 2900 (ra j)) ∧ (∀ j, j < L → Sz 2900 (rb j)) ∧ Same Hs H ∧
  ∀ v Hs' H', Ext0 Hs H Hs' H' → Is K Hs' v (vd L fun j => ra j - ra c * rb j) → Q v H'
def sp17 : Sp := fun vs H Q _ => ∃ (m : Nat) (M0 : Nat → Row) (x : V) (Hs : Hp), vs = [x] ∧ m ≤ 50 ∧ Is K Hs x (md m (m + 1) M0) ∧ Inj m M0 ∧ Small m M0 ∧ Same Hs H ∧
  ∀ v Hs' H' y, Ext0 Hs H Hs' H' → Ans m M0 y → Is K Hs' v (vd m y) → Q v H'
end
/-! lessened -/
abbrev n16 : List Str := ["row", "column", "by", "one", "two"]
theorem sc16 : FnScope n16 ["row", "column", "by"] (defScope s16) := ⟨rfl, rfl, rfl, by decide +kernel, rfl, by decide +kernel, by decide +kernel⟩
def t16 (K : PySem.W.Frag) : TS :=
    (tRet (tLc (iZip K (tCons (tVar 0) (tCons (tVar 2) tNil))) (gTup K 2 (gCons (gName 3) (gCons (gName 4) gNil))) tYes (tCall (sp7 K) [] E0 (tCons (tVar 3) (tCons (tCall (sp8 K) [] E0 (tCons (tOp (rIxL K) (tVar 0) (tVar 1)) (tCons (tVar 4) tNil))) tNil))) [3, 4]))
theorem der16 {P : Program} {w : World} {K : PySem.W.Frag} {mg : Str → Option Value} {base : Heap} {f : Addr} {cdv : Value} {A : Around} {outer : List Env} {s : Shared} {H : Hp} {E : XK} {qual : Str} (T : Txt K mg) (hr : Room 2 (A.deeper (envOfC qual (defScope s16) s.heap.objs.size f cdv))) (C7 : Cal P w K mg base 2 "minus" (sp7 K) []) (C8 : Cal P w K mg base 2 "times" (sp8 K) []) :
    PSs (cxOf CX0 P w K mg base n16 qual (defScope s16) f cdv A outer s H E).nox (defBody s16) (t16 K) :=
    (pss_one (ps_ret (pe_lc (own := [("one", 3), ("two", 4)]) (g := (gTup K 2 (gCons (gName 3) (gCons (gName 4) gNil)))) (tt := tYes) rfl sc16.nd (pi_zip (by rfl) T.b_zip (pa_cons (pv 0) (pa_cons (pv 2) pa_nil))) (blkOk_by (own := [("one", 3), ("two", 4)]) (N := n16) (sc := defScope s16) (by decide +kernel)) (fun _ _ _ _ _ => (pg_tup rfl (pgs_cons (pg_name (i := 3) sc16.nd rfl (.inl rfl)) (pgs_cons (pg_name (i := 4) sc16.nd rfl (.inl rfl)) pgs_nil)))) (fun _ _ _ _ _ => pts_nil) (fun _ _ _ _ _ => (pe_c C7 hr (by decide) (by rfl) (pa_cons (pv 3) (pa_cons (pe_c C8 hr (by decide) (by rfl) (pa_cons (pe_ix ix_list (pv 0) (pv 1) (fun _ _ => rfl)) (pa_cons (pv 4) pa_nil))) pa_nil)))))))
theorem cal16 {P : Program} {w : World} {K : PySem.W.Frag} {mg : Str → Option Value} {base : Heap} (T : Txt K mg) (C7 : Cal P w K mg base 2 "minus" (sp7 K) []) (C8 : Cal P w K mg base 2 "times" (sp8 K) [])
    (h : ∀ (vs : List V) (H : Hp) (Q : VK) (E : XK), sp16 K vs H Q E → t16 K { nx := fun _ H' => Q .non H', rt := Q } (start n16 vs) H) (len : ∀ vs H Q E, sp16 K vs H Q E → vs.length = 3) : Cal P w K mg base 3 "lessened" (sp16 K) [] :=
  Tx.cal T.d16 sc16 len fun cdv A outer f s H vs Q E hr hs => ⟨t16 K, der16 T hr C7 C8, h vs H Q E hs⟩

/-! solved_equations -/
abbrev n17 : List Str := ["rows", "column", "pivot", "by", "at", "one", "row"]
theorem sc17 : FnScope n17 ["rows"] (defScope s17) := ⟨rfl, rfl, rfl, by decide +kernel, rfl, by decide +kernel, by decide +kernel⟩
def t17 (K : PySem.W.Frag) : TS :=
    (tSeq (tAsg (tCB (rListQ K) (tCons (tVar 0) tNil)) (gName 0))
    (tSeq (tFor (iRng1 (tCons (tCB (rLenQ K) (tCons (tVar 0) tNil)) tNil)) (gName 1)
      (tSeq (tAsg (tOp (rIxL K) (tLc (iRng2 (tCons (tVar 1) (tCons (tCB (rLenQ K) (tCons (tVar 0) tNil)) tNil))) (gName 4) (tTest (tOp (rNeD K) (tOp (rIxL K) (tOp (rIxL K) (tVar 0) (tVar 4)) (tVar 1)) (tC (.ref (He.ga K "NOUGHT_numbers"))))) (tVar 4) [4]) (tC (.int 0))) (gName 2))
    (tSeq (tAsg (tTup (tCons (tOp (rIxL K) (tVar 0) (tVar 2)) (tCons (tOp (rIxL K) (tVar 0) (tVar 1)) tNil))) (gTup K 2 (gCons (gSub (tVar 0) (tVar 1) rSetL) (gCons (gSub (tVar 0) (tVar 2) rSetL) gNil))))
    (tSeq (tAsg (tCall (sp9 K) [] E0 (tCons (tC (.ref (He.ga K "ONE"))) (tCons (tOp (rIxL K) (tOp (rIxL K) (tVar 0) (tVar 1)) (tVar 1)) tNil))) (gName 3))
    (tSeq (tAsg (tLc (iList K (tOp (rIxL K) (tVar 0) (tVar 1))) (gName 5) tYes (tCall (sp8 K) [] E0 (tCons (tVar 3) (tCons (tVar 5) tNil))) [5]) (gSub (tVar 0) (tVar 1) rSetL))
    (tFor (iRng1 (tCons (tCB (rLenQ K) (tCons (tVar 0) tNil)) tNil)) (gName 4)
      (tIfS (tAnd (tTest (tOp rNe (tVar 4) (tVar 1))) (tTest (tOp (rNeD K) (tOp (rIxL K) (tOp (rIxL K) (tVar 0) (tVar 4)) (tVar 1)) (tC (.ref (He.ga K "NOUGHT_numbers")))))) (tAsg (tCall (sp16 K) [] E0 (tCons (tOp (rIxL K) (tVar 0) (tVar 4)) (tCons (tVar 1) (tCons (tOp (rIxL K) (tVar 0) (tVar 1)) tNil)))) (gSub (tVar 0) (tVar 4) rSetL)) tNext)))))))
    (tRet (tLc (iList K (tVar 0)) (gName 6) tYes (tOp (rIxL K) (tVar 6) (tUn rNegI (tC (.int 1)))) [6]))))
theorem der17 {P : Program} {w : World} {K : PySem.W.Frag} {mg : Str → Option Value} {base : Heap} {f : Addr} {cdv : Value} {A : Around} {outer : List Env} {s : Shared} {H : Hp} {E : XK} {qual : Str} (T : Txt K mg) (hr : Room 3 (A.deeper (envOfC qual (defScope s17) s.heap.objs.size f cdv))) (C8 : Cal P w K mg base 2 "times" (sp8 K) []) (C9 : Cal P w K mg base 2 "divided" (sp9 K) []) (C16 : Cal P w K mg base 3 "lessened" (sp16 K) []) :
    PSs (cxOf CX0 P w K mg base n17 qual (defScope s17) f cdv A outer s H E).nox (defBody s17) (t17 K) :=
    (pss_cons (ps_set (i := 0) sc17.nd rfl (.inr rfl) (pe_callTy call_list_of (by rfl) T.b_list bt_list (pa_cons (pv 0) pa_nil)))
    (pss_cons (ps_for PassesOwn.never rfl (pi_range1 (by rfl) T.b_range (pa_cons (pe_callB call_len_seq (by rfl) T.b_len bt_len (pa_cons (pv 0) pa_nil)) pa_nil)) (pg_name (i := 1) sc17.nd rfl (.inr rfl))
      (pss_cons (ps_set (i := 2) sc17.nd rfl (.inl rfl) (pe_ix ix_list (pe_lc (own := [("at", 4)]) (g := (gName 4)) (tt := (tTest (tOp (rNeD K) (tOp (rIxL K) (tOp (rIxL K) (tVar 0) (tVar 4)) (tVar 1)) (tC (.ref (He.ga K "NOUGHT_numbers")))))) rfl sc17.nd (pi_range2 (by rfl) T.b_range (pa_cons (pv 1) (pa_cons (pe_callB call_len_seq (by rfl) T.b_len bt_len (pa_cons (pv 0) pa_nil)) pa_nil))) (blkOk_by (own := [("at", 4)]) (N := n17) (sc := defScope s17) (by decide +kernel)) (fun _ _ _ _ _ => (pg_name (i := 4) sc17.nd rfl (.inl rfl))) (fun _ _ _ _ _ => (pts_one (pt_cmpR (op_neD hr.units) (pe_ix ix_list (pe_ix ix_list (pv 0) (pv 4) (fun _ _ => rfl)) (pv 1) (fun _ _ => rfl)) (pe_glob (by rfl) T.zero.1 rfl) (nomark _)))) (fun _ _ _ _ _ => (pv 4))) pe_int (fun _ _ => rfl)))
    (pss_cons (ps_asg (pe_tup (pa_cons (pe_ix ix_list (pv 0) (pv 2) (fun _ _ => rfl)) (pa_cons (pe_ix ix_list (pv 0) (pv 1) (fun _ _ => rfl)) pa_nil))) (pg_tup rfl (pgs_cons (pg_sub (pv 0) (pv 1) set_list) (pgs_cons (pg_sub (pv 0) (pv 2) set_list) pgs_nil))))
    (pss_cons (ps_set (i := 3) sc17.nd rfl (.inr rfl) (pe_c C9 hr (by decide) (by rfl) (pa_cons (pe_glob (by rfl) T.one.1 rfl) (pa_cons (pe_ix ix_list (pe_ix ix_list (pv 0) (pv 1) (fun _ _ => rfl)) (pv 1) (fun _ _ => rfl)) pa_nil))))
    (pss_cons (ps_asg (pe_lc (own := [("one", 5)]) (g := (gName 5)) (tt := tYes) rfl sc17.nd (pi_list (pe_ix ix_list (pv 0) (pv 1) (fun _ _ => rfl))) (blkOk_by (own := [("one", 5)]) (N := n17) (sc := defScope s17) (by decide +kernel)) (fun _ _ _ _ _ => (pg_name (i := 5) sc17.nd rfl (.inl rfl))) (fun _ _ _ _ _ => pts_nil) (fun _ _ _ _ _ => (pe_c C8 hr (by decide) (by rfl) (pa_cons (pv 3) (pa_cons (pv 5) pa_nil))))) (pg_sub (pv 0) (pv 1) set_list))
    (pss_one (ps_for PassesOwn.never rfl (pi_range1 (by rfl) T.b_range (pa_cons (pe_callB call_len_seq (by rfl) T.b_len bt_len (pa_cons (pv 0) pa_nil)) pa_nil)) (pg_name (i := 4) sc17.nd rfl (.inl rfl))
      (pss_one (ps_if (PW.pt (pw_and (pt_cmpR op_ne (pv 4) (pv 1) (nomark _)) (pw_and1 (pt_cmpR (op_neD hr.units) (pe_ix ix_list (pe_ix ix_list (pv 0) (pv 4) (fun _ _ => rfl)) (pv 1) (fun _ _ => rfl)) (pe_glob (by rfl) T.zero.1 rfl) (nomark _))))) (pss_one (ps_asg (pe_c C16 hr (by decide) (by rfl) (pa_cons (pe_ix ix_list (pv 0) (pv 4) (fun _ _ => rfl)) (pa_cons (pv 1) (pa_cons (pe_ix ix_list (pv 0) (pv 1) (fun _ _ => rfl)) pa_nil)))) (pg_sub (pv 0) (pv 4) set_list))) pss_nil)))))))))
    (pss_one (ps_ret (pe_lc (own := [("row", 6)]) (g := (gName 6)) (tt := tYes) rfl sc17.nd (pi_list (pv 0)) (blkOk_by (own := [("row", 6)]) (N := n17) (sc := defScope s17) (by decide +kernel)) (fun _ _ _ _ _ => (pg_name (i := 6) sc17.nd rfl (.inl rfl))) (fun _ _ _ _ _ => pts_nil) (fun _ _ _ _ _ => (pe_ix ix_list (pv 6) (pe_un un_neg pe_int) (fun _ _ => rfl))))))))
theorem cal17 {P : Program} {w : World} {K : PySem.W.Frag} {mg : Str → Option Value} {base : Heap} (T : Txt K mg) (C8 : Cal P w K mg base 2 "times" (sp8 K) []) (C9 : Cal P w K mg base 2 "divided" (sp9 K) []) (C16 : Cal P w K mg base 3 "lessened" (sp16 K) [])
    (h : ∀ (vs : List V) (H : Hp) (Q : VK) (E : XK), sp17 K vs H Q E → t17 K { nx := fun _ H' => Q .non H', rt := Q } (start n17 vs) H) (len : ∀ vs H Q E, sp17 K vs H Q E → vs.length = 1) : Cal P w K mg base 4 "solved_equations" (sp17 K) [] :=
  Tx.cal T.d17 sc17 len fun cdv A outer f s H vs Q E hr hs => ⟨t17 K, der17 T hr C8 C9 C16, h vs H Q E hs⟩

end Mh
end
section
set_option Elab.async false
set_option linter.all false
set_option maxRecDepth 100000
set_option maxHeartbeats 4000000
/-! equations: the readings -/
namespace Mh
open PySem PySem.Spec PyProof.Rows L2
open C8 (Cal pe_c)
theorem eqv_qd (a b : Rat) : PyData.eqv (qd a) (qd b) = decide (a = b) := by
  show ((a.num == b.num) && (((a.den : Int) == (b.den : Int)) && true)) = _
  by_cases e : a = b
  · subst e; simp
  · rw [decide_eq_false e]
    rw [Bool.and_true, Bool.and_eq_false_iff]
    by_cases h : a.num = b.num
    · right
      have : (a.den : Int) ≠ (b.den : Int) := fun q => e (Rat.ext h (by omega))
      simpa using this
    · left
      simpa using h
theorem shaped_qd (a : Rat) : SeqAt.shaped (qd a) = true := by
  show (true && decide (PyData.depth (qd a) ≤ 64)) = true
  rw [Bool.true_and]
  exact decide_eq_true (by show max 0 (max 0 0) + 1 ≤ 64; decide)
theorem rne_qd {K : PySem.W.Frag} {H : Hp} {x y : V} {a b : Rat} {Q : VK} (hx : Is K H x (qd a)) (hy : Is K H y (qd b)) (q : Q (.bl (!decide (a = b))) H) : rNeD K x y H Q :=
  ⟨_, _, hx.dp, hy.dp, shaped_qd a, shaped_qd b, by rw [eqv_qd]; exact q⟩
theorem bl_sl {n : Nat} (h : n ≤ 100000) : n ≤ sizeLine := Nat.le_trans h (by decide)
theorem pow62 : (100000 : Int) < 2 ^ 62 := by decide
section
variable {K : PySem.W.Frag}
theorem h16 (vs : List V) (H : Hp) (Q : VK) (E : XK) (h : sp16 K vs H Q E) : t16 K { nx := fun _ H' => Q .non H', rt := Q } (start n16 vs) H := by
  obtain ⟨L, c, ra, rb, x, y, Hs, rfl, hc, hL, hx, hy, za, zb, st, q⟩ := h
  obtain ⟨a, xs, rfl, ha, hxs⟩ := hx.list
  obtain ⟨b, ys, rfl, hb, hys⟩ := hy.list
  refine ⟨_, rfl, _, rfl, a, b, xs, ys, rfl, SqL.of (st _ _ ha), SqL.of (st _ _ hb), fun D hD => ?_⟩
  refine lc_map (K := K) (walk_zip (xs := xs) (ys := ys) (n := L) (by rw [hxs.flen, hys.flen]; simp)) st (fun H' s => ⟨SqL.of (s _ _ ha), SqL.of (s _ _ hb)⟩) hD (fun j => qd (ra j - ra c * rb j)) (by omega) ?_ ?_
  · rintro i v Hs' H1 H' C hi e d0 ⟨T, vx, vy, rfl, hT, rfl, ex, ey⟩ k
    obtain ⟨_, ix⟩ := hxs.fget' ex
    obtain ⟨_, iy⟩ := hys.fget' ey
    obtain ⟨vc, exc, ic⟩ := hxs.fget hc
    have e1 : Ext0 Hs' H1 Hs' (upd H1 T (.tup [vx, vy])) := (Ext.refl e.t).newM hT
    refine ⟨T, [vx, vy], rfl, SqT.of upd_same, rfl, vx, [vy], rfl, vy, [], rfl, rfl, rfl, ?_⟩
    refine ⟨vx, rfl, ⟨_, rfl, _, rfl, a, xs, _, vc, rfl, rfl, SqL.of (e1.t _ _ (e.s _ _ ha)), atI_nat exc, vy, rfl, ?_⟩⟩
    refine ⟨ra c, rb i, 2900, 2900, vc, vy, Hs', rfl, ic.up e.s, iy.up e.s, za c hc, zb i hi, by decide, trivial, e1.t, fun w Hs2 H2 e2 hw => ?_⟩
    refine ⟨ra i, ra c * rb i, 2900, 5800, vx, w, Hs2, rfl, (ix.up e.s).up e2.s, hw, za i hi, (za c hc).mul (zb i hi), by decide, trivial, e2.t, fun w3 Hs3 H3 e3 hw3 => ?_⟩
    exact k w3 Hs3 H3 ((e1.trans e2).trans e3) hw3
  · intro Hs' H' ws e d0 d1 hw
    exact q _ _ _ (e.frz hD d0 d1) (.lst upd_same (hw.up (same_new d0)))
theorem walk_rng0 {n : Nat} : Walk (Itr 0 n) n (fun _ => True) (YFn fun i => .int ((i : Nat) : Int)) :=
  walk_range.mono (fun _ h => h) fun i H x H' _ _ y => ⟨y.1, by rw [y.2]; show V.int (0 + (i : Int)) = _; rw [Int.zero_add]⟩
theorem walk_rngc {c n : Nat} : Walk (Itr (c : Int) n) n (fun _ => True) (YFn fun i => .int ((c + i : Nat) : Int)) :=
  walk_range.mono (fun _ h => h) fun i H x H' _ _ y => ⟨y.1, by rw [y.2]; rfl⟩
theorem getD_lt {l : List Nat} {i : Nat} (h : i < l.length) : l[i]? = some (l.getD i 0) := by simp [List.getD, h]
theorem first_of {α β : Type} {f : α → Option β} {l : List α} {r : List β} {d : β} (h : l.filterMap f = d :: r) : ∃ a ∈ l, f a = some d := by
  have : d ∈ l.filterMap f := by rw [h]; simp
  obtain ⟨a, ha, e⟩ := List.mem_filterMap.mp this
  exact ⟨a, ha, e⟩
/-- two places exchanged -/
def swp (π : List Nat) (i j : Nat) : List Nat := (π.set i (π.getD j 0)).set j (π.getD i 0)
theorem swp_getD {π : List Nat} {i j k : Nat} (hi : i < π.length) (hj : j < π.length) : (swp π i j).getD k 0 = if k = j then π.getD i 0 else if k = i then π.getD j 0 else π.getD k 0 := by
  unfold swp
  simp only [List.getD_eq_getElem?_getD]
  by_cases h1 : k = j
  · subst h1
    rw [if_pos rfl, List.getElem?_set_self (by simpa using hj)]
    rfl
  · rw [if_neg h1, List.getElem?_set_ne (fun q => h1 q.symm)]
    by_cases h2 : k = i
    · subst h2
      rw [if_pos rfl, List.getElem?_set_self hi]
      rfl
    · rw [if_neg h2, List.getElem?_set_ne (fun q => h2 q.symm)]
theorem swp_len {π : List Nat} {i j : Nat} : (swp π i j).length = π.length := by simp [swp]
theorem swp_mem {π : List Nat} {i j : Nat} (hi : i < π.length) (hj : j < π.length) : ∀ p, p ∈ swp π i j ↔ p ∈ π := by
  have key : ∀ π : List Nat, ∀ p, p ∈ π ↔ ∃ k, k < π.length ∧ π.getD k 0 = p := fun π p => by
    constructor
    · intro h
      obtain ⟨k, hk, e⟩ := List.getElem_of_mem h
      exact ⟨k, hk, by simp [List.getD, hk, e]⟩
    · rintro ⟨k, hk, rfl⟩
      exact Mh.getD_mem hk
  intro p
  rw [key, key]
  constructor
  · rintro ⟨k, hk, rfl⟩
    rw [swp_len] at hk
    rw [swp_getD hi hj]
    by_cases h1 : k = j
    · rw [if_pos h1]; exact ⟨i, hi, rfl⟩
    · rw [if_neg h1]
      by_cases h2 : k = i
      · rw [if_pos h2]; exact ⟨j, hj, rfl⟩
      · rw [if_neg h2]; exact ⟨k, hk, rfl⟩
  · rintro ⟨k, hk, rfl⟩
    by_cases h1 : k = i
    · subst h1
      exact ⟨j, by rw [swp_len]; exact hj, by rw [swp_getD hi hj, if_pos rfl]⟩
    · by_cases h2 : k = j
      · subst h2
        exact ⟨i, by rw [swp_len]; exact hi, by rw [swp_getD hi hj, if_neg (fun q => h1 q.symm), if_pos rfl]⟩
      · exact ⟨k, by rw [swp_len]; exact hk, by rw [swp_getD hi hj, if_neg h2, if_neg h1]⟩
theorem nd_iff {π : List Nat} : π.Nodup ↔ ∀ a b, a < π.length → b < π.length → π.getD a 0 = π.getD b 0 → a = b := by
  have ev : ∀ a (h : a < π.length), π.getD a 0 = π[a] := fun a h => by simp [List.getD, h]
  constructor
  · intro h a b ha hb e
    rw [ev a ha, ev b hb] at e
    exact (List.getElem_inj h).mp e
  · intro h
    refine List.pairwise_iff_getElem.mpr fun a b ha hb hab e => ?_
    have := h a b ha hb (by rw [ev a ha, ev b hb, e])
    omega
theorem swp_nd {π : List Nat} {i j : Nat} (hi : i < π.length) (hj : j < π.length) (h : π.Nodup) : (swp π i j).Nodup := by
  rw [nd_iff] at h ⊢
  intro a b ha hb e
  rw [swp_len] at ha hb
  rw [swp_getD hi hj, swp_getD hi hj] at e
  by_cases a1 : a = j
  · rw [if_pos a1] at e
    by_cases b1 : b = j
    · omega
    · rw [if_neg b1] at e
      by_cases b2 : b = i
      · rw [if_pos b2] at e
        have := h i j hi hj e
        omega
      · rw [if_neg b2] at e
        have := h i b hi hb e
        omega
  · rw [if_neg a1] at e
    by_cases a2 : a = i
    · rw [if_pos a2] at e
      by_cases b1 : b = j
      · rw [if_pos b1] at e
        have := h j i hj hi e
        omega
      · rw [if_neg b1] at e
        by_cases b2 : b = i
        · omega
        · rw [if_neg b2] at e
          have := h j b hj hb e
          omega
    · rw [if_neg a2] at e
      by_cases b1 : b = j
      · rw [if_pos b1] at e
        have := h a i ha hi e
        omega
      · rw [if_neg b1] at e
        by_cases b2 : b = i
        · rw [if_pos b2] at e
          have := h a j ha hj e
          omega
        · rw [if_neg b2] at e
          exact h a b ha hb e
theorem swp_take {π : List Nat} {i j : Nat} (hi : i < π.length) (hj : j < π.length) (hij : i ≤ j) : (swp π i j).take (i + 1) = π.take i ++ [π.getD j 0] := by
  apply List.ext_getElem?
  intro k
  by_cases hk : k < i
  · rw [List.getElem?_take_of_lt (by omega), List.getElem?_append_left (by simp; omega), List.getElem?_take_of_lt hk, getD_lt (by rw [swp_len]; omega), getD_lt (show k < π.length by omega), swp_getD hi hj, if_neg (by omega), if_neg (by omega)]
  · by_cases h2 : k = i
    · subst h2
      rw [List.getElem?_take_of_lt (by omega), getD_lt (by rw [swp_len]; omega), swp_getD hi hj, List.getElem?_append_right (by simp; omega)]
      have : k - (π.take k).length = 0 := by simp; omega
      rw [this]
      by_cases h3 : k = j
      · subst h3; rw [if_pos rfl]; rfl
      · rw [if_neg h3, if_pos rfl]; rfl
    · rw [List.getElem?_eq_none (by simp; omega), List.getElem?_eq_none (by simp; omega)]
theorem not_take {π : List Nat} {i j : Nat} (h : π.Nodup) (hj : j < π.length) (hij : i ≤ j) : π.getD j 0 ∉ π.take i := by
  intro q
  obtain ⟨k, hk, e⟩ := List.getElem_of_mem q
  have hk2 : k < i := by simp at hk; omega
  have := (nd_iff.mp h) k j (by omega) hj (by
    have : π.getD k 0 = π[k] := by simp [List.getD, show k < π.length by omega]
    rw [this, ← e, List.getElem_take])
  omega
end
end Mh
end
section
set_option Elab.async false
set_option linter.all false
set_option maxRecDepth 100000
set_option maxHeartbeats 4000000
namespace Mh
open PySem PySem.Spec PyProof.Rows L2
open C8 (Cal pe_c)
open Evl (ixN_nat)
section
variable {K : PySem.W.Frag}
theorem is_vd {H : Hp} {v : V} {n : Nat} {f : Nat → Rat} (h : Is K H v (vd n f)) : ∃ a xs, v = .ref a ∧ H a = some (.lst xs) ∧ IsA K H xs (fl n fun j => qd (f j)) := h.list
theorem at_last {α : Type} {xs : List α} {m : Nat} {v : α} (hl : xs.length = m + 1) (h : xs[m]? = some v) : atI xs (-1) = some v := by
  unfold atI ixN
  rw [if_neg (by decide), if_pos (by omega)]
  show xs[(-1 + (xs.length : Int)).toNat]? = some v
  rw [show (-1 + (xs.length : Int)).toNat = m by omega]
  exact h
theorem h17 (T : Txt K mg) (vs : List V) (H : Hp) (Q : VK) (E : XK) (h : sp17 K vs H Q E) : t17 K { nx := fun _ H' => Q .non H', rt := Q } (start n17 vs) H := by
  obtain ⟨m, M0, x, Hs, rfl, hm, hx, inj, sma, st, q⟩ := h
  obtain ⟨a, xs, rfl, ha, hxs⟩ := hx.list
  refine ⟨_, rfl, a, xs, rfl, .inl (SqL.of (st _ _ ha)), fun l hl => ?_⟩
  have len0 : xs.length = m := hxs.flen
  refine ⟨_, rfl, l, xs, rfl, .inl (SqL.of upd_same), _, rfl, by omega, by omega, ?_⟩
  have en : ((xs.length : Nat) : Int).toNat = m := by omega
  rw [en]
  refine for_it walk_rng0 (fun c σ H' => ∃ (Hs' : Hp) (ys : List V) (π : List Nat) (M : Nat → Row) (y1 y2 y3 y4 y5 y6 : Option V), σ = [some (.ref l), y1, y2, y3, y4, y5, y6] ∧ Ext0 Hs H Hs' H' ∧ Hs' l = none ∧ H' l = some (.lst ys) ∧
      π.Nodup ∧ π.length = m ∧ (∀ p ∈ π, p < m) ∧ GJ m (m + 1) M0 (π.take c) M ∧ IsA K Hs' ys (fl m fun i => vd (m + 1) (M (π.getD i 0))))
    ⟨Hs, xs, List.range m, M0, _, _, _, _, _, _, rfl, (Ext.refl st).newM hl, st.free hl, upd_same, List.nodup_range, List.length_range, fun p hp => List.mem_range.mp hp, by rw [List.take_zero]; exact GJ.init _ _ _, hxs.fcongr fun i hi => by rw [show (List.range m).getD i 0 = i by simp [List.getD, hi]]⟩
    (fun _ _ _ _ _ => trivial) ?_ ?_
  · rintro c x σ H1 H' hc ⟨Hs1, ys, π, M, y1, y2, y3, y4, y5, y6, rfl, e1, l0, l1, nd, pl, pm, g, hys⟩ ⟨rfl, rfl⟩
    have lys : ys.length = m := hys.flen
    have tl : (π.take c).length = c := by simp; omega
    obtain ⟨r, hr, rn, rp⟩ := g.pivot inj (by rw [tl]; exact hc)
    rw [tl] at rp
    have rmem : r ∈ π := nd_all nd pm (by omega) hr
    obtain ⟨i', hi', ei'⟩ := List.getElem_of_mem rmem
    have gi' : π.getD i' 0 = r := by simp [List.getD, hi', ei']
    have ci' : c ≤ i' := by
      rcases Nat.lt_or_ge i' c with z | z
      · exfalso
        exact rn (by rw [← ei']; exact List.mem_take_iff_getElem.mpr ⟨i', by omega, rfl⟩)
      · exact z
    -- the pivot
    refine ⟨_, rfl, _, rfl, l, ys, rfl, .inl (SqL.of l1), (c : Int), (ys.length : Int), rfl, ⟨by omega, by omega, by omega, by omega⟩, fun D hD => ?_⟩
    have en2 : ((ys.length : Int) - (c : Int)).toNat = m - c := by omega
    rw [en2]
    have hDl : D ≠ l := fun z => by rw [z, l1] at hD; cases hD
    refine lc_go (K := K) (Hs := Hs1) (n := m - c) (walk_rngc (c := c)) e1.t (fun _ _ => trivial) hD (fun j => if M (π.getD (c + j) 0) c ≠ 0 then some (.int ((c + j : Nat) : Int)) else none) (by omega) ?_ ?_
    · rintro j x Hs2 H2 H2' C N hj e2 d0 ⟨rfl, rfl⟩ k1 k2
      obtain ⟨f0, f1⟩ := e2.own (fun z => z) l1 l0
      obtain ⟨v, ev, iv⟩ := hys.fget (i := c + j) (by omega)
      obtain ⟨b, zs, rfl, hb, hzs⟩ := is_vd iv
      obtain ⟨u, eu, iu⟩ := hzs.fget (i := c) (by omega)
      refine ⟨rfl, ?_⟩
      refine ⟨_, rfl, _, rfl, l, ys, _, _, rfl, rfl, SqL.of f1, atI_nat ev, _, rfl, b, zs, _, u, rfl, rfl, SqL.of (e2.t _ _ (e2.s _ _ hb)), atI_nat eu, ?_⟩
      refine ⟨_, _, ((iu.up e2.s).up e2.t).dp, (zero_is (T.zero.2 _)).dp, shaped_qd _, shaped_qd _, ?_⟩
      rw [eqv_qd]
      refine ⟨_, rfl, ?_⟩
      by_cases z : M (π.getD (c + j) 0) c = 0
      · rw [decide_eq_true z]
        exact k2 Hs2 _ (by rw [if_neg (by simpa using z)]) (Ext.refl e2.t)
      · rw [decide_eq_false z]
        exact ⟨_, rfl, k1 _ Hs2 _ _ (by rw [if_pos z]) (Ext.refl e2.t) (.int _)⟩
    · intro Hs2 H2 ws e2 d0 d1 hw
      obtain ⟨f0, f1⟩ := e2.own (fun z => z) l1 l0
      have hne : (List.range (m - c)).filterMap (fun j => if M (π.getD (c + j) 0) c ≠ 0 then some (PyData.int ((c + j : Nat) : Int)) else none) ≠ [] := by
        intro z
        have : PyData.int ((c + (i' - c) : Nat) : Int) ∈ (List.range (m - c)).filterMap (fun j => if M (π.getD (c + j) 0) c ≠ 0 then some (PyData.int ((c + j : Nat) : Int)) else none) :=
          List.mem_filterMap.mpr ⟨i' - c, List.mem_range.mpr (by omega), by rw [if_pos]; rw [show c + (i' - c) = i' by omega, gi']; exact rp⟩
        rw [z] at this
        cases this
      obtain ⟨d, ds, ed⟩ := List.exists_cons_of_ne_nil hne
      obtain ⟨j, hj, ej⟩ := first_of ed
      have hj := List.mem_range.mp hj
      have zj : M (π.getD (c + j) 0) c ≠ 0 := fun z => by rw [if_neg (by simpa using z)] at ej; cases ej
      rw [if_pos zj] at ej
      cases ej
      rw [ed] at hw
      obtain ⟨w0, ew0, iw0⟩ := hw.get (i := 0) rfl
      cases iw0.int'
      refine ⟨D, ws, 0, _, rfl, rfl, SqL.of d1, atI_nat ew0, ?_⟩
      -- the exchange
      obtain ⟨va, eva, iva⟩ := hys.fget (i := c + j) (by omega)
      obtain ⟨vb, evb, ivb⟩ := hys.fget (i := c) hc
      refine ⟨_, rfl, _, rfl, l, ys, _, va, rfl, rfl, SqL.of f1, atI_nat eva, _, rfl, _, rfl, l, ys, _, vb, rfl, rfl, SqL.of f1, atI_nat evb, (by show 2 ≤ sizeLine; decide), fun p hp => ?_⟩
      have hpl : l ≠ p := ne_of_none f1 hp
      have f1p : (upd H2 p (.tup [va, vb])) l = some (.lst ys) := by rw [upd_ne hpl]; exact f1
      have e3 : Ext0 Hs H Hs2 (upd H2 p (.tup [va, vb])) := ((e1.trans e2).newM hp)
      refine ⟨p, [va, vb], rfl, SqT.of upd_same, rfl, va, [vb], rfl, _, rfl, _, rfl, l, ys, _, c, rfl, rfl, f1p, ixN_nat (by omega), ?_⟩
      refine ⟨vb, [], rfl, _, rfl, _, rfl, l, _, _, c + j, rfl, rfl, upd_same, ixN_nat (by rw [List.length_set]; omega), rfl, ?_⟩
      rw [upd_upd]
      have e4 : Ext0 Hs H Hs2 (upd (upd H2 p (.tup [va, vb])) l (.lst ((ys.set c va).set (c + j) vb))) := e3.mut (.inl hl) f0
      have cjm : c + j < π.length := by omega
      have cm : c < π.length := by omega
      let π' := swp π c (c + j)
      let r := π.getD (c + j) 0
      have pc : π'.getD c 0 = r := by
        show (swp π c (c + j)).getD c 0 = _
        rw [swp_getD cm cjm]
        by_cases z : c = c + j
        · rw [if_pos z]; show π.getD c 0 = π.getD (c + j) 0; rw [← z]
        · rw [if_neg z, if_pos rfl]
      have hys2 : IsA K Hs2 ((ys.set c va).set (c + j) vb) (fl m fun i => vd (m + 1) (M (π'.getD i 0))) := by
        refine (((hys.up e2.s).fset c (iva.up e2.s)).fset (c + j) (ivb.up e2.s)).fcongr fun i hi => ?_
        show _ = vd (m + 1) (M ((swp π c (c + j)).getD i 0))
        rw [swp_getD cm cjm]
        by_cases z1 : i = c + j
        · rw [if_pos z1, if_pos z1]
        · rw [if_neg z1, if_neg z1]
          by_cases z2 : i = c
          · rw [if_pos z2, if_pos z2]
          · rw [if_neg z2, if_neg z2]
      have nd' : π'.Nodup := swp_nd cm cjm nd
      have pl' : π'.length = m := by show (swp π c (c + j)).length = m; rw [swp_len]; exact pl
      have pm' : ∀ p ∈ π', p < m := fun p hp => pm p ((swp_mem cm cjm p).mp hp)
      have tk' : π'.take (c + 1) = π.take c ++ [r] := swp_take cm cjm (by omega)
      have rm : r < m := pm _ (Mh.getD_mem cjm)
      have rnt : r ∉ π.take c := not_take nd cjm (by omega)
      have g' := g.step rm rnt (by rw [tl]; exact zj)
      rw [tl, ← tk'] at g'
      have szM := sma _ _ g
      have szP := sma _ _ g'
      generalize hY : (ys.set c va).set (c + j) vb = Y at e4 hys2
      have lY : Y.length = m := hys2.flen
      -- by
      obtain ⟨vr, evr, ivr⟩ := hys2.fget hc
      rw [pc] at ivr
      obtain ⟨br, zr, rfl, hbr, hzr⟩ := is_vd ivr
      obtain ⟨u, eu, iu⟩ := hzr.fget (i := c) (by omega)
      have i4 : Is K (upd (upd H2 p (.tup [va, vb])) l (.lst Y)) u (qd (M r c)) := iu.up e4.t
      refine ⟨_, rfl, _, rfl, l, Y, _, _, rfl, rfl, SqL.of upd_same, atI_nat evr, _, rfl, br, zr, _, u, rfl, rfl, SqL.of (e4.t _ _ hbr), atI_nat eu, ?_⟩
      refine ⟨1, M r c, 1, 2900, _, u, Hs2, rfl, one_is (T.one.2 _), iu, Sz.one (by decide), szM r rm c (by omega), by decide, zj, e4.t, fun w Hs3 H3 e5 hw3 => ?_⟩
      obtain ⟨g0, g1⟩ := e5.own (fun z => z) upd_same f0
      have szB : Sz 2900 (1 / M r c) := (szM r rm c (by omega)).inv zj
      -- the row over its pivot
      refine ⟨_, rfl, _, rfl, l, Y, _, _, rfl, rfl, SqL.of g1, atI_nat evr, br, rfl, ⟨zr, SqL.of (e5.t _ _ (e5.s _ _ hbr))⟩, fun D2 hD2 => ?_⟩
      refine lc_map (K := K) (Hs := Hs3) (n := zr.length) (walk_list (xs := zr)) e5.t (fun H' s => SqL.of (s _ _ (e5.s _ _ hbr))) hD2 (fun k => qd (piv M r c r k)) (by rw [hzr.flen]; omega) ?_ ?_
      · rintro k x Hs4 H4 H4' C hk e6 d0 ⟨rfl, hx⟩ kk
        obtain ⟨hk2, ix⟩ := hzr.fget' hx
        refine ⟨rfl, _, rfl, _, rfl, ?_⟩
        refine ⟨1 / M r c, M r k, 2900, 2900, w, x, Hs4, rfl, hw3.up e6.s, (ix.up e5.s).up e6.s, szB, szM r rm k hk2, by decide, trivial, e6.t, fun w4 Hs5 H5 e7 hw4 => ?_⟩
        refine kk w4 Hs5 H5 e7 ?_
        have : piv M r c r k = 1 / M r c * M r k := by unfold piv; rw [if_pos rfl]; grind
        rw [this]
        exact hw4
      · intro Hs4 H4 ws2 e6 d20 d21 hw4
        rw [hzr.flen] at hw4
        obtain ⟨k0, k1⟩ := e6.own (fun z => z) g1 g0
        have hD2l : D2 ≠ l := fun z => by rw [z, g1] at hD2; cases hD2
        refine ⟨_, rfl, _, rfl, l, Y, _, c, rfl, rfl, k1, ixN_nat (by omega), ?_⟩
        have e7 : Ext0 Hs H (upd Hs4 D2 (.lst ws2)) (upd H4 l (.lst (Y.set c (.ref D2)))) :=
          (((e4.trans e5).trans e6).frz (e4.free (e5.free hD2)) d20 d21).mut (.inl hl) (by rw [upd_ne hD2l.symm]; exact k0)
        have s7 : Same Hs2 (upd Hs4 D2 (.lst ws2)) := (e5.s.trans e6.s).trans (same_new d20)
        have hZ : IsA K (upd Hs4 D2 (.lst ws2)) (Y.set c (.ref D2)) (fl m fun i => vd (m + 1) (if i < 0 ∨ i = c then piv M r c (π'.getD i 0) else M (π'.getD i 0))) := by
          refine ((hys2.up s7).fset c (.lst upd_same (hw4.up (same_new d20)))).fcongr fun i hi => ?_
          show (if i = c then vd (m + 1) (piv M r c r) else _) = _
          by_cases z : i = c
          · rw [if_pos z, if_pos (.inr z), z, pc]
          · rw [if_neg z, if_neg (by omega)]
        have lZ := hZ.flen
        -- the other rows
        refine ⟨_, rfl, l, _, rfl, .inl (SqL.of upd_same), _, rfl, by omega, by omega, ?_⟩
        have en3 : (((Y.set c (V.ref D2)).length : Nat) : Int).toNat = m := by omega
        rw [en3]
        refine for_it walk_rng0 (fun k σ H' => ∃ (Hs' : Hp) (zs : List V) (y4 y5 y6 : Option V), σ = [some (.ref l), some (.int (c : Int)), some (.int ((c + j : Nat) : Int)), some w, y4, y5, y6] ∧ Ext0 Hs H Hs' H' ∧ Hs' l = none ∧ H' l = some (.lst zs) ∧
            IsA K Hs' zs (fl m fun i => vd (m + 1) (if i < k ∨ i = c then piv M r c (π'.getD i 0) else M (π'.getD i 0))))
          ⟨_, _, _, _, _, rfl, e7, by rw [upd_ne hD2l.symm]; exact k0, upd_same, hZ⟩ (fun _ _ _ _ _ => trivial) ?_ ?_
        · rintro k x σ H5 H5' hk ⟨Hs5, zs, y4, y5, y6, rfl, e8, m0, m1, hzs⟩ ⟨rfl, rfl⟩
          have lzs := hzs.flen
          have keep : k = c ∨ (k ≠ c ∧ M (π'.getD k 0) c = 0) → IsA K Hs5 zs (fl m fun i => vd (m + 1) (if i < k + 1 ∨ i = c then piv M r c (π'.getD i 0) else M (π'.getD i 0))) := fun hz => hzs.fcongr fun i hi => by
            by_cases z1 : i < k ∨ i = c
            · rw [if_pos z1, if_pos (by omega)]
            · rw [if_neg z1]
              by_cases z2 : i = k
              · rw [if_pos (by omega)]
                rcases hz with z3 | ⟨z3, z4⟩
                · omega
                · subst z2
                  congr 1
                  funext jj
                  have hne2 : π'.getD i 0 ≠ r := fun z5 => z3 ((nd_iff.mp nd') i c (by omega) (by omega) (by rw [z5, pc]))
                  unfold piv
                  rw [if_neg hne2, z4]; grind
              · rw [if_neg (by omega)]
          refine ⟨_, rfl, _, rfl, rfl, _, rfl, ?_⟩
          by_cases hkc : k = c
          · have ed : decide (V.int ((k : Nat) : Int) = V.int ((c : Nat) : Int)) = true := decide_eq_true (by rw [hkc])
            rw [ed]
            refine iteF ?_
            refine iteF ?_
            exact ⟨Hs5, zs, _, _, _, rfl, e8, m0, m1, keep (.inl hkc)⟩
          · have ed : decide (V.int ((k : Nat) : Int) = V.int ((c : Nat) : Int)) = false := decide_eq_false fun z => hkc (by have := V.int.inj z; omega)
            rw [ed]
            refine iteT ?_
            obtain ⟨vk, evk, ivk⟩ := hzs.fget hk
            rw [if_neg (show ¬ (k < k ∨ k = c) by omega)] at ivk
            obtain ⟨bk, zk, rfl, hbk, hzk⟩ := is_vd ivk
            obtain ⟨uk, euk, iuk⟩ := hzk.fget (i := c) (by omega)
            refine ⟨_, rfl, _, rfl, l, zs, _, _, rfl, rfl, SqL.of m1, atI_nat evk, _, rfl, bk, zk, _, uk, rfl, rfl, SqL.of (e8.t _ _ hbk), atI_nat euk, ?_⟩
            refine ⟨_, _, (iuk.up e8.t).dp, (zero_is (T.zero.2 _)).dp, shaped_qd _, shaped_qd _, ?_⟩
            rw [eqv_qd]
            refine ⟨_, rfl, ?_⟩
            by_cases hz : M (π'.getD k 0) c = 0
            · rw [decide_eq_true hz]
              refine iteF ?_
              exact ⟨Hs5, zs, _, _, _, rfl, e8, m0, m1, keep (.inr ⟨hkc, hz⟩)⟩
            · rw [decide_eq_false hz]
              refine iteT ?_
              obtain ⟨vc, evc, ivc⟩ := hzs.fget hc
              rw [if_pos (.inr rfl), pc] at ivc
              have pkm : π'.getD k 0 < m := pm' _ (Mh.getD_mem (by omega))
              refine ⟨_, rfl, _, rfl, l, zs, _, _, rfl, rfl, SqL.of m1, atI_nat evk, _, rfl, _, rfl, _, rfl, l, zs, _, vc, rfl, rfl, SqL.of m1, atI_nat evc, ?_⟩
              refine ⟨m + 1, c, M (π'.getD k 0), piv M r c r, _, vc, Hs5, rfl, by omega, by omega, ivk, ivc, fun jj hj => szM _ pkm jj hj, fun jj hj => szP r rm jj hj, e8.t, fun w6 Hs6 H6 e9 hw6 => ?_⟩
              obtain ⟨n0, n1⟩ := e9.own (fun z => z) m1 m0
              refine ⟨_, rfl, _, rfl, l, zs, _, k, rfl, rfl, n1, ixN_nat (by omega), ?_⟩
              refine ⟨Hs6, zs.set k w6, _, _, _, rfl, (e8.trans e9).mut (.inl hl) n0, n0, upd_same, ?_⟩
              refine ((hzs.up e9.s).fset k hw6).fcongr fun i hi => ?_
              by_cases z1 : i = k
              · rw [if_pos z1, if_pos (by omega), z1]
                congr 1
                funext jj
                have hne2 : π'.getD k 0 ≠ r := fun z5 => hkc ((nd_iff.mp nd') k c (by omega) (by omega) (by rw [z5, pc]))
                unfold piv
                rw [if_pos rfl, if_neg hne2]
              · rw [if_neg z1]
                by_cases z2 : i < k ∨ i = c
                · rw [if_pos z2, if_pos (by omega)]
                · rw [if_neg z2, if_neg (by omega)]
        · rintro σ H5 ⟨Hs5, zs, y4, y5, y6, rfl, e8, m0, m1, hzs⟩
          refine ⟨Hs5, zs, π', piv M r c, _, _, _, _, _, _, rfl, e8, m0, m1, nd', pl', pm', g', hzs.fcongr fun i hi => by rw [if_pos (.inl hi)]⟩
  · rintro σ H1 ⟨Hs1, ys, π, M, y1, y2, y3, y4, y5, y6, rfl, e1, l0, l1, nd, pl, pm, g, hys⟩
    have lys : ys.length = m := hys.flen
    rw [List.take_of_length_le (by omega)] at g
    refine ⟨_, rfl, l, rfl, ⟨ys, SqL.of l1⟩, fun D hD => ?_⟩
    have e2 := e1.frz hl l0 l1
    refine lc_map (K := K) (n := ys.length) (walk_list (xs := ys)) e2.t (fun H' s => SqL.of (s _ _ upd_same)) hD (fun k => qd (M (π.getD k 0) m)) (by omega) ?_ ?_
    · rintro k x Hs2 H2 H2' C hk e3 d0 ⟨rfl, hx⟩ kk
      obtain ⟨hk2, ix⟩ := hys.fget' hx
      obtain ⟨b, zs, rfl, hb, hzs⟩ := is_vd ix
      obtain ⟨u, eu, iu⟩ := hzs.fget (i := m) (by omega)
      have lz := hzs.flen
      have s3 : Same Hs1 Hs2 := e2.s.trans e3.s |> fun _ => (same_new l0).trans e3.s
      refine ⟨rfl, _, rfl, _, rfl, b, zs, -1, u, rfl, rfl, SqL.of (e3.t _ _ (s3 _ _ hb)), at_last lz eu, ?_⟩
      exact kk _ _ _ (Ext.refl e3.t) (iu.up s3)
    · intro Hs2 H2 ws e3 d0 d1 hw
      rw [lys] at hw
      exact q _ _ _ (fun k => M (π.getD k 0) m) ((e2.trans e3).frz (e2.free hD) d0 d1) ⟨π, M, g, pl, fun a _ => rfl⟩ (.lst upd_same (hw.up (same_new d0)))
end
end Mh
end
section
set_option Elab.async false
set_option linter.all false
set_option maxRecDepth 100000
set_option maxHeartbeats 4000000
/-! places and chains: promises and derivations -/
namespace Mh
open PySem PySem.Spec PyProof.Rows L2
open C8 (Cal pe_c)
def Kd.s : Kd → Str
  | .draw => "draw"
  | .ours => "ours"
  | .theirs => "theirs"
theorem kd_eq (k l : Kd) : decide (V.str k.s = V.str l.s) = decide (k = l) := by
  cases k <;> cases l <;> decide +kernel
def bd (k : Kd) (b : Rat × Nat) : PyData := match k with
  | .draw => .tuple [qd b.1, .int (b.2 : Int)]
  | _ => .int (b.2 : Int)
def pd (p : Pl) : PyData := .tuple [qd p.g, .str p.k.s, .list (p.bs.map (bd p.k))]
def gd (G : List Pl) : PyData := .list (fl G.length fun x => pd (pl G x))
def il (ns : List Nat) : PyData := .list (ns.map fun (n : Nat) => PyData.int (n : Int))
def od : Option Nat → PyData
  | none => .none
  | some b => .int (b : Int)
def sd (σ : List (Option Nat)) : PyData := .list (σ.map od)
def tg (G : List Pl) (x b : Nat) : Nat := ((pl G x).bs.getD b (1, 0)).2
/-- a strategy put in -/
def putP (s : Kd) (σ : List (Option Nat)) (G : List Pl) (x : Nat) : Pl := if (pl G x).k = s then ⟨(pl G x).g, .draw, [(1, tg G x ((σ.getD x none).getD 0))]⟩ else pl G x
def putIn (s : Kd) (σ : List (Option Nat)) (G : List Pl) : List Pl := (List.range G.length).map (putP s σ G)
theorem putIn_len (s : Kd) (σ : List (Option Nat)) (G : List Pl) : (putIn s σ G).length = G.length := by simp [putIn]
theorem pl_putIn (s : Kd) (σ : List (Option Nat)) (G : List Pl) {x : Nat} (h : x < G.length) : pl (putIn s σ G) x = putP s σ G x := by
  simp [pl, putIn, List.getD, h]
/-- a strategy of the side -/
structure StOk (s : Kd) (G : List Pl) (σ : List (Option Nat)) : Prop where
  len : σ.length = G.length
  at_ : ∀ x, x < G.length → (pl G x).k = s → ∃ b, σ[x]? = some (some b) ∧ b < (pl G x).bs.length
  no : ∀ x, x < G.length → (pl G x).k ≠ s → σ[x]? = some none
open Classical in
noncomputable def leastL (n : Nat) (P : Mat) : List Nat := (List.range n).filter fun x => decide (Least n P x)
section
variable (K : PySem.W.Frag)
def sp12 : Sp := fun vs H Q _ => ∃ (G : List Pl) (x : Nat) (v : V) (Hs : Hp), vs = [v, .int (x : Int)] ∧ Is K Hs v (gd G) ∧ x < G.length ∧ (pl G x).bs.length ≤ 1000 ∧ Same Hs H ∧
  ∀ u Hs' H', Ext0 Hs H Hs' H' → Is K Hs' u (il ((pl G x).bs.map (·.2))) → Q u H'
def sp13 : Sp := fun vs H Q _ => ∃ (p : Pl) (v : V) (Hs : Hp), vs = [v] ∧ Is K Hs v (pd p) ∧ Same Hs H ∧ ∀ u Hs' H', Ext0 Hs H Hs' H' → Is K Hs' u (pd p) → Q u H'
def sp14 : Sp := fun vs H Q _ => ∃ (G : List Pl) (s : Kd) (σ : List (Option Nat)) (v u : V) (Hs : Hp), vs = [v, .str s.s, u] ∧ Is K Hs v (gd G) ∧ Is K Hs u (sd σ) ∧ StOk s G σ ∧ s ≠ .draw ∧ G.length ≤ 100 ∧ Same Hs H ∧
  ∀ r Hs' H', Ext0 Hs H Hs' H' → Is K Hs' r (gd (putIn s σ G)) → Q r H'
def sp21 : Sp := fun vs H Q _ => ∃ (n : Nat) (C : List Pl) (x : Nat) (v : V) (Hs : Hp), vs = [v, .int (x : Int)] ∧ ChOk n C ∧ n ≤ 60 ∧ x < n ∧ Is K Hs v (gd C) ∧ Same Hs H ∧
  ∀ r Hs' H', Ext0 Hs H Hs' H' → Is K Hs' r (il (reachL n (Pm C) x)) → Q r H'
def sp22 : Sp := fun vs H Q _ => ∃ (n : Nat) (C : List Pl) (v : V) (Hs : Hp), vs = [v] ∧ ChOk n C ∧ n ≤ 60 ∧ Is K Hs v (gd C) ∧ Same Hs H ∧
  ∀ r Hs' H', Ext0 Hs H Hs' H' → Is K Hs' r (.list ((leastL n (Pm C)).map fun x => il (reachL n (Pm C) x))) → Q r H'
end
/-! targets -/
abbrev n12 : List Str := ["game", "place", "gain", "kind", "branches", "chance", "target"]
theorem sc12 : FnScope n12 ["game", "place"] (defScope s12) := ⟨rfl, rfl, rfl, by decide +kernel, rfl, by decide +kernel, by decide +kernel⟩
def t12 (K : PySem.W.Frag) : TS :=
    (tSeq (tAsg (tOp (rIxL K) (tVar 0) (tVar 1)) (gTup K 3 (gCons (gName 2) (gCons (gName 3) (gCons (gName 4) gNil)))))
    (tSeq (tIfS (tTest (tOp rEq (tVar 3) (tC (.str "draw")))) (tRet (tLc (iList K (tVar 4)) (gTup K 2 (gCons (gName 5) (gCons (gName 6) gNil))) tYes (tVar 6) [5, 6])) tNext)
    (tRet (tCB (rListQ K) (tCons (tVar 4) tNil)))))
theorem der12 {P : Program} {w : World} {K : PySem.W.Frag} {mg : Str → Option Value} {base : Heap} {f : Addr} {cdv : Value} {A : Around} {outer : List Env} {s : Shared} {H : Hp} {E : XK} {qual : Str} (T : Txt K mg) (hr : Room 0 (A.deeper (envOfC qual (defScope s12) s.heap.objs.size f cdv))) :
    PSs (cxOf CX0 P w K mg base n12 qual (defScope s12) f cdv A outer s H E).nox (defBody s12) (t12 K) :=
    (pss_cons (ps_asg (pe_ix ix_list (pv 0) (pv 1) (fun _ _ => rfl)) (pg_tup rfl (pgs_cons (pg_name (i := 2) sc12.nd rfl (.inl rfl)) (pgs_cons (pg_name (i := 3) sc12.nd rfl (.inl rfl)) (pgs_cons (pg_name (i := 4) sc12.nd rfl (.inl rfl)) pgs_nil)))))
    (pss_cons (ps_if (pt_cmpR op_eq (pv 3) pe_str (nomark _)) (pss_one (ps_ret (pe_lc (own := [("chance", 5), ("target", 6)]) (g := (gTup K 2 (gCons (gName 5) (gCons (gName 6) gNil)))) (tt := tYes) rfl sc12.nd (pi_list (pv 4)) (blkOk_by (own := [("chance", 5), ("target", 6)]) (N := n12) (sc := defScope s12) (by decide +kernel)) (fun _ _ _ _ _ => (pg_tup rfl (pgs_cons (pg_name (i := 5) sc12.nd rfl (.inl rfl)) (pgs_cons (pg_name (i := 6) sc12.nd rfl (.inl rfl)) pgs_nil)))) (fun _ _ _ _ _ => pts_nil) (fun _ _ _ _ _ => (pv 6))))) pss_nil)
    (pss_one (ps_ret (pe_callTy call_list_of (by rfl) T.b_list bt_list (pa_cons (pv 4) pa_nil))))))
theorem cal12 {P : Program} {w : World} {K : PySem.W.Frag} {mg : Str → Option Value} {base : Heap} (T : Txt K mg)
    (h : ∀ (vs : List V) (H : Hp) (Q : VK) (E : XK), sp12 K vs H Q E → t12 K { nx := fun _ H' => Q .non H', rt := Q } (start n12 vs) H) (len : ∀ vs H Q E, sp12 K vs H Q E → vs.length = 2) : Cal P w K mg base 1 "targets" (sp12 K) [] :=
  Tx.cal T.d12 sc12 len fun cdv A outer f s H vs Q E hr hs => ⟨t12 K, der12 T hr, h vs H Q E hs⟩

/-! copy_of -/
abbrev n13 : List Str := ["place"]
theorem sc13 : FnScope n13 ["place"] (defScope s13) := ⟨rfl, rfl, rfl, by decide +kernel, rfl, by decide +kernel, by decide +kernel⟩
def t13 (K : PySem.W.Frag) : TS :=
    (tRet (tTup (tCons (tOp (rIxT K) (tVar 0) (tC (.int 0))) (tCons (tOp (rIxT K) (tVar 0) (tC (.int 1))) (tCons (tCB (rListQ K) (tCons (tOp (rIxT K) (tVar 0) (tC (.int 2))) tNil)) tNil)))))
theorem der13 {P : Program} {w : World} {K : PySem.W.Frag} {mg : Str → Option Value} {base : Heap} {f : Addr} {cdv : Value} {A : Around} {outer : List Env} {s : Shared} {H : Hp} {E : XK} {qual : Str} (T : Txt K mg) (hr : Room 0 (A.deeper (envOfC qual (defScope s13) s.heap.objs.size f cdv))) :
    PSs (cxOf CX0 P w K mg base n13 qual (defScope s13) f cdv A outer s H E).nox (defBody s13) (t13 K) :=
    (pss_one (ps_ret (pe_tup (pa_cons (pe_ix ix_tup (pv 0) pe_int (fun _ _ => rfl)) (pa_cons (pe_ix ix_tup (pv 0) pe_int (fun _ _ => rfl)) (pa_cons (pe_callTy call_list_of (by rfl) T.b_list bt_list (pa_cons (pe_ix ix_tup (pv 0) pe_int (fun _ _ => rfl)) pa_nil)) pa_nil))))))
theorem cal13 {P : Program} {w : World} {K : PySem.W.Frag} {mg : Str → Option Value} {base : Heap} (T : Txt K mg)
    (h : ∀ (vs : List V) (H : Hp) (Q : VK) (E : XK), sp13 K vs H Q E → t13 K { nx := fun _ H' => Q .non H', rt := Q } (start n13 vs) H) (len : ∀ vs H Q E, sp13 K vs H Q E → vs.length = 1) : Cal P w K mg base 1 "copy_of" (sp13 K) [] :=
  Tx.cal T.d13 sc13 len fun cdv A outer f s H vs Q E hr hs => ⟨t13 K, der13 T hr, h vs H Q E hs⟩

/-! with_strategy -/
abbrev n14 : List Str := ["game", "side", "strategy", "found", "place", "here"]
theorem sc14 : FnScope n14 ["game", "side", "strategy"] (defScope s14) := ⟨rfl, rfl, rfl, by decide +kernel, rfl, by decide +kernel, by decide +kernel⟩
def t14 (K : PySem.W.Frag) : TS :=
    (tSeq (tAsg (tLst tNil) (gName 3))
    (tSeq (tFor (iEnum K (tCons (tVar 0) tNil)) (gTup K 2 (gCons (gName 4) (gCons (gName 5) gNil)))
      (tIfS (tTest (tOp rEq (tOp (rIxT K) (tVar 5) (tC (.int 1))) (tVar 1))) (tDrop (tBM K "list" rAppend (tVar 3) (tCons (tTup (tCons (tOp (rIxT K) (tVar 5) (tC (.int 0))) (tCons (tC (.str "draw")) (tCons (tLst (tCons (tTup (tCons (tC (.ref (He.ga K "ONE"))) (tCons (tOp (rIxL K) (tOp (rIxT K) (tVar 5) (tC (.int 2))) (tOp (rIxL K) (tVar 2) (tVar 4))) tNil))) tNil)) tNil)))) tNil))) (tDrop (tBM K "list" rAppend (tVar 3) (tCons (tCall (sp13 K) [] E0 (tCons (tVar 5) tNil)) tNil)))))
    (tRet (tVar 3))))
theorem der14 {P : Program} {w : World} {K : PySem.W.Frag} {mg : Str → Option Value} {base : Heap} {f : Addr} {cdv : Value} {A : Around} {outer : List Env} {s : Shared} {H : Hp} {E : XK} {qual : Str} (T : Txt K mg) (hr : Room 1 (A.deeper (envOfC qual (defScope s14) s.heap.objs.size f cdv))) (C13 : Cal P w K mg base 1 "copy_of" (sp13 K) []) :
    PSs (cxOf CX0 P w K mg base n14 qual (defScope s14) f cdv A outer s H E).nox (defBody s14) (t14 K) :=
    (pss_cons (ps_set (i := 3) sc14.nd rfl (.inl rfl) (pe_lst pa_nil))
    (pss_cons (ps_for PassesOwn.never rfl (pi_enum (by rfl) T.b_enumerate (pa_cons (pv 0) pa_nil)) (pg_tup rfl (pgs_cons (pg_name (i := 4) sc14.nd rfl (.inl rfl)) (pgs_cons (pg_name (i := 5) sc14.nd rfl (.inl rfl)) pgs_nil)))
      (pss_one (ps_if (pt_cmpR op_eq (pe_ix ix_tup (pv 5) pe_int (fun _ _ => rfl)) (pv 1) (nomark _)) (pss_one (ps_expr (pe_bm PySem.F.plainAttrs_list PySem.F.slot_list_append PySem.F.type_list_append mt_append (pv 3) (pa_cons (pe_tup (pa_cons (pe_ix ix_tup (pv 5) pe_int (fun _ _ => rfl)) (pa_cons pe_str (pa_cons (pe_lst (pa_cons (pe_tup (pa_cons (pe_glob (by rfl) T.one.1 rfl) (pa_cons (pe_ix ix_list (pe_ix ix_tup (pv 5) pe_int (fun _ _ => rfl)) (pe_ix ix_list (pv 2) (pv 4) (fun _ _ => rfl)) (fun _ _ => rfl)) pa_nil))) pa_nil)) pa_nil)))) pa_nil)))) (pss_one (ps_expr (pe_bm PySem.F.plainAttrs_list PySem.F.slot_list_append PySem.F.type_list_append mt_append (pv 3) (pa_cons (pe_c C13 hr (by decide) (by rfl) (pa_cons (pv 5) pa_nil)) pa_nil)))))))
    (pss_one (ps_ret (pv 3)))))
theorem cal14 {P : Program} {w : World} {K : PySem.W.Frag} {mg : Str → Option Value} {base : Heap} (T : Txt K mg) (C13 : Cal P w K mg base 1 "copy_of" (sp13 K) [])
    (h : ∀ (vs : List V) (H : Hp) (Q : VK) (E : XK), sp14 K vs H Q E → t14 K { nx := fun _ H' => Q .non H', rt := Q } (start n14 vs) H) (len : ∀ vs H Q E, sp14 K vs H Q E → vs.length = 3) : Cal P w K mg base 2 "with_strategy" (sp14 K) [] :=
  Tx.cal T.d14 sc14 len fun cdv A outer f s H vs Q E hr hs => ⟨t14 K, der14 T hr C13, h vs H Q E hs⟩

/-! reached -/
abbrev n21 : List Str := ["chain", "place", "found", "waiting", "target"]
theorem sc21 : FnScope n21 ["chain", "place"] (defScope s21) := ⟨rfl, rfl, rfl, by decide +kernel, rfl, by decide +kernel, by decide +kernel⟩
def t21 (K : PySem.W.Frag) : TS :=
    (tSeq (tAsg (tLst (tCons (tVar 1) tNil)) (gName 2))
    (tSeq (tAsg (tLst (tCons (tVar 1) tNil)) (gName 3))
    (tSeq (tWhile (tTruQ K (tVar 3)) (tFor (iList K (tCall (sp12 K) [] E0 (tCons (tVar 0) (tCons (tBM0 K "list" rPop (tVar 3)) tNil)))) (gName 4)
      (tIfS (tTest (tOp (rIn K true) (tVar 4) (tVar 2))) (tSeq (tDrop (tBM K "list" rAppend (tVar 2) (tCons (tVar 4) tNil)))
    (tDrop (tBM K "list" rAppend (tVar 3) (tCons (tVar 4) tNil)))) tNext)))
    (tRet (tCB (rSorted K) (tCons (tVar 2) tNil))))))
theorem der21 {P : Program} {w : World} {K : PySem.W.Frag} {mg : Str → Option Value} {base : Heap} {f : Addr} {cdv : Value} {A : Around} {outer : List Env} {s : Shared} {H : Hp} {E : XK} {qual : Str} (T : Txt K mg) (hr : Room 1 (A.deeper (envOfC qual (defScope s21) s.heap.objs.size f cdv))) (C12 : Cal P w K mg base 1 "targets" (sp12 K) []) :
    PSs (cxOf CX0 P w K mg base n21 qual (defScope s21) f cdv A outer s H E).nox (defBody s21) (t21 K) :=
    (pss_cons (ps_set (i := 2) sc21.nd rfl (.inl rfl) (pe_lst (pa_cons (pv 1) pa_nil)))
    (pss_cons (ps_set (i := 3) sc21.nd rfl (.inl rfl) (pe_lst (pa_cons (pv 1) pa_nil)))
    (pss_cons (ps_while PassesOwn.never (pt_truth (pv 3) (by intro _; rfl)) (pss_one (ps_for PassesOwn.never rfl (pi_list (pe_c C12 hr (by decide) (by rfl) (pa_cons (pv 0) (pa_cons (pe_bm0 PySem.F.plainAttrs_list PySem.F.slot_list_pop PySem.F.type_list_pop mt_pop (pv 3)) pa_nil)))) (pg_name (i := 4) sc21.nd rfl (.inl rfl))
      (pss_one (ps_if (pt_cmpR op_notIn_seq (pv 4) (pv 2) (by with_unfolding_all rfl)) (pss_cons (ps_expr (pe_bm PySem.F.plainAttrs_list PySem.F.slot_list_append PySem.F.type_list_append mt_append (pv 2) (pa_cons (pv 4) pa_nil)))
    (pss_one (ps_expr (pe_bm PySem.F.plainAttrs_list PySem.F.slot_list_append PySem.F.type_list_append mt_append (pv 3) (pa_cons (pv 4) pa_nil))))) pss_nil)))))
    (pss_one (ps_ret (pe_callB cr_sorted (by rfl) T.b_sorted bt_sorted (pa_cons (pv 2) pa_nil)))))))
theorem cal21 {P : Program} {w : World} {K : PySem.W.Frag} {mg : Str → Option Value} {base : Heap} (T : Txt K mg) (C12 : Cal P w K mg base 1 "targets" (sp12 K) [])
    (h : ∀ (vs : List V) (H : Hp) (Q : VK) (E : XK), sp21 K vs H Q E → t21 K { nx := fun _ H' => Q .non H', rt := Q } (start n21 vs) H) (len : ∀ vs H Q E, sp21 K vs H Q E → vs.length = 2) : Cal P w K mg base 2 "reached" (sp21 K) [] :=
  Tx.cal T.d21 sc21 len fun cdv A outer f s H vs Q E hr hs => ⟨t21 K, der21 T hr C12, h vs H Q E hs⟩

/-! closed_classes -/
abbrev n22 : List Str := ["chain", "ways", "found", "place", "way", "other"]
theorem sc22 : FnScope n22 ["chain"] (defScope s22) := ⟨rfl, rfl, rfl, by decide +kernel, rfl, by decide +kernel, by decide +kernel⟩
def t22 (K : PySem.W.Frag) : TS :=
    (tSeq (tAsg (tLc (iRng1 (tCons (tCB (rLenQ K) (tCons (tVar 0) tNil)) tNil)) (gName 3) tYes (tCall (sp21 K) [] E0 (tCons (tVar 0) (tCons (tVar 3) tNil))) [3]) (gName 1))
    (tSeq (tAsg (tLst tNil) (gName 2))
    (tSeq (tFor (iEnum K (tCons (tVar 1) tNil)) (gTup K 2 (gCons (gName 3) (gCons (gName 4) gNil)))
      (tIfS (tAnd (tTest (tOp rEq (tOp (rIxL K) (tVar 4) (tC (.int 0))) (tVar 3))) (tB (tCB (rAll K) (tCons (tLc (iList K (tVar 4)) (gName 5) tYes (tOp (rIn K false) (tVar 3) (tOp (rIxL K) (tVar 1) (tVar 5))) [5]) tNil)))) (tDrop (tBM K "list" rAppend (tVar 2) (tCons (tVar 4) tNil))) tNext))
    (tRet (tVar 2)))))
theorem der22 {P : Program} {w : World} {K : PySem.W.Frag} {mg : Str → Option Value} {base : Heap} {f : Addr} {cdv : Value} {A : Around} {outer : List Env} {s : Shared} {H : Hp} {E : XK} {qual : Str} (T : Txt K mg) (hr : Room 2 (A.deeper (envOfC qual (defScope s22) s.heap.objs.size f cdv))) (C21 : Cal P w K mg base 2 "reached" (sp21 K) []) :
    PSs (cxOf CX0 P w K mg base n22 qual (defScope s22) f cdv A outer s H E).nox (defBody s22) (t22 K) :=
    (pss_cons (ps_set (i := 1) sc22.nd rfl (.inr rfl) (pe_lc (own := [("place", 3)]) (g := (gName 3)) (tt := tYes) rfl sc22.nd (pi_range1 (by rfl) T.b_range (pa_cons (pe_callB call_len_seq (by rfl) T.b_len bt_len (pa_cons (pv 0) pa_nil)) pa_nil)) (blkOk_by (own := [("place", 3)]) (N := n22) (sc := defScope s22) (by decide +kernel)) (fun _ _ _ _ _ => (pg_name (i := 3) sc22.nd rfl (.inl rfl))) (fun _ _ _ _ _ => pts_nil) (fun _ _ _ _ _ => (pe_c C21 hr (by decide) (by rfl) (pa_cons (pv 0) (pa_cons (pv 3) pa_nil))))))
    (pss_cons (ps_set (i := 2) sc22.nd rfl (.inl rfl) (pe_lst pa_nil))
    (pss_cons (ps_for PassesOwn.never rfl (pi_enum (by rfl) T.b_enumerate (pa_cons (pv 1) pa_nil)) (pg_tup rfl (pgs_cons (pg_name (i := 3) sc22.nd rfl (.inr rfl)) (pgs_cons (pg_name (i := 4) sc22.nd rfl (.inl rfl)) pgs_nil)))
      (pss_one (ps_if (PW.pt (pw_and (pt_cmpR op_eq (pe_ix ix_list (pv 4) pe_int (fun _ _ => rfl)) (pv 3) (nomark _)) (pw_and1 (pt_val (pe_callB (cr_all rfl) (by rfl) T.b_all bt_all (pa_cons (pe_lc (own := [("other", 5)]) (g := (gName 5)) (tt := tYes) rfl sc22.nd (pi_list (pv 4)) (blkOk_by (own := [("other", 5)]) (N := n22) (sc := defScope s22) (by decide +kernel)) (fun _ _ _ _ _ => (pg_name (i := 5) sc22.nd rfl (.inl rfl))) (fun _ _ _ _ _ => pts_nil) (fun _ _ _ _ _ => (pe_cmpR op_in_seq (pv 3) (pe_ix ix_list (pv 1) (pv 5) (fun _ _ => rfl)) (by with_unfolding_all rfl)))) pa_nil)))))) (pss_one (ps_expr (pe_bm PySem.F.plainAttrs_list PySem.F.slot_list_append PySem.F.type_list_append mt_append (pv 2) (pa_cons (pv 4) pa_nil)))) pss_nil)))
    (pss_one (ps_ret (pv 2))))))
theorem cal22 {P : Program} {w : World} {K : PySem.W.Frag} {mg : Str → Option Value} {base : Heap} (T : Txt K mg) (C21 : Cal P w K mg base 2 "reached" (sp21 K) [])
    (h : ∀ (vs : List V) (H : Hp) (Q : VK) (E : XK), sp22 K vs H Q E → t22 K { nx := fun _ H' => Q .non H', rt := Q } (start n22 vs) H) (len : ∀ vs H Q E, sp22 K vs H Q E → vs.length = 1) : Cal P w K mg base 3 "closed_classes" (sp22 K) [] :=
  Tx.cal T.d22 sc22 len fun cdv A outer f s H vs Q E hr hs => ⟨t22 K, der22 T hr C21, h vs H Q E hs⟩

end Mh
end
section
set_option Elab.async false
set_option linter.all false
set_option maxRecDepth 100000
set_option maxHeartbeats 4000000
/-! places and chains: the readings -/
namespace Mh
open PySem PySem.Spec PyProof.Rows L2
open C8 (Cal pe_c)
open Evl (ixN_nat)
section
variable {K : PySem.W.Frag}
theorem is_gd {H : Hp} {v : V} {G : List Pl} (h : Is K H v (gd G)) : ∃ a xs, v = .ref a ∧ H a = some (.lst xs) ∧ IsA K H xs (fl G.length fun x => pd (pl G x)) := h.list
theorem is_pd {H : Hp} {v : V} {p : Pl} (h : Is K H v (pd p)) : ∃ a g b bs, v = .ref a ∧ SqT K H a [g, .str p.k.s, .ref b] ∧ Is K H g (qd p.g) ∧ H b = some (.lst bs) ∧ IsA K H bs (p.bs.map (bd p.k)) := by
  obtain ⟨a, g, y, z, rfl, h1, h2, h3, h4⟩ := h.triple
  cases h3.str'
  obtain ⟨b, bs, rfl, h5, h6⟩ := h4.list
  exact ⟨a, g, b, bs, rfl, h1, h2, h5, h6⟩
theorem map_get {α : Type} {f : α → PyData} {l : List α} {i : Nat} {d : PyData} (h : (l.map f)[i]? = some d) : ∃ a, l[i]? = some a ∧ d = f a := by
  rw [List.getElem?_map] at h
  cases e : l[i]? with
  | none => rw [e] at h; cases h
  | some a => rw [e] at h; exact ⟨a, rfl, (Option.some.inj h).symm⟩
theorem range_map {α β : Type} (l : List α) (f : α → β) (d : α) : (List.range l.length).map (fun i => f (l.getD i d)) = l.map f := by
  apply List.ext_getElem?
  intro i
  by_cases h : i < l.length
  · simp [h, List.getD]
  · simp [h]
theorem ebr' {σ : List (Option Nat)} {i br : Nat} (e : σ[i]? = some (some br)) : (σ.getD i none).getD 0 = br := by simp [List.getD, e]
theorem h12 (vs : List V) (H : Hp) (Q : VK) (E : XK) (h : sp12 K vs H Q E) : t12 K { nx := fun _ H' => Q .non H', rt := Q } (start n12 vs) H := by
  obtain ⟨G, x, v, Hs, rfl, hv, hx, hb, st, q⟩ := h
  obtain ⟨a, xs, rfl, ha, hxs⟩ := is_gd hv
  obtain ⟨u, eu, iu⟩ := hxs.fget hx
  obtain ⟨c, g, b, bs, rfl, hc, ig, hbs, ibs⟩ := is_pd iu
  refine ⟨_, rfl, _, rfl, a, xs, _, _, rfl, rfl, SqL.of (st _ _ ha), atI_nat eu, c, _, rfl, sqt_up st hc, rfl, g, _, rfl, _, _, rfl, _, _, rfl, rfl, ?_⟩
  refine ⟨_, rfl, rfl, _, rfl, ?_⟩
  have ek : decide (V.str (pl G x).k.s = V.str (PySem.Str.ofString "draw")) = decide ((pl G x).k = .draw) := kd_eq _ .draw
  have lb : bs.length = (pl G x).bs.length := by rw [ibs.len, List.length_map]
  rw [ek]
  by_cases hk : (pl G x).k = .draw
  · rw [decide_eq_true hk]
    refine iteT ?_
    refine ⟨_, rfl, b, rfl, ⟨bs, SqL.of (st _ _ hbs)⟩, fun D hD => ?_⟩
    refine lc_map (K := K) (n := bs.length) (walk_list (xs := bs)) st (fun H' s => SqL.of (s _ _ hbs)) hD (fun i => .int ((((pl G x).bs.getD i (0, 0)).2 : Nat) : Int)) (by omega) ?_ ?_
    · rintro i y Hs2 H2 H2' C hi e2 d0 ⟨rfl, hy⟩ kk
      obtain ⟨d, hd, iy⟩ := ibs.get' hy
      obtain ⟨br, ebr, rfl⟩ := map_get hd
      rw [hk] at iy
      obtain ⟨p, y1, y2, rfl, hp, i1, i2⟩ := (show Is K Hs y (.tuple [qd br.1, .int (br.2 : Int)]) from iy).pair
      cases i2.int'
      refine ⟨p, _, rfl, sqt_up e2.t (sqt_up e2.s hp), rfl, y1, _, rfl, _, _, rfl, rfl, rfl, _, rfl, ?_⟩
      refine kk _ Hs2 _ (Ext.refl e2.t) ?_
      have : (pl G x).bs.getD i (0, 0) = br := by simp [List.getD, ebr]
      rw [this]
      exact .int _
    · intro Hs2 H2 ws e2 d0 d1 hw
      refine q _ _ _ (e2.frz hD d0 d1) (.lst upd_same ?_)
      have := hw.up (same_new (o := .lst ws) d0)
      rw [lb, range_map (pl G x).bs (fun b => PyData.int ((b.2 : Nat) : Int)) (0, 0)] at this
      rw [List.map_map]
      exact this
  · rw [decide_eq_false hk]
    refine iteF ?_
    refine ⟨_, rfl, b, bs, rfl, .inl (SqL.of (st _ _ hbs)), fun D hD => ?_⟩
    refine q _ _ _ ((Ext.refl st).new hD) (.lst upd_same ?_)
    have : (pl G x).bs.map (bd (pl G x).k) = ((pl G x).bs.map (·.2)).map fun (n : Nat) => PyData.int (n : Int) := by
      rw [List.map_map]
      refine List.map_congr_left fun b _ => ?_
      cases hk2 : (pl G x).k with
      | draw => exact absurd hk2 hk
      | ours => rfl
      | theirs => rfl
    rw [this] at ibs
    exact ibs.up (same_new (st.free hD))
theorem h13 (vs : List V) (H : Hp) (Q : VK) (E : XK) (h : sp13 K vs H Q E) : t13 K { nx := fun _ H' => Q .non H', rt := Q } (start n13 vs) H := by
  obtain ⟨p, v, Hs, rfl, hv, st, q⟩ := h
  obtain ⟨c, g, b, bs, rfl, hc, ig, hbs, ibs⟩ := is_pd hv
  have hc' := sqt_up st hc
  refine ⟨_, rfl, _, _, 0, g, rfl, rfl, hc', rfl, _, rfl, _, _, 1, _, rfl, rfl, hc', rfl, _, rfl, _, _, 2, _, rfl, rfl, hc', rfl, b, bs, rfl, .inl (SqL.of (st _ _ hbs)), fun D hD => ?_⟩
  refine ⟨by show 3 ≤ sizeLine; decide, fun r hr => ?_⟩
  have e1 : Ext0 Hs H (upd Hs D (.lst bs)) (upd H D (.lst bs)) := (Ext.refl st).new hD
  have e2 := e1.new (p := r) (o := .tup [g, .str p.k.s, .ref D]) hr
  refine q _ _ _ e2 (.tup (SqT.of upd_same) (.cons (ig.up e2.s) (.cons (.str _) (.cons (.lst ?_ (ibs.up e2.s)) .nil))))
  have : D ≠ r := fun z => by rw [← z, upd_same] at hr; cases hr
  rw [upd_ne this]
  exact upd_same
theorem h14 (vs : List V) (H : Hp) (Q : VK) (E : XK) (h : sp14 K vs H Q E) (T : Txt K mg) : t14 K { nx := fun _ H' => Q .non H', rt := Q } (start n14 vs) H := by
  obtain ⟨G, s, σ, v, u, Hs, rfl, hv, hu, hS, hs, hG, st, q⟩ := h
  obtain ⟨a, xs, rfl, ha, hxs⟩ := is_gd hv
  obtain ⟨b, us, rfl, hb, hus⟩ := hu.list
  have lx : xs.length = G.length := hxs.flen
  refine ⟨Nat.zero_le _, fun l hl => ?_⟩
  have e0 : Ext0 Hs H Hs (upd H l (.lst [])) := (Ext.refl st).newM hl
  refine ⟨_, rfl, a, xs, rfl, SqL.of (e0.t _ _ ha), ?_⟩
  refine for_it (walk_enum (xs := xs)) (fun i τ H' => ∃ (Hs' : Hp) (ys : List V) (y4 y5 : Option V), τ = [some (.ref a), some (.str s.s), some (.ref b), some (.ref l), y4, y5] ∧ Ext0 Hs H Hs' H' ∧ Hs' l = none ∧ H' l = some (.lst ys) ∧
      IsA K Hs' ys (fl i fun x => pd (putP s σ G x)))
    ⟨Hs, [], none, none, rfl, e0, st.free hl, upd_same, .nil⟩ (fun i τ H' _ ⟨Hs', ys, y4, y5, _, e, _⟩ => SqL.of (e.t _ _ (e.s _ _ ha))) ?_ ?_
  · rintro i x τ H1 H' hi ⟨Hs1, ys, y4, y5, rfl, e1, l0, l1, iys⟩ ⟨T', x1, x2, rfl, hT, rfl, ex1, ex2⟩
    cases ex1
    obtain ⟨_, ix2⟩ := hxs.fget' ex2
    obtain ⟨c, g, bb, bs, rfl, hc, ig, hbs, ibs⟩ := is_pd ix2
    have hTl : l ≠ T' := ne_of_none l1 hT
    have e2 : Ext0 Hs H Hs1 (upd H1 T' (.tup [.int (i : Nat), .ref c])) := e1.newM hT
    have l2 : (upd H1 T' (.tup [.int (i : Nat), .ref c])) l = some (.lst ys) := by rw [upd_ne hTl]; exact l1
    have hc' := sqt_up e2.t (sqt_up e1.s hc)
    have lys := iys.flen
    refine ⟨T', _, rfl, SqT.of upd_same, rfl, _, _, rfl, _, _, rfl, rfl, ?_⟩
    refine ⟨_, rfl, _, _, 1, _, rfl, rfl, hc', rfl, _, rfl, rfl, _, rfl, ?_⟩
    rw [kd_eq]
    by_cases hk : (pl G i).k = s
    · rw [decide_eq_true hk]
      refine iteT ?_
      obtain ⟨br, ebr, hbr⟩ := hS.at_ i (by omega) hk
      obtain ⟨w, ew, iw⟩ := hus.get (show (σ.map od)[i]? = some (od (some br)) by rw [List.getElem?_map, ebr]; rfl)
      cases iw.int'
      have hbd : ((pl G i).bs.map (bd (pl G i).k))[br]? = some (.int ((tg G i br : Nat) : Int)) := by
        rw [List.getElem?_map, List.getElem?_eq_getElem hbr]
        have : tg G i br = ((pl G i).bs[br]).2 := by simp [tg, List.getD, hbr]
        rw [this]
        cases hk2 : (pl G i).k with
        | draw => exact absurd (hk.symm.trans hk2) hs
        | ours => rfl
        | theirs => rfl
      obtain ⟨w2, ew2, iw2⟩ := ibs.get hbd
      cases iw2.int'
      refine ⟨_, rfl, .inl ⟨rfl, _, .inl (.inl l2)⟩, ?_⟩
      refine ⟨_, rfl, _, _, 0, g, rfl, rfl, hc', rfl, ?_⟩
      refine ⟨_, rfl, _, _, 2, _, rfl, rfl, hc', rfl, _, rfl, _, rfl, b, us, _, _, rfl, rfl, SqL.of (e2.t _ _ (e1.s _ _ hb)), atI_nat ew, bb, bs, _, _, rfl, rfl, SqL.of (e2.t _ _ (e1.s _ _ hbs)), atI_nat ew2, (by show 2 ≤ sizeLine; decide), fun p1 hp1 => ?_⟩
      refine ⟨by show 1 ≤ sizeLine; decide, fun p2 hp2 => ?_⟩
      refine ⟨by show 3 ≤ sizeLine; decide, fun p3 hp3 => ?_⟩
      have e3 := ((e2.new (o := .tup [.ref (He.ga K "ONE"), .int ((tg G i br : Nat) : Int)]) hp1).new (o := .lst [.ref p1]) hp2).new (o := .tup [g, .str "draw", .ref p2]) hp3
      have n1 : p1 ≠ p2 := fun z => by rw [← z, upd_same] at hp2; cases hp2
      have n2 : p2 ≠ p3 := fun z => by rw [← z, upd_same] at hp3; cases hp3
      have n3 : p1 ≠ p3 := fun z => by rw [← z, upd_ne n1, upd_same] at hp3; cases hp3
      have k1 : l ≠ p1 := ne_of_none l2 hp1
      have k2 : l ≠ p2 := fun z => by rw [← z, upd_ne k1, l2] at hp2; cases hp2
      have k3 : l ≠ p3 := fun z => by rw [← z, upd_ne k2, upd_ne k1, l2] at hp3; cases hp3
      have l3 : (upd (upd (upd (upd H1 T' (.tup [.int (i : Nat), .ref c])) p1 (.tup [.ref (He.ga K "ONE"), .int ((tg G i br : Nat) : Int)])) p2 (.lst [.ref p1])) p3 (.tup [g, .str "draw", .ref p2])) l = some (.lst ys) := by
        rw [upd_ne k3, upd_ne k2, upd_ne k1]; exact l2
      have l4 : (upd (upd (upd Hs1 p1 (.tup [.ref (He.ga K "ONE"), .int ((tg G i br : Nat) : Int)])) p2 (.lst [.ref p1])) p3 (.tup [g, .str "draw", .ref p2])) l = none := by
        rw [upd_ne k3, upd_ne k2, upd_ne k1]; exact l0
      refine ⟨l, ys, _, rfl, rfl, l3, big_lt (by omega), ?_⟩
      refine ⟨_, _, _, _, rfl, e3.mut (.inl hl) l4, l4, upd_same, ?_⟩
      rw [fl_snoc]
      have s3 : Same Hs1 (upd (upd (upd Hs1 p1 (.tup [.ref (He.ga K "ONE"), .int ((tg G i br : Nat) : Int)])) p2 (.lst [.ref p1])) p3 (.tup [g, .str "draw", .ref p2])) :=
        ((same_new (e2.t.free hp1)).trans (same_new (by rw [upd_ne n1.symm]; exact e2.t.free (by rw [upd_ne n1.symm] at hp2; exact hp2)))).trans
          (same_new (by rw [upd_ne n2.symm, upd_ne n3.symm]; exact e2.t.free (by rw [upd_ne n2.symm, upd_ne n3.symm] at hp3; exact hp3)))
      refine (iys.up s3).snoc ?_
      unfold putP
      rw [if_pos hk, ebr' ebr]
      refine .tup (SqT.of upd_same) (.cons ((ig.up e1.s).up s3) (.cons (.str _) (.cons (.lst (by rw [upd_ne n2]; exact upd_same) (.cons (.tup (SqT.of (by rw [upd_ne n3, upd_ne n1]; exact upd_same)) (.cons (one_is (T.one.2 _)) (.cons (.int _) .nil))) .nil)) .nil)))
    · rw [decide_eq_false hk]
      refine iteF ?_
      refine ⟨_, rfl, .inl ⟨rfl, _, .inl (.inl l2)⟩, ?_⟩
      refine ⟨_, rfl, pl G i, _, Hs1, rfl, ix2.up e1.s, e2.t, fun w Hs3 H3 e3 hw => ?_⟩
      obtain ⟨f0, f1⟩ := e3.own (fun z => z) l2 l0
      refine ⟨l, ys, _, rfl, rfl, f1, big_lt (by omega), ?_⟩
      refine ⟨_, _, _, _, rfl, (e2.trans e3).mut (.inl hl) f0, f0, upd_same, ?_⟩
      rw [fl_snoc]
      refine (iys.up e3.s).snoc ?_
      unfold putP
      rw [if_neg hk]
      exact hw
  · rintro τ H1 ⟨Hs1, ys, y4, y5, rfl, e1, l0, l1, iys⟩
    refine ⟨_, rfl, ?_⟩
    refine q _ _ _ (e1.frz hl l0 l1) (.lst upd_same ?_)
    rw [lx] at iys
    rw [putIn_len]
    exact (iys.up (same_new l0)).fcongr fun i hi => by rw [pl_putIn s σ G hi]
end
end Mh
end
section
set_option Elab.async false
set_option linter.all false
set_option maxRecDepth 100000
set_option maxHeartbeats 4000000
/-! what is reached, closed classes: the readings -/
namespace Mh
open PySem PySem.Spec PyProof.Rows L2
open C8 (Cal pe_c)
open Evl (ixN_nat)
def vi (l : List Nat) : List V := l.map fun (n : Nat) => V.int (n : Int)
theorem vi_len (l : List Nat) : (vi l).length = l.length := by simp [vi]
theorem vi_get {l : List Nat} {i : Nat} {y : V} (h : (vi l)[i]? = some y) : ∃ n, l[i]? = some n ∧ y = .int (n : Int) := by
  unfold vi at h
  rw [List.getElem?_map] at h
  cases e : l[i]? with
  | none => rw [e] at h; cases h
  | some a => rw [e] at h; exact ⟨a, rfl, (Option.some.inj h).symm⟩
theorem vi_at {l : List Nat} {i n : Nat} (h : l[i]? = some n) : (vi l)[i]? = some (.int (n : Int)) := by unfold vi; rw [List.getElem?_map, h]; rfl
theorem vi_flat (l : List Nat) : (vi l).all flatV = true := by
  induction l with
  | nil => rfl
  | cons a l ih => show (true && (vi l).all flatV) = true; rw [ih]; rfl
theorem vi_in (t : Nat) : ∀ l : List Nat, inV (.int (t : Int)) (vi l) = decide (t ∈ l)
  | [] => by simp [inV, vi]
  | a :: l => by
    have ih := vi_in t l
    show ((a : Int) == (t : Int) || inV (.int (t : Int)) (vi l)) = _
    rw [ih]
    by_cases e : a = t
    · subst e; simp
    · have : ((a : Int) == (t : Int)) = false := beq_eq_false_iff_ne.mpr (by omega)
      rw [this, Bool.false_or]
      congr 1
      simp [show t ≠ a from fun q => e q.symm]
section
variable {K : PySem.W.Frag}
theorem is_il {H : Hp} {v : V} {ns : List Nat} (h : Is K H v (il ns)) : ∃ a, v = .ref a ∧ H a = some (.lst (vi ns)) := by
  obtain ⟨a, xs, rfl, h1, h2⟩ := h.list
  have e : ns.map (fun (n : Nat) => PyData.int (n : Int)) = (ns.map fun (n : Nat) => (n : Int)).map PyData.int := by rw [List.map_map]; rfl
  rw [e] at h2
  have := h2.ints
  subst this
  refine ⟨a, rfl, ?_⟩
  rw [h1, List.map_map]
  rfl
theorem il_of {H : Hp} {a : Addr} {ns : List Nat} (h : H a = some (.lst (vi ns))) : Is K H (.ref a) (il ns) := by
  have e : ns.map (fun (n : Nat) => PyData.int (n : Int)) = (ns.map fun (n : Nat) => (n : Int)).map PyData.int := by rw [List.map_map]; rfl
  have e2 : vi ns = (ns.map fun (n : Nat) => (n : Int)).map V.int := by unfold vi; rw [List.map_map]; rfl
  refine .lst h ?_
  rw [e, e2]
  exact IsA.of_ints _
/-- sorted places -/
theorem sorted_vi {F : List Nat} (nd : F.Nodup) {ns : List Int} (hp : ns.Perm (F.map fun (n : Nat) => (n : Int))) (hs : ns.Pairwise (· ≤ ·)) :
    ∃ G : List Nat, ns.map V.int = vi G ∧ G.Pairwise (· < ·) ∧ ∀ x, x ∈ G ↔ x ∈ F := by
  have hn : ∀ z ∈ ns, ∃ n : Nat, z = (n : Int) := fun z hz => by
    obtain ⟨n, _, e⟩ := List.mem_map.mp (hp.mem_iff.mp hz)
    exact ⟨n, e.symm⟩
  have e1 : ns = (ns.map Int.toNat).map fun (n : Nat) => (n : Int) := by
    rw [List.map_map]
    conv => lhs; rw [← List.map_id ns]
    refine List.map_congr_left fun z hz => ?_
    obtain ⟨n, rfl⟩ := hn z hz
    rfl
  have hp2 : (ns.map Int.toNat).Perm F := by
    have := hp.map Int.toNat
    rw [List.map_map] at this
    have e : F.map (Int.toNat ∘ fun (n : Nat) => (n : Int)) = F := by
      conv => rhs; rw [← List.map_id F]
      rfl
    rw [e] at this
    exact this
  refine ⟨ns.map Int.toNat, ?_, ?_, fun x => hp2.mem_iff⟩
  · conv => lhs; rw [e1]
    unfold vi
    rw [List.map_map]
    rfl
  · have nd2 : (ns.map Int.toNat).Nodup := hp2.nodup_iff.mpr nd
    rw [e1] at hs
    have hs2 : (ns.map Int.toNat).Pairwise (· ≤ ·) := by
      have := List.pairwise_map.mp hs
      exact this.imp fun h => by omega
    exact (hs2.and nd2).imp fun ⟨h1, h2⟩ => by omega
theorem h21 (vs : List V) (H : Hp) (Q : VK) (E : XK) (h : sp21 K vs H Q E) : t21 K { nx := fun _ H' => Q .non H', rt := Q } (start n21 vs) H := by
  obtain ⟨n, C, x, v, Hs, rfl, hC, hn, hx, hv, st, q⟩ := h
  obtain ⟨a, xs, rfl, ha, hxs⟩ := is_gd hv
  refine ⟨_, rfl, by show 1 ≤ sizeLine; decide, fun lf hlf => ?_⟩
  have e0 : Ext0 Hs H Hs (upd H lf (.lst [.int (x : Int)])) := (Ext.refl st).newM hlf
  refine ⟨_, rfl, by show 1 ≤ sizeLine; decide, fun lw hlw => ?_⟩
  have nfw : lf ≠ lw := fun z => by rw [← z, upd_same] at hlw; cases hlw
  have hlw0 : H lw = none := e0.free hlw
  have e1 : Ext0 Hs H Hs (upd (upd H lf (.lst [.int (x : Int)])) lw (.lst [.int (x : Int)])) := e0.newM hlw
  refine ⟨fun m σ H' => ∃ (Hs' : Hp) (F W : List Nat) (y4 : Option V), σ = [some (.ref a), some (.int (x : Int)), some (.ref lf), some (.ref lw), y4] ∧ Ext0 Hs H Hs' H' ∧ Hs' lf = none ∧ Hs' lw = none ∧ H' lf = some (.lst (vi F)) ∧ H' lw = some (.lst (vi W)) ∧
      F.Nodup ∧ (∀ y ∈ F, y < n ∧ Rc n (Pm C) x y) ∧ x ∈ F ∧ (∀ y ∈ W, y ∈ F) ∧ (∀ y ∈ F, y ∉ W → ∀ z, z < n → 0 < Pm C y z → z ∈ F) ∧ W.length ≤ F.length ∧ m = 2 * (n - F.length) + W.length,
    ⟨_, Hs, [x], [x], none, rfl, e1, st.free hlf, e0.t.free hlw, by rw [upd_ne nfw]; exact upd_same, upd_same, by simp, fun y hy => by
      have : y = x := by simpa using hy
      subst this; exact ⟨hx, .refl y⟩, by simp, fun y hy => hy, fun y hy hn => absurd hy hn, by simp, rfl⟩, ?_⟩
  rintro m σ H1 ⟨Hs1, F, W, y4, rfl, e2, f0, w0, f1, w1, nd, hF, hxF, hW, hcl, hW100, rfl⟩
  have lF : F.length ≤ n := nd_len n F nd fun y hy => (hF y hy).1
  refine ⟨_, rfl, _, .inl ⟨_, SqL.of w1, rfl⟩, ?_⟩
  cases hWe : W with
  | nil =>
    subst hWe
    refine iteF ?_
    have e3 : vi F = (F.map fun (n : Nat) => (n : Int)).map V.int := by unfold vi; rw [List.map_map]; rfl
    refine ⟨_, rfl, lf, F.map fun (n : Nat) => (n : Int), rfl, SqL.of (by rw [← e3]; exact f1), by rw [List.length_map]; omega, fun ns p hp hs hnew => ?_⟩
    obtain ⟨G, eG, hG, hm⟩ := sorted_vi nd hp hs
    rw [eG]
    have : G = reachL n (Pm C) x := rising_eq hG reachL_lt fun y => by
      rw [hm, mem_reachL]
      constructor
      · exact hF y
      · rintro ⟨_, hr⟩
        clear hm
        induction hr with
        | refl => exact hxF
        | @step u z hu hz hp ih => exact hcl u (ih (hu.lt hx)) (by simp) z hz hp
    subst this
    exact q _ _ _ (e2.new hnew) (il_of upd_same)
  | cons w0' Wr =>
    have hlen : 0 < W.length := by rw [hWe]; simp
    rw [← hWe]
    have eemp : (!(vi W).isEmpty) = true := by rw [hWe]; rfl
    rw [eemp]
    refine iteT ?_
    obtain ⟨y, ey⟩ : ∃ y, W[W.length - 1]? = some y := ⟨W[W.length - 1], List.getElem?_eq_getElem (by omega)⟩
    have hyW : y ∈ W := List.mem_of_getElem? ey
    obtain ⟨hyn, hyr⟩ := hF y (hW y hyW)
    let W0 := W.dropLast
    have lW0 : W0.length = W.length - 1 := by simp [W0]
    have eW0 : (vi W).dropLast = vi W0 := by
      show (W.map _).dropLast = (W.dropLast).map _
      rw [List.map_dropLast]
    refine ⟨fun σ' H' => ∃ m', m' < 2 * (n - F.length) + W.length ∧ ∃ (Hs' : Hp) (F W : List Nat) (y4 : Option V), σ' = [some (.ref a), some (.int (x : Int)), some (.ref lf), some (.ref lw), y4] ∧ Ext0 Hs H Hs' H' ∧ Hs' lf = none ∧ Hs' lw = none ∧ H' lf = some (.lst (vi F)) ∧ H' lw = some (.lst (vi W)) ∧
      F.Nodup ∧ (∀ y ∈ F, y < n ∧ Rc n (Pm C) x y) ∧ x ∈ F ∧ (∀ y ∈ W, y ∈ F) ∧ (∀ y ∈ F, y ∉ W → ∀ z, z < n → 0 < Pm C y z → z ∈ F) ∧ W.length ≤ F.length ∧ m' = 2 * (n - F.length) + W.length, fun σ' H' h => h, ?_⟩
    refine ⟨_, rfl, _, rfl, .inl ⟨rfl, _, .inl (.inl w1)⟩, lw, vi W, _, rfl, rfl, w1, by rw [vi_len]; exact vi_at ey, ?_⟩
    rw [eW0]
    have e3 : Ext0 Hs H Hs1 (upd H1 lw (.lst (vi W0))) := e2.mut (.inl hlw0) w0
    have f3 : (upd H1 lw (.lst (vi W0))) lf = some (.lst (vi F)) := by rw [upd_ne nfw]; exact f1
    have hpy := hC.at hyn
    refine ⟨C, y, _, Hs1, rfl, hv.up e3.s, by rw [hC.len]; exact hyn, by have := hpy.br; omega, e3.t, fun u Hs2 H2 e4 hu => ?_⟩
    obtain ⟨b, rfl, hb⟩ := is_il hu
    obtain ⟨f4, f5⟩ := e4.own (fun z => z) f3 f0
    obtain ⟨w4, w5⟩ := e4.own (fun z => z) upd_same w0
    let ts := (pl C y).bs.map (·.2)
    refine ⟨b, rfl, ⟨_, SqL.of (e4.t _ _ hb)⟩, ?_⟩
    refine for_it (walk_list (xs := vi ts)) (fun i σ H' => ∃ (Hs' : Hp) (F' W' : List Nat) (y4 : Option V), σ = [some (.ref a), some (.int (x : Int)), some (.ref lf), some (.ref lw), y4] ∧ Ext0 Hs H Hs' H' ∧ Hs' b = some (.lst (vi ts)) ∧ Hs' lf = none ∧ Hs' lw = none ∧ H' lf = some (.lst (vi F')) ∧ H' lw = some (.lst (vi W')) ∧
      F'.Nodup ∧ (∀ y ∈ F', y < n ∧ Rc n (Pm C) x y) ∧ x ∈ F' ∧ y ∈ F' ∧ (∀ y ∈ W', y ∈ F') ∧ (∀ u ∈ F', u ∉ W' → u ≠ y → ∀ z, z < n → 0 < Pm C u z → z ∈ F') ∧ (∀ j t, j < i → ts[j]? = some t → t ∈ F') ∧ W'.length ≤ F'.length ∧ F.length ≤ F'.length ∧ 2 * (n - F'.length) + W'.length ≤ 2 * (n - F.length) + (W.length - 1))
      ⟨Hs2, F, W0, _, rfl, e3.trans e4, hb, f4, w4, f5, w5, nd, hF, hxF, hW y hyW, fun u hu => hW u ((List.dropLast_sublist W).subset hu), fun u hu hn hne => hcl u hu (fun z => hn (by
        obtain ⟨k, hk, ek⟩ := List.getElem_of_mem z
        have : k ≠ W.length - 1 := fun z2 => hne (by
          subst z2
          rw [List.getElem?_eq_getElem (by omega)] at ey
          rw [← ek]; exact Option.some.inj ey)
        refine List.mem_of_getElem? (i := k) ?_
        show W.dropLast[k]? = some u
        rw [List.getElem?_dropLast, if_pos (by omega), List.getElem?_eq_getElem hk, ek])), fun j t hj _ => absurd hj (by omega), by omega, Nat.le_refl _, by omega⟩
      (fun i σ H' _ ⟨Hs', F', W', y4, _, e, hb', _⟩ => SqL.of (e.t _ _ hb')) ?_ ?_
    · rintro i z σ H3 H3' hi ⟨Hs3, F', W', y4, rfl, e5, hb3, f6, w6, f7, w7, nd', hF', hxF', hyF', hW', hcl', hts, hwl, hfl, hms⟩ ⟨rfl, ez⟩
      obtain ⟨t, et, rfl⟩ := vi_get ez
      have htn : t < n ∧ 0 < Pm C y t := by
        obtain ⟨br, hbr, ebr⟩ := List.mem_map.mp (List.mem_of_getElem? et)
        subst ebr
        exact ⟨hpy.t br hbr, (hC.pos_iff hyn br.2).mpr ⟨br, hbr, rfl⟩⟩
      refine ⟨_, rfl, _, rfl, lf, vi F', rfl, .inl (SqL.of f7), rfl, vi_flat _, _, rfl, ?_⟩
      rw [vi_in]
      by_cases ht : t ∈ F'
      · rw [decide_eq_true ht]
        refine iteF ?_
        exact ⟨Hs3, F', W', _, rfl, e5, hb3, f6, w6, f7, w7, nd', hF', hxF', hyF', hW', hcl', fun j t' hj et' => by
          by_cases z : j = i
          · subst z; rw [et] at et'; cases et'; exact ht
          · exact hts j t' (by omega) et', hwl, hfl, hms⟩
      · rw [decide_eq_false ht]
        refine iteT ?_
        have lF' : F'.length < n := by
          have := nd_len n (t :: F') (List.nodup_cons.mpr ⟨ht, nd'⟩) fun u hu => by
            rcases List.mem_cons.mp hu with z | z
            · omega
            · exact (hF' u z).1
          rw [List.length_cons] at this; omega
        have hWF : W'.length ≤ 200 := by omega
        refine ⟨_, rfl, .inl ⟨rfl, _, .inl (.inl f7)⟩, _, rfl, lf, vi F', _, rfl, rfl, f7, big_lt (by rw [vi_len]; omega), ?_⟩
        have w8 : (upd H3' lf (.lst (vi F' ++ [.int (t : Int)]))) lw = some (.lst (vi W')) := by rw [upd_ne nfw.symm]; exact w7
        have e6 : Ext0 Hs H Hs3 (upd H3' lf (.lst (vi F' ++ [.int (t : Int)]))) := e5.mut (.inl hlf) f6
        refine ⟨_, rfl, .inl ⟨rfl, _, .inl (.inl w8)⟩, _, rfl, lw, vi W', _, rfl, rfl, w8, big_lt (by rw [vi_len]; omega), ?_⟩
        have eapp : ∀ l : List Nat, vi l ++ [.int (t : Int)] = vi (l ++ [t]) := fun l => by simp [vi]
        rw [eapp, eapp]
        refine ⟨Hs3, F' ++ [t], W' ++ [t], _, rfl, ?_, hb3, f6, w6, by rw [upd_ne nfw]; exact upd_same, upd_same, ?_, ?_, by simp [hxF'], by simp [hyF'], ?_, ?_, ?_, by simp; omega, by simp; omega, by simp; omega⟩
        · rw [eapp] at e6
          exact e6.mut (.inl hlw0) w6
        · exact List.nodup_append.mpr ⟨nd', by simp, fun u hu w hw z => by
            have : w = t := by simpa using hw
            subst this; subst z; exact ht hu⟩
        · intro u hu
          rcases List.mem_append.mp hu with z | z
          · exact hF' u z
          · have : u = t := by simpa using z
            subst this
            exact ⟨htn.1, hyr.step htn.1 htn.2⟩
        · intro u hu
          rcases List.mem_append.mp hu with z | z
          · exact List.mem_append_left _ (hW' u z)
          · exact List.mem_append_right _ z
        · intro u hu hn hne w hw hp
          rcases List.mem_append.mp hu with z | z
          · exact List.mem_append_left _ (hcl' u z (fun q => hn (List.mem_append_left _ q)) hne w hw hp)
          · exact absurd (List.mem_append_right _ z) hn
        · intro j t' hj et'
          by_cases z : j = i
          · subst z; rw [et] at et'; cases et'; simp
          · exact List.mem_append_left _ (hts j t' (by omega) et')
    · rintro σ H3 ⟨Hs3, F', W', y4, rfl, e5, hb3, f6, w6, f7, w7, nd', hF', hxF', hyF', hW', hcl', hts, hwl, hfl, hms⟩
      have lF'' : F'.length ≤ n := nd_len n F' nd' fun y hy => (hF' y hy).1
      refine ⟨2 * (n - F'.length) + W'.length, by omega, Hs3, F', W', _, rfl, e5, f6, w6, f7, w7, nd', hF', hxF', hW', fun u hu hn z hz hp => ?_, by omega, rfl⟩
      by_cases ey2 : u = y
      · subst ey2
        obtain ⟨br, hbr, ebr⟩ := (hC.pos_iff hyn z).mp hp
        obtain ⟨j, hj, ej⟩ := List.getElem_of_mem hbr
        refine hts j z (by rw [vi_len]; simp [ts]; exact hj) ?_
        show ((pl C u).bs.map (·.2))[j]? = some z
        rw [List.getElem?_map, List.getElem?_eq_getElem hj, ej, ← ebr]
        rfl
      · exact hcl' u hu hn ey2 z hz hp
end
end Mh
end
section
set_option Elab.async false
set_option linter.all false
set_option maxRecDepth 100000
set_option maxHeartbeats 4000000
namespace Mh
open PySem PySem.Spec PyProof.Rows L2
open C8 (Cal pe_c)
open Evl (ixN_nat)
section
variable {K : PySem.W.Frag}
theorem IsA.fbls {H : Hp} {xs : List V} {n : Nat} {g : Nat → Bool} (h : IsA K H xs (fl n fun j => .bool (g j))) : xs = ((List.range n).map g).map V.bl := by
  have e : fl n (fun j => PyData.bool (g j)) = ((List.range n).map g).map PyData.bool := by unfold fl; rw [List.map_map]; rfl
  rw [e] at h
  exact h.bls
theorem IsA.fints {H : Hp} {xs : List V} {n : Nat} {g : Nat → Int} (h : IsA K H xs (fl n fun j => .int (g j))) : xs = ((List.range n).map g).map V.int := by
  have e : fl n (fun j => PyData.int (g j)) = ((List.range n).map g).map PyData.int := by unfold fl; rw [List.map_map]; rfl
  rw [e] at h
  exact h.ints
theorem all_range (n : Nat) (g : Nat → Bool) : ((List.range n).map g).all id = decide (∀ j, j < n → g j = true) := by
  by_cases h : ∀ j, j < n → g j = true
  · rw [decide_eq_true h]
    rw [List.all_eq_true]
    intro b hb
    obtain ⟨j, hj, rfl⟩ := List.mem_map.mp hb
    exact h j (List.mem_range.mp hj)
  · rw [decide_eq_false h]
    rw [List.all_eq_false]
    obtain ⟨j, hj⟩ := Classical.not_forall.mp h
    obtain ⟨h1, h2⟩ := Classical.not_imp.mp hj
    exact ⟨g j, List.mem_map.mpr ⟨j, List.mem_range.mpr h1, rfl⟩, by simpa using h2⟩
theorem reachL_head {n : Nat} {P : Mat} {x : Nat} (hx : x < n) : ∃ z l, reachL n P x = z :: l ∧ Rc n P x z ∧ ∀ y, Rc n P x y → z ≤ y := by
  have hm : x ∈ reachL n P x := mem_reachL.mpr ⟨hx, .refl x⟩
  cases e : reachL n P x with
  | nil => rw [e] at hm; cases hm
  | cons z l =>
    refine ⟨z, l, rfl, (mem_reachL.mp (show z ∈ reachL n P x by rw [e]; simp)).2, fun y hy => ?_⟩
    have h1 : y ∈ reachL n P x := mem_reachL.mpr ⟨hy.lt hx, hy⟩
    have h2 := reachL_lt (n := n) (P := P) (x := x)
    rw [e] at h1 h2
    rcases List.mem_cons.mp h1 with q | q
    · omega
    · have := (List.pairwise_cons.mp h2).1 y q
      omega
open Classical in
theorem leastL_succ {n : Nat} {P : Mat} (f : Nat → PyData) (i : Nat) : (((List.range (i + 1)).filter fun x => decide (Least n P x)).map f) = (((List.range i).filter fun x => decide (Least n P x)).map f) ++ (if Least n P i then [f i] else []) := by
  rw [List.range_succ, List.filter_append, List.map_append]
  congr 1
  by_cases h : Least n P i
  · rw [if_pos h, List.filter_cons_of_pos (by simpa using h)]; rfl
  · rw [if_neg h, List.filter_cons_of_neg (by simpa using h)]; rfl
open Classical in
theorem h22 (vs : List V) (H : Hp) (Q : VK) (E : XK) (h : sp22 K vs H Q E) : t22 K { nx := fun _ H' => Q .non H', rt := Q } (start n22 vs) H := by
  obtain ⟨n, C, v, Hs, rfl, hC, hn, hv, st, q⟩ := h
  obtain ⟨a, xs, rfl, ha, hxs⟩ := is_gd hv
  have lx : xs.length = n := by rw [hxs.flen, hC.len]
  refine ⟨_, rfl, a, xs, rfl, .inl (SqL.of (st _ _ ha)), _, rfl, by omega, by omega, fun D hD => ?_⟩
  have en : ((xs.length : Nat) : Int).toNat = n := by omega
  rw [en]
  refine lc_map (K := K) (n := n) walk_rng0 st (fun _ _ => trivial) hD (fun x => il (reachL n (Pm C) x)) (by omega) ?_ ?_
  · rintro i x Hs2 H2 H2' C' hi e2 d0 ⟨rfl, rfl⟩ kk
    exact ⟨rfl, _, rfl, _, rfl, n, C, i, _, Hs2, rfl, hC, hn, hi, hv.up e2.s, e2.t, fun r Hs3 H3 e3 hr => kk r Hs3 H3 e3 hr⟩
  intro Hs1 H1 ws e1 d0 d1 hws
  refine ⟨Nat.zero_le _, fun lf hlf => ?_⟩
  have e2 : Ext0 Hs H (upd Hs1 D (.lst ws)) H1 := e1.frz hD d0 d1
  have e3 : Ext0 Hs H (upd Hs1 D (.lst ws)) (upd H1 lf (.lst [])) := e2.newM hlf
  have hws' := hws.up (same_new (o := .lst ws) d0)
  have lws := hws.flen
  refine ⟨_, rfl, D, ws, rfl, SqL.of (e3.t _ _ upd_same), ?_⟩
  refine for_it (walk_enum (xs := ws)) (fun i σ H' => ∃ (Hs' : Hp) (ys : List V) (y3 y4 y5 : Option V), σ = [some (.ref a), some (.ref D), some (.ref lf), y3, y4, y5] ∧ Ext0 Hs H Hs' H' ∧ Hs' D = some (.lst ws) ∧ IsA K Hs' ws (fl n fun x => il (reachL n (Pm C) x)) ∧ Hs' lf = none ∧ H' lf = some (.lst ys) ∧
      IsA K Hs' ys (((List.range i).filter fun x => decide (Least n (Pm C) x)).map fun x => il (reachL n (Pm C) x)))
    ⟨_, [], _, _, _, rfl, e3, upd_same, hws', e2.t.free hlf, upd_same, .nil⟩ (fun i σ H' _ ⟨Hs', ys, y3, y4, y5, _, e, hd, _⟩ => SqL.of (e.t _ _ hd)) ?_ ?_
  · rintro i x σ H2 H2' hi ⟨Hs2, ys, y3, y4, y5, rfl, e4, hd, hw2, f0, f1, hys⟩ ⟨T', x1, x2, rfl, hT, rfl, ex1, ex2⟩
    cases ex1
    obtain ⟨hi2, ix2⟩ := hw2.fget' ex2
    obtain ⟨b, rfl, hb⟩ := is_il ix2
    have hTl : lf ≠ T' := ne_of_none f1 hT
    have e5 : Ext0 Hs H Hs2 (upd H2 T' (.tup [.int (i : Nat), .ref b])) := e4.newM hT
    have f2 : (upd H2 T' (.tup [.int (i : Nat), .ref b])) lf = some (.lst ys) := by rw [upd_ne hTl]; exact f1
    obtain ⟨z, zl, ez, hz1, hz2⟩ := reachL_head (P := Pm C) hi2
    have hb0 : (vi (reachL n (Pm C) i))[0]? = some (.int (z : Int)) := vi_at (by rw [ez]; rfl)
    have ly : ys.length ≤ i := by
      have := hys.len
      rw [List.length_map] at this
      have h2 := List.length_filter_le (fun x => decide (Least n (Pm C) x)) (List.range i)
      rw [List.length_range] at h2
      omega
    refine ⟨T', _, rfl, SqT.of upd_same, rfl, _, _, rfl, _, _, rfl, rfl, ?_⟩
    refine ⟨_, rfl, _, _, 0, _, rfl, rfl, SqL.of (e5.t _ _ hb), atI_nat (j := 0) hb0, _, rfl, rfl, _, rfl, ?_⟩
    by_cases hzi : z = i
    · have ed : decide (V.int (z : Int) = V.int ((i : Nat) : Int)) = true := decide_eq_true (by rw [hzi])
      rw [ed]
      refine iteT ?_
      refine ⟨_, rfl, b, rfl, ⟨_, SqL.of (e5.t _ _ hb)⟩, fun D2 hD2 => ?_⟩
      refine lc_map (K := K) (n := (reachL n (Pm C) i).length) (by have := walk_list (K := K) (a := b) (xs := vi (reachL n (Pm C) i)); rw [vi_len] at this; exact this) e5.t (fun H' s => SqL.of (s _ _ hb)) hD2 (fun j => .bool (decide (i ∈ reachL n (Pm C) ((reachL n (Pm C) i).getD j 0)))) (by have := reachL_len (n := n) (P := Pm C) (x := i); omega) ?_ ?_
      · rintro j y Hs3 H3 H3' C' hj e6 d30 ⟨rfl, hy⟩ kk
        obtain ⟨o, eo, rfl⟩ := vi_get hy
        have ho : o < n := (mem_reachL.mp (List.mem_of_getElem? eo)).1
        obtain ⟨vo, evo, ivo⟩ := hw2.fget ho
        obtain ⟨bo, rfl, hbo⟩ := is_il ivo
        refine ⟨rfl, _, rfl, _, rfl, _, rfl, D, ws, _, _, rfl, rfl, SqL.of (e6.t _ _ (e6.s _ _ hd)), atI_nat evo, bo, _, rfl, .inl (SqL.of (e6.t _ _ (e6.s _ _ hbo))), rfl, vi_flat _, ?_⟩
        refine kk _ Hs3 _ (Ext.refl e6.t) ?_
        have : (reachL n (Pm C) i).getD j 0 = o := by simp [List.getD, eo]
        rw [this]
        show Is K Hs3 (.bl (inV (.int ((i : Nat) : Int)) (vi (reachL n (Pm C) o)))) _
        rw [vi_in]
        exact .bl _
      · intro Hs3 H3 ws3 e6 d30 d31 hw3
        obtain ⟨f3, f4⟩ := e6.own (fun z => z) f2 f0
        have ebs := hw3.fbls
        refine ⟨D2, _, rfl, SqL.of (by rw [← ebs]; exact d31), _, rfl, ?_⟩
        rw [all_range]
        have hiff : (∀ j, j < (reachL n (Pm C) i).length → decide (i ∈ reachL n (Pm C) ((reachL n (Pm C) i).getD j 0)) = true) ↔ Least n (Pm C) i := by
          constructor
          · intro hh
            refine ⟨fun y hy => ?_, fun y hy => by rw [← hzi]; exact hz2 y hy⟩
            have hym : y ∈ reachL n (Pm C) i := mem_reachL.mpr ⟨hy.lt hi2, hy⟩
            obtain ⟨j, hj, ej⟩ := List.getElem_of_mem hym
            have h3 := of_decide_eq_true (hh j hj)
            have : (reachL n (Pm C) i).getD j 0 = y := by simp [List.getD, hj, ej]
            rw [this] at h3
            exact (mem_reachL.mp h3).2
          · intro hl j hj
            refine decide_eq_true (mem_reachL.mpr ⟨hi2, hl.1 _ ?_⟩)
            exact (mem_reachL.mp (Mh.getD_mem hj)).2
        by_cases hL : Least n (Pm C) i
        · rw [decide_eq_true (hiff.mpr hL)]
          refine iteT ?_
          refine ⟨_, rfl, .inl ⟨rfl, _, .inl (.inl f4)⟩, _, rfl, lf, ys, _, rfl, rfl, f4, big_lt (by omega), ?_⟩
          refine ⟨Hs3, _, _, _, _, rfl, (e5.trans e6).mut (.inl (e2.free hlf)) f3, e6.s _ _ hd, hw2.up e6.s, f3, upd_same, ?_⟩
          rw [leastL_succ, if_pos hL]
          exact (hys.up e6.s).append (.cons (ix2.up e6.s) .nil)
        · rw [decide_eq_false (fun z => hL (hiff.mp z))]
          refine iteF ?_
          refine ⟨Hs3, _, _, _, _, rfl, e5.trans e6, e6.s _ _ hd, hw2.up e6.s, f3, f4, ?_⟩
          rw [leastL_succ, if_neg hL, List.append_nil]
          exact hys.up e6.s
    · have ed : decide (V.int (z : Int) = V.int ((i : Nat) : Int)) = false := decide_eq_false fun w => hzi (by have := V.int.inj w; omega)
      rw [ed]
      refine iteF ?_
      refine iteF ?_
      have hL : ¬ Least n (Pm C) i := fun l => hzi (by have := l.2 z hz1; have := hz2 i (.refl i); omega)
      refine ⟨Hs2, _, _, _, _, rfl, e5, hd, hw2, f0, f2, ?_⟩
      rw [leastL_succ, if_neg hL, List.append_nil]
      exact hys
  · rintro σ H2 ⟨Hs2, ys, y3, y4, y5, rfl, e4, hd, hw2, f0, f1, hys⟩
    refine ⟨_, rfl, ?_⟩
    rw [lws] at hys
    exact q _ _ _ (e4.frz (e2.free hlf) f0 f1) (.lst upd_same (hys.up (same_new f0)))
end
end Mh
end
section
set_option Elab.async false
set_option linter.all false
set_option maxRecDepth 100000
set_option maxHeartbeats 4000000
/-! long gains and leads: promises and derivations -/
namespace Mh
open PySem PySem.Spec PyProof.Rows L2
open C8 (Cal pe_c)
/-- the entries of a dict with places as keys -/
def DEnt (K : PySem.W.Frag) (Hs : Hp) (kvs : List (Key × V)) (kn : Nat → Option Rat) : Prop := ∀ y : Nat, match kn y with
  | some q => ∃ v, valV kvs (.inl (y : Int)) = some v ∧ Is K Hs v (qd q)
  | none => valV kvs (.inl (y : Int)) = none
def DIs (K : PySem.W.Frag) (Hs : Hp) (d : Addr) (kn : Nat → Option Rat) : Prop := ∃ kvs, Hs d = some (.dK kvs) ∧ kvs.length ≤ 1000 ∧ DEnt K Hs kvs kn
def kv (kn : Nat → Option Rat) : Nat → Rat := fun y => (kn y).getD 0
def NB (n : Nat) : Nat := (n + 1) ^ (n + 1) * 360 ^ n
/-- the shares of a closed class -/
structure Shares (n : Nat) (P : Mat) (R : List Nat) (ν : Nat → Rat) : Prop where
  one : sm R.length ν = 1
  st : ∀ i, 1 ≤ i → i < R.length → sm R.length (fun j => ν j * sub P R j i) = ν i
  den : ∃ N : Nat, 0 < N ∧ N ≤ NB n ∧ ∀ j, j < R.length → IsI (ν j * (N : Rat))
/-- what met wants -/
structure MetIn (n : Nat) (P : Mat) (R : List Nat) (kn : Nat → Option Rat) (e : Nat → Rat) (D Ke Kk : Nat) : Prop where
  n12 : n ≤ 12
  nd : R.Nodup
  lt : ∀ x ∈ R, x < n
  no : ∀ x ∈ R, kn x = none
  tot : ∀ x ∈ R, ∀ y, y < n → 0 < P x y → y ∈ R ∨ kn y ≠ none
  re : ∀ x, x < n → ∃ y, y ∉ R ∧ Rc n P x y
  de : Dn n e D Ke
  dk : Dn n (kv kn) D Kk
  k1 : 1 ≤ Ke + Kk
  sz : (Ke + Kk) * D < 2 ^ 2600
structure MetOut (n : Nat) (P : Mat) (R : List Nat) (kn : Nat → Option Rat) (e : Nat → Rat) (D Ke Kk : Nat) (y : Nat → Rat) : Prop where
  eq : ∀ x ∈ R, glue R y (kv kn) x = e x + mn n P (glue R y (kv kn)) x
  den : ∃ N : Nat, 0 < N ∧ N ≤ NB n ∧ ∀ a, a < R.length → IsI (y a * ((N * D : Nat) : Rat)) ∧ ab (y a) ≤ ((NB n * (360 * (Ke + Kk)) : Nat) : Rat)
section
variable (K : PySem.W.Frag)
def sp24 : Sp := fun vs H Q _ => ∃ (m i j k : Nat) (ν f : Nat → Rat) (x y : V) (Hs : Hp), vs = [x, y] ∧ m ≤ 100 ∧ Is K Hs x (vd m ν) ∧ Is K Hs y (vd m f) ∧ (∀ a, a < m → Sz i (ν a) ∧ Sz j (f a)) ∧ i + j ≤ 8990 ∧ k ≤ 4490 ∧ (∀ a, a < m → Sz k (ν a * f a)) ∧ (∀ a, a ≤ m → Sz k (sm a fun b => ν b * f b)) ∧ Same Hs H ∧
  ∀ v Hs' H', Ext0 Hs H Hs' H' → Is K Hs' v (qd (sm m fun b => ν b * f b)) → Q v H'
def sp23 : Sp := fun vs H Q _ => ∃ (n : Nat) (C : List Pl) (R : List Nat) (x y : V) (Hs : Hp), vs = [x, y] ∧ ChOk n C ∧ n ≤ 12 ∧ Klass n (Pm C) R ∧ R ≠ [] ∧ Is K Hs x (gd C) ∧ Is K Hs y (il R) ∧ Same Hs H ∧
  ∀ v Hs' H' ν, Ext0 Hs H Hs' H' → Shares n (Pm C) R ν → Is K Hs' v (vd R.length ν) → Q v H'
def sp19 : Sp := fun vs H Q _ => ∃ (n : Nat) (C : List Pl) (R : List Nat) (kn : Nat → Option Rat) (e : Nat → Rat) (D Ke Kk : Nat) (x y z : V) (d : Addr) (Hs : Hp), vs = [x, y, .ref d, z] ∧ ChOk n C ∧ Is K Hs x (gd C) ∧ Is K Hs y (il R) ∧ DIs K Hs d kn ∧ Is K Hs z (vd n e) ∧
  MetIn n (Pm C) R kn e D Ke Kk ∧ Same Hs H ∧ ∀ v Hs' H' y, Ext0 Hs H Hs' H' → MetOut n (Pm C) R kn e D Ke Kk y → Is K Hs' v (vd R.length y) → Q v H'
end
/-! met -/
abbrev n19 : List Str := ["chain", "places", "known", "extras", "rows", "place", "row", "chance", "target", "at", "other"]
theorem sc19 : FnScope n19 ["chain", "places", "known", "extras"] (defScope s19) := ⟨rfl, rfl, rfl, by decide +kernel, rfl, by decide +kernel, by decide +kernel⟩
def t19 (K : PySem.W.Frag) : TS :=
    (tSeq (tAsg (tLst tNil) (gName 4))
    (tSeq (tFor (iList K (tVar 1)) (gName 5)
      (tSeq (tAsg (tOp rCat (tLc (iList K (tVar 1)) (gName 10) tYes (tIf (tTest (tOp rEq (tVar 10) (tVar 5))) (tC (.ref (He.ga K "ONE"))) (tC (.ref (He.ga K "NOUGHT_numbers")))) [10]) (tLst (tCons (tOp (rIxL K) (tVar 3) (tVar 5)) tNil))) (gName 6))
    (tSeq (tFor (iList K (tOp (rIxT K) (tOp (rIxL K) (tVar 0) (tVar 5)) (tC (.int 2)))) (gTup K 2 (gCons (gName 7) (gCons (gName 8) gNil)))
      (tIfS (tB (tDIn (tVar 8) (tVar 2))) (tAsg (tCall (sp7 K) [] E0 (tCons (tOp (rIxL K) (tVar 6) (tUn rNegI (tC (.int 1)))) (tCons (tCall (sp8 K) [] E0 (tCons (tVar 7) (tCons (tCall (sp7 K) [] E0 (tCons (tC (.ref (He.ga K "NOUGHT_numbers"))) (tCons (tDGet (tVar 2) (tVar 8)) tNil))) tNil))) tNil))) (gSub (tVar 6) (tUn rNegI (tC (.int 1))) rSetL)) (tSeq (tAsg (tBM K "list" (rIndex K) (tVar 1) (tCons (tVar 8) tNil)) (gName 9))
    (tAsg (tCall (sp7 K) [] E0 (tCons (tOp (rIxL K) (tVar 6) (tVar 9)) (tCons (tVar 7) tNil))) (gSub (tVar 6) (tVar 9) rSetL)))))
    (tDrop (tBM K "list" rAppend (tVar 4) (tCons (tVar 6) tNil))))))
    (tRet (tCall (sp17 K) [] E0 (tCons (tVar 4) tNil)))))
theorem der19 {P : Program} {w : World} {K : PySem.W.Frag} {mg : Str → Option Value} {base : Heap} {f : Addr} {cdv : Value} {A : Around} {outer : List Env} {s : Shared} {H : Hp} {E : XK} {qual : Str} (T : Txt K mg) (hr : Room 4 (A.deeper (envOfC qual (defScope s19) s.heap.objs.size f cdv))) (C7 : Cal P w K mg base 2 "minus" (sp7 K) []) (C8 : Cal P w K mg base 2 "times" (sp8 K) []) (C17 : Cal P w K mg base 4 "solved_equations" (sp17 K) []) :
    PSs (cxOf CX0 P w K mg base n19 qual (defScope s19) f cdv A outer s H E).nox (defBody s19) (t19 K) :=
    (pss_cons (ps_set (i := 4) sc19.nd rfl (.inl rfl) (pe_lst pa_nil))
    (pss_cons (ps_for PassesOwn.never rfl (pi_list (pv 1)) (pg_name (i := 5) sc19.nd rfl (.inr rfl))
      (pss_cons (ps_set (i := 6) sc19.nd rfl (.inl rfl) (pe_op op_cat (pe_lc (own := [("other", 10)]) (g := (gName 10)) (tt := tYes) rfl sc19.nd (pi_list (pv 1)) (blkOk_by (own := [("other", 10)]) (N := n19) (sc := defScope s19) (by decide +kernel)) (fun _ _ _ _ _ => (pg_name (i := 10) sc19.nd rfl (.inl rfl))) (fun _ _ _ _ _ => pts_nil) (fun _ _ _ _ _ => (pe_ifExp (pt_cmpR op_eq (pv 10) (pv 5) (nomark _)) (pe_glob (by rfl) T.one.1 rfl) (pe_glob (by rfl) T.zero.1 rfl)))) (pe_lst (pa_cons (pe_ix ix_list (pv 3) (pv 5) (fun _ _ => rfl)) pa_nil))))
    (pss_cons (ps_for PassesOwn.never rfl (pi_list (pe_ix ix_tup (pe_ix ix_list (pv 0) (pv 5) (fun _ _ => rfl)) pe_int (fun _ _ => rfl))) (pg_tup rfl (pgs_cons (pg_name (i := 7) sc19.nd rfl (.inl rfl)) (pgs_cons (pg_name (i := 8) sc19.nd rfl (.inl rfl)) pgs_nil)))
      (pss_one (ps_if (pt_cmp (pc_din (hu_of hr) (pv 8) (pv 2)) (by with_unfolding_all rfl)) (pss_one (ps_asg (pe_c C7 hr (by decide) (by rfl) (pa_cons (pe_ix ix_list (pv 6) (pe_un un_neg pe_int) (fun _ _ => rfl)) (pa_cons (pe_c C8 hr (by decide) (by rfl) (pa_cons (pv 7) (pa_cons (pe_c C7 hr (by decide) (by rfl) (pa_cons (pe_glob (by rfl) T.zero.1 rfl) (pa_cons (pe_dget (hu_of hr) (pv 2) (pv 8) (fun _ _ => rfl)) pa_nil))) pa_nil))) pa_nil))) (pg_sub (pv 6) (pe_un un_neg pe_int) set_list))) (pss_cons (ps_set (i := 9) sc19.nd rfl (.inl rfl) (pe_bm PySem.F.plainAttrs_list PySem.F.slot_list_index PySem.F.type_list_index mt_index (pv 1) (pa_cons (pv 8) pa_nil)))
    (pss_one (ps_asg (pe_c C7 hr (by decide) (by rfl) (pa_cons (pe_ix ix_list (pv 6) (pv 9) (fun _ _ => rfl)) (pa_cons (pv 7) pa_nil))) (pg_sub (pv 6) (pv 9) set_list)))))))
    (pss_one (ps_expr (pe_bm PySem.F.plainAttrs_list PySem.F.slot_list_append PySem.F.type_list_append mt_append (pv 4) (pa_cons (pv 6) pa_nil)))))))
    (pss_one (ps_ret (pe_c C17 hr (by decide) (by rfl) (pa_cons (pv 4) pa_nil))))))
theorem cal19 {P : Program} {w : World} {K : PySem.W.Frag} {mg : Str → Option Value} {base : Heap} (T : Txt K mg) (C7 : Cal P w K mg base 2 "minus" (sp7 K) []) (C8 : Cal P w K mg base 2 "times" (sp8 K) []) (C17 : Cal P w K mg base 4 "solved_equations" (sp17 K) [])
    (h : ∀ (vs : List V) (H : Hp) (Q : VK) (E : XK), sp19 K vs H Q E → t19 K { nx := fun _ H' => Q .non H', rt := Q } (start n19 vs) H) (len : ∀ vs H Q E, sp19 K vs H Q E → vs.length = 4) : Cal P w K mg base 5 "met" (sp19 K) [] :=
  Tx.cal T.d19 sc19 len fun cdv A outer f s H vs Q E hr hs => ⟨t19 K, der19 T hr C7 C8 C17, h vs H Q E hs⟩

/-! shares_in -/
abbrev n23 : List Str := ["chain", "closed", "rows", "place", "row", "at", "other", "_", "chance", "target"]
theorem sc23 : FnScope n23 ["chain", "closed"] (defScope s23) := ⟨rfl, rfl, rfl, by decide +kernel, rfl, by decide +kernel, by decide +kernel⟩
def t23 (K : PySem.W.Frag) : TS :=
    (tSeq (tAsg (tLst (tCons (tOp rCat (tLc (iList K (tVar 1)) (gName 7) tYes (tC (.ref (He.ga K "ONE"))) [7]) (tLst (tCons (tC (.ref (He.ga K "ONE"))) tNil))) tNil)) (gName 2))
    (tSeq (tFor (iList K (tSl (rSlL K) (tVar 1) (tPart (tC (.int 1))) tNoPart)) (gName 3)
      (tSeq (tAsg (tOp rCat (tLc (iList K (tVar 1)) (gName 6) tYes (tIf (tTest (tOp rEq (tVar 6) (tVar 3))) (tCall (sp7 K) [] E0 (tCons (tC (.ref (He.ga K "NOUGHT_numbers"))) (tCons (tC (.ref (He.ga K "ONE"))) tNil))) (tC (.ref (He.ga K "NOUGHT_numbers")))) [6]) (tLst (tCons (tC (.ref (He.ga K "NOUGHT_numbers"))) tNil))) (gName 4))
    (tSeq (tFor (iEnum K (tCons (tVar 1) tNil)) (gTup K 2 (gCons (gName 5) (gCons (gName 6) gNil)))
      (tAsg (tCall (sp6 K) [] E0 (tCons (tOp (rIxL K) (tVar 4) (tVar 5)) (tCons (tCall (sp10 K) [] E0 (tCons (tLc (iList K (tOp (rIxT K) (tOp (rIxL K) (tVar 0) (tVar 6)) (tC (.int 2)))) (gTup K 2 (gCons (gName 8) (gCons (gName 9) gNil))) (tTest (tOp rEq (tVar 9) (tVar 3))) (tVar 8) [8, 9]) tNil)) tNil))) (gSub (tVar 4) (tVar 5) rSetL)))
    (tDrop (tBM K "list" rAppend (tVar 2) (tCons (tVar 4) tNil))))))
    (tRet (tCall (sp17 K) [] E0 (tCons (tVar 2) tNil)))))
theorem der23 {P : Program} {w : World} {K : PySem.W.Frag} {mg : Str → Option Value} {base : Heap} {f : Addr} {cdv : Value} {A : Around} {outer : List Env} {s : Shared} {H : Hp} {E : XK} {qual : Str} (T : Txt K mg) (hr : Room 4 (A.deeper (envOfC qual (defScope s23) s.heap.objs.size f cdv))) (C6 : Cal P w K mg base 2 "plus" (sp6 K) []) (C7 : Cal P w K mg base 2 "minus" (sp7 K) []) (C10 : Cal P w K mg base 3 "total" (sp10 K) []) (C17 : Cal P w K mg base 4 "solved_equations" (sp17 K) []) :
    PSs (cxOf CX0 P w K mg base n23 qual (defScope s23) f cdv A outer s H E).nox (defBody s23) (t23 K) :=
    (pss_cons (ps_set (i := 2) sc23.nd rfl (.inl rfl) (pe_lst (pa_cons (pe_op op_cat (pe_lc (own := [("_", 7)]) (g := (gName 7)) (tt := tYes) rfl sc23.nd (pi_list (pv 1)) (blkOk_by (own := [("_", 7)]) (N := n23) (sc := defScope s23) (by decide +kernel)) (fun _ _ _ _ _ => (pg_name (i := 7) sc23.nd rfl (.inl rfl))) (fun _ _ _ _ _ => pts_nil) (fun _ _ _ _ _ => (pe_glob (by rfl) T.one.1 rfl))) (pe_lst (pa_cons (pe_glob (by rfl) T.one.1 rfl) pa_nil))) pa_nil)))
    (pss_cons (ps_for PassesOwn.never rfl (pi_list (pe_slice sl_list (pv 1) (po_some pe_int) po_none)) (pg_name (i := 3) sc23.nd rfl (.inr rfl))
      (pss_cons (ps_set (i := 4) sc23.nd rfl (.inl rfl) (pe_op op_cat (pe_lc (own := [("other", 6)]) (g := (gName 6)) (tt := tYes) rfl sc23.nd (pi_list (pv 1)) (blkOk_by (own := [("other", 6)]) (N := n23) (sc := defScope s23) (by decide +kernel)) (fun _ _ _ _ _ => (pg_name (i := 6) sc23.nd rfl (.inl rfl))) (fun _ _ _ _ _ => pts_nil) (fun _ _ _ _ _ => (pe_ifExp (pt_cmpR op_eq (pv 6) (pv 3) (nomark _)) (pe_c C7 hr (by decide) (by rfl) (pa_cons (pe_glob (by rfl) T.zero.1 rfl) (pa_cons (pe_glob (by rfl) T.one.1 rfl) pa_nil))) (pe_glob (by rfl) T.zero.1 rfl)))) (pe_lst (pa_cons (pe_glob (by rfl) T.zero.1 rfl) pa_nil))))
    (pss_cons (ps_for PassesOwn.never rfl (pi_enum (by rfl) T.b_enumerate (pa_cons (pv 1) pa_nil)) (pg_tup rfl (pgs_cons (pg_name (i := 5) sc23.nd rfl (.inl rfl)) (pgs_cons (pg_name (i := 6) sc23.nd rfl (.inl rfl)) pgs_nil)))
      (pss_one (ps_asg (pe_c C6 hr (by decide) (by rfl) (pa_cons (pe_ix ix_list (pv 4) (pv 5) (fun _ _ => rfl)) (pa_cons (pe_c C10 hr (by decide) (by rfl) (pa_cons (pe_lc (own := [("chance", 8), ("target", 9)]) (g := (gTup K 2 (gCons (gName 8) (gCons (gName 9) gNil)))) (tt := (tTest (tOp rEq (tVar 9) (tVar 3)))) rfl sc23.nd (pi_list (pe_ix ix_tup (pe_ix ix_list (pv 0) (pv 6) (fun _ _ => rfl)) pe_int (fun _ _ => rfl))) (blkOk_by (own := [("chance", 8), ("target", 9)]) (N := n23) (sc := defScope s23) (by decide +kernel)) (fun _ _ _ _ _ => (pg_tup rfl (pgs_cons (pg_name (i := 8) sc23.nd rfl (.inl rfl)) (pgs_cons (pg_name (i := 9) sc23.nd rfl (.inl rfl)) pgs_nil)))) (fun _ _ _ _ _ => (pts_one (pt_cmpR op_eq (pv 9) (pv 3) (nomark _)))) (fun _ _ _ _ _ => (pv 8))) pa_nil)) pa_nil))) (pg_sub (pv 4) (pv 5) set_list))))
    (pss_one (ps_expr (pe_bm PySem.F.plainAttrs_list PySem.F.slot_list_append PySem.F.type_list_append mt_append (pv 2) (pa_cons (pv 4) pa_nil)))))))
    (pss_one (ps_ret (pe_c C17 hr (by decide) (by rfl) (pa_cons (pv 2) pa_nil))))))
theorem cal23 {P : Program} {w : World} {K : PySem.W.Frag} {mg : Str → Option Value} {base : Heap} (T : Txt K mg) (C6 : Cal P w K mg base 2 "plus" (sp6 K) []) (C7 : Cal P w K mg base 2 "minus" (sp7 K) []) (C10 : Cal P w K mg base 3 "total" (sp10 K) []) (C17 : Cal P w K mg base 4 "solved_equations" (sp17 K) [])
    (h : ∀ (vs : List V) (H : Hp) (Q : VK) (E : XK), sp23 K vs H Q E → t23 K { nx := fun _ H' => Q .non H', rt := Q } (start n23 vs) H) (len : ∀ vs H Q E, sp23 K vs H Q E → vs.length = 2) : Cal P w K mg base 5 "shares_in" (sp23 K) [] :=
  Tx.cal T.d23 sc23 len fun cdv A outer f s H vs Q E hr hs => ⟨t23 K, der23 T hr C6 C7 C10 C17, h vs H Q E hs⟩

/-! weighed_by -/
abbrev n24 : List Str := ["shares", "numbers", "share", "one"]
theorem sc24 : FnScope n24 ["shares", "numbers"] (defScope s24) := ⟨rfl, rfl, rfl, by decide +kernel, rfl, by decide +kernel, by decide +kernel⟩
def t24 (K : PySem.W.Frag) : TS :=
    (tRet (tCall (sp10 K) [] E0 (tCons (tLc (iZip K (tCons (tVar 0) (tCons (tVar 1) tNil))) (gTup K 2 (gCons (gName 2) (gCons (gName 3) gNil))) tYes (tCall (sp8 K) [] E0 (tCons (tVar 2) (tCons (tVar 3) tNil))) [2, 3]) tNil)))
theorem der24 {P : Program} {w : World} {K : PySem.W.Frag} {mg : Str → Option Value} {base : Heap} {f : Addr} {cdv : Value} {A : Around} {outer : List Env} {s : Shared} {H : Hp} {E : XK} {qual : Str} (T : Txt K mg) (hr : Room 3 (A.deeper (envOfC qual (defScope s24) s.heap.objs.size f cdv))) (C8 : Cal P w K mg base 2 "times" (sp8 K) []) (C10 : Cal P w K mg base 3 "total" (sp10 K) []) :
    PSs (cxOf CX0 P w K mg base n24 qual (defScope s24) f cdv A outer s H E).nox (defBody s24) (t24 K) :=
    (pss_one (ps_ret (pe_c C10 hr (by decide) (by rfl) (pa_cons (pe_lc (own := [("share", 2), ("one", 3)]) (g := (gTup K 2 (gCons (gName 2) (gCons (gName 3) gNil)))) (tt := tYes) rfl sc24.nd (pi_zip (by rfl) T.b_zip (pa_cons (pv 0) (pa_cons (pv 1) pa_nil))) (blkOk_by (own := [("share", 2), ("one", 3)]) (N := n24) (sc := defScope s24) (by decide +kernel)) (fun _ _ _ _ _ => (pg_tup rfl (pgs_cons (pg_name (i := 2) sc24.nd rfl (.inl rfl)) (pgs_cons (pg_name (i := 3) sc24.nd rfl (.inl rfl)) pgs_nil)))) (fun _ _ _ _ _ => pts_nil) (fun _ _ _ _ _ => (pe_c C8 hr (by decide) (by rfl) (pa_cons (pv 2) (pa_cons (pv 3) pa_nil))))) pa_nil))))
theorem cal24 {P : Program} {w : World} {K : PySem.W.Frag} {mg : Str → Option Value} {base : Heap} (T : Txt K mg) (C8 : Cal P w K mg base 2 "times" (sp8 K) []) (C10 : Cal P w K mg base 3 "total" (sp10 K) [])
    (h : ∀ (vs : List V) (H : Hp) (Q : VK) (E : XK), sp24 K vs H Q E → t24 K { nx := fun _ H' => Q .non H', rt := Q } (start n24 vs) H) (len : ∀ vs H Q E, sp24 K vs H Q E → vs.length = 2) : Cal P w K mg base 4 "weighed_by" (sp24 K) [] :=
  Tx.cal T.d24 sc24 len fun cdv A outer f s H vs Q E hr hs => ⟨t24 K, der24 T hr C8 C10, h vs H Q E hs⟩

end Mh
end
section
set_option Elab.async false
set_option linter.all false
set_option maxRecDepth 100000
set_option maxHeartbeats 4000000
/-! systems: the readings -/
namespace Mh
open PySem PySem.Spec PyProof.Rows L2
open C8 (Cal pe_c)
open Evl (ixN_nat)
theorem sumq_range (g : Nat → Rat) : ∀ m, sumq ((List.range m).map g) = sm m g
  | 0 => rfl
  | m + 1 => by rw [List.range_succ, List.map_append, sumq_append, sumq_range g m]; show sm m g + (g m + 0) = sm m g + g m; grind
theorem take_range_map {α : Type} (g : Nat → α) {m i : Nat} (h : i ≤ m) : ((List.range m).map g).take i = (List.range i).map g := by
  rw [← List.map_take, List.take_range, Nat.min_eq_left h]
theorem sumq_sub {l m : List Rat} (h : l.Sublist m) (hm : ∀ q ∈ m, 0 ≤ q) : sumq l ≤ sumq m := by
  induction h with
  | slnil => exact Rat.le_refl
  | @cons l m a _ ih =>
    have h1 := ih fun q hq => hm q (by simp [hq])
    have h2 := hm a (by simp)
    show sumq l ≤ a + sumq m
    grind
  | @cons_cons l m a _ ih =>
    have h1 := ih fun q hq => hm q (by simp [hq])
    show a + sumq l ≤ a + sumq m
    grind
theorem sumq_int {l : List Rat} {S : Rat} (h : ∀ q ∈ l, IsI (q * S)) : IsI (sumq l * S) := by
  induction l with
  | nil => show IsI (0 * S); rw [Rat.zero_mul]; exact IsI.zero
  | cons a l ih =>
    show IsI ((a + sumq l) * S)
    rw [Rat.add_mul]
    exact (h a (by simp)).add (ih fun q hq => h q (by simp [hq]))
theorem frac_sz {q : Rat} {S : Nat} (h0 : 0 < S) (h1 : S ≤ 360) (h2 : IsI (q * (S : Rat))) (h3 : ab q ≤ 2) : Sz 10 q :=
  Sz.den (K := 2) h2 (by omega) h3 (by omega) (by omega)
theorem PlOk.frac {n : Nat} {p : Pl} (h : PlOk n p) {l : List Rat} (hl : l.Sublist (p.bs.map (·.1))) : 0 ≤ sumq l ∧ sumq l ≤ 1 ∧ Sz 10 (sumq l) := by
  have hp : ∀ q ∈ p.bs.map (·.1), 0 ≤ q := fun q hq => by
    obtain ⟨b, hb, rfl⟩ := List.mem_map.mp hq
    have := h.pos b hb; grind
  have h1 := sumq_sub hl hp
  have h0 := sumq_nonneg l fun q hq => hp q (hl.subset hq)
  rw [h.one] at h1
  obtain ⟨S, s0, s1, s2⟩ := h.den
  refine ⟨h0, h1, frac_sz s0 s1 (sumq_int fun q hq => ?_) (by rw [ab_of_nonneg h0]; grind)⟩
  obtain ⟨b, hb, rfl⟩ := List.mem_map.mp (hl.subset hq)
  exact s2 b hb
theorem PlOk.one_sz {n : Nat} {p : Pl} (h : PlOk n p) {b : Rat × Nat} (hb : b ∈ p.bs) : b.1 ≤ 1 ∧ Sz 10 b.1 := by
  have hl : [b.1].Sublist (p.bs.map (·.1)) := List.singleton_sublist.mpr (List.mem_map.mpr ⟨b, hb, rfl⟩)
  obtain ⟨_, h1, h2⟩ := h.frac hl
  have e : sumq [b.1] = b.1 := by show b.1 + 0 = b.1; grind
  rw [e] at h1 h2
  exact ⟨h1, h2⟩
theorem fmap_range {α β : Type} (l : List α) (d : α) (g : α → Option β) : (List.range l.length).filterMap (fun i => g (l.getD i d)) = l.filterMap g := by
  have := range_map l g d
  have e : ∀ (a : List Nat), a.filterMap (fun i => g (l.getD i d)) = (a.map fun i => g (l.getD i d)).filterMap id := fun a => by rw [List.filterMap_map]; rfl
  rw [e, this, List.filterMap_map]
  rfl
theorem fmap_filter {α β : Type} (p : α → Prop) [DecidablePred p] (f : α → β) : ∀ l : List α, l.filterMap (fun a => if p a then some (f a) else none) = (l.filter fun a => decide (p a)).map f
  | [] => rfl
  | a :: l => by
    have ih := fmap_filter p f l
    by_cases h : p a
    · rw [List.filterMap_cons_some (b := f a) (by simp [h]), List.filter_cons_of_pos (by simpa using h), ih]; rfl
    · rw [List.filterMap_cons_none (by simp [h]), List.filter_cons_of_neg (by simpa using h), ih]
section
variable {K : PySem.W.Frag}
theorem h24 (vs : List V) (H : Hp) (Q : VK) (E : XK) (h : sp24 K vs H Q E) : t24 K { nx := fun _ H' => Q .non H', rt := Q } (start n24 vs) H := by
  obtain ⟨m, i, j, k, ν, f, x, y, Hs, rfl, hm, hx, hy, hz, hij, hk, hp, hs, st, q⟩ := h
  obtain ⟨a, xs, rfl, ha, hxs⟩ := is_vd hx
  obtain ⟨b, ys, rfl, hb, hys⟩ := is_vd hy
  refine ⟨_, rfl, _, rfl, a, b, xs, ys, rfl, SqL.of (st _ _ ha), SqL.of (st _ _ hb), fun D hD => ?_⟩
  refine lc_map (K := K) (walk_zip (xs := xs) (ys := ys) (n := m) (by rw [hxs.flen, hys.flen]; simp)) st (fun H' s => ⟨SqL.of (s _ _ ha), SqL.of (s _ _ hb)⟩) hD (fun c => qd (ν c * f c)) (by omega) ?_ ?_
  · rintro c v Hs' H1 H' C hc e d0 ⟨T, vx, vy, rfl, hT, rfl, ex, ey⟩ kk
    obtain ⟨_, ix⟩ := hxs.fget' ex
    obtain ⟨_, iy⟩ := hys.fget' ey
    have e1 : Ext0 Hs' H1 Hs' (upd H1 T (.tup [vx, vy])) := (Ext.refl e.t).newM hT
    refine ⟨T, [vx, vy], rfl, SqT.of upd_same, rfl, vx, [vy], rfl, vy, [], rfl, rfl, rfl, ?_⟩
    exact ⟨vx, rfl, vy, rfl, ν c, f c, i, j, vx, vy, Hs', rfl, ix.up e.s, iy.up e.s, (hz c hc).1, (hz c hc).2, hij, trivial, e1.t, fun w Hs2 H2 e2 hw => kk w Hs2 H2 (e1.trans e2) hw⟩
  · intro Hs2 H2 ws e d0 d1 hw
    have e2 := e.frz hD d0 d1
    have hw' := hw.up (same_new (o := .lst ws) d0)
    refine ⟨(List.range m).map fun c => ν c * f c, k, .ref D, upd Hs2 D (.lst ws), rfl, .lst upd_same (by rw [List.map_map]; exact hw'), by simp; omega, hk, ?_, ?_, e2.t, fun v Hs3 H3 e3 hv => q v Hs3 H3 (e2.trans e3) (by rw [sumq_range] at hv; exact hv)⟩
    · intro r hr
      obtain ⟨c, hc, rfl⟩ := List.mem_map.mp hr
      exact hp c (List.mem_range.mp hc)
    · intro c hc
      rw [List.length_map, List.length_range] at hc
      rw [take_range_map _ hc, sumq_range]
      exact hs c hc
end
end Mh
end
section
set_option Elab.async false
set_option linter.all false
set_option maxRecDepth 100000
set_option maxHeartbeats 4000000
namespace Mh
open PySem PySem.Spec PyProof.Rows L2
open C8 (Cal pe_c)
open Evl (ixN_nat)
theorem cutV_one (xs : List V) : cutV xs (some 1) none = xs.drop 1 := by
  unfold cutV
  have h : HT.sIx xs.length 0 (some 1) = min 1 xs.length := by unfold HT.sIx; simp <;> omega
  have h2 : HT.sIx xs.length xs.length none = xs.length := rfl
  rw [h, h2]
  cases xs with
  | nil => rfl
  | cons x xs =>
    have : min 1 (x :: xs).length = 1 := by simp
    rw [this]
    show List.take (xs.length + 1 - 1) xs = xs
    rw [List.take_of_length_le (by omega)]
section
variable {K : PySem.W.Frag} {mg : Str → Option Value}
def statM (m : Nat) (P : Mat) : Nat → Row := fun r j => if r = 0 then 1 else if j < m then P j r - (if j = r then 1 else 0) else 0
theorem h23 (vs : List V) (H : Hp) (Q : VK) (E : XK) (h : sp23 K vs H Q E) (T : Txt K mg) : t23 K { nx := fun _ H' => Q .non H', rt := Q } (start n23 vs) H := by
  obtain ⟨n, C, R, x, y, Hs, rfl, hC, hn, hR, hne, hx, hy, st, q⟩ := h
  obtain ⟨a, xs, rfl, ha, hxs⟩ := is_gd hx
  obtain ⟨r, rfl, hr⟩ := is_il hy
  obtain ⟨m, hm⟩ : ∃ m, m = R.length := ⟨_, rfl⟩
  have lvi : (vi R).length = m := by rw [vi_len, hm]
  have hm12 : m ≤ n := by rw [hm]; exact nd_len n R hR.nd hR.lt
  have hm0 : 0 < m := by rw [hm]; exact List.length_pos_iff.mpr hne
  refine ⟨_, rfl, r, rfl, ⟨vi R, SqL.of (st _ _ hr)⟩, fun D hD => ?_⟩
  refine lc_map (K := K) (n := (vi R).length) (walk_list (xs := vi R)) st (fun H' s => SqL.of (s _ _ hr)) hD (fun _ => qd 1) (by omega) ?_ ?_
  · rintro i v Hs' H1 H1' C' hi e d0 ⟨rfl, _⟩ kk
    exact ⟨rfl, kk _ _ _ (Ext.refl e.t) (one_is (T.one.2 _))⟩
  intro Hs1 H1 ws e1 d0 d1 hws
  rw [lvi] at hws
  refine ⟨by show 1 ≤ sizeLine; decide, fun b hb => ?_⟩
  have hDb : D ≠ b := ne_of_none d1 hb
  refine ⟨D, b, ws, _, rfl, rfl, by rw [upd_ne hDb]; exact d1, upd_same, by have := hws.flen; exact bl_sl (by show ws.length + 1 ≤ 100000; omega), fun p hp => ?_⟩
  refine ⟨by show 1 ≤ sizeLine; decide, fun l hl => ?_⟩
  have e2 : Ext0 Hs H (upd Hs1 p (.lst (ws ++ [.ref (He.ga K "ONE")]))) (upd (upd H1 b (.lst [.ref (He.ga K "ONE")])) p (.lst (ws ++ [.ref (He.ga K "ONE")]))) := (e1.newM hb).new hp
  have e3 := e2.newM (p := l) (o := .lst [.ref p]) hl
  have hl0 : H l = none := e2.free hl
  have i0 : Is K (upd Hs1 p (.lst (ws ++ [.ref (He.ga K "ONE")]))) (.ref p) (vd (m + 1) (statM m (sub (Pm C) R) 0)) := by
    refine .lst upd_same ?_
    rw [fl_snoc]
    exact (hws.up (same_new ((e1.newM hb).t.free hp))).append (.cons (one_is (T.one.2 _)) .nil)
  refine ⟨_, rfl, _, rfl, r, vi R, rfl, SqL.of (e3.t _ _ (e2.s _ _ hr)), fun p2 hp2 => ?_⟩
  rw [cutV_one]
  have edr : (vi R).drop 1 = vi (R.drop 1) := by unfold vi; rw [List.map_drop]
  rw [edr]
  have ldr : (vi (R.drop 1)).length = m - 1 := by rw [vi_len, List.length_drop]; omega
  have npl : l ≠ p2 := ne_of_none upd_same hp2
  have e4 := e3.new (o := .lst (vi (R.drop 1))) hp2
  have l0 : (upd (upd Hs1 p (.lst (ws ++ [.ref (He.ga K "ONE")]))) p2 (.lst (vi (R.drop 1)))) l = none := by rw [upd_ne npl]; exact e2.t.free hl
  refine ⟨p2, rfl, ⟨_, SqL.of upd_same⟩, ?_⟩
  refine for_it (walk_list (xs := vi (R.drop 1))) (fun i σ H' => ∃ (Hs' : Hp) (ys : List V) (y3 y4 y5 y6 y7 y8 y9 : Option V), σ = [some (.ref a), some (.ref r), some (.ref l), y3, y4, y5, y6, y7, y8, y9] ∧ Ext0 Hs H Hs' H' ∧ Hs' p2 = some (.lst (vi (R.drop 1))) ∧ Hs' l = none ∧ H' l = some (.lst ys) ∧
      IsA K Hs' ys (fl (i + 1) fun k => vd (m + 1) (statM m (sub (Pm C) R) k)))
    ⟨_, _, _, _, _, _, _, _, _, rfl, e4, upd_same, l0, by rw [upd_ne npl]; exact upd_same, .cons (i0.up (same_new (e3.t.free hp2))) .nil⟩ (fun i σ H' _ ⟨Hs', ys, _, _, _, _, _, _, _, _, e, h2, _⟩ => SqL.of (e.t _ _ h2)) ?_ ?_
  · rintro i v σ H2 H2' hi ⟨Hs2, ys, y3, y4, y5, y6, y7, y8, y9, rfl, e5, hp2', l1, l2, hys⟩ ⟨rfl, hv⟩
    obtain ⟨z, ez, rfl⟩ := vi_get hv
    rw [List.getElem?_drop] at ez
    have hk : 1 + i < m := by rw [ldr] at hi; omega
    have lys := hys.flen
    have zmem : z ∈ R := List.mem_of_getElem? ez
    have zn := hR.lt z zmem
    have getz : R.getD (i + 1) 0 = z := by rw [Nat.add_comm]; simp [List.getD, ez]
    refine ⟨_, rfl, r, rfl, ⟨vi R, SqL.of (e5.t _ _ (e5.s _ _ hr))⟩, fun D3 hD3 => ?_⟩
    refine lc_map (K := K) (Hs := Hs2) (n := (vi R).length) (walk_list (xs := vi R)) e5.t (fun H' s => SqL.of (s _ _ (e5.s _ _ hr))) hD3 (fun j => qd (if j = i + 1 then 0 - 1 else 0)) (by omega) ?_ ?_
    · rintro j v Hs3 H3 H3' C' hj e6 d60 ⟨rfl, hv⟩ kk
      obtain ⟨o, eo, rfl⟩ := vi_get hv
      have geto : R.getD j 0 = o := by simp [List.getD, eo]
      refine ⟨rfl, _, rfl, _, rfl, rfl, _, rfl, ?_⟩
      by_cases hj2 : j = i + 1
      · have ed : decide (V.int ((o : Nat) : Int) = V.int ((z : Nat) : Int)) = true := decide_eq_true (by rw [← geto, ← getz, hj2])
        rw [ed]
        refine iteT ?_
        refine ⟨0, 1, 1, 1, _, _, Hs3, rfl, zero_is (T.zero.2 _), one_is (T.one.2 _), Sz.zero (by decide), Sz.one (by decide), by decide, trivial, e6.t, fun w Hs4 H4 e7 hw => kk w Hs4 H4 e7 ?_⟩
        rw [if_pos hj2]; exact hw
      · have ed : decide (V.int ((o : Nat) : Int) = V.int ((z : Nat) : Int)) = false := decide_eq_false fun w => hj2 (by
          have : o = z := by have := V.int.inj w; omega
          rw [← geto, ← getz] at this
          exact (nd_iff.mp hR.nd) j (i + 1) (by omega) (by omega) this)
        rw [ed]
        refine iteF ?_
        refine kk _ Hs3 _ (Ext.refl e6.t) ?_
        rw [if_neg hj2]; exact zero_is (T.zero.2 _)
    intro Hs3 H3 ws3 e6 d60 d61 hw3
    rw [lvi] at hw3
    obtain ⟨l3, l4⟩ := e6.own (fun z => z) l2 l1
    refine ⟨by show 1 ≤ sizeLine; decide, fun b3 hb3 => ?_⟩
    have hDb3 : D3 ≠ b3 := ne_of_none d61 hb3
    refine ⟨D3, b3, ws3, _, rfl, rfl, by rw [upd_ne hDb3]; exact d61, upd_same, by have := hw3.flen; exact bl_sl (by show ws3.length + 1 ≤ 100000; omega), fun p3 hp3 => ?_⟩
    have e7 : Ext0 Hs H Hs3 (upd H3 b3 (.lst [.ref (He.ga K "NOUGHT_numbers")])) := (e5.trans e6).newM hb3
    have e8 := e7.newM (o := .lst (ws3 ++ [.ref (He.ga K "NOUGHT_numbers")])) hp3
    have nb3 : l ≠ b3 := ne_of_none l4 hb3
    have np3 : l ≠ p3 := ne_of_none (by rw [upd_ne nb3]; exact l4) hp3
    have l5 : (upd (upd H3 b3 (.lst [.ref (He.ga K "NOUGHT_numbers")])) p3 (.lst (ws3 ++ [.ref (He.ga K "NOUGHT_numbers")]))) l = some (.lst ys) := by rw [upd_ne np3, upd_ne nb3]; exact l4
    have hp30 : H p3 = none := e7.free hp3
    have r0 : IsA K Hs3 (ws3 ++ [.ref (He.ga K "NOUGHT_numbers")]) (fl (m + 1) fun j => qd (if j < m then (if j < 0 then statM m (sub (Pm C) R) (i + 1) j else (if j = i + 1 then 0 - 1 else 0)) else 0)) := by
      rw [fl_snoc]
      refine IsA.append (IsA.fcongr hw3 fun j hj => ?_) (.cons ?_ .nil)
      · rw [if_pos hj, if_neg (Nat.not_lt_zero j)]
      · rw [if_neg (Nat.lt_irrefl m)]; exact zero_is (T.zero.2 _)
    refine ⟨_, rfl, r, _, rfl, SqL.of (e8.t _ _ (e6.s _ _ (e5.s _ _ hr))), ?_⟩
    refine for_it (walk_enum (xs := vi R)) (fun j σ H' => ∃ (Hs' : Hp) (zs : List V) (y5 y6 y7 y8 y9 : Option V), σ = [some (.ref a), some (.ref r), some (.ref l), some (.int (z : Int)), some (.ref p3), y5, y6, y7, y8, y9] ∧ Ext0 Hs2 H2' Hs' H' ∧ Ext0 Hs H Hs' H' ∧ Hs' l = none ∧ H' l = some (.lst ys) ∧ Hs' p3 = none ∧ H' p3 = some (.lst zs) ∧
        IsA K Hs' zs (fl (m + 1) fun c => qd (if c < m then (if c < j then statM m (sub (Pm C) R) (i + 1) c else (if c = i + 1 then 0 - 1 else 0)) else 0)))
      ⟨Hs3, _, _, _, _, _, _, rfl, (e6.newM hb3).newM hp3, e8, l3, l5, e7.t.free hp3, upd_same, r0⟩ (fun j σ H' _ ⟨Hs', zs, _, _, _, _, _, _, _, e, _⟩ => SqL.of (e.t _ _ (e.s _ _ hr))) ?_ ?_
    · rintro j v σ H4 H4' hj ⟨Hs4, zs, y5, y6, y7, y8, y9, rfl, e9, e10, l6, l7, q0, q1, hzs⟩ ⟨T', x1, x2, rfl, hT, rfl, ex1, ex2⟩
      cases ex1
      obtain ⟨o, eo, rfl⟩ := vi_get ex2
      rw [lvi] at hj
      have geto : R.getD j 0 = o := by simp [List.getD, eo]
      have omem : o ∈ R := List.mem_of_getElem? eo
      have on := hR.lt o omem
      have hTl : l ≠ T' := ne_of_none l7 hT
      have hTp : p3 ≠ T' := ne_of_none q1 hT
      have e11 : Ext0 Hs H Hs4 (upd H4 T' (.tup [.int (j : Nat), .int (o : Int)])) := e10.newM hT
      have e12 : Ext0 Hs2 H2' Hs4 (upd H4 T' (.tup [.int (j : Nat), .int (o : Int)])) := e9.newM hT
      have l8 : (upd H4 T' (.tup [.int (j : Nat), .int (o : Int)])) l = some (.lst ys) := by rw [upd_ne hTl]; exact l7
      have q2 : (upd H4 T' (.tup [.int (j : Nat), .int (o : Int)])) p3 = some (.lst zs) := by rw [upd_ne hTp]; exact q1
      generalize hH5 : upd H4 T' (.tup [.int (j : Nat), .int (o : Int)]) = H5 at e11 e12 l8 q2
      refine ⟨T', _, rfl, SqT.of (by rw [← hH5]; exact upd_same), rfl, _, _, rfl, _, _, rfl, rfl, ?_⟩
      obtain ⟨w1, ew1, iw1⟩ := hzs.fget (i := j) (by omega)
      rw [if_pos hj, if_neg (Nat.lt_irrefl j)] at iw1
      have iw1' : Is K Hs4 w1 (qd (if j = i + 1 then 0 - 1 else 0)) := iw1
      obtain ⟨u, eu, iu⟩ := hxs.fget (i := o) (by rw [hC.len]; exact on)
      obtain ⟨c, g, bb, bs, rfl, hc, ig, hbs, ibs⟩ := is_pd iu
      have hO := hC.at on
      rw [hO.dr] at ibs
      have lbs : bs.length = (pl C o).bs.length := by rw [ibs.len, List.length_map]
      refine ⟨_, rfl, _, rfl, p3, zs, _, w1, rfl, rfl, SqL.of q2, atI_nat ew1, ?_⟩
      refine ⟨_, rfl, _, rfl, a, xs, _, _, rfl, rfl, SqL.of (e11.t _ _ (e11.s _ _ ha)), atI_nat eu, c, _, 2, _, rfl, rfl, sqt_up e11.t (sqt_up e11.s hc), rfl, bb, rfl, ⟨bs, SqL.of (e11.t _ _ (e11.s _ _ hbs))⟩, fun D5 hD5 => ?_⟩
      refine lc_go (K := K) (Hs := Hs4) (n := bs.length) (walk_list (xs := bs)) e11.t (fun H' s => SqL.of (s _ _ (e11.s _ _ hbs))) hD5 (fun k => (fun b : Rat × Nat => if b.2 = z then some (qd b.1) else none) ((pl C o).bs.getD k (0, 0))) (by have := hO.br; omega) ?_ ?_
      · rintro k v Hs6 H6 H6' C' N hk6 e13 d60 ⟨rfl, hv⟩ k1 k2
        obtain ⟨d, hd, iy⟩ := ibs.get' hv
        obtain ⟨br, ebr, rfl⟩ := map_get hd
        obtain ⟨pp, y1, y2, rfl, hpp, i1, i2⟩ := (show Is K Hs v (.tuple [qd br.1, .int (br.2 : Int)]) from iy).pair
        cases i2.int'
        have egt : (pl C o).bs.getD k (0, 0) = br := by simp [List.getD, ebr]
        rw [egt] at k1 k2
        refine ⟨pp, _, rfl, sqt_up e13.t (sqt_up e13.s (sqt_up e11.s hpp)), rfl, y1, _, rfl, _, _, rfl, rfl, rfl, ?_⟩
        refine ⟨_, rfl, _, rfl, rfl, _, rfl, ?_⟩
        by_cases hbz : br.2 = z
        · have ed : decide (V.int ((br.2 : Nat) : Int) = V.int ((z : Nat) : Int)) = true := decide_eq_true (by rw [hbz])
          rw [ed]
          refine iteT ?_
          exact ⟨_, rfl, k1 _ Hs6 _ (qd br.1) (if_pos hbz) (Ext.refl e13.t) ((i1.up e11.s).up e13.s)⟩
        · have ed : decide (V.int ((br.2 : Nat) : Int) = V.int ((z : Nat) : Int)) = false := decide_eq_false fun w => hbz (by have := V.int.inj w; omega)
          rw [ed]
          refine iteF ?_
          exact k2 Hs6 _ (if_neg hbz) (Ext.refl e13.t)
      · intro Hs6 H6 ws6 e13 d60 d61 hw6
        rw [lbs, fmap_range (pl C o).bs (0, 0) (fun b : Rat × Nat => if b.2 = z then some (qd b.1) else none), fmap_filter (fun b : Rat × Nat => b.2 = z) (fun b => qd b.1)] at hw6
        have e14 := e13.frz hD5 d60 d61
        have hsub : ((pl C o).bs.filter fun b => decide (b.2 = z)).Sublist (pl C o).bs := List.filter_sublist
        refine ⟨((pl C o).bs.filter fun b => decide (b.2 = z)).map (·.1), 10, _, upd Hs6 D5 (.lst ws6), rfl, .lst upd_same (by rw [List.map_map]; exact hw6.up (same_new d60)), by rw [List.length_map]; have := hsub.length_le; have := hO.br; omega, by decide, fun q hq => ?_, fun k hk => ?_, e14.t, fun w Hs7 H7 e15 hw => ?_⟩
        · obtain ⟨b, hb, rfl⟩ := List.mem_map.mp hq
          exact (hO.one_sz (hsub.subset hb)).2
        · exact (hO.frac ((List.take_sublist _ _).trans (hsub.map _))).2.2
        · have hw : Is K Hs7 w (qd (wt (pl C o).bs z)) := hw
          have e16 : Ext0 Hs4 H5 Hs7 H7 := e14.trans e15
          refine ⟨_, _, 10, 10, w1, w, Hs7, rfl, iw1'.up e16.s, hw, ?_, (hO.frac (hsub.map _)).2.2, by decide, trivial, e16.t, fun w8 Hs8 H8 e17 hw8 => ?_⟩
          · split
            · exact Sz.sub (i := 4) (j := 4) (Sz.zero (by decide)) (Sz.one (by decide)) |>.mono (by decide)
            · exact Sz.zero (by decide)
          · have e18 := e16.trans e17
            obtain ⟨l9, l10⟩ := e18.own (fun z => z) l8 l6
            obtain ⟨q3, q4⟩ := e18.own (fun z => z) q2 q0
            refine ⟨_, rfl, _, rfl, p3, zs, _, j, rfl, rfl, q4, ixN_nat (by rw [hzs.flen]; omega), ?_⟩
            have npl3 : l ≠ p3 := fun z => by rw [← z, l10] at q4; cases q4; exact absurd np3 (by simp [z])
            refine ⟨Hs8, zs.set j w8, _, _, _, _, _, rfl, (e12.trans e18).mut (.inl ?_) q3, (e11.trans e18).mut (.inl hp30) q3, l9, by rw [upd_ne np3]; exact l10, q3, upd_same, ?_⟩
            · exact ((e6.newM hb3).free hp3)
            · refine ((hzs.up e18.s).fset j hw8).fcongr fun c hc => ?_
              by_cases hcj : c = j
              · subst hcj
                have c3 : c < c + 1 := Nat.lt_succ_self c
                rw [if_pos rfl, if_pos hj, if_pos c3]
                congr 1
                unfold statM
                rw [if_neg (show ¬ i + 1 = 0 by omega), if_pos hj]
                have : sub (Pm C) R c (i + 1) = wt (pl C o).bs z := by show wt (pl C (R.getD c 0)).bs (R.getD (i + 1) 0) = _; rw [geto, getz]
                rw [this]
                split <;> grind
              · rw [if_neg hcj]
                congr 1
                by_cases c1 : c < m
                · rw [if_pos c1, if_pos c1]
                  by_cases c2 : c < j
                  · have c3 : c < j + 1 := by omega
                    rw [if_pos c2, if_pos c3]
                  · have c3 : ¬ c < j + 1 := by omega
                    rw [if_neg c2, if_neg c3]
                · rw [if_neg c1, if_neg c1]
    · rintro σ H4 ⟨Hs4, zs, y5, y6, y7, y8, y9, rfl, e9, e10, l6, l7, q0, q1, hzs⟩
      rw [lvi] at hzs
      refine ⟨_, rfl, .inl ⟨rfl, _, .inl (.inl l7)⟩, _, rfl, l, ys, _, rfl, rfl, l7, big_lt (by omega), ?_⟩
      have nlp : p3 ≠ l := np3.symm
      have e11 := e10.frz hp30 q0 q1
      have l8 : (upd Hs4 p3 (.lst zs)) l = none := by rw [upd_ne np3]; exact l6
      refine ⟨_, _, _, _, _, _, _, _, _, rfl, e11.mut (.inl hl0) l8, ?_, l8, upd_same, ?_⟩
      · exact (same_new q0) _ _ (e9.s _ _ hp2')
      · rw [fl_snoc _ (fun k => vd (m + 1) (statM m (sub (Pm C) R) k))]
        refine ((hys.up e9.s).up (same_new q0)).append (.cons (.lst upd_same ?_) .nil)
        refine (hzs.up (same_new q0)).fcongr fun c hc => ?_
        congr 1
        by_cases c1 : c < m
        · rw [if_pos c1, if_pos c1]
        · rw [if_neg c1]; unfold statM; rw [if_neg (by omega), if_neg c1]
  · rintro σ H2 ⟨Hs2, ys, y3, y4, y5, y6, y7, y8, y9, rfl, e5, hp2', l1, l2, hys⟩
    rw [ldr, show m - 1 + 1 = m by omega] at hys
    have e6 := e5.frz hl0 l1 l2
    have hsys : StatSys m (sub (Pm C) R) (statM m (sub (Pm C) R)) := by
      refine ⟨fun i hi => ?_, ⟨0, hm0, fun j _ => rfl⟩, fun k k1 k2 => ⟨k, k2, fun j hj => ?_, ?_⟩⟩
      · by_cases c : i = 0
        · subst c; exact .inl fun j _ => rfl
        · refine .inr ⟨i, by omega, hi, fun j hj => ?_, ?_⟩
          · unfold statM; rw [if_neg c, if_pos hj]
          · unfold statM; rw [if_neg c, if_neg (by omega)]
      · unfold statM; rw [if_neg (by omega), if_pos hj]
      · unfold statM; rw [if_neg (by omega), if_neg (by omega)]
    have hS : Stoch m (sub (Pm C) R) := by rw [hm]; exact hR.stoch hC.stoch
    have hI : Irr m (sub (Pm C) R) := by rw [hm]; exact hR.irr
    have hγ : ∀ j, ∃ s : Nat, j < m → 0 < s ∧ s ≤ 360 ∧ ∀ k, k < m → IsI (sub (Pm C) R j k * (s : Rat)) := by
      intro j
      by_cases hj : j < m
      · have hj2 := hC.at (hR.lt _ (getD_mem (l := R) (i := j) (by omega)))
        obtain ⟨S, s0, s1, s2⟩ := hj2.den
        exact ⟨S, fun _ => ⟨s0, s1, fun k _ => wt_int s2 _⟩⟩
      · exact ⟨0, fun h => absurd h hj⟩
    obtain ⟨γ, hγ⟩ := Classical.skolem.mp hγ
    have hscl := hsys.scl hS hγ
    have hsm : ∀ m : Nat, m ≤ 12 → Wn m 360 1 360 < 2 ^ 2900 ∧ Wd m 360 1 360 < 2 ^ 2900 := by decide +kernel
    refine ⟨_, rfl, ?_⟩
    refine ⟨m, statM m (sub (Pm C) R), _, upd Hs2 l (.lst ys), rfl, by omega, .lst upd_same (hys.up (same_new l1)), hsys.inj hS hI, hscl.small (hsm m (by omega)).1 (hsm m (by omega)).2, e6.t, fun v Hs3 H3 y e7 hA hv => ?_⟩
    have hsol := hsys.ans hA.solves
    obtain ⟨N, n0, n1, n2⟩ := hA.den hscl
    refine q v Hs3 H3 y (e6.trans e7) ⟨by rw [← hm]; exact hsol.1, fun i i1 i2 => by rw [← hm] at i2 ⊢; exact hsol.2 i i1 i2, N, by omega, Nat.le_trans n1 (pw_le hm12 (by decide)), fun j hj => ?_⟩ (by rw [← hm]; exact hv)
    have := (n2 j (by omega)).1
    rw [if_neg (by omega), Nat.mul_one] at this
    exact this
end
end Mh
end
section
set_option Elab.async false
set_option linter.all false
set_option maxRecDepth 100000
set_option maxHeartbeats 4000000
/-! systems: numbers that meet their mean -/
namespace Mh
open PySem PySem.Spec PyProof.Rows L2
open C8 (Cal pe_c)
open Evl (ixN_nat)
theorem ChOk.dens {n : Nat} {C : List Pl} (h : ChOk n C) : ∃ s : Nat → Nat, ∀ x, x < n → 0 < s x ∧ s x ≤ 360 ∧ ∀ y, y < n → IsI (Pm C x y * (s x : Rat)) := by
  have : ∀ x, ∃ s : Nat, x < n → 0 < s ∧ s ≤ 360 ∧ ∀ y, y < n → IsI (Pm C x y * (s : Rat)) := fun x => by
    by_cases hx : x < n
    · obtain ⟨S, s0, s1, s2⟩ := (h.at hx).den
      exact ⟨S, fun _ => ⟨s0, s1, fun y _ => wt_int s2 y⟩⟩
    · exact ⟨0, fun h => absurd h hx⟩
  exact Classical.skolem.mp this
theorem take_snoc {α : Type} {l : List α} {k : Nat} {b : α} (h : l[k]? = some b) : l.take (k + 1) = l.take k ++ [b] := by
  rw [List.take_add_one, h]; rfl
/-- the row that met builds, after so many branches -/
def rowP (C : List Pl) (R : List Nat) (e kf : Nat → Rat) (i k : Nat) : Row := fun j =>
  if j < R.length then (if i = j then 1 else 0) - wt ((pl C (R.getD i 0)).bs.take k) (R.getD j 0) else e (R.getD i 0) + sumq (((pl C (R.getD i 0)).bs.take k).map fun b => b.1 * kf b.2)
def metM (n : Nat) (C : List Pl) (R : List Nat) (e kf : Nat → Rat) : Nat → Row := fun i j =>
  if j < R.length then (if i = j then 1 else 0) - Pm C (R.getD i 0) (R.getD j 0) else e (R.getD i 0) + mn n (Pm C) kf (R.getD i 0)
theorem rowP_full {n : Nat} {C : List Pl} {R : List Nat} {e kf : Nat → Rat} (hC : ChOk n C) {i : Nat} (hi : R.getD i 0 < n) {k : Nat} (hk : (pl C (R.getD i 0)).bs.length ≤ k) : rowP C R e kf i k = metM n C R e kf i := by
  funext j
  unfold rowP metM
  rw [List.take_of_length_le hk, hC.mean hi]
  rfl
section
variable {n : Nat} {C : List Pl} {R : List Nat} {kn : Nat → Option Rat} {e : Nat → Rat} {D Ke Kk : Nat}
theorem sumq_ab {l : List (Rat × Nat)} {kf : Nat → Rat} {K : Rat} (h0 : ∀ b ∈ l, 0 ≤ b.1) (h : ∀ b ∈ l, ab (kf b.2) ≤ K) : ab (sumq (l.map fun b => b.1 * kf b.2)) ≤ sumq (l.map (·.1)) * K := by
  induction l with
  | nil => show ab 0 ≤ 0 * K; rw [ab_zero, Rat.zero_mul]; exact Rat.le_refl
  | cons b l ih =>
    have ih := ih (fun c hc => h0 c (by simp [hc])) fun c hc => h c (by simp [hc])
    show ab (b.1 * kf b.2 + sumq (l.map fun b => b.1 * kf b.2)) ≤ (b.1 + sumq (l.map (·.1))) * K
    have h1 := ab_add (b.1 * kf b.2) (sumq (l.map fun b => b.1 * kf b.2))
    have h2 : ab (b.1 * kf b.2) ≤ b.1 * K := by
      rw [ab_mul, ab_of_nonneg (h0 b (by simp))]
      exact Rat.mul_le_mul_of_nonneg_left (h b (by simp)) (h0 b (by simp))
    grind
theorem MetIn.row_sz (h : MetIn n (Pm C) R kn e D Ke Kk) (hC : ChOk n C) {i : Nat} (hi : i < R.length) (k : Nat) {j : Nat} : Sz 2610 (rowP C R e (kv kn) i k j) := by
  have hx : R.getD i 0 < n := h.lt _ (getD_mem hi)
  have hp := hC.at hx
  unfold rowP
  split
  · have h1 := (hp.frac (l := ((((pl C (R.getD i 0)).bs.take k).filter fun b => decide (b.2 = R.getD j 0)).map (·.1))) ((List.filter_sublist.trans (List.take_sublist _ _)).map _)).2.2
    refine Sz.mono (k := 4 + 10 + 1) (Sz.sub ?_ h1) (by decide)
    split
    · exact Sz.one (by decide)
    · exact Sz.zero (by decide)
  · obtain ⟨S, s0, s1, s2⟩ := hp.den
    have hsub : ∀ b ∈ (pl C (R.getD i 0)).bs.take k, b ∈ (pl C (R.getD i 0)).bs := fun b hb => (List.take_sublist _ _).subset hb
    have hkk := h.dk
    have hee := h.de
    have hD := hkk.pos
    have hsz := h.sz
    have hle : (Ke + Kk) * (D * S) ≤ (Ke + Kk) * (D * 360) := Nat.mul_le_mul_left _ (Nat.mul_le_mul_left _ s1)
    have e1 : (Ke + Kk) * (D * 360) = (Ke + Kk) * D * 360 := by rw [Nat.mul_assoc]
    have e2 : (2:Nat) ^ 2610 = 2 ^ 2600 * 1024 := by rw [show (2610:Nat) = 2600 + 10 from rfl, Nat.pow_add]
    have h1 := h.k1
    have hd : D * S ≤ (Ke + Kk) * (D * S) := Nat.le_mul_of_pos_left _ h1
    refine Sz.den (D := D * S) (K := Ke + Kk) ?_ (Nat.ne_of_gt (Nat.mul_pos hD s0)) ?_ (by omega) (by omega)
    · rw [Rat.add_mul]
      refine ((hee.i _ hx).natmul S).add ?_
      refine sumq_int fun q hq => ?_
      obtain ⟨b, hb, rfl⟩ := List.mem_map.mp hq
      have i1 := s2 b (hsub b hb)
      have i2 := hkk.i b.2 (hp.t b (hsub b hb))
      have e3 : b.1 * kv kn b.2 * ((D * S : Nat) : Rat) = b.1 * (S : Rat) * (kv kn b.2 * (D : Rat)) := by rw [Rat.natCast_mul]; grind
      show IsI (b.1 * kv kn b.2 * ((D * S : Nat) : Rat))
      rw [e3]
      exact i1.mul i2
    · have a1 := ab_add (e (R.getD i 0)) (sumq (((pl C (R.getD i 0)).bs.take k).map fun b => b.1 * kv kn b.2))
      have a2 := hee.b _ hx
      have a3 := sumq_ab (l := (pl C (R.getD i 0)).bs.take k) (kf := kv kn) (K := (Kk : Rat)) (fun b hb => by have := hp.pos b (hsub b hb); grind) (fun b hb => hkk.b _ (hp.t b (hsub b hb)))
      have a4 := hp.frac (l := ((pl C (R.getD i 0)).bs.take k).map (·.1)) ((List.take_sublist _ _).map _)
      have a5 : sumq (((pl C (R.getD i 0)).bs.take k).map (·.1)) * (Kk : Rat) ≤ 1 * (Kk : Rat) := Rat.mul_le_mul_of_nonneg_right a4.2.1 (cast_nn _)
      rw [Rat.natCast_add]
      grind
theorem MetIn.kf_sz (h : MetIn n (Pm C) R kn e D Ke Kk) {y : Nat} (hy : y < n) : Sz 2610 (kv kn y) := by
  have hkk := h.dk
  have h1 := h.k1
  have hsz := h.sz
  have e2 : (2:Nat) ^ 2610 = 2 ^ 2600 * 1024 := by rw [show (2610:Nat) = 2600 + 10 from rfl, Nat.pow_add]
  have hd : D ≤ (Ke + Kk) * D := Nat.le_mul_of_pos_left _ h1
  have hl : Kk * D ≤ (Ke + Kk) * D := Nat.mul_le_mul_right _ (by omega)
  exact hkk.sz (by omega) (by omega) hy
theorem MetIn.k0 (h : MetIn n (Pm C) R kn e D Ke Kk) : ∀ x ∈ R, kv kn x = 0 := fun x hx => by unfold kv; rw [h.no x hx]; rfl
theorem metM_sys : MetSys n (Pm C) R e (kv kn) (metM n C R e (kv kn)) := by
  refine ⟨fun i hi j hj => ?_, fun i hi => ?_⟩
  · unfold metM; rw [if_pos hj]
  · unfold metM; rw [if_neg (by omega)]
theorem MetIn.small (h : MetIn n (Pm C) R kn e D Ke Kk) (hC : ChOk n C) : Small R.length (metM n C R e (kv kn)) := by
  obtain ⟨s, hs⟩ := hC.dens
  have hm : R.length ≤ n := nd_len n R h.nd h.lt
  have hscl := (metM_sys (n := n) (C := C) (R := R) (kn := kn) (e := e)).scl hC.stoch h.lt hs h.de h.dk h.k1
  have hm12 : R.length ≤ 12 := Nat.le_trans hm h.n12
  have hN : ∀ m : Nat, m ≤ 12 → (m + 1) ^ (m + 1) * 360 ^ m * 360 < 2 ^ 200 := by decide +kernel
  have hN2 := hN _ hm12
  have hsz := h.sz
  have h1 := h.k1
  have hd : D ≤ (Ke + Kk) * D := Nat.le_mul_of_pos_left _ h1
  have e2 : (2:Nat) ^ 2900 = 2 ^ 200 * (2 ^ 2600 * 2 ^ 100) := by rw [← Nat.pow_add, ← Nat.pow_add]
  have e3 : (2:Nat) ^ 2600 ≤ 2 ^ 2600 * 2 ^ 100 := Nat.le_mul_of_pos_right _ (Nat.two_pow_pos _)
  have e5 : 0 < (2:Nat) ^ 100 := Nat.two_pow_pos _
  have go : ∀ X Y Z W A B : Nat, A < X → B < Y → W = X * (Y * Z) → 0 < Z → A * B < W := fun X Y Z W A B hA hB hW hZ => by
    rw [hW]
    exact Nat.mul_lt_mul'' hA (Nat.lt_of_lt_of_le hB (Nat.le_mul_of_pos_right _ hZ))
  refine hscl.small ?_ ?_
  · unfold Wn
    rw [Nat.mul_one]
    have e4 : (R.length + 1) ^ (R.length + 1) * 360 ^ R.length * (360 * (Ke + Kk) * D) = (R.length + 1) ^ (R.length + 1) * 360 ^ R.length * 360 * ((Ke + Kk) * D) := by
      rw [Nat.mul_assoc 360, ← Nat.mul_assoc _ 360]
    rw [e4]
    exact go _ _ _ _ _ _ hN2 hsz e2 e5
  · unfold Wd
    exact go _ _ _ _ _ _ hN2 (Nat.lt_of_le_of_lt hd hsz) e2 e5
theorem MetIn.out (h : MetIn n (Pm C) R kn e D Ke Kk) (hC : ChOk n C) {y : Nat → Rat} (hA : Ans R.length (metM n C R e (kv kn)) y) : MetOut n (Pm C) R kn e D Ke Kk y := by
  obtain ⟨s, hs⟩ := hC.dens
  have hm : R.length ≤ n := nd_len n R h.nd h.lt
  have hsys := metM_sys (n := n) (C := C) (R := R) (kn := kn) (e := e)
  have hscl := hsys.scl hC.stoch h.lt hs h.de h.dk h.k1
  obtain ⟨N, n0, n1, n2⟩ := hA.den hscl
  refine ⟨hsys.ans h.nd h.lt h.k0 hA.solves, N, by omega, Nat.le_trans n1 (pw_le hm (by decide)), fun a ha => ?_⟩
  obtain ⟨i1, i2⟩ := n2 a ha
  rw [if_neg (Nat.lt_irrefl _)] at i1 i2
  refine ⟨i1, ?_⟩
  have hD : (0:Rat) < (D : Rat) := cast_pos h.dk.pos
  have i3 : (((R.length + 1) ^ (R.length + 1) * 360 ^ R.length * (360 * (Ke + Kk) * D) * 1 : Nat) : Rat) ≤ ((NB n * (360 * (Ke + Kk)) * D : Nat) : Rat) := by
    refine cast_le ?_
    rw [Nat.mul_one, ← Nat.mul_assoc _ _ D]
    exact Nat.mul_le_mul_right _ (Nat.mul_le_mul_right _ (pw_le hm (by decide)))
  have i4 := Rat.le_trans i2 i3
  rw [Rat.natCast_mul _ D] at i4
  exact Rat.le_of_mul_le_mul_right i4 hD
end
end Mh
end
section
set_option Elab.async false
set_option linter.all false
set_option maxRecDepth 100000
set_option maxHeartbeats 4000000
namespace Mh
open PySem PySem.Spec PyProof.Rows L2
open C8 (Cal pe_c)
open Evl (ixN_nat)
theorem ixN_last {m : Nat} : ixN (m + 1) (-1) = some m := by
  unfold ixN
  rw [if_neg (by decide), if_pos (by omega)]
  congr 1
  omega
theorem ixN_last' {k m : Nat} (h : k = m + 1) : ixN k (-1) = some m := by rw [h]; exact ixN_last
theorem idx_first {R : List Nat} {t : Nat} (nd : R.Nodup) (h : t ∈ R) : R[R.idxOf t]? = some t ∧ ∀ k, k < R.idxOf t → ∀ z, R[k]? = some z → z ≠ t := by
  have hl := List.idxOf_lt_length_of_mem h
  refine ⟨by rw [List.getElem?_eq_getElem hl, List.getElem_idxOf hl], fun k hk z hz e => ?_⟩
  subst e
  obtain ⟨hkl, ek⟩ := List.getElem?_eq_some_iff.mp hz
  have : R.idxOf z = k := by rw [← ek]; exact List.Nodup.idxOf_getElem nd k hkl
  omega
section
variable {K : PySem.W.Frag} {mg : Str → Option Value}
theorem dget {H : Hp} {d : Addr} {kvs : List (Key × V)} (h : H d = some (.dK kvs)) (t : Nat) : DGet H d (.int (t : Int)) (valV kvs (.inl (t : Int))) := .inl ⟨kvs, .inl (t : Int), .inl h, rfl, rfl⟩
theorem h19 (vs : List V) (H : Hp) (Q : VK) (E : XK) (h : sp19 K vs H Q E) (T : Txt K mg) : t19 K { nx := fun _ H' => Q .non H', rt := Q } (start n19 vs) H := by
  obtain ⟨n, C, R, kn, e, D, Ke, Kk, x, y, zz, d, Hs, rfl, hC, hx, hy, hd, hz, hM, st, q⟩ := h
  obtain ⟨a, xs, rfl, ha, hxs⟩ := is_gd hx
  obtain ⟨r, rfl, hr⟩ := is_il hy
  obtain ⟨c, es, rfl, hc, hes⟩ := is_vd hz
  obtain ⟨kvs, hkv, hkl, hde⟩ := hd
  have lvi := vi_len R
  have hm12 : R.length ≤ n := nd_len n R hM.nd hM.lt
  have hn12 := hM.n12
  refine ⟨Nat.zero_le _, fun l hl => ?_⟩
  have e0 : Ext0 Hs H Hs (upd H l (.lst [])) := (Ext.refl st).newM hl
  refine ⟨_, rfl, r, rfl, ⟨vi R, SqL.of (e0.t _ _ hr)⟩, ?_⟩
  refine for_it (walk_list (xs := vi R)) (fun i σ H' => ∃ (Hs' : Hp) (ys : List V) (y5 y6 y7 y8 y9 y10 : Option V), σ = [some (.ref a), some (.ref r), some (.ref d), some (.ref c), some (.ref l), y5, y6, y7, y8, y9, y10] ∧ Ext0 Hs H Hs' H' ∧ Hs' l = none ∧ H' l = some (.lst ys) ∧
      IsA K Hs' ys (fl i fun k => vd (R.length + 1) (metM n C R e (kv kn) k)))
    ⟨Hs, [], _, _, _, _, _, _, rfl, e0, st.free hl, upd_same, .nil⟩ (fun i σ H' _ ⟨Hs', ys, _, _, _, _, _, _, _, e, _⟩ => SqL.of (e.t _ _ (e.s _ _ hr))) ?_ ?_
  · rintro i v σ H2 H2' hi ⟨Hs2, ys, y5, y6, y7, y8, y9, y10, rfl, e5, l1, l2, hys⟩ ⟨rfl, hv⟩
    obtain ⟨z, ez, rfl⟩ := vi_get hv
    rw [lvi] at hi
    have lys := hys.flen
    have zmem : z ∈ R := List.mem_of_getElem? ez
    have zn := hM.lt z zmem
    have getz : R.getD i 0 = z := by simp [List.getD, ez]
    have hZ := hC.at zn
    refine ⟨_, rfl, r, rfl, ⟨vi R, SqL.of (e5.t _ _ (e5.s _ _ hr))⟩, fun D3 hD3 => ?_⟩
    refine lc_map (K := K) (Hs := Hs2) (n := (vi R).length) (walk_list (xs := vi R)) e5.t (fun H' s => SqL.of (s _ _ (e5.s _ _ hr))) hD3 (fun j => qd (if i = j then 1 else 0)) (by omega) ?_ ?_
    · rintro j v Hs3 H3 H3' C' hj e6 d60 ⟨rfl, hv⟩ kk
      obtain ⟨o, eo, rfl⟩ := vi_get hv
      have geto : R.getD j 0 = o := by simp [List.getD, eo]
      refine ⟨rfl, _, rfl, _, rfl, rfl, _, rfl, ?_⟩
      by_cases hj2 : i = j
      · have ed : decide (V.int ((o : Nat) : Int) = V.int ((z : Nat) : Int)) = true := decide_eq_true (by rw [← geto, ← getz, hj2])
        rw [ed]
        refine iteT ?_
        refine kk _ Hs3 _ (Ext.refl e6.t) ?_
        rw [if_pos hj2]; exact one_is (T.one.2 _)
      · have ed : decide (V.int ((o : Nat) : Int) = V.int ((z : Nat) : Int)) = false := decide_eq_false fun w => hj2 (by
          have : z = o := by have := V.int.inj w; omega
          rw [← geto, ← getz] at this
          exact (nd_iff.mp hM.nd) i j (by omega) (by omega) this)
        rw [ed]
        refine iteF ?_
        refine kk _ Hs3 _ (Ext.refl e6.t) ?_
        rw [if_neg hj2]; exact zero_is (T.zero.2 _)
    intro Hs3 H3 ws3 e6 d60 d61 hw3
    rw [lvi] at hw3
    obtain ⟨l3, l4⟩ := e6.own (fun z => z) l2 l1
    obtain ⟨ue, eue, iue⟩ := hes.fget (i := z) zn
    refine ⟨_, rfl, _, rfl, c, es, _, ue, rfl, rfl, SqL.of (e6.t _ _ (e6.s _ _ (e5.s _ _ hc))), atI_nat eue, by show 1 ≤ sizeLine; decide, fun b3 hb3 => ?_⟩
    have hDb3 : D3 ≠ b3 := ne_of_none d61 hb3
    refine ⟨D3, b3, ws3, _, rfl, rfl, by rw [upd_ne hDb3]; exact d61, upd_same, by have := hw3.flen; exact bl_sl (by show ws3.length + 1 ≤ 100000; omega), fun p3 hp3 => ?_⟩
    have e7 : Ext0 Hs H Hs3 (upd H3 b3 (.lst [ue])) := (e5.trans e6).newM hb3
    have e8 := e7.newM (o := .lst (ws3 ++ [ue])) hp3
    have nb3 : l ≠ b3 := ne_of_none l4 hb3
    have np3 : l ≠ p3 := ne_of_none (by rw [upd_ne nb3]; exact l4) hp3
    have l5 : (upd (upd H3 b3 (.lst [ue])) p3 (.lst (ws3 ++ [ue]))) l = some (.lst ys) := by rw [upd_ne np3, upd_ne nb3]; exact l4
    have hp30 : H p3 = none := e7.free hp3
    have r0 : IsA K Hs3 (ws3 ++ [ue]) (fl (R.length + 1) fun j => qd (rowP C R e (kv kn) i 0 j)) := by
      rw [fl_snoc]
      refine IsA.append (IsA.fcongr hw3 fun j hj => ?_) (.cons ?_ .nil)
      · congr 1
        unfold rowP
        rw [if_pos hj, List.take_zero, wt_nil]
        grind
      · unfold rowP
        rw [if_neg (Nat.lt_irrefl _), List.take_zero, getz]
        show Is K Hs3 ue (qd (e z + 0))
        rw [Rat.add_zero]
        exact (iue.up e5.s).up e6.s
    obtain ⟨u, eu, iu⟩ := hxs.fget (i := z) (by rw [hC.len]; exact zn)
    obtain ⟨cp, g, bb, bs, rfl, hcp, ig, hbs, ibs⟩ := is_pd iu
    rw [hZ.dr] at ibs
    have lbs : bs.length = (pl C z).bs.length := by rw [ibs.len, List.length_map]
    have s8 := (e5.trans e6).s
    refine ⟨_, rfl, _, rfl, a, xs, _, _, rfl, rfl, SqL.of (e8.t _ _ (s8 _ _ ha)), atI_nat eu, cp, _, 2, _, rfl, rfl, sqt_up e8.t (sqt_up s8 hcp), rfl, bb, rfl, ⟨bs, SqL.of (e8.t _ _ (s8 _ _ hbs))⟩, ?_⟩
    refine for_it (walk_list (xs := bs)) (fun k σ H' => ∃ (Hs' : Hp) (zs : List V) (y7 y8 y9 : Option V), σ = [some (.ref a), some (.ref r), some (.ref d), some (.ref c), some (.ref l), some (.int (z : Int)), some (.ref p3), y7, y8, y9, y10] ∧ Ext0 Hs2 H2' Hs' H' ∧ Ext0 Hs H Hs' H' ∧ Hs' l = none ∧ H' l = some (.lst ys) ∧ Hs' p3 = none ∧ H' p3 = some (.lst zs) ∧
        IsA K Hs' zs (fl (R.length + 1) fun j => qd (rowP C R e (kv kn) i k j)))
      ⟨Hs3, _, _, _, _, rfl, (e6.newM hb3).newM hp3, e8, l3, l5, e7.t.free hp3, upd_same, r0⟩ (fun j σ H' _ ⟨Hs', zs, _, _, _, _, _, e, _⟩ => SqL.of (e.t _ _ (e.s _ _ hbs))) ?_ ?_
    · rintro k v σ H4 H4' hk ⟨Hs4, zs, y7, y8, y9, rfl, e9, e10, l6, l7, q0, q1, hzs⟩ ⟨rfl, hv⟩
      obtain ⟨dd, hdd, iy⟩ := ibs.get' hv
      obtain ⟨br, ebr, rfl⟩ := map_get hdd
      obtain ⟨pp, v1, v2, rfl, hpp, i1, i2⟩ := (show Is K Hs v (.tuple [qd br.1, .int (br.2 : Int)]) from iy).pair
      cases i2.int'
      have lzs := hzs.flen
      have hbm : br ∈ (pl C z).bs := List.mem_of_getElem? ebr
      have hbn := hZ.t br hbm
      have hb1 := hZ.one_sz hbm
      have htk : (pl C (R.getD i 0)).bs.take (k + 1) = (pl C (R.getD i 0)).bs.take k ++ [br] := by rw [getz]; exact take_snoc ebr
      have hkv' := e10.t _ _ (e10.s _ _ hkv)
      refine ⟨pp, _, rfl, sqt_up e10.t (sqt_up e10.s hpp), rfl, v1, _, rfl, _, _, rfl, rfl, ?_⟩
      refine ⟨_, rfl, _, rfl, d, _, rfl, dget hkv' br.2, _, rfl, ?_⟩
      have hen := hde br.2
      cases hkn : kn br.2 with
      | some w =>
        rw [hkn] at hen
        obtain ⟨vw, evw, ivw⟩ := hen
        rw [evw]
        refine iteT ?_
        have hkw : kv kn br.2 = w := by unfold kv; rw [hkn]; rfl
        have hnR : br.2 ∉ R := fun z => by rw [hM.no _ z] at hkn; cases hkn
        have szw : Sz 2610 w := by rw [← hkw]; exact hM.kf_sz hbn
        obtain ⟨vl, evl, ivl⟩ := hzs.fget (i := R.length) (by omega)
        refine ⟨_, rfl, _, rfl, p3, zs, -1, vl, rfl, rfl, SqL.of q1, at_last lzs evl, ?_⟩
        refine ⟨v1, rfl, ?_⟩
        refine ⟨_, rfl, _, rfl, d, _, rfl, by have := dget hkv' br.2; rw [evw] at this; exact this, ?_⟩
        refine ⟨0, w, 1, 2610, _, vw, Hs4, rfl, zero_is (T.zero.2 _), ivw.up e10.s, Sz.zero (by decide), szw, by decide, trivial, e10.t, fun w5 Hs5 H5 e11 hw5 => ?_⟩
        refine ⟨br.1, 0 - w, 10, 2612, v1, w5, Hs5, rfl, (i1.up e10.s).up e11.s, hw5, hb1.2, (Sz.sub (Sz.zero (k := 1) (by decide)) szw).mono (by decide), by decide, trivial, e11.t, fun w6 Hs6 H6 e12 hw6 => ?_⟩
        have e13 := e11.trans e12
        refine ⟨rowP C R e (kv kn) i k R.length, br.1 * (0 - w), 2610, 2622, vl, w6, Hs6, rfl, ivl.up e13.s, hw6, hM.row_sz hC hi k, Sz.mul (i := 10) (j := 2612) hb1.2 ((Sz.sub (Sz.zero (k := 1) (by decide)) szw).mono (by decide)), by decide, trivial, e12.t, fun w7 Hs7 H7 e14 hw7 => ?_⟩
        have e15 := e13.trans e14
        obtain ⟨l9, l10⟩ := e15.own (fun z => z) l7 l6
        obtain ⟨q3, q4⟩ := e15.own (fun z => z) q1 q0
        refine ⟨_, rfl, _, rfl, p3, zs, -1, R.length, rfl, rfl, q4, ixN_last' lzs, ?_⟩
        refine ⟨Hs7, zs.set R.length w7, _, _, _, rfl, (e9.trans e15).mut (.inl ((e6.newM hb3).free hp3)) q3, (e10.trans e15).mut (.inl hp30) q3, l9, by rw [upd_ne np3]; exact l10, q3, upd_same, ?_⟩
        refine ((hzs.up e15.s).fset R.length hw7).fcongr fun j hj => ?_
        by_cases hjl : j = R.length
        · rw [if_pos hjl]
          congr 1
          unfold rowP
          rw [if_neg (by omega), if_neg (by omega), htk, List.map_append, sumq_append]
          show _ - br.1 * (0 - w) = _ + (_ + (br.1 * kv kn br.2 + 0))
          rw [hkw]; grind
        · rw [if_neg hjl]
          congr 1
          have hj2 : j < R.length := by omega
          have hne : ¬ br.2 = R.getD j 0 := fun z => hnR (by rw [z]; exact getD_mem hj2)
          unfold rowP
          rw [if_pos hj2, if_pos hj2, htk, wt_snoc, if_neg hne, Rat.add_zero]
      | none =>
        rw [hkn] at hen
        rw [show valV kvs (.inl (br.2 : Int)) = none from hen]
        refine iteF ?_
        have hin : br.2 ∈ R := by
          rcases hM.tot z zmem br.2 hbn ((hC.pos_iff zn br.2).mpr ⟨br, hbm, rfl⟩) with w | w
          · exact w
          · exact absurd hkn w
        obtain ⟨hix, hfirst⟩ := idx_first hM.nd hin
        have hil := List.idxOf_lt_length_of_mem hin
        have hr4 := e10.t _ _ (e10.s _ _ hr)
        refine ⟨_, rfl, .inl ⟨rfl, _, .inl (.inl hr4)⟩, _, rfl, r, vi R, _, R.idxOf br.2, _, rfl, rfl, SqL.of hr4, rfl, vi_flat _, vi_at hix, beq_self_eq_true _, fun mm z' hmm hz' => ?_, ?_⟩
        · obtain ⟨z2, ez2, rfl⟩ := vi_get hz'
          exact beq_eq_false_iff_ne.mpr fun w => hfirst mm hmm z2 ez2 (by omega)
        obtain ⟨vl, evl, ivl⟩ := hzs.fget (i := R.idxOf br.2) (by omega)
        refine ⟨_, rfl, _, rfl, p3, zs, _, vl, rfl, rfl, SqL.of q1, atI_nat evl, v1, rfl, ?_⟩
        refine ⟨rowP C R e (kv kn) i k (R.idxOf br.2), br.1, 2610, 10, vl, v1, Hs4, rfl, ivl, i1.up e10.s, hM.row_sz hC hi k, hb1.2, by decide, trivial, e10.t, fun w7 Hs7 H7 e15 hw7 => ?_⟩
        obtain ⟨l9, l10⟩ := e15.own (fun z => z) l7 l6
        obtain ⟨q3, q4⟩ := e15.own (fun z => z) q1 q0
        refine ⟨_, rfl, _, rfl, p3, zs, _, R.idxOf br.2, rfl, rfl, q4, ixN_nat (by omega), ?_⟩
        refine ⟨Hs7, zs.set (R.idxOf br.2) w7, _, _, _, rfl, (e9.trans e15).mut (.inl ((e6.newM hb3).free hp3)) q3, (e10.trans e15).mut (.inl hp30) q3, l9, by rw [upd_ne np3]; exact l10, q3, upd_same, ?_⟩
        refine ((hzs.up e15.s).fset (R.idxOf br.2) hw7).fcongr fun j hj => ?_
        by_cases hjl : j = R.idxOf br.2
        · subst hjl
          rw [if_pos rfl]
          congr 1
          unfold rowP
          rw [if_pos hil, if_pos hil, htk, wt_snoc, getD_idx hin, if_pos rfl]
          grind
        · rw [if_neg hjl]
          congr 1
          unfold rowP
          by_cases hj2 : j < R.length
          · have hne : ¬ br.2 = R.getD j 0 := fun z => hjl (by rw [z, idx_getD hM.nd hj2])
            rw [if_pos hj2, if_pos hj2, htk, wt_snoc, if_neg hne, Rat.add_zero]
          · have hk0 : kv kn br.2 = 0 := by unfold kv; rw [hkn]; rfl
            rw [if_neg hj2, if_neg hj2, htk, List.map_append, sumq_append]
            show _ = _ + (_ + (br.1 * kv kn br.2 + 0))
            rw [hk0]; grind
    · rintro σ H4 ⟨Hs4, zs, y7, y8, y9, rfl, e9, e10, l6, l7, q0, q1, hzs⟩
      refine ⟨_, rfl, .inl ⟨rfl, _, .inl (.inl l7)⟩, _, rfl, l, ys, _, rfl, rfl, l7, big_lt (by omega), ?_⟩
      have e11 := e10.frz hp30 q0 q1
      have l8 : (upd Hs4 p3 (.lst zs)) l = none := by rw [upd_ne np3]; exact l6
      refine ⟨_, _, _, _, _, _, _, _, rfl, e11.mut (.inl hl) l8, l8, upd_same, ?_⟩
      rw [fl_snoc _ (fun k => vd (R.length + 1) (metM n C R e (kv kn) k))]
      refine ((hys.up e9.s).up (same_new q0)).append (.cons (.lst upd_same ?_) .nil)
      rw [← rowP_full hC (by rw [getz]; exact zn) (Nat.le_of_eq (by rw [getz, lbs]) : _ ≤ bs.length)]
      exact hzs.up (same_new q0)
  · rintro σ H2 ⟨Hs2, ys, y5, y6, y7, y8, y9, y10, rfl, e5, l1, l2, hys⟩
    rw [lvi] at hys
    have e6 := e5.frz hl l1 l2
    refine ⟨_, rfl, ?_⟩
    refine ⟨R.length, metM n C R e (kv kn), _, upd Hs2 l (.lst ys), rfl, by omega, .lst upd_same (hys.up (same_new l1)), metM_sys.inj hC.stoch hM.nd hM.lt hM.re, hM.small hC, e6.t, fun v Hs3 H3 y e7 hA hv => ?_⟩
    exact q v Hs3 H3 y (e6.trans e7) (hM.out hC hA) hv
end
end Mh
end
section
set_option Elab.async false
set_option linter.all false
set_option maxRecDepth 100000
set_option maxHeartbeats 4000000
/-! long gains and leads: promises and derivations -/
namespace Mh
open PySem PySem.Spec PyProof.Rows L2
open C8 (Cal pe_c)
/-- the places that are not known -/
def othersL (n : Nat) (kn : Nat → Option Rat) : List Nat := (List.range n).filter fun x => decide (kn x = none)
structure RestOut (n : Nat) (P : Mat) (kn : Nat → Option Rat) (e : Nat → Rat) (D Ke Kk : Nat) (h : Nat → Rat) : Prop where
  known : ∀ x w, x < n → kn x = some w → h x = w
  eq : ∀ x, x < n → kn x = none → h x = e x + mn n P h x
  dn : ∃ N : Nat, 0 < N ∧ N ≤ NB n ∧ Dn n h (N * D) (NB n * (360 * (Ke + Kk)))
structure LgOut (n : Nat) (C : List Pl) (g : Nat → Rat) : Prop where
  long : Long n (Pm C) (gm C) g
  dn : ∃ D, Dn n g D (2 ^ 70) ∧ D ≤ 2 ^ 250
structure LdOut (n : Nat) (C : List Pl) (h : Nat → Rat) : Prop where
  ex : ∃ g, Long n (Pm C) (gm C) g ∧ Exact n (Pm C) (gm C) g h
  zero : ∀ x, x < n → Recu n (Pm C) x → ∃ μ, Dist n (Pm C) μ x ∧ sm n (fun y => μ y * h y) = 0
  dn : ∃ D, Dn n h D (2 ^ 200) ∧ D ≤ 2 ^ 720
section
variable (K : PySem.W.Frag)
def sp25 : Sp := fun vs H Q _ => ∃ (n : Nat) (C : List Pl) (kn : Nat → Option Rat) (e : Nat → Rat) (D Ke Kk : Nat) (x z : V) (d : Addr) (Hs : Hp), vs = [x, .ref d, z] ∧ ChOk n C ∧ Is K Hs x (gd C) ∧ DIs K Hs d kn ∧ Is K Hs z (vd n e) ∧
  MetIn n (Pm C) (othersL n kn) kn e D Ke Kk ∧ Same Hs H ∧ ∀ v Hs' H' h, Ext0 Hs H Hs' H' → RestOut n (Pm C) kn e D Ke Kk h → Is K Hs' v (vd n h) → Q v H'
def sp26 : Sp := fun vs H Q _ => ∃ (n : Nat) (C : List Pl) (x : V) (Hs : Hp), vs = [x] ∧ ChOk n C ∧ n ≤ 4 ∧ Is K Hs x (gd C) ∧ Same Hs H ∧
  ∀ v Hs' H' g, Ext0 Hs H Hs' H' → LgOut n C g → Is K Hs' v (vd n g) → Q v H'
def sp27 : Sp := fun vs H Q _ => ∃ (n : Nat) (C : List Pl) (x : V) (Hs : Hp), vs = [x] ∧ ChOk n C ∧ n ≤ 4 ∧ Is K Hs x (gd C) ∧ Same Hs H ∧
  ∀ v Hs' H' h, Ext0 Hs H Hs' H' → LdOut n C h → Is K Hs' v (vd n h) → Q v H'
end
/-! with_rest -/
abbrev n25 : List Str := ["chain", "known", "extras", "others", "found", "place", "one"]
theorem sc25 : FnScope n25 ["chain", "known", "extras"] (defScope s25) := ⟨rfl, rfl, rfl, by decide +kernel, rfl, by decide +kernel, by decide +kernel⟩
def t25 (K : PySem.W.Frag) : TS :=
    (tSeq (tAsg (tLc (iRng1 (tCons (tCB (rLenQ K) (tCons (tVar 0) tNil)) tNil)) (gName 5) (tB (tDNotIn (tVar 5) (tVar 1))) (tVar 5) [5]) (gName 3))
    (tSeq (tAsg (tCB rDictD (tCons (tVar 1) tNil)) (gName 4))
    (tSeq (tFor (iZip K (tCons (tVar 3) (tCons (tCall (sp19 K) [] E0 (tCons (tVar 0) (tCons (tVar 3) (tCons (tVar 1) (tCons (tVar 2) tNil))))) tNil))) (gTup K 2 (gCons (gName 5) (gCons (gName 6) gNil)))
      (sDPut (tVar 4) (tVar 5) (tVar 6)))
    (tRet (tLc (iRng1 (tCons (tCB (rLenQ K) (tCons (tVar 0) tNil)) tNil)) (gName 5) tYes (tDGet (tVar 4) (tVar 5)) [5])))))
theorem der25 {P : Program} {w : World} {K : PySem.W.Frag} {mg : Str → Option Value} {base : Heap} {f : Addr} {cdv : Value} {A : Around} {outer : List Env} {s : Shared} {H : Hp} {E : XK} {qual : Str} (T : Txt K mg) (hr : Room 5 (A.deeper (envOfC qual (defScope s25) s.heap.objs.size f cdv))) (C19 : Cal P w K mg base 5 "met" (sp19 K) []) :
    PSs (cxOf CX0 P w K mg base n25 qual (defScope s25) f cdv A outer s H E).nox (defBody s25) (t25 K) :=
    (pss_cons (ps_setLc (i := 3) (own := [("place", 5)]) (g := (gName 5)) (tt := (tB (tDNotIn (tVar 5) (tVar 1)))) rfl sc25.nd rfl rfl (sw_true rfl rfl rfl (by decide +kernel)) (pi_range1 (by rfl) T.b_range (pa_cons (pe_callB call_len_seq (by rfl) T.b_len bt_len (pa_cons (pv 0) pa_nil)) pa_nil)) (blkOk_by (own := [("place", 5)]) (N := n25) (sc := defScope s25) (by decide +kernel)) (fun _ _ _ _ _ => (pg_name (i := 5) sc25.nd rfl (.inl rfl))) (fun _ _ _ _ _ => (pts_one (pt_cmp (pc_dnotin (hu_of hr) (pv 5) (pv 1)) (by with_unfolding_all rfl)))) (fun _ _ _ _ _ => (pv 5)))
    (pss_cons (ps_set (i := 4) sc25.nd rfl (.inr rfl) (pe_callTy call_dictD (by rfl) T.b_dict bt_dict (pa_cons (pv 1) pa_nil)))
    (pss_cons (ps_for PassesOwn.never rfl (pi_zip (by rfl) T.b_zip (pa_cons (pv 3) (pa_cons (pe_c C19 hr (by decide) (by rfl) (pa_cons (pv 0) (pa_cons (pv 3) (pa_cons (pv 1) (pa_cons (pv 2) pa_nil))))) pa_nil))) (pg_tup rfl (pgs_cons (pg_name (i := 5) sc25.nd rfl (.inl rfl)) (pgs_cons (pg_name (i := 6) sc25.nd rfl (.inl rfl)) pgs_nil)))
      (pss_one (ps_dput (hu_of hr) (pv 4) (pv 5) (pv 6) rfl)))
    (pss_one (ps_ret (pe_lc (own := [("place", 5)]) (g := (gName 5)) (tt := tYes) rfl sc25.nd (pi_range1 (by rfl) T.b_range (pa_cons (pe_callB call_len_seq (by rfl) T.b_len bt_len (pa_cons (pv 0) pa_nil)) pa_nil)) (blkOk_by (own := [("place", 5)]) (N := n25) (sc := defScope s25) (by decide +kernel)) (fun _ _ _ _ _ => (pg_name (i := 5) sc25.nd rfl (.inl rfl))) (fun _ _ _ _ _ => pts_nil) (fun _ _ _ _ _ => (pe_dget (hu_of hr) (pv 4) (pv 5) (fun _ _ => rfl)))))))))
theorem cal25 {P : Program} {w : World} {K : PySem.W.Frag} {mg : Str → Option Value} {base : Heap} (T : Txt K mg) (C19 : Cal P w K mg base 5 "met" (sp19 K) [])
    (h : ∀ (vs : List V) (H : Hp) (Q : VK) (E : XK), sp25 K vs H Q E → t25 K { nx := fun _ H' => Q .non H', rt := Q } (start n25 vs) H) (len : ∀ vs H Q E, sp25 K vs H Q E → vs.length = 3) : Cal P w K mg base 6 "with_rest" (sp25 K) [] :=
  Tx.cal T.d25 sc25 len fun cdv A outer f s H vs Q E hr hs => ⟨t25 K, der25 T hr C19, h vs H Q E hs⟩

/-! long_gains -/
abbrev n26 : List Str := ["chain", "known", "closed", "gain", "place", "_"]
theorem sc26 : FnScope n26 ["chain"] (defScope s26) := ⟨rfl, rfl, rfl, by decide +kernel, rfl, by decide +kernel, by decide +kernel⟩
def t26 (K : PySem.W.Frag) : TS :=
    (tSeq (tAsg tDNewK (gName 1))
    (tSeq (tFor (iList K (tCall (sp22 K) [] E0 (tCons (tVar 0) tNil))) (gName 2)
      (tSeq (tAsg (tCall (sp24 K) [] E0 (tCons (tCall (sp23 K) [] E0 (tCons (tVar 0) (tCons (tVar 2) tNil))) (tCons (tLc (iList K (tVar 2)) (gName 4) tYes (tOp (rIxT K) (tOp (rIxL K) (tVar 0) (tVar 4)) (tC (.int 0))) [4]) tNil))) (gName 3))
    (tFor (iList K (tVar 2)) (gName 4)
      (sDPut (tVar 1) (tVar 4) (tVar 3)))))
    (tRet (tCall (sp25 K) [] E0 (tCons (tVar 0) (tCons (tVar 1) (tCons (tLc (iList K (tVar 0)) (gName 5) tYes (tC (.ref (He.ga K "NOUGHT_numbers"))) [5]) tNil)))))))
theorem der26 {P : Program} {w : World} {K : PySem.W.Frag} {mg : Str → Option Value} {base : Heap} {f : Addr} {cdv : Value} {A : Around} {outer : List Env} {s : Shared} {H : Hp} {E : XK} {qual : Str} (T : Txt K mg) (hr : Room 6 (A.deeper (envOfC qual (defScope s26) s.heap.objs.size f cdv))) (C22 : Cal P w K mg base 3 "closed_classes" (sp22 K) []) (C23 : Cal P w K mg base 5 "shares_in" (sp23 K) []) (C24 : Cal P w K mg base 4 "weighed_by" (sp24 K) []) (C25 : Cal P w K mg base 6 "with_rest" (sp25 K) []) :
    PSs (cxOf CX0 P w K mg base n26 qual (defScope s26) f cdv A outer s H E).nox (defBody s26) (t26 K) :=
    (pss_cons (ps_set (i := 1) sc26.nd rfl (.inl rfl) pe_dnewK)
    (pss_cons (ps_for PassesOwn.never rfl (pi_list (pe_c C22 hr (by decide) (by rfl) (pa_cons (pv 0) pa_nil))) (pg_name (i := 2) sc26.nd rfl (.inl rfl))
      (pss_cons (ps_set (i := 3) sc26.nd rfl (.inl rfl) (pe_c C24 hr (by decide) (by rfl) (pa_cons (pe_c C23 hr (by decide) (by rfl) (pa_cons (pv 0) (pa_cons (pv 2) pa_nil))) (pa_cons (pe_lc (own := [("place", 4)]) (g := (gName 4)) (tt := tYes) rfl sc26.nd (pi_list (pv 2)) (blkOk_by (own := [("place", 4)]) (N := n26) (sc := defScope s26) (by decide +kernel)) (fun _ _ _ _ _ => (pg_name (i := 4) sc26.nd rfl (.inl rfl))) (fun _ _ _ _ _ => pts_nil) (fun _ _ _ _ _ => (pe_ix ix_tup (pe_ix ix_list (pv 0) (pv 4) (fun _ _ => rfl)) pe_int (fun _ _ => rfl)))) pa_nil))))
    (pss_one (ps_for PassesOwn.never rfl (pi_list (pv 2)) (pg_name (i := 4) sc26.nd rfl (.inl rfl))
      (pss_one (ps_dput (hu_of hr) (pv 1) (pv 4) (pv 3) rfl))))))
    (pss_one (ps_ret (pe_c C25 hr (by decide) (by rfl) (pa_cons (pv 0) (pa_cons (pv 1) (pa_cons (pe_lc (own := [("_", 5)]) (g := (gName 5)) (tt := tYes) rfl sc26.nd (pi_list (pv 0)) (blkOk_by (own := [("_", 5)]) (N := n26) (sc := defScope s26) (by decide +kernel)) (fun _ _ _ _ _ => (pg_name (i := 5) sc26.nd rfl (.inl rfl))) (fun _ _ _ _ _ => pts_nil) (fun _ _ _ _ _ => (pe_glob (by rfl) T.zero.1 rfl))) pa_nil))))))))
theorem cal26 {P : Program} {w : World} {K : PySem.W.Frag} {mg : Str → Option Value} {base : Heap} (T : Txt K mg) (C22 : Cal P w K mg base 3 "closed_classes" (sp22 K) []) (C23 : Cal P w K mg base 5 "shares_in" (sp23 K) []) (C24 : Cal P w K mg base 4 "weighed_by" (sp24 K) []) (C25 : Cal P w K mg base 6 "with_rest" (sp25 K) [])
    (h : ∀ (vs : List V) (H : Hp) (Q : VK) (E : XK), sp26 K vs H Q E → t26 K { nx := fun _ H' => Q .non H', rt := Q } (start n26 vs) H) (len : ∀ vs H Q E, sp26 K vs H Q E → vs.length = 1) : Cal P w K mg base 7 "long_gains" (sp26 K) [] :=
  Tx.cal T.d26 sc26 len fun cdv A outer f s H vs Q E hr hs => ⟨t26 K, der26 T hr C22 C23 C24 C25, h vs H Q E hs⟩

/-! leads -/
abbrev n27 : List Str := ["chain", "extras", "known", "closed", "rough", "less", "place", "one", "here", "gain"]
theorem sc27 : FnScope n27 ["chain"] (defScope s27) := ⟨rfl, rfl, rfl, by decide +kernel, rfl, by decide +kernel, by decide +kernel⟩
def t27 (K : PySem.W.Frag) : TS :=
    (tSeq (tAsg (tLc (iZip K (tCons (tVar 0) (tCons (tCall (sp26 K) [] E0 (tCons (tVar 0) tNil)) tNil))) (gTup K 2 (gCons (gName 8) (gCons (gName 9) gNil))) tYes (tCall (sp7 K) [] E0 (tCons (tOp (rIxT K) (tVar 8) (tC (.int 0))) (tCons (tVar 9) tNil))) [8, 9]) (gName 1))
    (tSeq (tAsg tDNewK (gName 2))
    (tSeq (tFor (iList K (tCall (sp22 K) [] E0 (tCons (tVar 0) tNil))) (gName 3)
      (tSeq (tAsg (tOp rCat (tLst (tCons (tC (.ref (He.ga K "NOUGHT_numbers"))) tNil)) (tCall (sp19 K) [] E0 (tCons (tVar 0) (tCons (tSl (rSlL K) (tVar 3) (tPart (tC (.int 1))) tNoPart) (tCons (tDisp [((tOp (rIxL K) (tVar 3) (tC (.int 0))), (tC (.ref (He.ga K "NOUGHT_numbers"))))]) (tCons (tVar 1) tNil)))))) (gName 4))
    (tSeq (tAsg (tCall (sp24 K) [] E0 (tCons (tCall (sp23 K) [] E0 (tCons (tVar 0) (tCons (tVar 3) tNil))) (tCons (tVar 4) tNil))) (gName 5))
    (tFor (iZip K (tCons (tVar 3) (tCons (tVar 4) tNil))) (gTup K 2 (gCons (gName 6) (gCons (gName 7) gNil)))
      (sDPut (tVar 2) (tVar 6) (tCall (sp7 K) [] E0 (tCons (tVar 7) (tCons (tVar 5) tNil))))))))
    (tRet (tCall (sp25 K) [] E0 (tCons (tVar 0) (tCons (tVar 2) (tCons (tVar 1) tNil))))))))
theorem der27 {P : Program} {w : World} {K : PySem.W.Frag} {mg : Str → Option Value} {base : Heap} {f : Addr} {cdv : Value} {A : Around} {outer : List Env} {s : Shared} {H : Hp} {E : XK} {qual : Str} (T : Txt K mg) (hr : Room 7 (A.deeper (envOfC qual (defScope s27) s.heap.objs.size f cdv))) (C7 : Cal P w K mg base 2 "minus" (sp7 K) []) (C19 : Cal P w K mg base 5 "met" (sp19 K) []) (C22 : Cal P w K mg base 3 "closed_classes" (sp22 K) []) (C23 : Cal P w K mg base 5 "shares_in" (sp23 K) []) (C24 : Cal P w K mg base 4 "weighed_by" (sp24 K) []) (C25 : Cal P w K mg base 6 "with_rest" (sp25 K) []) (C26 : Cal P w K mg base 7 "long_gains" (sp26 K) []) :
    PSs (cxOf CX0 P w K mg base n27 qual (defScope s27) f cdv A outer s H E).nox (defBody s27) (t27 K) :=
    (pss_cons (ps_setLc (i := 1) (own := [("here", 8), ("gain", 9)]) (g := (gTup K 2 (gCons (gName 8) (gCons (gName 9) gNil)))) (tt := tYes) rfl sc27.nd rfl rfl (sw_true rfl rfl rfl (by decide +kernel)) (pi_zip (by rfl) T.b_zip (pa_cons (pv 0) (pa_cons (pe_c C26 hr (by decide) (by rfl) (pa_cons (pv 0) pa_nil)) pa_nil))) (blkOk_by (own := [("here", 8), ("gain", 9)]) (N := n27) (sc := defScope s27) (by decide +kernel)) (fun _ _ _ _ _ => (pg_tup rfl (pgs_cons (pg_name (i := 8) sc27.nd rfl (.inl rfl)) (pgs_cons (pg_name (i := 9) sc27.nd rfl (.inl rfl)) pgs_nil)))) (fun _ _ _ _ _ => pts_nil) (fun _ _ _ _ _ => (pe_c C7 hr (by decide) (by rfl) (pa_cons (pe_ix ix_tup (pv 8) pe_int (fun _ _ => rfl)) (pa_cons (pv 9) pa_nil)))))
    (pss_cons (ps_set (i := 2) sc27.nd rfl (.inl rfl) pe_dnewK)
    (pss_cons (ps_for PassesOwn.never rfl (pi_list (pe_c C22 hr (by decide) (by rfl) (pa_cons (pv 0) pa_nil))) (pg_name (i := 3) sc27.nd rfl (.inl rfl))
      (pss_cons (ps_set (i := 4) sc27.nd rfl (.inl rfl) (pe_op op_cat (pe_lst (pa_cons (pe_glob (by rfl) T.zero.1 rfl) pa_nil)) (pe_c C19 hr (by decide) (by rfl) (pa_cons (pv 0) (pa_cons (pe_slice sl_list (pv 3) (po_some pe_int) po_none) (pa_cons (pe_disp (pps_cons (pe_ix ix_list (pv 3) pe_int (fun _ _ => rfl)) (pe_glob (by rfl) T.zero.1 rfl) pps_nil) (by rfl) (by rfl) (fun z => by cases z) (by decide)) (pa_cons (pv 1) pa_nil)))))))
    (pss_cons (ps_set (i := 5) sc27.nd rfl (.inl rfl) (pe_c C24 hr (by decide) (by rfl) (pa_cons (pe_c C23 hr (by decide) (by rfl) (pa_cons (pv 0) (pa_cons (pv 3) pa_nil))) (pa_cons (pv 4) pa_nil))))
    (pss_one (ps_for PassesOwn.never rfl (pi_zip (by rfl) T.b_zip (pa_cons (pv 3) (pa_cons (pv 4) pa_nil))) (pg_tup rfl (pgs_cons (pg_name (i := 6) sc27.nd rfl (.inl rfl)) (pgs_cons (pg_name (i := 7) sc27.nd rfl (.inl rfl)) pgs_nil)))
      (pss_one (ps_dput (hu_of hr) (pv 2) (pv 6) (pe_c C7 hr (by decide) (by rfl) (pa_cons (pv 7) (pa_cons (pv 5) pa_nil))) rfl)))))))
    (pss_one (ps_ret (pe_c C25 hr (by decide) (by rfl) (pa_cons (pv 0) (pa_cons (pv 2) (pa_cons (pv 1) pa_nil)))))))))
theorem cal27 {P : Program} {w : World} {K : PySem.W.Frag} {mg : Str → Option Value} {base : Heap} (T : Txt K mg) (C7 : Cal P w K mg base 2 "minus" (sp7 K) []) (C19 : Cal P w K mg base 5 "met" (sp19 K) []) (C22 : Cal P w K mg base 3 "closed_classes" (sp22 K) []) (C23 : Cal P w K mg base 5 "shares_in" (sp23 K) []) (C24 : Cal P w K mg base 4 "weighed_by" (sp24 K) []) (C25 : Cal P w K mg base 6 "with_rest" (sp25 K) []) (C26 : Cal P w K mg base 7 "long_gains" (sp26 K) [])
    (h : ∀ (vs : List V) (H : Hp) (Q : VK) (E : XK), sp27 K vs H Q E → t27 K { nx := fun _ H' => Q .non H', rt := Q } (start n27 vs) H) (len : ∀ vs H Q E, sp27 K vs H Q E → vs.length = 1) : Cal P w K mg base 8 "leads" (sp27 K) [] :=
  Tx.cal T.d27 sc27 len fun cdv A outer f s H vs Q E hr hs => ⟨t27 K, der27 T hr C7 C19 C22 C23 C24 C25 C26, h vs H Q E hs⟩

end Mh
end
section
set_option Elab.async false
set_option linter.all false
set_option maxRecDepth 100000
set_option maxHeartbeats 4000000
/-! the rest of the places: the reading -/
namespace Mh
open PySem PySem.Spec PyProof.Rows L2
open C8 (Cal pe_c)
open Evl (ixN_nat)
section
variable {K : PySem.W.Frag} {H H' : Hp} {kvs : List (Key × V)} {kn kn' : Nat → Option Rat}
theorem DEnt.some (h : DEnt K H kvs kn) {y : Nat} {q : Rat} (e : kn y = Option.some q) : ∃ v, valV kvs (.inl (y : Int)) = Option.some v ∧ Is K H v (qd q) := by
  have := h y
  rw [e] at this
  exact this
theorem DEnt.none (h : DEnt K H kvs kn) {y : Nat} (e : kn y = Option.none) : valV kvs (.inl (y : Int)) = Option.none := by
  have := h y
  rw [e] at this
  exact this
theorem DEnt.mk (h1 : ∀ y q, kn y = Option.some q → ∃ v, valV kvs (.inl (y : Int)) = Option.some v ∧ Is K H v (qd q)) (h2 : ∀ y, kn y = Option.none → valV kvs (.inl (y : Int)) = Option.none) : DEnt K H kvs kn := fun y => by
  cases e : kn y with
  | none => exact h2 y e
  | some q => exact h1 y q e
theorem DEnt.up (s : Same H H') (h : DEnt K H kvs kn) : DEnt K H' kvs kn :=
  .mk (fun y q e => let ⟨v, h1, h2⟩ := h.some e; ⟨v, h1, h2.up s⟩) fun y e => h.none e
theorem DEnt.congr (h : DEnt K H kvs kn) (e : ∀ y, kn y = kn' y) : DEnt K H kvs kn' := by
  rw [← show kn = kn' from funext e]; exact h
theorem DEnt.put (h : DEnt K H kvs kn) {z : Nat} {w : V} {q : Rat} (hw : Is K H w (qd q)) : DEnt K H (putK kvs (.inl (z : Int)) w) (fun t => if t = z then Option.some q else kn t) := by
  refine .mk (fun y r e => ?_) fun y e => ?_
  · rw [valV_put]
    by_cases c : y = z
    · rw [if_pos c] at e
      cases e
      exact ⟨w, if_pos (by rw [c]), hw⟩
    · rw [if_neg c] at e
      rw [if_neg (fun w => c (by cases w; rfl))]
      exact h.some e
  · rw [valV_put]
    by_cases c : y = z
    · rw [if_pos c] at e
      cases e
    · rw [if_neg c] at e
      rw [if_neg (fun w => c (by cases w; rfl))]
      exact h.none e
theorem DEnt.nil : DEnt K H [] (fun _ => Option.none) := .mk (fun _ _ e => by cases e) fun _ _ => rfl
end
theorem dput {H : Hp} {d : Addr} {kvs : List (Key × V)} (h : H d = some (.dK kvs)) (hl : kvs.length < sizeLine) (t : Nat) (v : V) : DPut H d (.int (t : Int)) v (upd H d (.dK (putK kvs (.inl (t : Int)) v))) := .inl ⟨kvs, .inl (t : Int), h, rfl, hl, rfl⟩
section
variable {n : Nat} {kn : Nat → Option Rat}
theorem mem_others {x : Nat} : x ∈ othersL n kn ↔ x < n ∧ kn x = none := by
  unfold othersL
  rw [List.mem_filter, List.mem_range, decide_eq_true_iff]
theorem others_nd : (othersL n kn).Nodup := List.Pairwise.filter _ List.nodup_range
theorem others_len : (othersL n kn).length ≤ n := nd_len n _ others_nd fun x hx => (mem_others.mp hx).1
theorem mem_take_snoc {R : List Nat} {j z t : Nat} (h : R[j]? = some z) : t ∈ R.take (j + 1) ↔ t ∈ R.take j ∨ t = z := by
  rw [take_snoc h, List.mem_append, List.mem_singleton]
theorem idx_at {R : List Nat} (nd : R.Nodup) {j z : Nat} (h : R[j]? = some z) : R.idxOf z = j := by
  obtain ⟨hj, e⟩ := List.getElem?_eq_some_iff.mp h
  rw [← e]; exact List.Nodup.idxOf_getElem nd j hj
/-- what is known with so many more -/
def knw (kn : Nat → Option Rat) (R : List Nat) (y : Nat → Rat) (j : Nat) : Nat → Option Rat := fun t => if t ∈ R.take j then some (y (R.idxOf t)) else kn t
theorem knw_zero (R : List Nat) (y : Nat → Rat) (t : Nat) : knw kn R y 0 t = kn t := by unfold knw; rw [List.take_zero, if_neg (by simp)]
theorem knw_succ {R : List Nat} (nd : R.Nodup) {y : Nat → Rat} {j z : Nat} (h : R[j]? = some z) (t : Nat) : (if t = z then some (y j) else knw kn R y j t) = knw kn R y (j + 1) t := by
  unfold knw
  by_cases e : t = z
  · rw [if_pos e, if_pos ((mem_take_snoc h).mpr (.inr e)), e, idx_at nd h]
  · rw [if_neg e]
    by_cases e2 : t ∈ R.take j
    · rw [if_pos e2, if_pos ((mem_take_snoc h).mpr (.inl e2))]
    · rw [if_neg e2, if_neg (fun w => ((mem_take_snoc h).mp w).elim e2 e)]
theorem knw_all {R : List Nat} {y : Nat → Rat} {j : Nat} (h : R.length ≤ j) (t : Nat) : knw kn R y j t = if t ∈ R then some (y (R.idxOf t)) else kn t := by
  unfold knw; rw [List.take_of_length_le h]
theorem RestOut.of {C : List Pl} {e : Nat → Rat} {D Ke Kk : Nat} {y : Nat → Rat} (hI : MetIn n (Pm C) (othersL n kn) kn e D Ke Kk) (h : MetOut n (Pm C) (othersL n kn) kn e D Ke Kk y) : RestOut n (Pm C) kn e D Ke Kk (glue (othersL n kn) y (kv kn)) := by
  obtain ⟨N, n0, n1, n2⟩ := h.den
  refine ⟨fun x w hx e => ?_, fun x hx e => h.eq x (mem_others.mpr ⟨hx, e⟩), N, n0, n1, ?_⟩
  · unfold glue
    rw [if_neg (fun z => by rw [(mem_others.mp z).2] at e; cases e)]
    unfold kv; rw [e]; rfl
  · have hdk := hI.dk
    have hb : Kk ≤ NB n * (360 * (Ke + Kk)) := Nat.le_trans (by omega : Kk ≤ 360 * (Ke + Kk)) (Nat.le_mul_of_pos_left _ (Nat.mul_pos (Nat.pow_pos (by omega)) (Nat.pow_pos (by decide))))
    refine ⟨Nat.mul_pos n0 hdk.pos, fun x hx => ?_, fun x hx => ?_⟩
    · unfold glue
      by_cases c : x ∈ othersL n kn
      · rw [if_pos c]; exact (n2 _ (List.idxOf_lt_length_of_mem c)).1
      · rw [if_neg c]; exact (hdk.i x hx).natmul' N
    · unfold glue
      by_cases c : x ∈ othersL n kn
      · rw [if_pos c]; exact (n2 _ (List.idxOf_lt_length_of_mem c)).2
      · rw [if_neg c]; exact Rat.le_trans (hdk.b x hx) (cast_le hb)
theorem MetIn.others {C : List Pl} {e : Nat → Rat} {D Ke Kk : Nat} (n12 : n ≤ 12) (re : ∀ x, x < n → ∃ y, kn y ≠ none ∧ Rc n (Pm C) x y) (de : Dn n e D Ke) (dk : Dn n (kv kn) D Kk) (k1 : 1 ≤ Ke + Kk) (sz : (Ke + Kk) * D < 2 ^ 2600) :
    MetIn n (Pm C) (othersL n kn) kn e D Ke Kk :=
  ⟨n12, others_nd, fun x hx => (mem_others.mp hx).1, fun x hx => (mem_others.mp hx).2, fun x _ y hy _ => by
    by_cases c : kn y = none
    · exact .inl (mem_others.mpr ⟨hy, c⟩)
    · exact .inr c, fun x hx => let ⟨y, h1, h2⟩ := re x hx; ⟨y, fun z => h1 (mem_others.mp z).2, h2⟩, de, dk, k1, sz⟩
end
section
variable {K : PySem.W.Frag}
theorem h25 (vs : List V) (H : Hp) (Q : VK) (E : XK) (h : sp25 K vs H Q E) : t25 K { nx := fun _ H' => Q .non H', rt := Q } (start n25 vs) H := by
  obtain ⟨n, C, kn, e, D, Ke, Kk, x, z, d, Hs, rfl, hC, hx, hd, hz, hM, st, q⟩ := h
  obtain ⟨a, xs, rfl, ha, hxs⟩ := is_gd hx
  obtain ⟨kvs, hkv, hkl, hde⟩ := hd
  have lx : xs.length = n := by rw [hxs.flen, hC.len]
  have hn := hM.n12
  refine ⟨_, rfl, a, xs, rfl, .inl (SqL.of (st _ _ ha)), _, rfl, by omega, by omega, fun D1 hD1 => ?_⟩
  have en : ((xs.length : Nat) : Int).toNat = n := by omega
  rw [en]
  refine lc_go (K := K) (Hs := Hs) (n := n) walk_rng0 st (fun _ _ => trivial) hD1 (fun i => if kn i = none then some (.int (i : Int)) else none) (by omega) ?_ ?_
  · rintro i v Hs2 H2 H2' C' N hi e2 d0 ⟨rfl, rfl⟩ k1 k2
    have hk2 := e2.t _ _ (e2.s _ _ hkv)
    refine ⟨rfl, _, rfl, _, rfl, d, _, rfl, dget hk2 i, _, rfl, ?_⟩
    cases hkn : kn i with
    | none =>
      rw [hde.none hkn]
      refine iteT ?_
      exact ⟨_, rfl, k1 _ Hs2 _ (.int (i : Int)) (if_pos hkn) (Ext.refl e2.t) (.int _)⟩
    | some w =>
      obtain ⟨vw, evw, ivw⟩ := hde.some hkn
      rw [evw]
      refine iteF ?_
      exact k2 Hs2 _ (if_neg (by rw [hkn]; simp)) (Ext.refl e2.t)
  intro Hs1 H1 ws e1 d0 d1 hws
  rw [fmap_filter (fun i => kn i = none) (fun i : Nat => PyData.int (i : Int))] at hws
  have e2 := e1.frz hD1 d0 d1
  have io : Is K (upd Hs1 D1 (.lst ws)) (.ref D1) (il (othersL n kn)) := .lst upd_same (hws.up (same_new d0))
  have hk2 := e2.s _ _ hkv
  obtain ⟨r, hre, hr⟩ := is_il io
  cases hre
  refine ⟨_, rfl, d, kvs, rfl, .inl (e2.t _ _ hk2), fun p hp => ?_⟩
  have e3 := e2.newM (o := .dK kvs) hp
  have hp0 : H p = none := e2.free hp
  refine ⟨_, rfl, _, rfl, _, rfl, _, rfl, _, rfl, ?_⟩
  refine ⟨n, C, othersL n kn, kn, e, D, Ke, Kk, _, _, _, d, _, rfl, hC, hx.up e2.s, io, ⟨kvs, hk2, hkl, hde.up e2.s⟩, hz.up e2.s, hM, e3.t, fun v Hs3 H3 y e4 hy hv => ?_⟩
  obtain ⟨b, ys, rfl, hb, hys⟩ := is_vd hv
  obtain ⟨p0, p1⟩ := e4.own (fun z => z) upd_same (e2.t.free hp)
  have hr3 := e4.s _ _ hr
  have lys := hys.flen
  have e5 := e3.trans e4
  have lo := others_len (n := n) (kn := kn)
  refine ⟨D1, b, _, ys, rfl, SqL.of (e4.t _ _ hr3), SqL.of (e4.t _ _ hb), ?_⟩
  refine for_it (walk_zip (xs := vi (othersL n kn)) (ys := ys) (n := (othersL n kn).length) (by rw [vi_len, lys]; simp)) (fun j σ H' => ∃ (Hs' : Hp) (kv' : List (Key × V)) (y5 y6 : Option V), σ = [some (.ref a), some (.ref d), some z, some (.ref D1), some (.ref p), y5, y6] ∧ Same Hs3 Hs' ∧ Ext0 Hs H Hs' H' ∧ Hs' p = none ∧ H' p = some (.dK kv') ∧ kv'.length ≤ 1000 + j ∧ DEnt K Hs' kv' (knw kn (othersL n kn) y j))
    ⟨Hs3, kvs, _, _, rfl, Same.refl _, e5, p0, p1, by omega, (hde.up e2.s |>.up e4.s).congr fun t => (knw_zero _ _ t).symm⟩ (fun j σ H' _ ⟨Hs', _, _, _, _, s, e, _⟩ => ⟨SqL.of (e.t _ _ (s _ _ hr3)), SqL.of (e.t _ _ (s _ _ hb))⟩) ?_ ?_
  · rintro j v σ H4 H4' hj ⟨Hs4, kv', y5, y6, rfl, e6, e7, p2, p3, hkl', hde'⟩ ⟨T, vx, vy, rfl, hT, rfl, ex, ey⟩
    obtain ⟨o, eo, rfl⟩ := vi_get ex
    obtain ⟨_, iy⟩ := hys.fget' ey
    have hpT : p ≠ T := ne_of_none p3 hT
    have p4 : (upd H4 T (.tup [.int (o : Int), vy])) p = some (.dK kv') := by rw [upd_ne hpT]; exact p3
    refine ⟨T, _, rfl, SqT.of upd_same, rfl, _, _, rfl, vy, [], rfl, rfl, ?_⟩
    refine ⟨_, rfl, _, rfl, _, rfl, p, _, rfl, dput p4 (big_lt (by omega)) o vy, ?_⟩
    refine ⟨Hs4, _, _, _, rfl, e6, (e7.newM hT).mut (.inl hp0) p2, p2, upd_same, by have := length_putK kv' (.inl (o : Int)) vy; omega, ?_⟩
    exact (hde'.put (iy.up e6)).congr fun t => knw_succ others_nd eo t
  · rintro σ H4 ⟨Hs4, kv', y5, y6, rfl, e6, e7, p2, p3, hkl', hde'⟩
    have e8 := e7.frz hp0 p2 p3
    refine ⟨_, rfl, a, xs, rfl, .inl (SqL.of (e7.t _ _ (e7.s _ _ ha))), _, rfl, by omega, by omega, fun D5 hD5 => ?_⟩
    rw [en]
    refine lc_map (K := K) (n := n) walk_rng0 e8.t (fun _ _ => trivial) hD5 (fun i => qd (glue (othersL n kn) y (kv kn) i)) (by omega) ?_ ?_
    · rintro i v Hs5 H5 H5' C' hi e9 d50 ⟨rfl, rfl⟩ kk
      have hp5 := e9.t _ _ (e9.s _ _ (show (upd Hs4 p (.dK kv')) p = some (.dK kv') from upd_same))
      have hg : knw kn (othersL n kn) y (othersL n kn).length i = some (glue (othersL n kn) y (kv kn) i) := by
        rw [knw_all (Nat.le_refl _)]
        unfold glue
        by_cases c : i ∈ othersL n kn
        · rw [if_pos c, if_pos c]
        · rw [if_neg c, if_neg c]
          cases hkn : kn i with
          | none => exact absurd (mem_others.mpr ⟨hi, hkn⟩) c
          | some w => unfold kv; rw [hkn]; rfl
      obtain ⟨w, ew, iw⟩ := hde'.some hg
      refine ⟨rfl, _, rfl, _, rfl, p, w, rfl, by have := dget hp5 i; rw [ew] at this; exact this, ?_⟩
      exact kk _ Hs5 _ (Ext.refl e9.t) ((iw.up (same_new p2)).up e9.s)
    · intro Hs5 H5 ws5 e9 d50 d51 hw5
      exact q _ _ _ _ ((e8.trans e9).frz (e8.free hD5) d50 d51) (RestOut.of hM hy) (.lst upd_same (hw5.up (same_new d50)))
end
end Mh
end
section
set_option linter.unusedVariables false
/-! classes one by one -/
namespace Mh
section
variable {n : Nat} {P : Mat} {kn : Nat → Option Rat} {R : List Nat} {y : Nat → Rat}
theorem Shares.pos {ν : Nat → Rat} (h : Shares n P R ν) (S : Stoch n P) (K : Klass n P R) : ∀ j, j < R.length → 0 < ν j := stat_pos (K.stoch S) K.irr h.st h.one
theorem Shares.part {ν : Nat → Rat} (h : Shares n P R ν) (S : Stoch n P) (K : Klass n P R) {a : Nat} (ha : a ≤ R.length) : sm a ν ≤ 1 := by
  have hp := h.pos S K
  have : ∀ k, a + k ≤ R.length → sm a ν ≤ sm (a + k) ν := by
    intro k
    induction k with
    | zero => intro _; exact Rat.le_refl
    | succ k ih =>
      intro hk
      have h1 := ih (by omega)
      have h2 := hp (a + k) (by omega)
      show sm a ν ≤ sm (a + k) ν + ν (a + k)
      grind
  have h2 := this (R.length - a) (by omega)
  rw [show a + (R.length - a) = R.length by omega, h.one] at h2
  exact h2
theorem Shares.le_one {ν : Nat → Rat} (h : Shares n P R ν) (S : Stoch n P) (K : Klass n P R) {j : Nat} (hj : j < R.length) : ν j ≤ 1 := by
  have := h.part S K (a := j + 1) hj
  have h2 : sm (j + 1) ν = sm j ν + ν j := rfl
  have h3 := sm_nonneg (n := j) (f := ν) fun i hi => by have := h.pos S K i (by omega); grind
  grind
/-- weighed sums of numbers of one scale -/
theorem Shares.sum {ν f : Nat → Rat} (h : Shares n P R ν) (S : Stoch n P) (K : Klass n P R) {D B : Nat} (hD : 0 < D) (hf : ∀ a, a < R.length → IsI (f a * (D : Rat)) ∧ ab (f a) ≤ (B : Rat)) :
    ∃ N : Nat, 0 < N ∧ N ≤ NB n ∧ (∀ j, j < R.length → IsI (ν j * (N : Rat))) ∧ (∀ a, a < R.length → IsI (ν a * f a * ((D * N : Nat) : Rat)) ∧ ab (ν a * f a) ≤ (B : Rat)) ∧ ∀ a, a ≤ R.length → IsI ((sm a fun b => ν b * f b) * ((D * N : Nat) : Rat)) ∧ ab (sm a fun b => ν b * f b) ≤ (B : Rat) := by
  obtain ⟨N, n0, n1, n2⟩ := h.den
  have hi : ∀ a, a < R.length → IsI (ν a * f a * ((D * N : Nat) : Rat)) := fun a ha => by
    have e : ν a * f a * ((D * N : Nat) : Rat) = (ν a * (N : Rat)) * (f a * (D : Rat)) := by rw [Rat.natCast_mul]; grind
    rw [e]; exact (n2 a ha).mul (hf a ha).1
  have hb : ∀ a, a < R.length → ab (ν a * f a) ≤ ν a * (B : Rat) := fun a ha => by
    have h0 := h.pos S K a ha
    rw [ab_mul, ab_of_nonneg (by grind)]
    exact Rat.mul_le_mul_of_nonneg_left (hf a ha).2 (by grind)
  refine ⟨N, n0, n1, n2, fun a ha => ⟨hi a ha, ?_⟩, fun a ha => ⟨?_, ?_⟩⟩
  · have h1 : ν a * (B : Rat) ≤ 1 * (B : Rat) := Rat.mul_le_mul_of_nonneg_right (h.le_one S K ha) (cast_nn _)
    have := hb a ha
    grind
  · rw [← sm_mulr]
    exact IsI.sm fun b hb => hi b (by omega)
  · have h1 := sm_ab a (fun b => ν b * f b)
    have h2 : sm a (fun b => ab (ν b * f b)) ≤ sm a (fun b => ν b * (B : Rat)) := sm_le fun b hb2 => hb b (by omega)
    have h3 : sm a (fun b => ν b * (B : Rat)) = sm a ν * (B : Rat) := sm_mulr a (B : Rat) ν
    have h4 : sm a ν * (B : Rat) ≤ 1 * (B : Rat) := Rat.mul_le_mul_of_nonneg_right (h.part S K ha) (cast_nn _)
    have h1' : ab (sm a fun b => ν b * f b) ≤ sm a (fun b => ab (ν b * f b)) := h1
    grind
/-- what holds when so many classes are known -/
structure KnI (n : Nat) (P : Mat) (Φ : List Nat → (Nat → Rat) → Prop) (D0 B K i : Nat) (kn : Nat → Option Rat) : Prop where
  only : ∀ t, kn t ≠ none → ∃ j x, j < i ∧ (leastL n P)[j]? = some x ∧ t ∈ reachL n P x
  all : ∀ j x, j < i → (leastL n P)[j]? = some x → ∃ y, Φ (reachL n P x) y ∧ ∀ t ∈ reachL n P x, kn t = some (y ((reachL n P x).idxOf t))
  dn : ∃ D, 0 < D ∧ D ≤ B ^ i ∧ Dn n (kv kn) (D0 * D) K
open Classical in
theorem mem_leastL {x : Nat} : x ∈ leastL n P ↔ x < n ∧ Least n P x := by
  unfold leastL
  rw [List.mem_filter, List.mem_range, decide_eq_true_iff]
open Classical in
theorem leastL_nd : (leastL n P).Nodup := List.Pairwise.filter _ List.nodup_range
theorem leastL_len : (leastL n P).length ≤ n := nd_len n _ leastL_nd fun x hx => (mem_leastL.mp hx).1
theorem leastL_disj {x z t : Nat} (hx : x ∈ leastL n P) (hz : z ∈ leastL n P) (h1 : t ∈ reachL n P x) (h2 : t ∈ reachL n P z) : x = z := by
  obtain ⟨xn, xl⟩ := mem_leastL.mp hx
  obtain ⟨zn, zl⟩ := mem_leastL.mp hz
  have a := (mem_reachL.mp h1).2
  have b := (mem_reachL.mp h2).2
  have c := xl.2 z (a.trans (zl.1 t b))
  have d := zl.2 x (b.trans (xl.1 t a))
  omega
theorem leastL_klass {x : Nat} (hx : x ∈ leastL n P) : Klass n P (reachL n P x) := by
  obtain ⟨xn, xl⟩ := mem_leastL.mp hx
  exact reach_room xn xl.1
theorem leastL_ne {x : Nat} (hx : x ∈ leastL n P) : reachL n P x ≠ [] := fun e => by
  have := mem_reachL.mpr ⟨(mem_leastL.mp hx).1, Rc.refl (n := n) (P := P) x⟩
  rw [e] at this
  cases this
theorem leastL_at {j x : Nat} (h : (leastL n P)[j]? = some x) : x ∈ leastL n P := List.mem_of_getElem? h
theorem KnI.zero {Φ : List Nat → (Nat → Rat) → Prop} {D0 B K : Nat} (h0 : 0 < D0) : KnI n P Φ D0 B K 0 (fun _ => none) :=
  ⟨fun t h => absurd rfl h, fun j x hj => absurd hj (by omega), 1, by decide, by simp, ⟨by omega, fun x _ => by show IsI (0 * _); rw [Rat.zero_mul]; exact IsI.zero, fun x _ => by show ab 0 ≤ _; rw [ab_zero]; exact cast_nn _⟩⟩
theorem KnI.step {Φ : List Nat → (Nat → Rat) → Prop} {D0 B K i : Nat} (h : KnI n P Φ D0 B K i kn) {x : Nat} (hx : (leastL n P)[i]? = some x) {y : Nat → Rat} (hΦ : Φ (reachL n P x) y) {N : Nat} (n0 : 0 < N) (nB : N ≤ B)
    (hy : ∀ a, a < (reachL n P x).length → IsI (y a * ((D0 * N : Nat) : Rat)) ∧ ab (y a) ≤ (K : Rat)) : KnI n P Φ D0 B K (i + 1) (knw kn (reachL n P x) y (reachL n P x).length) := by
  obtain ⟨D, d0, d1, d2⟩ := h.dn
  refine ⟨fun t ht => ?_, fun j z hj hz => ?_, D * N, Nat.mul_pos d0 n0, ?_, ⟨?_, fun t ht => ?_, fun t ht => ?_⟩⟩
  · rw [knw_all (Nat.le_refl _)] at ht
    by_cases c : t ∈ reachL n P x
    · exact ⟨i, x, by omega, hx, c⟩
    · rw [if_neg c] at ht
      obtain ⟨j, z, h1, h2, h3⟩ := h.only t ht
      exact ⟨j, z, by omega, h2, h3⟩
  · by_cases c : j = i
    · subst c
      rw [hx] at hz
      cases hz
      refine ⟨y, hΦ, fun t ht => ?_⟩
      rw [knw_all (Nat.le_refl _), if_pos ht]
    · obtain ⟨y2, h1, h2⟩ := h.all j z (by omega) hz
      refine ⟨y2, h1, fun t ht => ?_⟩
      rw [knw_all (Nat.le_refl _), if_neg, h2 t ht]
      intro w
      have e := leastL_disj (leastL_at hz) (leastL_at hx) ht w
      subst e
      have hj2 := (List.getElem?_eq_some_iff.mp hz)
      have hi2 := (List.getElem?_eq_some_iff.mp hx)
      obtain ⟨a1, a2⟩ := hj2
      obtain ⟨b1, b2⟩ := hi2
      exact c ((List.getElem_inj leastL_nd).mp (a2.trans b2.symm))
  · rw [Nat.pow_succ]; exact Nat.mul_le_mul d1 nB
  · have := d2.pos
    rw [← Nat.mul_assoc]
    exact Nat.mul_pos this n0
  · unfold kv
    rw [knw_all (Nat.le_refl _)]
    by_cases c : t ∈ reachL n P x
    · rw [if_pos c]
      have := (hy _ (List.idxOf_lt_length_of_mem c)).1.natmul D
      rw [Nat.mul_assoc, Nat.mul_comm N] at this
      exact this
    · rw [if_neg c]
      have := (d2.i t ht).natmul N
      rw [Nat.mul_assoc] at this
      exact this
  · unfold kv
    rw [knw_all (Nat.le_refl _)]
    by_cases c : t ∈ reachL n P x
    · rw [if_pos c]
      exact (hy _ (List.idxOf_lt_length_of_mem c)).2
    · rw [if_neg c]
      exact d2.b t ht
/-- a place that comes back lies in a class -/
theorem class_of {x : Nat} (hx : x < n) (hr : Recu n P x) : ∃ z, z ∈ leastL n P ∧ x ∈ reachL n P z := by
  obtain ⟨z, hz, h1, h2⟩ := ex_least n P hx
  exact ⟨z, mem_leastL.mpr ⟨hz, h2⟩, mem_reachL.mpr ⟨hx, hr z h1⟩⟩
/-- everything leads to what is known -/
theorem KnI.re {Φ : List Nat → (Nat → Rat) → Prop} {D0 B K : Nat} (h : KnI n P Φ D0 B K (leastL n P).length kn) : ∀ x, x < n → ∃ y, kn y ≠ none ∧ Rc n P x y := fun x hx => by
  obtain ⟨z, hz, h1, h2⟩ := ex_least n P hx
  have hzm : z ∈ leastL n P := mem_leastL.mpr ⟨hz, h2⟩
  obtain ⟨j, hj, ej⟩ := List.getElem_of_mem hzm
  obtain ⟨y, _, h3⟩ := h.all j z hj (by rw [List.getElem?_eq_getElem hj, ej])
  exact ⟨z, by rw [h3 z (mem_reachL.mpr ⟨hz, .refl z⟩)]; simp, h1⟩
theorem KnI.rec_ {Φ : List Nat → (Nat → Rat) → Prop} {D0 B K : Nat} (h : KnI n P Φ D0 B K (leastL n P).length kn) {x : Nat} (hx : x < n) (hr : Recu n P x) : ∃ z y, z ∈ leastL n P ∧ x ∈ reachL n P z ∧ Φ (reachL n P z) y ∧ ∀ t ∈ reachL n P z, kn t = some (y ((reachL n P z).idxOf t)) := by
  obtain ⟨z, hzm, hxz⟩ := class_of hx hr
  obtain ⟨j, hj, ej⟩ := List.getElem_of_mem hzm
  obtain ⟨y, h2, h3⟩ := h.all j z hj (by rw [List.getElem?_eq_getElem hj, ej])
  exact ⟨z, y, hzm, hxz, h2, h3⟩
/-! ### the long gains -/
def CG (n : Nat) (P : Mat) (r : Nat → Rat) : List Nat → (Nat → Rat) → Prop := fun R y => ∃ ν, Shares n P R ν ∧ ∀ a, a < R.length → y a = sm R.length fun j => ν j * r (R.getD j 0)
theorem lg_law {r : Nat → Rat} {D0 B K D Ke Kk : Nat} {h : Nat → Rat} (S : Stoch n P) (hk : KnI n P (CG n P r) D0 B K (leastL n P).length kn) (hR : RestOut n P kn (fun _ => 0) D Ke Kk h) : Long n P r h := by
  have cls : ∀ x, x < n → kn x ≠ none → ∃ z, z ∈ leastL n P ∧ x ∈ reachL n P z ∧ ∃ ν, Shares n P (reachL n P z) ν ∧ ∀ t ∈ reachL n P z, h t = sm (reachL n P z).length fun j => ν j * r ((reachL n P z).getD j 0) := fun x hx hkx => by
    obtain ⟨j, z, hj, hz, hxz⟩ := hk.only x hkx
    obtain ⟨y, ⟨ν, h1, h2⟩, h3⟩ := hk.all j z hj hz
    exact ⟨z, leastL_at hz, hxz, ν, h1, fun t ht => by
      rw [hR.known t _ (mem_reachL.mp ht).1 (h3 t ht)]
      exact h2 _ (List.idxOf_lt_length_of_mem ht)⟩
  refine ⟨fun x hx => ?_, fun x hx hr => ?_⟩
  · by_cases c : kn x = none
    · have := hR.eq x hx c
      rw [Rat.zero_add] at this
      exact this
    · obtain ⟨z, hz, hxz, ν, h1, h2⟩ := cls x hx c
      have Kl := leastL_klass hz
      rw [Kl.mean S hxz, h2 x hxz]
      have e : sm (reachL n P z).length (fun j => P x ((reachL n P z).getD j 0) * h ((reachL n P z).getD j 0)) = sm (reachL n P z).length (fun j => P x ((reachL n P z).getD j 0) * (sm (reachL n P z).length fun j => ν j * r ((reachL n P z).getD j 0))) := sm_congr fun j hj => by
        rw [h2 _ (getD_mem hj)]
      rw [e, sm_mulr]
      have h3 := Kl.mean S hxz (fun _ => 1)
      rw [S.mn_const _ hx] at h3
      have e2 : sm (reachL n P z).length (fun j => P x ((reachL n P z).getD j 0)) = 1 := by
        rw [h3]; exact sm_congr fun j _ => by grind
      rw [e2, Rat.one_mul]
  · obtain ⟨z, y, hz, hxz, ⟨ν, h1, h2⟩, h3⟩ := hk.rec_ hx hr
    have Kl := leastL_klass hz
    refine ⟨_, Kl.dist S h1.st h1.one hxz, ?_⟩
    rw [Kl.dist_sum, hR.known x _ hx (h3 x hxz)]
    exact h2 _ (List.idxOf_lt_length_of_mem hxz)
end
end Mh
end
section
set_option Elab.async false
set_option linter.all false
set_option maxRecDepth 100000
set_option maxHeartbeats 4000000
/-! the long gains: the reading -/
namespace Mh
open PySem PySem.Spec PyProof.Rows L2
open C8 (Cal pe_c)
open Evl (ixN_nat)
theorem nb4 {n : Nat} (h : n ≤ 4) : NB n ≤ 2 ^ 46 := by
  have : ∀ n : Nat, n ≤ 4 → NB n ≤ 2 ^ 46 := by unfold NB; decide +kernel
  exact this n h
theorem nb_pow {n i D : Nat} (h : D ≤ (2 ^ 46) ^ i) (hi : i ≤ n) (hn : n ≤ 4) : D ≤ 2 ^ 184 := by
  refine Nat.le_trans h ?_
  rw [← Nat.pow_mul]
  exact Nat.pow_le_pow_right (by decide) (by omega)
theorem gm_dn {n : Nat} {C : List Pl} (h : ChOk n C) : Dn n (gm C) 27720 1000 := ⟨by decide, fun x hx => (h.at hx).gi, fun x hx => (h.at hx).gb⟩
/-- sizes of a weighed sum of gains -/
theorem sz_pow {q : Rat} {D K a b : Nat} (h1 : IsI (q * (D : Rat))) (h2 : ab q ≤ (K : Rat)) (h0 : 0 < D) (hD : D ≤ 2 ^ a) (hK : K ≤ 2 ^ b) : Sz (a + b + 1) q := by
  have e1 : (2:Nat) ^ (a + b + 1) = 2 ^ b * 2 ^ a * 2 := by rw [Nat.pow_succ, Nat.pow_add, Nat.mul_comm (2 ^ a)]
  have h3 : K * D ≤ 2 ^ b * 2 ^ a := Nat.mul_le_mul hK hD
  have h4 : (2:Nat) ^ a ≤ 2 ^ b * 2 ^ a := Nat.le_mul_of_pos_left _ (Nat.two_pow_pos _)
  have h5 := Nat.two_pow_pos a
  refine Sz.den h1 (by omega) h2 ?_ ?_
  · rw [e1]; omega
  · rw [e1]; omega
section
variable {K : PySem.W.Frag}
theorem h26 (vs : List V) (H : Hp) (Q : VK) (E : XK) (h : sp26 K vs H Q E) (T : Txt K mg) : t26 K { nx := fun _ H' => Q .non H', rt := Q } (start n26 vs) H := by
  obtain ⟨n, C, x, Hs, rfl, hC, hn, hx, st, q⟩ := h
  obtain ⟨a, xs, rfl, ha, hxs⟩ := is_gd hx
  have lx : xs.length = n := by rw [hxs.flen, hC.len]
  have hS := hC.stoch
  intro p hp
  have e0 : Ext0 Hs H Hs (upd H p (.dK [])) := (Ext.refl st).newM hp
  refine ⟨_, rfl, n, C, _, Hs, rfl, hC, by omega, hx, e0.t, fun v Hs1 H1 e1 hv => ?_⟩
  obtain ⟨b, cs, rfl, hb, hcs⟩ := hv.list
  obtain ⟨p0, p1⟩ := e1.own (fun z => z) upd_same (st.free hp)
  have e2 := e0.trans e1
  have lcs : cs.length = (leastL n (Pm C)).length := by rw [hcs.len, List.length_map]
  have lL := leastL_len (n := n) (P := Pm C)
  refine ⟨b, rfl, ⟨cs, SqL.of (e2.t _ _ hb)⟩, ?_⟩
  refine for_it (walk_list (xs := cs)) (fun i σ H' => ∃ (Hs' : Hp) (kvs : List (Key × V)) (kn : Nat → Option Rat) (y2 y3 y4 y5 : Option V), σ = [some (.ref a), some (.ref p), y2, y3, y4, y5] ∧ Same Hs1 Hs' ∧ Ext0 Hs H Hs' H' ∧ Hs' p = none ∧ H' p = some (.dK kvs) ∧ kvs.length ≤ i * 4 ∧ DEnt K Hs' kvs kn ∧ KnI n (Pm C) (CG n (Pm C) (gm C)) 27720 (2 ^ 46) 1000 i kn)
    ⟨Hs1, [], _, _, _, _, _, rfl, Same.refl _, e2, p0, p1, by simp, DEnt.nil, KnI.zero (by decide)⟩ (fun i σ H' _ ⟨Hs', _, _, _, _, _, _, _, s, e, _⟩ => SqL.of (e.t _ _ (s _ _ hb))) ?_ ?_
  · rintro i v σ H2 H2' hi ⟨Hs2, kvs, kn, y2, y3, y4, y5, rfl, s2, e3, p2, p3, hkl, hde, hkn⟩ ⟨rfl, hv⟩
    obtain ⟨dd, hdd, iv⟩ := hcs.get' hv
    obtain ⟨z, ez, rfl⟩ := map_get hdd
    have hzm := leastL_at ez
    have Kl := leastL_klass hzm
    have hne := leastL_ne hzm
    obtain ⟨R, hR⟩ : ∃ R, R = reachL n (Pm C) z := ⟨_, rfl⟩
    rw [← hR] at Kl hne iv
    obtain ⟨r, rfl, hr⟩ := is_il iv
    have hr2 := s2 _ _ hr
    have lR : R.length ≤ n := nd_len n R Kl.nd Kl.lt
    refine ⟨_, rfl, _, rfl, n, C, R, _, _, Hs2, rfl, hC, by omega, Kl, hne, hx.up e3.s, il_of hr2, e3.t, fun v Hs3 H3 ν e4 hSh hv => ?_⟩
    obtain ⟨p4, p5⟩ := e4.own (fun z => z) p3 p2
    have e5 := e3.trans e4
    refine ⟨_, rfl, r, rfl, ⟨vi R, SqL.of (e5.t _ _ (e4.s _ _ hr2))⟩, fun D hD => ?_⟩
    refine lc_map (K := K) (Hs := Hs3) (n := (vi R).length) (walk_list (xs := vi R)) e5.t (fun H' s => SqL.of (s _ _ (e4.s _ _ hr2))) hD (fun j => qd (gm C (R.getD j 0))) (by rw [vi_len]; omega) ?_ ?_
    · rintro j v Hs4 H4 H4' C' hj e6 d0 ⟨rfl, hv⟩ kk
      obtain ⟨o, eo, rfl⟩ := vi_get hv
      have geto : R.getD j 0 = o := by simp [List.getD, eo]
      have on := Kl.lt o (List.mem_of_getElem? eo)
      obtain ⟨u, eu, iu⟩ := hxs.fget (i := o) (by rw [hC.len]; exact on)
      obtain ⟨c, g, bb, bs, rfl, hc, ig, hbs, ibs⟩ := is_pd iu
      have e7 := e5.trans e6
      refine ⟨rfl, _, rfl, _, rfl, a, xs, _, _, rfl, rfl, SqL.of (e7.t _ _ (e7.s _ _ ha)), atI_nat eu, c, _, 0, g, rfl, rfl, sqt_up e7.t (sqt_up e7.s hc), rfl, ?_⟩
      refine kk g Hs4 _ (Ext.refl e6.t) ?_
      rw [geto]
      exact ig.up e7.s
    intro Hs4 H4 ws e6 d0 d1 hws
    have e7 := e6.frz hD d0 d1
    have e8 := e5.trans e7
    obtain ⟨p6, p7⟩ := e7.own (fun z => z) p5 p4
    rw [vi_len] at hws
    have iw : Is K (upd Hs4 D (.lst ws)) (.ref D) (vd R.length fun j => gm C (R.getD j 0)) := .lst upd_same (hws.up (same_new d0))
    have hf : ∀ c, c < R.length → IsI (gm C (R.getD c 0) * ((27720 : Nat) : Rat)) ∧ ab (gm C (R.getD c 0)) ≤ ((1000 : Nat) : Rat) := fun c hc => ⟨(gm_dn hC).i _ (Kl.lt _ (getD_mem hc)), (gm_dn hC).b _ (Kl.lt _ (getD_mem hc))⟩
    obtain ⟨N, n0, n1, n2, n3, n4⟩ := hSh.sum hS Kl (by decide : 0 < 27720) hf
    have hN : N ≤ 2 ^ 46 := Nat.le_trans n1 (nb4 hn)
    have hDN : 27720 * N ≤ 2 ^ 61 := by omega
    refine ⟨R.length, 48, 28, 72, ν, _, _, _, _, rfl, by omega, hv.up e7.s, iw, fun c hc => ⟨?_, ?_⟩, by decide, by decide, fun c hc => ?_, fun c hc => ?_, e8.t, fun v Hs5 H5 e9 hv5 => ?_⟩
    · have h0 := hSh.pos hS Kl c hc
      exact sz_pow (K := 1) (a := 46) (b := 1) (n2 c hc) (by rw [ab_of_nonneg (by grind)]; exact hSh.le_one hS Kl hc) n0 hN (by decide)
    · exact sz_pow (a := 15) (b := 12) (hf c hc).1 (hf c hc).2 (by decide) (by decide) (by decide)
    · exact (sz_pow (a := 61) (b := 10) (n3 c hc).1 (n3 c hc).2 (by omega) hDN (by decide))
    · exact (sz_pow (a := 61) (b := 10) (n4 c hc).1 (n4 c hc).2 (by omega) hDN (by decide))
    obtain ⟨p8, p9⟩ := e9.own (fun z => z) p7 p6
    have e10 := e8.trans e9
    have s5 : Same Hs2 Hs5 := (e4.s.trans e7.s).trans e9.s
    have hr5 := s5 _ _ hr2
    have hzi := hkn.step ez (y := fun _ => sm R.length fun b => ν b * gm C (R.getD b 0)) (N := N) (by rw [← hR]; exact ⟨ν, hSh, fun _ _ => rfl⟩) n0 hN (fun _ _ => n4 R.length (Nat.le_refl _))
    rw [← hR] at hzi
    refine ⟨_, rfl, r, rfl, ⟨vi R, SqL.of (e10.t _ _ hr5)⟩, ?_⟩
    refine for_it (walk_list (xs := vi R)) (fun j σ H' => ∃ (kv' : List (Key × V)) (y4 : Option V), σ = [some (.ref a), some (.ref p), some (.ref r), some v, y4, y5] ∧ Ext0 Hs H Hs5 H' ∧ H' p = some (.dK kv') ∧ kv'.length ≤ kvs.length + j ∧ DEnt K Hs5 kv' (knw kn R (fun _ => sm R.length fun b => ν b * gm C (R.getD b 0)) j))
      ⟨kvs, _, rfl, e10, p9, by omega, (hde.up s5).congr fun t => (knw_zero _ _ t).symm⟩ (fun j σ H' _ ⟨_, _, _, e, _⟩ => SqL.of (e.t _ _ hr5)) ?_ ?_
    · rintro j v6 σ H6 H6' hj ⟨kv', y4, rfl, e11, p10, hkl', hde'⟩ ⟨rfl, hv6⟩
      obtain ⟨o, eo, rfl⟩ := vi_get hv6
      rw [vi_len] at hj
      refine ⟨_, rfl, _, rfl, _, rfl, p, _, rfl, dput p10 (big_lt (by omega)) o v, ?_⟩
      exact ⟨_, _, rfl, e11.mut (.inl hp) p8, upd_same, by have := length_putK kv' (.inl (o : Int)) v; omega, (hde'.put hv5).congr fun t => knw_succ Kl.nd eo t⟩
    · rintro σ H6 ⟨kv', y4, rfl, e11, p10, hkl', hde'⟩
      rw [vi_len] at hkl' hde'
      exact ⟨Hs5, kv', _, _, _, _, _, rfl, s2.trans s5, e11, p8, p10, by omega, hde', hzi⟩
  · rintro σ H2 ⟨Hs2, kvs, kn, y2, y3, y4, y5, rfl, s2, e3, p2, p3, hkl, hde, hkn⟩
    rw [lcs] at hkn hkl
    have e4 := e3.frz hp p2 p3
    refine ⟨_, rfl, _, rfl, _, rfl, a, rfl, ⟨xs, SqL.of (e3.t _ _ (e3.s _ _ ha))⟩, fun D hD => ?_⟩
    refine lc_map (K := K) (n := xs.length) (walk_list (xs := xs)) e4.t (fun H' s => SqL.of (s _ _ (e4.s _ _ ha))) hD (fun _ => qd 0) (by omega) ?_ ?_
    · rintro i v Hs' H1 H1' C' hi e d0 ⟨rfl, _⟩ kk
      exact ⟨rfl, kk _ _ _ (Ext.refl e.t) (zero_is (T.zero.2 _))⟩
    intro Hs3 H3 ws e5 d0 d1 hws
    rw [lx] at hws
    have e6 := (e4.trans e5).frz (e4.free hD) d0 d1
    have hk3 : (upd Hs3 D (.lst ws)) p = some (.dK kvs) := (same_new d0) _ _ (e5.s _ _ upd_same)
    obtain ⟨Dk, k0, k1, k2⟩ := hkn.dn
    have kD := nb_pow k1 lL hn
    have hM : MetIn n (Pm C) (othersL n kn) kn (fun _ => 0) (27720 * Dk) 0 1000 :=
      MetIn.others (by omega) hkn.re ⟨by omega, fun x _ => by rw [Rat.zero_mul]; exact IsI.zero, fun x _ => by rw [ab_zero]; exact cast_nn _⟩ k2 (by decide) (by
        have : (2:Nat) ^ 2600 = 2 ^ 184 * 2 ^ 2416 := by rw [← Nat.pow_add]
        have h1 : (2:Nat) ^ 30 ≤ 2 ^ 2416 := Nat.pow_le_pow_right (by decide) (by decide)
        have h2 : Dk * 2 ^ 30 ≤ 2 ^ 184 * 2 ^ 2416 := Nat.mul_le_mul kD h1
        rw [this]
        omega)
    refine ⟨n, C, kn, fun _ => 0, 27720 * Dk, 0, 1000, _, _, p, _, rfl, hC, hx.up e6.s, ⟨kvs, hk3, by omega, ((hde.up (same_new p2)).up e5.s).up (same_new d0)⟩, .lst upd_same (hws.up (same_new d0)), hM, e6.t, fun v Hs4 H4 h e7 hR hv => ?_⟩
    refine q v Hs4 H4 h (e6.trans e7) ⟨lg_law hS hkn hR, ?_⟩ hv
    obtain ⟨N, n0, n1, n2⟩ := hR.dn
    have hN := nb4 hn
    refine ⟨N * (27720 * Dk), n2.bound ?_, ?_⟩
    · have : NB n * (360 * (0 + 1000)) ≤ 2 ^ 46 * (360 * (0 + 1000)) := Nat.mul_le_mul_right _ hN
      omega
    · have h1 : N * (27720 * Dk) ≤ 2 ^ 46 * (27720 * 2 ^ 184) := Nat.mul_le_mul (Nat.le_trans n1 hN) (Nat.mul_le_mul_left _ kD)
      have h2 : (2:Nat) ^ 46 * (27720 * 2 ^ 184) ≤ 2 ^ 250 := by decide +kernel
      omega
end
end Mh
end
section
set_option linter.unusedVariables false
/-! leads of a class, leads of all -/
namespace Mh
section
variable {n : Nat} {P : Mat} {R : List Nat} {r g e : Nat → Rat}
def CL (n : Nat) (P : Mat) (e : Nat → Rat) : List Nat → (Nat → Rat) → Prop := fun R y => ∃ ν, Shares n P R ν ∧ sm R.length (fun j => ν j * y j) = 0 ∧ ∀ a, a < R.length → y a = e (R.getD a 0) + sm R.length fun j => P (R.getD a 0) (R.getD j 0) * y j
def kn0 (R : List Nat) : Nat → Option Rat := fun t => if t = R.getD 0 0 then some 0 else none
def ro (y : Nat → Rat) : Nat → Rat := fun j => if j = 0 then 0 else y (j - 1)
theorem kn0_kv (R : List Nat) (t : Nat) : kv (kn0 R) t = 0 := by
  unfold kv kn0
  split <;> rfl
theorem drop_get (R : List Nat) (j : Nat) : (R.drop 1).getD j 0 = R.getD (j + 1) 0 := by
  cases R with
  | nil => rfl
  | cons a l => rfl
theorem drop_nd (nd : R.Nodup) : (R.drop 1).Nodup := List.Pairwise.drop nd
theorem drop_mem (nd : R.Nodup) (hne : R ≠ []) {t : Nat} : t ∈ R.drop 1 ↔ t ∈ R ∧ t ≠ R.getD 0 0 := by
  cases R with
  | nil => exact absurd rfl hne
  | cons a l =>
    show t ∈ l ↔ t ∈ a :: l ∧ t ≠ a
    obtain ⟨n1, n2⟩ := List.nodup_cons.mp nd
    constructor
    · intro h; exact ⟨by simp [h], fun z => n1 (z ▸ h)⟩
    · rintro ⟨h1, h2⟩
      rcases List.mem_cons.mp h1 with q | q
      · exact absurd q h2
      · exact q
theorem glue_ro (nd : R.Nodup) (hne : R ≠ []) (y : Nat → Rat) {j : Nat} (hj : j < R.length) : glue (R.drop 1) y (kv (kn0 R)) (R.getD j 0) = ro y j := by
  unfold glue
  by_cases c : j = 0
  · subst c
    rw [if_neg (fun z => ((drop_mem nd hne).mp z).2 rfl), kn0_kv]
    rfl
  · have hd : R.getD j 0 = (R.drop 1).getD (j - 1) 0 := by rw [drop_get, show j - 1 + 1 = j by omega]
    have hl : j - 1 < (R.drop 1).length := by rw [List.length_drop]; omega
    rw [hd, if_pos (getD_mem hl), idx_getD (drop_nd nd) hl]
    unfold ro
    rw [if_neg c]
theorem Long.gconst (S : Stoch n P) (L : Long n P r g) {x : Nat} (hx : x < n) (hr : Recu n P x) {μ : Nat → Rat} (D : Dist n P μ x) : sm n (fun y => μ y * g y) = g x := by
  have hc := hr.const S hx (fun y hy _ => by rw [← L.har y hy]; exact Rat.le_refl)
  have : sm n (fun y => μ y * g y) = sm n (fun y => μ y * g x) := sm_congr fun y hy => by
    by_cases q : Rc n P x y
    · rw [hc y q]
    · rw [D.sup y hy q]; grind
  rw [this, sm_mulr, D.one, Rat.one_mul]
theorem cl_law (S : Stoch n P) (Kl : Klass n P R) (hne : R ≠ []) (L : Long n P r g) (he : ∀ x, x < n → e x = r x - g x) {y : Nat → Rat} (hy : ∀ x ∈ R.drop 1, glue (R.drop 1) y (kv (kn0 R)) x = e x + mn n P (glue (R.drop 1) y (kv (kn0 R))) x)
    {ν : Nat → Rat} (hν : Shares n P R ν) : CL n P e R (fun j => ro y j - sm R.length fun k => ν k * ro y k) := by
  have h0 : 0 < R.length := List.length_pos_iff.mpr hne
  have hx0 : R.getD 0 0 ∈ R := getD_mem h0
  obtain ⟨G, hG⟩ : ∃ G, G = glue (R.drop 1) y (kv (kn0 R)) := ⟨_, rfl⟩
  have hGr : ∀ j, j < R.length → G (R.getD j 0) = ro y j := fun j hj => by rw [hG]; exact glue_ro Kl.nd hne y hj
  rw [← hG] at hy
  have key : ∀ x ∈ R, G x = e x + mn n P G x := by
    intro x hx
    by_cases c : x = R.getD 0 0
    · subst c
      have hxn := Kl.lt _ hx0
      have hr := Kl.recu hx0
      obtain ⟨μ, D, hμ⟩ := L.rec_ _ hxn hr
      have hp := D.pos S hxn hr
      have e1 : sm n (fun z => μ z * (G z - e z - mn n P G z)) = 0 := by
        have e2 : sm n (fun z => μ z * (G z - e z - mn n P G z)) = sm n (fun z => μ z * G z) - sm n (fun z => μ z * e z) - sm n (fun z => μ z * mn n P G z) := by
          rw [← sm_sub, ← sm_sub]; exact sm_congr fun z _ => by grind
        have e3 : sm n (fun z => μ z * e z) = sm n (fun z => μ z * r z) - sm n (fun z => μ z * g z) := by
          rw [← sm_sub]; exact sm_congr fun z hz => by rw [he z hz]; grind
        rw [e2, D.mean, e3, L.gconst S hxn hr D, ← hμ]
        grind
      rw [sm_single (j := R.getD 0 0) hxn (fun z hz hne2 => by
        by_cases q : Rc n P (R.getD 0 0) z
        · have hz2 := Kl.reach hx0 q
          have := hy z ((drop_mem Kl.nd hne).mpr ⟨hz2, hne2⟩)
          rw [this]; grind
        · rw [D.sup z hz q]; grind)] at e1
      rcases Rat.mul_eq_zero.mp e1 with q | q
      · grind
      · grind
    · exact hy x ((drop_mem Kl.nd hne).mpr ⟨hx, c⟩)
  refine ⟨ν, hν, ?_, fun a ha => ?_⟩
  · have e1 : sm R.length (fun j => ν j * (ro y j - sm R.length fun k => ν k * ro y k)) = sm R.length (fun j => ν j * ro y j) - sm R.length (fun j => ν j * sm R.length fun k => ν k * ro y k) := by
      rw [← sm_sub]; exact sm_congr fun j _ => by grind
    rw [e1, sm_mulr, hν.one]; grind
  · have h1 := key _ (getD_mem ha)
    rw [hGr a ha, Kl.mean S (getD_mem ha)] at h1
    have h2 : sm R.length (fun j => P (R.getD a 0) (R.getD j 0) * G (R.getD j 0)) = sm R.length (fun j => P (R.getD a 0) (R.getD j 0) * ro y j) := sm_congr fun j hj => by rw [hGr j hj]
    have h3 : sm R.length (fun j => P (R.getD a 0) (R.getD j 0) * (ro y j - sm R.length fun k => ν k * ro y k)) = sm R.length (fun j => P (R.getD a 0) (R.getD j 0) * ro y j) - sm R.length (fun j => P (R.getD a 0) (R.getD j 0)) * sm R.length (fun k => ν k * ro y k) := by
      rw [← sm_mulr, ← sm_sub]; exact sm_congr fun j _ => by grind
    have h4 : sm R.length (fun j => P (R.getD a 0) (R.getD j 0)) = 1 := (Kl.stoch S).one a ha
    show ro y a - _ = _ + _
    rw [h3, h4, h1, h2]; grind
theorem ld_law {D0 B K D Ke Kk : Nat} {h : Nat → Rat} {kn : Nat → Option Rat} (S : Stoch n P) (L : Long n P r g) (he : ∀ x, x < n → e x = r x - g x) (hk : KnI n P (CL n P e) D0 B K (leastL n P).length kn) (hR : RestOut n P kn e D Ke Kk h) :
    Exact n P r g h ∧ ∀ x, x < n → Recu n P x → ∃ μ, Dist n P μ x ∧ sm n (fun y => μ y * h y) = 0 := by
  have key : ∀ x, x < n → h x = e x + mn n P h x := fun x hx => by
    by_cases c : kn x = none
    · exact hR.eq x hx c
    · obtain ⟨j, z, hj, hz, hxz⟩ := hk.only x c
      obtain ⟨y, ⟨ν, h1, h2, h3⟩, h4⟩ := hk.all j z hj hz
      have Kl := leastL_klass (leastL_at hz)
      have hv : ∀ t ∈ reachL n P z, h t = y ((reachL n P z).idxOf t) := fun t ht => hR.known t _ (mem_reachL.mp ht).1 (h4 t ht)
      rw [Kl.mean S hxz, hv x hxz, h3 _ (List.idxOf_lt_length_of_mem hxz), getD_idx hxz]
      congr 1
      refine sm_congr fun j hj => ?_
      rw [hv _ (getD_mem hj), idx_getD Kl.nd hj]
  refine ⟨⟨L.har, fun x hx => ?_⟩, fun x hx hr => ?_⟩
  · have := key x hx
    have h2 := he x hx
    grind
  · obtain ⟨z, y, hz, hxz, ⟨ν, h1, h2, h3⟩, h4⟩ := hk.rec_ hx hr
    have Kl := leastL_klass hz
    refine ⟨_, Kl.dist S h1.st h1.one hxz, ?_⟩
    rw [Kl.dist_sum, ← h2]
    refine sm_congr fun j hj => ?_
    rw [hR.known _ _ (mem_reachL.mp (getD_mem hj)).1 (h4 _ (getD_mem hj)), idx_getD Kl.nd hj]
end
end Mh
end
section
set_option Elab.async false
set_option linter.all false
set_option maxRecDepth 100000
set_option maxHeartbeats 4000000
set_option exponentiation.threshold 10000
/-! the leads: the reading -/
namespace Mh
open PySem PySem.Spec PyProof.Rows L2
open C8 (Cal pe_c)
open Evl (ixN_nat)
theorem Dn.szp {n : Nat} {v : Nat → Rat} {D K a b : Nat} (h : Dn n v D K) (hD : D ≤ 2 ^ a) (hK : K ≤ 2 ^ b) {x : Nat} (hx : x < n) : Sz (a + b + 1) (v x) := sz_pow (h.i x hx) (h.b x hx) h.pos hD hK
theorem Dn.sub {n : Nat} {v w : Nat → Rat} {D K L : Nat} (h : Dn n v D K) (g : Dn n w D L) : Dn n (fun x => v x - w x) D (K + L) :=
  ⟨h.pos, fun x hx => by rw [Rat.sub_eq_add_neg, Rat.add_mul, Rat.neg_mul]; exact (h.i x hx).add (g.i x hx).neg, fun x hx => by
    have h1 := h.b x hx
    have h2 := g.b x hx
    have h3 := ab_add (v x) (-(w x))
    have h4 : ab (-(w x)) = ab (w x) := ab_neg _
    rw [Rat.sub_eq_add_neg, Rat.natCast_add]
    grind⟩
theorem Dn.mul' {n : Nat} {v : Nat → Rat} {D K E : Nat} (h : Dn n v D K) (hE : 0 < E) : Dn n v (E * D) K := by rw [Nat.mul_comm]; exact h.mul hE
theorem p2mul {x y a b : Nat} (h : x ≤ 2 ^ a) (g : y ≤ 2 ^ b) : x * y ≤ 2 ^ (a + b) := by rw [Nat.pow_add]; exact Nat.mul_le_mul h g
section
variable {K : PySem.W.Frag}
theorem h27 (vs : List V) (H : Hp) (Q : VK) (E : XK) (h : sp27 K vs H Q E) (T : Txt K mg) : t27 K { nx := fun _ H' => Q .non H', rt := Q } (start n27 vs) H := by
  obtain ⟨n, C, x, Hs, rfl, hC, hn, hx, st, q⟩ := h
  obtain ⟨a, xs, rfl, ha, hxs⟩ := is_gd hx
  have lx : xs.length = n := by rw [hxs.flen, hC.len]
  have hS := hC.stoch
  refine ⟨_, rfl, _, rfl, n, C, _, Hs, rfl, hC, hn, hx, st, fun v Hs1 H1 g e1 hg hv => ?_⟩
  obtain ⟨bg, gs, rfl, hbg, hgs⟩ := is_vd hv
  have L := hg.long
  obtain ⟨Dg, hDg, hDg2⟩ := hg.dn
  refine ⟨a, bg, xs, gs, rfl, SqL.of (e1.t _ _ (e1.s _ _ ha)), SqL.of (e1.t _ _ hbg), fun D hD => ?_⟩
  have he : Dn n (fun x => gm C x - g x) (27720 * Dg) (1000 + 2 ^ 70) := ((gm_dn hC).mul hDg.pos).sub (hDg.mul' (by decide))
  obtain ⟨De, hDe⟩ : ∃ De, De = 27720 * Dg := ⟨_, rfl⟩
  have hDe2 : De ≤ 2 ^ 265 := by
    have : (27720:Nat) * 2 ^ 250 ≤ 2 ^ 265 := by decide +kernel
    omega
  rw [← hDe] at he
  obtain ⟨ex, hex⟩ : ∃ ex : Nat → Rat, ex = fun x => gm C x - g x := ⟨_, rfl⟩
  have hex2 : ∀ x, x < n → ex x = gm C x - g x := fun x _ => by rw [hex]
  rw [← hex] at he
  refine lc_map (K := K) (walk_zip (xs := xs) (ys := gs) (n := n) (by rw [lx, hgs.flen]; simp)) e1.t (fun H' s => ⟨SqL.of (s _ _ (e1.s _ _ ha)), SqL.of (s _ _ hbg)⟩) hD (fun j => qd (ex j)) (by omega) ?_ ?_
  · rintro i v Hs' H1 H1' C' hi e d0 ⟨T', vx, vy, rfl, hT, rfl, ex1, ey⟩ kk
    obtain ⟨_, ix⟩ := hxs.fget' ex1
    obtain ⟨_, iy⟩ := hgs.fget' ey
    obtain ⟨c, gq, bb, bs, rfl, hc, ig, hbs, ibs⟩ := is_pd ix
    have e2 : Ext0 Hs' H1 Hs' (upd H1 T' (.tup [.ref c, vy])) := (Ext.refl e.t).newM hT
    refine ⟨T', _, rfl, SqT.of upd_same, rfl, _, _, rfl, vy, [], rfl, rfl, rfl, ?_⟩
    refine ⟨_, rfl, _, _, 0, gq, rfl, rfl, sqt_up e2.t (sqt_up e.s (sqt_up e1.s hc)), rfl, vy, rfl, ?_⟩
    refine ⟨gm C i, g i, 28, 321, gq, vy, Hs', rfl, (ig.up e1.s).up e.s, iy.up e.s, (gm_dn hC).szp (a := 15) (b := 12) (by decide) (by decide) hi, hDg.szp hDg2 (Nat.le_refl _) hi, by decide, trivial, e2.t, fun w Hs2 H2 e3 hw => kk w Hs2 H2 (e2.trans e3) ?_⟩
    rw [hex]; exact hw
  intro Hs2 H2 ws e2 d0 d1 hws
  have e3 := (e1.trans e2).frz (e1.free hD) d0 d1
  have iex : Is K (upd Hs2 D (.lst ws)) (.ref D) (vd n ex) := .lst upd_same (hws.up (same_new d0))
  intro p hp
  have hpH : H p = none := e3.free hp
  have e4 := e3.newM (o := .dK []) hp
  refine ⟨_, rfl, n, C, _, _, rfl, hC, by omega, hx.up e3.s, e4.t, fun v Hs3 H3 e5 hv => ?_⟩
  obtain ⟨b, cs, rfl, hb, hcs⟩ := hv.list
  obtain ⟨p0, p1⟩ := e5.own (fun z => z) upd_same (e3.t.free hp)
  have e6 := e4.trans e5
  have lcs : cs.length = (leastL n (Pm C)).length := by rw [hcs.len, List.length_map]
  have lL := leastL_len (n := n) (P := Pm C)
  have iex3 := iex.up e5.s
  refine ⟨b, rfl, ⟨cs, SqL.of (e6.t _ _ hb)⟩, ?_⟩
  refine for_it (walk_list (xs := cs)) (fun i σ H' => ∃ (Hs' : Hp) (kvs : List (Key × V)) (kn : Nat → Option Rat) (y3 y4 y5 y6 y7 y8 y9 : Option V), σ = [some (.ref a), some (.ref D), some (.ref p), y3, y4, y5, y6, y7, y8, y9] ∧ Same Hs3 Hs' ∧ Ext0 Hs H Hs' H' ∧ Hs' p = none ∧ H' p = some (.dK kvs) ∧ kvs.length ≤ i * 4 ∧ DEnt K Hs' kvs kn ∧ KnI n (Pm C) (CL n (Pm C) ex) De (2 ^ 92) (2 ^ 128) i kn)
    ⟨Hs3, [], _, _, _, _, _, _, _, _, rfl, Same.refl _, e6, p0, p1, by simp, DEnt.nil, KnI.zero he.pos⟩ (fun i σ H' _ ⟨Hs', _, _, _, _, _, _, _, _, _, _, s, e, _⟩ => SqL.of (e.t _ _ (s _ _ hb))) ?_ ?_
  · rintro i v σ H4 H4' hi ⟨Hs4, kvs, kn, y3, y4, y5, y6, y7, y8, y9, rfl, s4, e7, p2, p3, hkl, hde, hkn⟩ ⟨rfl, hv⟩
    obtain ⟨dd, hdd, iv⟩ := hcs.get' hv
    obtain ⟨z, ez, rfl⟩ := map_get hdd
    have hzm := leastL_at ez
    have Kl := leastL_klass hzm
    have hne := leastL_ne hzm
    obtain ⟨R, hR⟩ : ∃ R, R = reachL n (Pm C) z := ⟨_, rfl⟩
    rw [← hR] at Kl hne iv
    obtain ⟨r, rfl, hr⟩ := is_il iv
    have hr4 := s4 _ _ hr
    have lR : R.length ≤ n := nd_len n R Kl.nd Kl.lt
    have hR0 : 0 < R.length := List.length_pos_iff.mpr hne
    have evR0 : (vi R)[0]? = some (.int ((R.getD 0 0 : Nat) : Int)) := vi_at (by simp [List.getD, hR0])
    refine ⟨by show 1 ≤ sizeLine; decide, fun b0 hb0 => ?_⟩
    have nb0 : p ≠ b0 := ne_of_none p3 hb0
    have e8 := e7.newM (o := .lst [.ref (He.ga K "NOUGHT_numbers")]) hb0
    have hb0H := e7.free hb0
    refine ⟨_, rfl, _, rfl, _, rfl, r, vi R, rfl, SqL.of (e8.t _ _ hr4), fun p2' hp2 => ?_⟩
    rw [cutV_one, show (vi R).drop 1 = vi (R.drop 1) by unfold vi; rw [List.map_drop]]
    have e9 := e8.new (o := .lst (vi (R.drop 1))) hp2
    have n02 : b0 ≠ p2' := ne_of_none upd_same hp2
    intro p3' hp3
    have e10 := e9.newM (o := .dK []) hp3
    have hp3H := e9.free hp3
    have n23 : p2' ≠ p3' := ne_of_none upd_same hp3
    have n03 : b0 ≠ p3' := ne_of_none (by rw [upd_ne n02]; exact upd_same) hp3
    have s9 : Same Hs4 (upd Hs4 p2' (.lst (vi (R.drop 1)))) := same_new (e8.t.free hp2)
    refine ⟨_, rfl, r, vi R, _, _, rfl, rfl, SqL.of (e10.t _ _ (s9 _ _ hr4)), atI_nat (j := 0) evR0, upd_same, [(.inl ((R.getD 0 0 : Nat) : Int), .ref (He.ga K "NOUGHT_numbers"))], rfl, by show 1 ≤ 15; decide, ?_⟩
    have f3 : (upd Hs4 p2' (.lst (vi (R.drop 1)))) p3' = none := e9.t.free hp3
    have e11 := (e10.mut (o := .dK (putK [] (.inl ((R.getD 0 0 : Nat) : Int)) (.ref (He.ga K "NOUGHT_numbers")))) (.inl hp3H) f3).frz hp3H f3 upd_same
    have s11 : Same Hs4 _ := s9.trans (same_new (o := .dK (putK [] (.inl ((R.getD 0 0 : Nat) : Int)) (.ref (He.ga K "NOUGHT_numbers")))) f3)
    have iex4 := (iex3.up s4).up s11
    have hlR : (R.drop 1).length < n := by rw [List.length_drop]; omega
    have hKe : (1000 + 2 ^ 70 : Nat) ≤ 2 ^ 71 := by decide +kernel
    have hM : MetIn n (Pm C) (R.drop 1) (kn0 R) ex De (1000 + 2 ^ 70) 0 := by
      refine ⟨by omega, drop_nd Kl.nd, fun x hx => Kl.lt x ((drop_mem Kl.nd hne).mp hx).1, fun x hx => by unfold kn0; rw [if_neg ((drop_mem Kl.nd hne).mp hx).2], fun x hx y hy hp => ?_, fun x hx => ?_, he, ?_, by omega, ?_⟩
      · have hyR := Kl.cl x ((drop_mem Kl.nd hne).mp hx).1 y hy hp
        by_cases c : y = R.getD 0 0
        · right; unfold kn0; rw [if_pos c]; simp
        · left; exact (drop_mem Kl.nd hne).mpr ⟨hyR, c⟩
      · by_cases c : x ∈ R.drop 1
        · exact ⟨R.getD 0 0, fun w => ((drop_mem Kl.nd hne).mp w).2 rfl, Kl.rc x ((drop_mem Kl.nd hne).mp c).1 _ (getD_mem hR0)⟩
        · exact ⟨x, c, .refl x⟩
      · exact ⟨he.pos, fun x _ => by rw [kn0_kv, Rat.zero_mul]; exact IsI.zero, fun x _ => by rw [kn0_kv, ab_zero]; exact cast_nn _⟩
      · have h1 := p2mul (show 1000 + 2 ^ 70 + 0 ≤ 2 ^ 71 from hKe) hDe2
        have h2 : (2:Nat) ^ (71 + 265) < 2 ^ 2600 := Nat.pow_lt_pow_right (by decide) (by decide)
        omega
    refine ⟨_, rfl, ?_⟩
    have hd11 : DIs K (upd (upd Hs4 p2' (.lst (vi (R.drop 1)))) p3' (.dK (putK [] (.inl ((R.getD 0 0 : Nat) : Int)) (.ref (He.ga K "NOUGHT_numbers"))))) p3' (kn0 R) := ⟨putK [] (.inl ((R.getD 0 0 : Nat) : Int)) (.ref (He.ga K "NOUGHT_numbers")), upd_same, Nat.le_trans (length_putK _ _ _) (by show 0 + 1 ≤ 1000; decide), (DEnt.nil.put (z := R.getD 0 0) (q := 0) (zero_is (T.zero.2 _))).congr fun t => rfl⟩
    refine ⟨n, C, R.drop 1, kn0 R, ex, De, 1000 + 2 ^ 70, 0, _, _, _, p3', _, rfl, hC, hx.up e11.s, il_of (by rw [upd_ne n23]; exact upd_same), hd11, iex4, hM, e11.t, fun v Hs5 H5 y e12 hO hv => ?_⟩
    obtain ⟨by_, ys, rfl, hby, hys⟩ := is_vd hv
    have e13 := e11.trans e12
    have f0 : (upd (upd Hs4 p2' (.lst (vi (R.drop 1)))) p3' (.dK (putK [] (.inl ((R.getD 0 0 : Nat) : Int)) (.ref (He.ga K "NOUGHT_numbers"))))) b0 = none := by rw [upd_ne n03, upd_ne n02]; exact e7.t.free hb0
    obtain ⟨b00, b01⟩ := e12.own (fun z => z) (show _ = some (HO.lst [V.ref (He.ga K "NOUGHT_numbers")]) by rw [upd_ne n03, upd_ne n03, upd_ne n02]; exact upd_same) f0
    have np2 : p ≠ p2' := ne_of_none (by rw [upd_ne nb0]; exact p3) hp2
    have np3 : p ≠ p3' := ne_of_none (by rw [upd_ne np2, upd_ne nb0]; exact p3) hp3
    obtain ⟨p4, p5⟩ := e12.own (fun z => z) (show _ = some (HO.dK kvs) by rw [upd_ne np3, upd_ne np3, upd_ne np2, upd_ne nb0]; exact p3) (by rw [upd_ne np3, upd_ne np2]; exact p2)
    have lys := hys.flen
    have hm1 : (R.drop 1).length + 1 = R.length := by rw [List.length_drop]; omega
    refine ⟨b0, by_, _, ys, rfl, rfl, b01, e12.t _ _ hby, bl_sl (by show 1 + ys.length ≤ 100000; omega), fun pr hpr => ?_⟩
    have npr : p ≠ pr := ne_of_none p5 hpr
    have e14 := e13.new (o := .lst (.ref (He.ga K "NOUGHT_numbers") :: ys)) hpr
    have hprs := e13.t.free hpr
    have iro : Is K (upd Hs5 pr (.lst (.ref (He.ga K "NOUGHT_numbers") :: ys))) (.ref pr) (vd R.length (ro y)) := by
      refine .lst upd_same ?_
      have := (IsA.cons (zero_is (T.zero.2 Hs5)) hys).up (same_new (o := .lst (.ref (He.ga K "NOUGHT_numbers") :: ys)) hprs)
      have e : fl R.length (fun j => qd (ro y j)) = qd 0 :: fl (R.drop 1).length (fun j => qd (y j)) := by
        rw [← hm1]
        unfold fl
        rw [List.range_succ_eq_map, List.map_cons, List.map_map]
        rfl
      rw [e]
      exact this
    have p6 : (upd Hs5 pr (.lst (.ref (He.ga K "NOUGHT_numbers") :: ys))) p = none := by rw [upd_ne npr]; exact p4
    have p7 : (upd H5 pr (.lst (.ref (He.ga K "NOUGHT_numbers") :: ys))) p = some (.dK kvs) := by rw [upd_ne npr]; exact p5
    have s14 : Same Hs4 (upd Hs5 pr (.lst (.ref (He.ga K "NOUGHT_numbers") :: ys))) := (s11.trans e12.s).trans (same_new hprs)
    have hr14 := s14 _ _ hr4
    rw [show [V.ref (He.ga K "NOUGHT_numbers")] ++ ys = V.ref (He.ga K "NOUGHT_numbers") :: ys from rfl]
    generalize hHs6 : upd Hs5 pr (.lst (.ref (He.ga K "NOUGHT_numbers") :: ys)) = Hs6 at e14 iro p6 s14 hr14
    generalize hH6 : upd H5 pr (.lst (.ref (He.ga K "NOUGHT_numbers") :: ys)) = H6 at e14 p7 ⊢
    refine ⟨_, rfl, _, rfl, n, C, R, _, _, Hs6, rfl, hC, by omega, Kl, hne, hx.up e14.s, il_of hr14, e14.t, fun v Hs7 H7 ν e15 hSh hv => ?_⟩
    obtain ⟨N1, k0, k1, k2⟩ := hO.den
    have hN1 : N1 ≤ 2 ^ 46 := Nat.le_trans k1 (nb4 hn)
    have hKr : NB n * (360 * (1000 + 2 ^ 70 + 0)) ≤ 2 ^ 126 := Nat.le_trans (Nat.mul_le_mul_right _ (nb4 hn)) (by decide +kernel)
    have hf : ∀ c, c < R.length → IsI (ro y c * ((N1 * De : Nat) : Rat)) ∧ ab (ro y c) ≤ ((2 ^ 126 : Nat) : Rat) := fun c hc => by
      unfold ro
      by_cases c0 : c = 0
      · rw [if_pos c0, Rat.zero_mul, ab_zero]; exact ⟨IsI.zero, cast_nn _⟩
      · rw [if_neg c0]
        have := k2 (c - 1) (by omega)
        exact ⟨this.1, Rat.le_trans this.2 (cast_le hKr)⟩
    have hD1 : N1 * De ≤ 2 ^ 311 := p2mul hN1 hDe2
    have hD0 : 0 < N1 * De := Nat.mul_pos k0 he.pos
    obtain ⟨N, n0, n1, n2, n3, n4⟩ := hSh.sum hS Kl hD0 hf
    have hN : N ≤ 2 ^ 46 := Nat.le_trans n1 (nb4 hn)
    have hDN : N1 * De * N ≤ 2 ^ 357 := p2mul hD1 hN
    have hDN0 : 0 < N1 * De * N := Nat.mul_pos hD0 n0
    refine ⟨_, rfl, R.length, 48, 438, 484, ν, _, _, _, _, rfl, by omega, hv, iro.up e15.s, fun c hc => ⟨?_, ?_⟩, by decide, by decide, fun c hc => ?_, fun c hc => ?_, e15.t, fun v Hs8 H8 e16 hv8 => ?_⟩
    · have h0 := hSh.pos hS Kl c hc
      exact sz_pow (K := 1) (a := 46) (b := 1) (n2 c hc) (by rw [ab_of_nonneg (by grind)]; exact hSh.le_one hS Kl hc) n0 hN (by decide)
    · exact sz_pow (a := 311) (b := 126) (hf c hc).1 (hf c hc).2 hD0 hD1 (Nat.le_refl _)
    · exact (sz_pow (a := 357) (b := 126) (n3 c hc).1 (n3 c hc).2 hDN0 hDN (Nat.le_refl _))
    · exact (sz_pow (a := 357) (b := 126) (n4 c hc).1 (n4 c hc).2 hDN0 hDN (Nat.le_refl _))
    have e17 := e15.trans e16
    obtain ⟨p8, p9⟩ := e17.own (fun z => z) p7 p6
    have e18 := e14.trans e17
    have s8 : Same Hs4 Hs8 := s14.trans e17.s
    have hr8 := s8 _ _ hr4
    have iro8 := iro.up e17.s
    obtain ⟨pr', rs, hpre, hrs, hrs2⟩ := is_vd iro8
    cases hpre
    obtain ⟨less, hless⟩ : ∃ less, less = sm R.length fun b => ν b * ro y b := ⟨_, rfl⟩
    rw [← hless] at hv8
    have hl1 := n4 R.length (Nat.le_refl _)
    rw [← hless] at hl1
    have szl : Sz 484 less := sz_pow (a := 357) (b := 126) hl1.1 hl1.2 hDN0 hDN (Nat.le_refl _)
    have hcl := cl_law hS Kl hne L hex2 hO.eq hSh
    rw [← hless] at hcl
    have hzi := hkn.step ez (y := fun j => ro y j - less) (N := N1 * N) (by rw [← hR]; exact hcl) (Nat.mul_pos k0 n0) (p2mul hN1 hN) (fun c hc => by
      rw [← hR] at hc
      have h1 := (hf c hc).1.natmul N
      have e1 : N1 * De * N = De * (N1 * N) := by rw [Nat.mul_comm N1, Nat.mul_assoc]
      have h2 := hl1.1
      rw [e1] at h1 h2
      constructor
      · rw [Rat.sub_eq_add_neg, Rat.add_mul, Rat.neg_mul]
        exact h1.add h2.neg
      · have a1 := ab_add (ro y c) (-less)
        have a2 := (hf c hc).2
        have a3 := hl1.2
        have a4 : ab (-less) = ab less := ab_neg _
        have a5 : (((2 ^ 126 : Nat) : Rat)) + (((2 ^ 126 : Nat) : Rat)) ≤ (((2 ^ 128 : Nat) : Rat)) := by
          rw [← Rat.natCast_add]; exact cast_le (by decide +kernel)
        rw [Rat.sub_eq_add_neg]
        grind)
    rw [← hR] at hzi
    refine ⟨_, rfl, _, rfl, r, pr, vi R, rs, rfl, SqL.of (e18.t _ _ hr8), SqL.of (e18.t _ _ hrs), ?_⟩
    refine for_it (walk_zip (xs := vi R) (ys := rs) (n := R.length) (by rw [vi_len, hrs2.flen]; simp)) (fun j σ H' => ∃ (Hs' : Hp) (kv' : List (Key × V)) (y6 y7 : Option V), σ = [some (.ref a), some (.ref D), some (.ref p), some (.ref r), some (.ref pr), some v, y6, y7, y8, y9] ∧ Same Hs8 Hs' ∧ Ext0 Hs H Hs' H' ∧ Hs' p = none ∧ H' p = some (.dK kv') ∧ kv'.length ≤ kvs.length + j ∧ DEnt K Hs' kv' (knw kn R (fun j => ro y j - less) j))
      ⟨Hs8, kvs, _, _, rfl, Same.refl _, e18, p8, p9, by omega, (hde.up s8).congr fun t => (knw_zero _ _ t).symm⟩ (fun j σ H' _ ⟨_, _, _, _, _, s, e, _⟩ => ⟨SqL.of (e.t _ _ (s _ _ hr8)), SqL.of (e.t _ _ (s _ _ hrs))⟩) ?_ ?_
    · rintro j v9 σ H9 H9' hj ⟨Hs9, kv', y6, y7, rfl, s9', e19, p10, p11, hkl', hde'⟩ ⟨T', vx, vy, rfl, hT, rfl, ex1, ey⟩
      obtain ⟨o, eo, rfl⟩ := vi_get ex1
      obtain ⟨_, iy⟩ := hrs2.fget' ey
      have npT : p ≠ T' := ne_of_none p11 hT
      have e20 := e19.newM (o := .tup [.int (o : Int), vy]) hT
      have p12 : (upd H9 T' (.tup [.int (o : Int), vy])) p = some (.dK kv') := by rw [upd_ne npT]; exact p11
      refine ⟨T', _, rfl, SqT.of upd_same, rfl, _, _, rfl, vy, [], rfl, rfl, ?_⟩
      refine ⟨vy, rfl, v, rfl, ro y j, less, 438, 484, vy, v, Hs9, rfl, iy.up s9', hv8.up s9', sz_pow (a := 311) (b := 126) (hf j hj).1 (hf j hj).2 hD0 hD1 (Nat.le_refl _), szl, by decide, trivial, e20.t, fun w Hs10 H10 e21 hw => ?_⟩
      obtain ⟨p13, p14⟩ := e21.own (fun z => z) p12 p10
      refine ⟨_, rfl, _, rfl, p, _, rfl, dput p14 (big_lt (by omega)) o w, ?_⟩
      exact ⟨Hs10, _, _, _, rfl, s9'.trans e21.s, (e20.trans e21).mut (.inl hpH) p13, p13, upd_same, by have := length_putK kv' (.inl (o : Int)) w; omega, ((hde'.up e21.s).put hw).congr fun t => knw_succ Kl.nd eo t⟩
    · rintro σ H9 ⟨Hs9, kv', y6, y7, rfl, s9', e19, p10, p11, hkl', hde'⟩
      exact ⟨Hs9, kv', _, _, _, _, _, _, _, _, rfl, (s4.trans s8).trans s9', e19, p10, p11, by omega, hde', hzi⟩
  · rintro σ H4 ⟨Hs4, kvs, kn, y3, y4, y5, y6, y7, y8, y9, rfl, s4, e7, p2, p3, hkl, hde, hkn⟩
    rw [lcs] at hkn hkl
    have e8 := e7.frz hpH p2 p3
    obtain ⟨Dk, k0, k1, k2⟩ := hkn.dn
    have kD : Dk ≤ 2 ^ 368 := by
      refine Nat.le_trans k1 ?_
      rw [← Nat.pow_mul]
      exact Nat.pow_le_pow_right (by decide) (by omega)
    have hDD : De * Dk ≤ 2 ^ 633 := p2mul hDe2 kD
    have hKK : (1000 + 2 ^ 70 + 2 ^ 128 : Nat) ≤ 2 ^ 129 := by decide +kernel
    have hM : MetIn n (Pm C) (othersL n kn) kn ex (De * Dk) (1000 + 2 ^ 70) (2 ^ 128) :=
      MetIn.others (by omega) hkn.re (he.mul k0) k2 (by omega) (by
        have h1 := p2mul hKK hDD
        have h2 : (2:Nat) ^ (129 + 633) < 2 ^ 2600 := Nat.pow_lt_pow_right (by decide) (by decide)
        omega)
    refine ⟨_, rfl, _, rfl, _, rfl, n, C, kn, ex, De * Dk, 1000 + 2 ^ 70, 2 ^ 128, _, _, p, _, rfl, hC, hx.up e8.s, ⟨kvs, upd_same, by omega, hde.up (same_new p2)⟩, (iex3.up s4).up (same_new p2), hM, e8.t, fun v Hs5 H5 h e9 hR hv => ?_⟩
    have hl := ld_law hS L hex2 hkn hR
    refine q v Hs5 H5 h (e8.trans e9) ⟨⟨g, L, hl.1⟩, hl.2, ?_⟩ hv
    obtain ⟨N, n0, n1, n2⟩ := hR.dn
    have hN := nb4 hn
    refine ⟨N * (De * Dk), n2.bound ?_, ?_⟩
    · have h1 : NB n * (360 * (1000 + 2 ^ 70 + 2 ^ 128)) ≤ 2 ^ 46 * (360 * 2 ^ 129) := Nat.mul_le_mul hN (Nat.mul_le_mul_left _ hKK)
      have h2 : (2:Nat) ^ 46 * (360 * 2 ^ 129) ≤ 2 ^ 200 := by decide +kernel
      exact Nat.le_trans h1 h2
    · have h1 := p2mul (Nat.le_trans n1 hN) hDD
      have h2 : (2:Nat) ^ (46 + 633) ≤ 2 ^ 720 := Nat.pow_le_pow_right (by decide) (by decide)
      exact Nat.le_trans h1 h2
end
end Mh
end
section
set_option Elab.async false
set_option linter.all false
set_option maxRecDepth 100000
set_option maxHeartbeats 4000000
/-! slacks and lifts: promises and derivations -/
namespace Mh
open PySem PySem.Spec PyProof.Rows L2
open C8 (Cal pe_c)
structure PgOk (n : Nat) (p : Pl) : Prop where
  t : ∀ b ∈ p.bs, b.2 < n
  ne : p.bs ≠ []
  br : p.bs.length ≤ 6
  gi : IsI (p.g * (27720 : Nat))
  gb : ab p.g ≤ ((1000 : Nat) : Rat)
  gd : p.g.den ≤ 12
  dr : p.k = .draw → PlOk n p
structure GmOk (n : Nat) (G : List Pl) : Prop where
  len : G.length = n
  ok : ∀ p ∈ G, PgOk n p
/-- sizes of rows -/
structure RowsOk (n : Nat) (g h : Nat → Rat) : Prop where
  g : ∃ D, Dn n g D (2 ^ 70) ∧ D ≤ 2 ^ 250
  h : ∃ D, Dn n h D (2 ^ 200) ∧ D ≤ 2 ^ 720
def ps (p : Rat × Rat) : PyData := .tuple [qd p.1, qd p.2]
/-- a slack -/
def slk (G : List Pl) (g h : Nat → Rat) (x : Nat) (a : Rat × Rat) : Rat × Rat := (a.1 - g x, (pl G x).g + a.2 - (g x + h x))
def mnb (p : Pl) (v : Nat → Rat) : Rat := sumq (p.bs.map fun b => b.1 * v b.2)
def slkD (G : List Pl) (g h : Nat → Rat) (x : Nat) : Rat × Rat := slk G g h x (mnb (pl G x) g, mnb (pl G x) h)
def slkB (G : List Pl) (g h : Nat → Rat) (x y : Nat) : Rat × Rat := slk G g h x (g y, h y)
def bnd1 (G : List Pl) (g h : Nat → Rat) (s : Kd) (σ : List (Option Nat)) (x : Nat) : List (Rat × Rat) :=
  if (pl G x).k = .draw then [slkD G g h x] else if (pl G x).k = s then [slkB G g h x (tg G x ((σ.getD x none).getD 0))] else (pl G x).bs.map fun b => slkB G g h x b.2
def bndL (G : List Pl) (g h : Nat → Rat) (s : Kd) (σ : List (Option Nat)) (m : Nat) : List (Rat × Rat) := (List.range m).flatMap (bnd1 G g h s σ)
def LiftOk (way : Int) (l : List (Rat × Rat)) (v : Rat) : Prop := 0 ≤ v ∧ ∀ p ∈ l, (way : Rat) * p.1 ≤ 0 ∧ (way : Rat) * (p.2 + v * p.1) ≤ 0
def LiftBad (way : Int) (l : List (Rat × Rat)) : Prop := ∃ p ∈ l, 0 < (way : Rat) * p.1 ∨ (0 < (way : Rat) * p.2 ∧ p.1 = 0)
def oq : Option Rat → PyData
  | none => .none
  | some q => qd q
section
variable (K : PySem.W.Frag)
def sp29 : Sp := fun vs H Q _ => ∃ (n a b D B : Nat) (p : Pl) (f : Nat → Rat) (x y : V) (Hs : Hp), vs = [x, y] ∧ PlOk n p ∧ n ≤ 100 ∧ Is K Hs x (.list (p.bs.map (bd .draw))) ∧ Is K Hs y (vd n f) ∧ Dn n f D B ∧ D ≤ 2 ^ a ∧ B ≤ 2 ^ b ∧ a + b ≤ 4400 ∧ Same Hs H ∧
  ∀ v Hs' H', Ext0 Hs H Hs' H' → Is K Hs' v (qd (mnb p f)) → Q v H'
def sp30 : Sp := fun vs H Q _ => ∃ (n : Nat) (G : List Pl) (g h : Nat → Rat) (x : Nat) (a : Rat × Rat) (u r z : V) (Hs : Hp), vs = [u, r, .int (x : Int), z] ∧ GmOk n G ∧ RowsOk n g h ∧ n ≤ 100 ∧ x < n ∧ Is K Hs u (gd G) ∧ Is K Hs r (.tuple [vd n g, vd n h]) ∧ Is K Hs z (ps a) ∧ Sz 340 a.1 ∧ Sz 940 a.2 ∧ Same Hs H ∧
  ∀ v Hs' H', Ext0 Hs H Hs' H' → Is K Hs' v (ps (slk G g h x a)) → Q v H'
def sp31 : Sp := fun vs H Q _ => ∃ (n : Nat) (G : List Pl) (g h : Nat → Rat) (x : Nat) (u r : V) (Hs : Hp), vs = [u, r, .int (x : Int)] ∧ GmOk n G ∧ RowsOk n g h ∧ n ≤ 100 ∧ x < n ∧ Is K Hs u (gd G) ∧ Is K Hs r (.tuple [vd n g, vd n h]) ∧ Same Hs H ∧
  ∀ v Hs' H', Ext0 Hs H Hs' H' → Is K Hs' v (if (pl G x).k = .draw then ps (slkD G g h x) else .list ((pl G x).bs.map fun b => ps (slkB G g h x b.2))) → Q v H'
def sp32 : Sp := fun vs H Q _ => ∃ (n : Nat) (G : List Pl) (g h : Nat → Rat) (s : Kd) (σ : List (Option Nat)) (u r z : V) (Hs : Hp), vs = [u, r, .str s.s, z] ∧ GmOk n G ∧ RowsOk n g h ∧ n ≤ 100 ∧ s ≠ .draw ∧ StOk s G σ ∧ Is K Hs u (gd G) ∧ Is K Hs r (.tuple [vd n g, vd n h]) ∧ Is K Hs z (sd σ) ∧ Same Hs H ∧
  ∀ v Hs' H', Ext0 Hs H Hs' H' → Is K Hs' v (.list ((bndL G g h s σ n).map ps)) → Q v H'
def sp34 : Sp := fun vs H Q _ => ∃ (a b : Rat) (x y : V) (Hs : Hp), vs = [x, y] ∧ Is K Hs x (qd a) ∧ Is K Hs y (qd b) ∧ Sz 2300 a ∧ Sz 700 b ∧ b ≠ 0 ∧ Same Hs H ∧
  ∀ v Hs' H', Ext0 Hs H Hs' H' → Is K Hs' v (qd (0 - a / b)) → Q v H'
def sp33 : Sp := fun vs H Q _ => ∃ (l : List (Rat × Rat)) (way : Int) (x : V) (Hs : Hp), vs = [x, .int way] ∧ (way = 1 ∨ way = -1) ∧ Is K Hs x (.list (l.map ps)) ∧ (∀ p ∈ l, Sz 700 p.1 ∧ Sz 2300 p.2) ∧ Same Hs H ∧
  ∀ v Hs' H' r, Ext0 Hs H Hs' H' → Is K Hs' v (oq r) → (r = none → LiftBad way l) → (∀ q, r = some q → LiftOk way l q ∧ Sz 3010 q) → Q v H'
def sp35 : Sp := fun vs H Q _ => ∃ (n : Nat) (G : List Pl) (g h : Nat → Rat) (σ τ : List (Option Nat)) (u r y z : V) (Hs : Hp), vs = [u, r, y, z] ∧ GmOk n G ∧ RowsOk n g h ∧ n ≤ 100 ∧ StOk .ours G σ ∧ StOk .theirs G τ ∧ Is K Hs u (gd G) ∧ Is K Hs r (.tuple [vd n g, vd n h]) ∧ Is K Hs y (sd σ) ∧ Is K Hs z (sd τ) ∧ Same Hs H ∧
  ∀ v Hs' H' r, Ext0 Hs H Hs' H' → Is K Hs' v (oq r) → (r = none → LiftBad (-1) (bndL G g h .ours σ n) ∨ LiftBad 1 (bndL G g h .theirs τ n)) → (∀ q, r = some q → LiftOk (-1) (bndL G g h .ours σ n) q ∧ LiftOk 1 (bndL G g h .theirs τ n) q ∧ Sz 3010 q) → Q v H'
def sp36 : Sp := fun vs H Q _ => ∃ (n : Nat) (g h : Nat → Rat) (c : Rat) (r y z : V) (Hs : Hp), vs = [r, y, z] ∧ RowsOk n g h ∧ n ≤ 100 ∧ Is K Hs r (.tuple [vd n g, vd n h]) ∧ Is K Hs y (qd c) ∧ Sz 3010 c ∧ Is K Hs z (qd 0) ∧ Same Hs H ∧
  ∀ v Hs' H', Ext0 Hs H Hs' H' → Is K Hs' v (vd n fun x => h x + (c * g x + 0)) → Q v H'
end
/-! mean_of -/
abbrev n29 : List Str := ["branches", "numbers", "chance", "target"]
theorem sc29 : FnScope n29 ["branches", "numbers"] (defScope s29) := ⟨rfl, rfl, rfl, by decide +kernel, rfl, by decide +kernel, by decide +kernel⟩
def t29 (K : PySem.W.Frag) : TS :=
    (tRet (tCall (sp10 K) [] E0 (tCons (tLc (iList K (tVar 0)) (gTup K 2 (gCons (gName 2) (gCons (gName 3) gNil))) tYes (tCall (sp8 K) [] E0 (tCons (tVar 2) (tCons (tOp (rIxL K) (tVar 1) (tVar 3)) tNil))) [2, 3]) tNil)))
theorem der29 {P : Program} {w : World} {K : PySem.W.Frag} {mg : Str → Option Value} {base : Heap} {f : Addr} {cdv : Value} {A : Around} {outer : List Env} {s : Shared} {H : Hp} {E : XK} {qual : Str} (T : Txt K mg) (hr : Room 3 (A.deeper (envOfC qual (defScope s29) s.heap.objs.size f cdv))) (C8 : Cal P w K mg base 2 "times" (sp8 K) []) (C10 : Cal P w K mg base 3 "total" (sp10 K) []) :
    PSs (cxOf CX0 P w K mg base n29 qual (defScope s29) f cdv A outer s H E).nox (defBody s29) (t29 K) :=
    (pss_one (ps_ret (pe_c C10 hr (by decide) (by rfl) (pa_cons (pe_lc (own := [("chance", 2), ("target", 3)]) (g := (gTup K 2 (gCons (gName 2) (gCons (gName 3) gNil)))) (tt := tYes) rfl sc29.nd (pi_list (pv 0)) (blkOk_by (own := [("chance", 2), ("target", 3)]) (N := n29) (sc := defScope s29) (by decide +kernel)) (fun _ _ _ _ _ => (pg_tup rfl (pgs_cons (pg_name (i := 2) sc29.nd rfl (.inl rfl)) (pgs_cons (pg_name (i := 3) sc29.nd rfl (.inl rfl)) pgs_nil)))) (fun _ _ _ _ _ => pts_nil) (fun _ _ _ _ _ => (pe_c C8 hr (by decide) (by rfl) (pa_cons (pv 2) (pa_cons (pe_ix ix_list (pv 1) (pv 3) (fun _ _ => rfl)) pa_nil))))) pa_nil))))
theorem cal29 {P : Program} {w : World} {K : PySem.W.Frag} {mg : Str → Option Value} {base : Heap} (T : Txt K mg) (C8 : Cal P w K mg base 2 "times" (sp8 K) []) (C10 : Cal P w K mg base 3 "total" (sp10 K) [])
    (h : ∀ (vs : List V) (H : Hp) (Q : VK) (E : XK), sp29 K vs H Q E → t29 K { nx := fun _ H' => Q .non H', rt := Q } (start n29 vs) H) (len : ∀ vs H Q E, sp29 K vs H Q E → vs.length = 2) : Cal P w K mg base 4 "mean_of" (sp29 K) [] :=
  Tx.cal T.d29 sc29 len fun cdv A outer f s H vs Q E hr hs => ⟨t29 K, der29 T hr C8 C10, h vs H Q E hs⟩

/-! slack_to -/
abbrev n30 : List Str := ["game", "rows", "place", "ahead", "gains", "leads", "first", "second"]
theorem sc30 : FnScope n30 ["game", "rows", "place", "ahead"] (defScope s30) := ⟨rfl, rfl, rfl, by decide +kernel, rfl, by decide +kernel, by decide +kernel⟩
def t30 (K : PySem.W.Frag) : TS :=
    (tSeq (tAsg (tVar 1) (gTup K 2 (gCons (gName 4) (gCons (gName 5) gNil))))
    (tSeq (tAsg (tCall (sp7 K) [] E0 (tCons (tOp (rIxT K) (tVar 3) (tC (.int 0))) (tCons (tOp (rIxL K) (tVar 4) (tVar 2)) tNil))) (gName 6))
    (tSeq (tAsg (tCall (sp7 K) [] E0 (tCons (tCall (sp6 K) [] E0 (tCons (tOp (rIxT K) (tOp (rIxL K) (tVar 0) (tVar 2)) (tC (.int 0))) (tCons (tOp (rIxT K) (tVar 3) (tC (.int 1))) tNil))) (tCons (tCall (sp6 K) [] E0 (tCons (tOp (rIxL K) (tVar 4) (tVar 2)) (tCons (tOp (rIxL K) (tVar 5) (tVar 2)) tNil))) tNil))) (gName 7))
    (tRet (tTup (tCons (tVar 6) (tCons (tVar 7) tNil)))))))
theorem der30 {P : Program} {w : World} {K : PySem.W.Frag} {mg : Str → Option Value} {base : Heap} {f : Addr} {cdv : Value} {A : Around} {outer : List Env} {s : Shared} {H : Hp} {E : XK} {qual : Str} (T : Txt K mg) (hr : Room 2 (A.deeper (envOfC qual (defScope s30) s.heap.objs.size f cdv))) (C6 : Cal P w K mg base 2 "plus" (sp6 K) []) (C7 : Cal P w K mg base 2 "minus" (sp7 K) []) :
    PSs (cxOf CX0 P w K mg base n30 qual (defScope s30) f cdv A outer s H E).nox (defBody s30) (t30 K) :=
    (pss_cons (ps_asg (pv 1) (pg_tup rfl (pgs_cons (pg_name (i := 4) sc30.nd rfl (.inl rfl)) (pgs_cons (pg_name (i := 5) sc30.nd rfl (.inl rfl)) pgs_nil))))
    (pss_cons (ps_set (i := 6) sc30.nd rfl (.inl rfl) (pe_c C7 hr (by decide) (by rfl) (pa_cons (pe_ix ix_tup (pv 3) pe_int (fun _ _ => rfl)) (pa_cons (pe_ix ix_list (pv 4) (pv 2) (fun _ _ => rfl)) pa_nil))))
    (pss_cons (ps_set (i := 7) sc30.nd rfl (.inl rfl) (pe_c C7 hr (by decide) (by rfl) (pa_cons (pe_c C6 hr (by decide) (by rfl) (pa_cons (pe_ix ix_tup (pe_ix ix_list (pv 0) (pv 2) (fun _ _ => rfl)) pe_int (fun _ _ => rfl)) (pa_cons (pe_ix ix_tup (pv 3) pe_int (fun _ _ => rfl)) pa_nil))) (pa_cons (pe_c C6 hr (by decide) (by rfl) (pa_cons (pe_ix ix_list (pv 4) (pv 2) (fun _ _ => rfl)) (pa_cons (pe_ix ix_list (pv 5) (pv 2) (fun _ _ => rfl)) pa_nil))) pa_nil))))
    (pss_one (ps_ret (pe_tup (pa_cons (pv 6) (pa_cons (pv 7) pa_nil))))))))
theorem cal30 {P : Program} {w : World} {K : PySem.W.Frag} {mg : Str → Option Value} {base : Heap} (T : Txt K mg) (C6 : Cal P w K mg base 2 "plus" (sp6 K) []) (C7 : Cal P w K mg base 2 "minus" (sp7 K) [])
    (h : ∀ (vs : List V) (H : Hp) (Q : VK) (E : XK), sp30 K vs H Q E → t30 K { nx := fun _ H' => Q .non H', rt := Q } (start n30 vs) H) (len : ∀ vs H Q E, sp30 K vs H Q E → vs.length = 4) : Cal P w K mg base 3 "slack_to" (sp30 K) [] :=
  Tx.cal T.d30 sc30 len fun cdv A outer f s H vs Q E hr hs => ⟨t30 K, der30 T hr C6 C7, h vs H Q E hs⟩

/-! slack_at -/
abbrev n31 : List Str := ["game", "rows", "place", "gains", "leads", "branches", "target"]
theorem sc31 : FnScope n31 ["game", "rows", "place"] (defScope s31) := ⟨rfl, rfl, rfl, by decide +kernel, rfl, by decide +kernel, by decide +kernel⟩
def t31 (K : PySem.W.Frag) : TS :=
    (tSeq (tAsg (tVar 1) (gTup K 2 (gCons (gName 3) (gCons (gName 4) gNil))))
    (tSeq (tAsg (tOp (rIxT K) (tOp (rIxL K) (tVar 0) (tVar 2)) (tC (.int 2))) (gName 5))
    (tSeq (tIfS (tTest (tOp rEq (tOp (rIxT K) (tOp (rIxL K) (tVar 0) (tVar 2)) (tC (.int 1))) (tC (.str "draw")))) (tRet (tCall (sp30 K) [] E0 (tCons (tVar 0) (tCons (tVar 1) (tCons (tVar 2) (tCons (tTup (tCons (tCall (sp29 K) [] E0 (tCons (tVar 5) (tCons (tVar 3) tNil))) (tCons (tCall (sp29 K) [] E0 (tCons (tVar 5) (tCons (tVar 4) tNil))) tNil))) tNil)))))) tNext)
    (tRet (tLc (iList K (tVar 5)) (gName 6) tYes (tCall (sp30 K) [] E0 (tCons (tVar 0) (tCons (tVar 1) (tCons (tVar 2) (tCons (tTup (tCons (tOp (rIxL K) (tVar 3) (tVar 6)) (tCons (tOp (rIxL K) (tVar 4) (tVar 6)) tNil))) tNil))))) [6])))))
theorem der31 {P : Program} {w : World} {K : PySem.W.Frag} {mg : Str → Option Value} {base : Heap} {f : Addr} {cdv : Value} {A : Around} {outer : List Env} {s : Shared} {H : Hp} {E : XK} {qual : Str} (T : Txt K mg) (hr : Room 4 (A.deeper (envOfC qual (defScope s31) s.heap.objs.size f cdv))) (C29 : Cal P w K mg base 4 "mean_of" (sp29 K) []) (C30 : Cal P w K mg base 3 "slack_to" (sp30 K) []) :
    PSs (cxOf CX0 P w K mg base n31 qual (defScope s31) f cdv A outer s H E).nox (defBody s31) (t31 K) :=
    (pss_cons (ps_asg (pv 1) (pg_tup rfl (pgs_cons (pg_name (i := 3) sc31.nd rfl (.inr rfl)) (pgs_cons (pg_name (i := 4) sc31.nd rfl (.inr rfl)) pgs_nil))))
    (pss_cons (ps_set (i := 5) sc31.nd rfl (.inl rfl) (pe_ix ix_tup (pe_ix ix_list (pv 0) (pv 2) (fun _ _ => rfl)) pe_int (fun _ _ => rfl)))
    (pss_cons (ps_if (pt_cmpR op_eq (pe_ix ix_tup (pe_ix ix_list (pv 0) (pv 2) (fun _ _ => rfl)) pe_int (fun _ _ => rfl)) pe_str (nomark _)) (pss_one (ps_ret (pe_c C30 hr (by decide) (by rfl) (pa_cons (pv 0) (pa_cons (pv 1) (pa_cons (pv 2) (pa_cons (pe_tup (pa_cons (pe_c C29 hr (by decide) (by rfl) (pa_cons (pv 5) (pa_cons (pv 3) pa_nil))) (pa_cons (pe_c C29 hr (by decide) (by rfl) (pa_cons (pv 5) (pa_cons (pv 4) pa_nil))) pa_nil))) pa_nil))))))) pss_nil)
    (pss_one (ps_ret (pe_lc (own := [("target", 6)]) (g := (gName 6)) (tt := tYes) rfl sc31.nd (pi_list (pv 5)) (blkOk_by (own := [("target", 6)]) (N := n31) (sc := defScope s31) (by decide +kernel)) (fun _ _ _ _ _ => (pg_name (i := 6) sc31.nd rfl (.inl rfl))) (fun _ _ _ _ _ => pts_nil) (fun _ _ _ _ _ => (pe_c C30 hr (by decide) (by rfl) (pa_cons (pv 0) (pa_cons (pv 1) (pa_cons (pv 2) (pa_cons (pe_tup (pa_cons (pe_ix ix_list (pv 3) (pv 6) (fun _ _ => rfl)) (pa_cons (pe_ix ix_list (pv 4) (pv 6) (fun _ _ => rfl)) pa_nil))) pa_nil))))))))))))
theorem cal31 {P : Program} {w : World} {K : PySem.W.Frag} {mg : Str → Option Value} {base : Heap} (T : Txt K mg) (C29 : Cal P w K mg base 4 "mean_of" (sp29 K) []) (C30 : Cal P w K mg base 3 "slack_to" (sp30 K) [])
    (h : ∀ (vs : List V) (H : Hp) (Q : VK) (E : XK), sp31 K vs H Q E → t31 K { nx := fun _ H' => Q .non H', rt := Q } (start n31 vs) H) (len : ∀ vs H Q E, sp31 K vs H Q E → vs.length = 3) : Cal P w K mg base 5 "slack_at" (sp31 K) [] :=
  Tx.cal T.d31 sc31 len fun cdv A outer f s H vs Q E hr hs => ⟨t31 K, der31 T hr C29 C30, h vs H Q E hs⟩

/-! bounding -/
abbrev n32 : List Str := ["game", "rows", "side", "strategy", "found", "place", "gain", "kind", "branches", "told"]
theorem sc32 : FnScope n32 ["game", "rows", "side", "strategy"] (defScope s32) := ⟨rfl, rfl, rfl, by decide +kernel, rfl, by decide +kernel, by decide +kernel⟩
def t32 (K : PySem.W.Frag) : TS :=
    (tSeq (tAsg (tLst tNil) (gName 4))
    (tSeq (tFor (iEnum K (tCons (tVar 0) tNil)) (gTup K 2 (gCons (gName 5) (gCons (gTup K 3 (gCons (gName 6) (gCons (gName 7) (gCons (gName 8) gNil)))) gNil)))
      (tSeq (tAsg (tCall (sp31 K) [] E0 (tCons (tVar 0) (tCons (tVar 1) (tCons (tVar 5) tNil)))) (gName 9))
    (tIfS (tTest (tOp rEq (tVar 7) (tC (.str "draw")))) (tDrop (tBM K "list" rAppend (tVar 4) (tCons (tVar 9) tNil))) (tIfS (tTest (tOp rEq (tVar 7) (tVar 2))) (tDrop (tBM K "list" rAppend (tVar 4) (tCons (tOp (rIxL K) (tVar 9) (tOp (rIxL K) (tVar 3) (tVar 5))) tNil))) (tDrop (tBM K "list" rExtend (tVar 4) (tCons (tVar 9) tNil)))))))
    (tRet (tVar 4))))
theorem der32 {P : Program} {w : World} {K : PySem.W.Frag} {mg : Str → Option Value} {base : Heap} {f : Addr} {cdv : Value} {A : Around} {outer : List Env} {s : Shared} {H : Hp} {E : XK} {qual : Str} (T : Txt K mg) (hr : Room 5 (A.deeper (envOfC qual (defScope s32) s.heap.objs.size f cdv))) (C31 : Cal P w K mg base 5 "slack_at" (sp31 K) []) :
    PSs (cxOf CX0 P w K mg base n32 qual (defScope s32) f cdv A outer s H E).nox (defBody s32) (t32 K) :=
    (pss_cons (ps_set (i := 4) sc32.nd rfl (.inl rfl) (pe_lst pa_nil))
    (pss_cons (ps_for PassesOwn.never rfl (pi_enum (by rfl) T.b_enumerate (pa_cons (pv 0) pa_nil)) (pg_tup rfl (pgs_cons (pg_name (i := 5) sc32.nd rfl (.inl rfl)) (pgs_cons (pg_tup rfl (pgs_cons (pg_name (i := 6) sc32.nd rfl (.inl rfl)) (pgs_cons (pg_name (i := 7) sc32.nd rfl (.inl rfl)) (pgs_cons (pg_name (i := 8) sc32.nd rfl (.inl rfl)) pgs_nil)))) pgs_nil)))
      (pss_cons (ps_set (i := 9) sc32.nd rfl (.inl rfl) (pe_c C31 hr (by decide) (by rfl) (pa_cons (pv 0) (pa_cons (pv 1) (pa_cons (pv 5) pa_nil)))))
    (pss_one (ps_if (pt_cmpR op_eq (pv 7) pe_str (nomark _)) (pss_one (ps_expr (pe_bm PySem.F.plainAttrs_list PySem.F.slot_list_append PySem.F.type_list_append mt_append (pv 4) (pa_cons (pv 9) pa_nil)))) (pss_one (ps_if (pt_cmpR op_eq (pv 7) (pv 2) (nomark _)) (pss_one (ps_expr (pe_bm PySem.F.plainAttrs_list PySem.F.slot_list_append PySem.F.type_list_append mt_append (pv 4) (pa_cons (pe_ix ix_list (pv 9) (pe_ix ix_list (pv 3) (pv 5) (fun _ _ => rfl)) (fun _ _ => rfl)) pa_nil)))) (pss_one (ps_expr (pe_bm PySem.F.plainAttrs_list PySem.F.slot_list_extend PySem.F.type_list_extend mt_extend (pv 4) (pa_cons (pv 9) pa_nil))))))))))
    (pss_one (ps_ret (pv 4)))))
theorem cal32 {P : Program} {w : World} {K : PySem.W.Frag} {mg : Str → Option Value} {base : Heap} (T : Txt K mg) (C31 : Cal P w K mg base 5 "slack_at" (sp31 K) [])
    (h : ∀ (vs : List V) (H : Hp) (Q : VK) (E : XK), sp32 K vs H Q E → t32 K { nx := fun _ H' => Q .non H', rt := Q } (start n32 vs) H) (len : ∀ vs H Q E, sp32 K vs H Q E → vs.length = 4) : Cal P w K mg base 6 "bounding" (sp32 K) [] :=
  Tx.cal T.d32 sc32 len fun cdv A outer f s H vs Q E hr hs => ⟨t32 K, der32 T hr C31, h vs H Q E hs⟩

/-! number_of -/
abbrev n34 : List Str := ["second", "first"]
theorem sc34 : FnScope n34 ["second", "first"] (defScope s34) := ⟨rfl, rfl, rfl, by decide +kernel, rfl, by decide +kernel, by decide +kernel⟩
def t34 (K : PySem.W.Frag) : TS :=
    (tRet (tCall (sp7 K) [] E0 (tCons (tC (.ref (He.ga K "NOUGHT_numbers"))) (tCons (tCall (sp9 K) [] E0 (tCons (tVar 0) (tCons (tVar 1) tNil))) tNil))))
theorem der34 {P : Program} {w : World} {K : PySem.W.Frag} {mg : Str → Option Value} {base : Heap} {f : Addr} {cdv : Value} {A : Around} {outer : List Env} {s : Shared} {H : Hp} {E : XK} {qual : Str} (T : Txt K mg) (hr : Room 2 (A.deeper (envOfC qual (defScope s34) s.heap.objs.size f cdv))) (C7 : Cal P w K mg base 2 "minus" (sp7 K) []) (C9 : Cal P w K mg base 2 "divided" (sp9 K) []) :
    PSs (cxOf CX0 P w K mg base n34 qual (defScope s34) f cdv A outer s H E).nox (defBody s34) (t34 K) :=
    (pss_one (ps_ret (pe_c C7 hr (by decide) (by rfl) (pa_cons (pe_glob (by rfl) T.zero.1 rfl) (pa_cons (pe_c C9 hr (by decide) (by rfl) (pa_cons (pv 0) (pa_cons (pv 1) pa_nil))) pa_nil)))))
theorem cal34 {P : Program} {w : World} {K : PySem.W.Frag} {mg : Str → Option Value} {base : Heap} (T : Txt K mg) (C7 : Cal P w K mg base 2 "minus" (sp7 K) []) (C9 : Cal P w K mg base 2 "divided" (sp9 K) [])
    (h : ∀ (vs : List V) (H : Hp) (Q : VK) (E : XK), sp34 K vs H Q E → t34 K { nx := fun _ H' => Q .non H', rt := Q } (start n34 vs) H) (len : ∀ vs H Q E, sp34 K vs H Q E → vs.length = 2) : Cal P w K mg base 3 "number_of" (sp34 K) [] :=
  Tx.cal T.d34 sc34 len fun cdv A outer f s H vs Q E hr hs => ⟨t34 K, der34 T hr C7 C9, h vs H Q E hs⟩

/-! lift_for -/
abbrev n33 : List Str := ["slacks", "way", "found", "first", "second", "least"]
theorem sc33 : FnScope n33 ["slacks", "way"] (defScope s33) := ⟨rfl, rfl, rfl, by decide +kernel, rfl, by decide +kernel, by decide +kernel⟩
def t33 (K : PySem.W.Frag) : TS :=
    (tSeq (tAsg (tC (.ref (He.ga K "NOUGHT_numbers"))) (gName 2))
    (tSeq (tFor (iList K (tVar 0)) (gTup K 2 (gCons (gName 3) (gCons (gName 4) gNil)))
      (tSeq (tIfS (tTest (tOp rEq (tCall (sp5 K) [] E0 (tCons (tVar 3) (tCons (tC (.ref (He.ga K "NOUGHT_numbers"))) tNil))) (tVar 1))) (tRet (tC .non)) tNext)
    (tIfS (tTest (tOp rEq (tCall (sp5 K) [] E0 (tCons (tVar 4) (tCons (tC (.ref (He.ga K "NOUGHT_numbers"))) tNil))) (tVar 1))) (tSeq (tIfS (tTest (tOp (rEqD K) (tVar 3) (tC (.ref (He.ga K "NOUGHT_numbers"))))) (tRet (tC .non)) tNext)
    (tSeq (tAsg (tCall (sp34 K) [] E0 (tCons (tVar 4) (tCons (tVar 3) tNil))) (gName 5))
    (tIfS (tTest (tOp rGtI (tCall (sp5 K) [] E0 (tCons (tVar 5) (tCons (tVar 2) tNil))) (tC (.int 0)))) (tAsg (tVar 5) (gName 2)) tNext))) tNext)))
    (tRet (tVar 2))))
theorem der33 {P : Program} {w : World} {K : PySem.W.Frag} {mg : Str → Option Value} {base : Heap} {f : Addr} {cdv : Value} {A : Around} {outer : List Env} {s : Shared} {H : Hp} {E : XK} {qual : Str} (T : Txt K mg) (hr : Room 3 (A.deeper (envOfC qual (defScope s33) s.heap.objs.size f cdv))) (C5 : Cal P w K mg base 1 "compare" (sp5 K) []) (C34 : Cal P w K mg base 3 "number_of" (sp34 K) []) :
    PSs (cxOf CX0 P w K mg base n33 qual (defScope s33) f cdv A outer s H E).nox (defBody s33) (t33 K) :=
    (pss_cons (ps_set (i := 2) sc33.nd rfl (.inl rfl) (pe_glob (by rfl) T.zero.1 rfl))
    (pss_cons (ps_for PassesOwn.never rfl (pi_list (pv 0)) (pg_tup rfl (pgs_cons (pg_name (i := 3) sc33.nd rfl (.inl rfl)) (pgs_cons (pg_name (i := 4) sc33.nd rfl (.inl rfl)) pgs_nil)))
      (pss_cons (ps_if (pt_cmpR op_eq (pe_c C5 hr (by decide) (by rfl) (pa_cons (pv 3) (pa_cons (pe_glob (by rfl) T.zero.1 rfl) pa_nil))) (pv 1) (nomark _)) (pss_one (ps_ret pe_non)) pss_nil)
    (pss_one (ps_if (pt_cmpR op_eq (pe_c C5 hr (by decide) (by rfl) (pa_cons (pv 4) (pa_cons (pe_glob (by rfl) T.zero.1 rfl) pa_nil))) (pv 1) (nomark _)) (pss_cons (ps_if (pt_cmpR (op_eqD hr.units) (pv 3) (pe_glob (by rfl) T.zero.1 rfl) (nomark _)) (pss_one (ps_ret pe_non)) pss_nil)
    (pss_cons (ps_set (i := 5) sc33.nd rfl (.inl rfl) (pe_c C34 hr (by decide) (by rfl) (pa_cons (pv 4) (pa_cons (pv 3) pa_nil))))
    (pss_one (ps_if (pt_cmpR op_gt (pe_c C5 hr (by decide) (by rfl) (pa_cons (pv 5) (pa_cons (pv 2) pa_nil))) pe_int (nomark _)) (pss_one (ps_set (i := 2) sc33.nd rfl (.inl rfl) (pv 5))) pss_nil)))) pss_nil))))
    (pss_one (ps_ret (pv 2)))))
theorem cal33 {P : Program} {w : World} {K : PySem.W.Frag} {mg : Str → Option Value} {base : Heap} (T : Txt K mg) (C5 : Cal P w K mg base 1 "compare" (sp5 K) []) (C34 : Cal P w K mg base 3 "number_of" (sp34 K) [])
    (h : ∀ (vs : List V) (H : Hp) (Q : VK) (E : XK), sp33 K vs H Q E → t33 K { nx := fun _ H' => Q .non H', rt := Q } (start n33 vs) H) (len : ∀ vs H Q E, sp33 K vs H Q E → vs.length = 2) : Cal P w K mg base 4 "lift_for" (sp33 K) [] :=
  Tx.cal T.d33 sc33 len fun cdv A outer f s H vs Q E hr hs => ⟨t33 K, der33 T hr C5 C34, h vs H Q E hs⟩

/-! lift_of -/
abbrev n35 : List Str := ["game", "rows", "ours", "theirs", "low", "high"]
theorem sc35 : FnScope n35 ["game", "rows", "ours", "theirs"] (defScope s35) := ⟨rfl, rfl, rfl, by decide +kernel, rfl, by decide +kernel, by decide +kernel⟩
def t35 (K : PySem.W.Frag) : TS :=
    (tSeq (tAsg (tCall (sp33 K) [] E0 (tCons (tCall (sp32 K) [] E0 (tCons (tVar 0) (tCons (tVar 1) (tCons (tC (.str "ours")) (tCons (tVar 2) tNil))))) (tCons (tUn rNegI (tC (.int 1))) tNil))) (gName 4))
    (tSeq (tAsg (tCall (sp33 K) [] E0 (tCons (tCall (sp32 K) [] E0 (tCons (tVar 0) (tCons (tVar 1) (tCons (tC (.str "theirs")) (tCons (tVar 3) tNil))))) (tCons (tC (.int 1)) tNil))) (gName 5))
    (tSeq (tIfS (tOr (tB (tIsN (tVar 4))) (tB (tIsN (tVar 5)))) (tRet (tC .non)) tNext)
    (tRet (tIf (tTest (tOp rGtI (tCall (sp5 K) [] E0 (tCons (tVar 4) (tCons (tVar 5) tNil))) (tC (.int 0)))) (tVar 4) (tVar 5))))))
theorem der35 {P : Program} {w : World} {K : PySem.W.Frag} {mg : Str → Option Value} {base : Heap} {f : Addr} {cdv : Value} {A : Around} {outer : List Env} {s : Shared} {H : Hp} {E : XK} {qual : Str} (T : Txt K mg) (hr : Room 6 (A.deeper (envOfC qual (defScope s35) s.heap.objs.size f cdv))) (C5 : Cal P w K mg base 1 "compare" (sp5 K) []) (C32 : Cal P w K mg base 6 "bounding" (sp32 K) []) (C33 : Cal P w K mg base 4 "lift_for" (sp33 K) []) :
    PSs (cxOf CX0 P w K mg base n35 qual (defScope s35) f cdv A outer s H E).nox (defBody s35) (t35 K) :=
    (pss_cons (ps_set (i := 4) sc35.nd rfl (.inl rfl) (pe_c C33 hr (by decide) (by rfl) (pa_cons (pe_c C32 hr (by decide) (by rfl) (pa_cons (pv 0) (pa_cons (pv 1) (pa_cons pe_str (pa_cons (pv 2) pa_nil))))) (pa_cons (pe_un un_neg pe_int) pa_nil))))
    (pss_cons (ps_set (i := 5) sc35.nd rfl (.inl rfl) (pe_c C33 hr (by decide) (by rfl) (pa_cons (pe_c C32 hr (by decide) (by rfl) (pa_cons (pv 0) (pa_cons (pv 1) (pa_cons pe_str (pa_cons (pv 3) pa_nil))))) (pa_cons pe_int pa_nil))))
    (pss_cons (ps_if (PW.pt (pw_or (pt_cmp (pc_isN (pv 4))) (pw_or1 (pt_cmp (pc_isN (pv 5)))))) (pss_one (ps_ret pe_non)) pss_nil)
    (pss_one (ps_ret (pe_ifExp (pt_cmpR op_gt (pe_c C5 hr (by decide) (by rfl) (pa_cons (pv 4) (pa_cons (pv 5) pa_nil))) pe_int (nomark _)) (pv 4) (pv 5)))))))
theorem cal35 {P : Program} {w : World} {K : PySem.W.Frag} {mg : Str → Option Value} {base : Heap} (T : Txt K mg) (C5 : Cal P w K mg base 1 "compare" (sp5 K) []) (C32 : Cal P w K mg base 6 "bounding" (sp32 K) []) (C33 : Cal P w K mg base 4 "lift_for" (sp33 K) [])
    (h : ∀ (vs : List V) (H : Hp) (Q : VK) (E : XK), sp35 K vs H Q E → t35 K { nx := fun _ H' => Q .non H', rt := Q } (start n35 vs) H) (len : ∀ vs H Q E, sp35 K vs H Q E → vs.length = 4) : Cal P w K mg base 7 "lift_of" (sp35 K) [] :=
  Tx.cal T.d35 sc35 len fun cdv A outer f s H vs Q E hr hs => ⟨t35 K, der35 T hr C5 C32 C33, h vs H Q E hs⟩

/-! lifted_leads -/
abbrev n36 : List Str := ["rows", "by", "more", "gains", "leads", "gain", "lead"]
theorem sc36 : FnScope n36 ["rows", "by", "more"] (defScope s36) := ⟨rfl, rfl, rfl, by decide +kernel, rfl, by decide +kernel, by decide +kernel⟩
def t36 (K : PySem.W.Frag) : TS :=
    (tSeq (tAsg (tVar 0) (gTup K 2 (gCons (gName 3) (gCons (gName 4) gNil))))
    (tRet (tLc (iZip K (tCons (tVar 3) (tCons (tVar 4) tNil))) (gTup K 2 (gCons (gName 5) (gCons (gName 6) gNil))) tYes (tCall (sp6 K) [] E0 (tCons (tVar 6) (tCons (tCall (sp6 K) [] E0 (tCons (tCall (sp8 K) [] E0 (tCons (tVar 1) (tCons (tVar 5) tNil))) (tCons (tVar 2) tNil))) tNil))) [5, 6])))
theorem der36 {P : Program} {w : World} {K : PySem.W.Frag} {mg : Str → Option Value} {base : Heap} {f : Addr} {cdv : Value} {A : Around} {outer : List Env} {s : Shared} {H : Hp} {E : XK} {qual : Str} (T : Txt K mg) (hr : Room 2 (A.deeper (envOfC qual (defScope s36) s.heap.objs.size f cdv))) (C6 : Cal P w K mg base 2 "plus" (sp6 K) []) (C8 : Cal P w K mg base 2 "times" (sp8 K) []) :
    PSs (cxOf CX0 P w K mg base n36 qual (defScope s36) f cdv A outer s H E).nox (defBody s36) (t36 K) :=
    (pss_cons (ps_asg (pv 0) (pg_tup rfl (pgs_cons (pg_name (i := 3) sc36.nd rfl (.inl rfl)) (pgs_cons (pg_name (i := 4) sc36.nd rfl (.inl rfl)) pgs_nil))))
    (pss_one (ps_ret (pe_lc (own := [("gain", 5), ("lead", 6)]) (g := (gTup K 2 (gCons (gName 5) (gCons (gName 6) gNil)))) (tt := tYes) rfl sc36.nd (pi_zip (by rfl) T.b_zip (pa_cons (pv 3) (pa_cons (pv 4) pa_nil))) (blkOk_by (own := [("gain", 5), ("lead", 6)]) (N := n36) (sc := defScope s36) (by decide +kernel)) (fun _ _ _ _ _ => (pg_tup rfl (pgs_cons (pg_name (i := 5) sc36.nd rfl (.inl rfl)) (pgs_cons (pg_name (i := 6) sc36.nd rfl (.inl rfl)) pgs_nil)))) (fun _ _ _ _ _ => pts_nil) (fun _ _ _ _ _ => (pe_c C6 hr (by decide) (by rfl) (pa_cons (pv 6) (pa_cons (pe_c C6 hr (by decide) (by rfl) (pa_cons (pe_c C8 hr (by decide) (by rfl) (pa_cons (pv 1) (pa_cons (pv 5) pa_nil))) (pa_cons (pv 2) pa_nil))) pa_nil))))))))
theorem cal36 {P : Program} {w : World} {K : PySem.W.Frag} {mg : Str → Option Value} {base : Heap} (T : Txt K mg) (C6 : Cal P w K mg base 2 "plus" (sp6 K) []) (C8 : Cal P w K mg base 2 "times" (sp8 K) [])
    (h : ∀ (vs : List V) (H : Hp) (Q : VK) (E : XK), sp36 K vs H Q E → t36 K { nx := fun _ H' => Q .non H', rt := Q } (start n36 vs) H) (len : ∀ vs H Q E, sp36 K vs H Q E → vs.length = 3) : Cal P w K mg base 3 "lifted_leads" (sp36 K) [] :=
  Tx.cal T.d36 sc36 len fun cdv A outer f s H vs Q E hr hs => ⟨t36 K, der36 T hr C6 C8, h vs H Q E hs⟩

end Mh
end
section
set_option Elab.async false
set_option linter.all false
set_option maxRecDepth 100000
set_option maxHeartbeats 4000000
set_option exponentiation.threshold 10000
/-! slacks: the readings -/
namespace Mh
open PySem PySem.Spec PyProof.Rows L2
open C8 (Cal pe_c)
open Evl (ixN_nat)
section
variable {n : Nat} {p : Pl} {f : Nat → Rat} {D B : Nat}
theorem PlOk.part (hp : PlOk n p) (hf : Dn n f D B) {l : List (Rat × Nat)} (hl : l.Sublist p.bs) :
    ∃ S : Nat, 0 < S ∧ S ≤ 360 ∧ IsI (sumq (l.map fun b => b.1 * f b.2) * ((D * S : Nat) : Rat)) ∧ ab (sumq (l.map fun b => b.1 * f b.2)) ≤ (B : Rat) := by
  obtain ⟨S, s0, s1, s2⟩ := hp.den
  refine ⟨S, s0, s1, sumq_int fun q hq => ?_, ?_⟩
  · obtain ⟨b, hb, rfl⟩ := List.mem_map.mp hq
    have i1 := s2 b (hl.subset hb)
    have i2 := hf.i b.2 (hp.t b (hl.subset hb))
    have e3 : b.1 * f b.2 * ((D * S : Nat) : Rat) = b.1 * (S : Rat) * (f b.2 * (D : Rat)) := by rw [Rat.natCast_mul]; grind
    show IsI (b.1 * f b.2 * ((D * S : Nat) : Rat))
    rw [e3]
    exact i1.mul i2
  · have a3 := sumq_ab (l := l) (kf := f) (K := (B : Rat)) (fun b hb => by have := hp.pos b (hl.subset hb); grind) (fun b hb => hf.b _ (hp.t b (hl.subset hb)))
    have a4 := hp.frac (l := l.map (·.1)) (hl.map _)
    have a5 : sumq (l.map (·.1)) * (B : Rat) ≤ 1 * (B : Rat) := Rat.mul_le_mul_of_nonneg_right a4.2.1 (cast_nn _)
    grind
theorem PlOk.part_sz (hp : PlOk n p) (hf : Dn n f D B) {a b : Nat} (hD : D ≤ 2 ^ a) (hB : B ≤ 2 ^ b) {l : List (Rat × Nat)} (hl : l.Sublist p.bs) : Sz (a + b + 10) (sumq (l.map fun b => b.1 * f b.2)) := by
  obtain ⟨S, s0, s1, i1, i2⟩ := hp.part hf hl
  have hDS : D * S ≤ 2 ^ (a + 9) := p2mul hD (Nat.le_trans s1 (by decide))
  exact (sz_pow (a := a + 9) (b := b) i1 i2 (Nat.mul_pos hf.pos s0) hDS hB).mono (by omega)
theorem RowsOk.gs {g h : Nat → Rat} (r : RowsOk n g h) {x : Nat} (hx : x < n) : Sz 321 (g x) := by
  obtain ⟨D, hD, hD2⟩ := r.g
  exact hD.szp hD2 (Nat.le_refl _) hx
theorem RowsOk.hs {g h : Nat → Rat} (r : RowsOk n g h) {x : Nat} (hx : x < n) : Sz 921 (h x) := by
  obtain ⟨D, hD, hD2⟩ := r.h
  exact hD.szp hD2 (Nat.le_refl _) hx
theorem GmOk.at {G : List Pl} (h : GmOk n G) {x : Nat} (hx : x < n) : PgOk n (pl G x) := h.ok _ (pl_mem (by rw [h.len]; exact hx))
theorem PgOk.gs (h : PgOk n p) : Sz 28 p.g := sz_pow (a := 15) (b := 12) h.gi h.gb (by decide) (by decide) (by decide)
theorem slk_sz {G : List Pl} {g h : Nat → Rat} (hG : GmOk n G) (r : RowsOk n g h) {x : Nat} (hx : x < n) {a : Rat × Rat} (h1 : Sz 340 a.1) (h2 : Sz 940 a.2) : Sz 700 (slk G g h x a).1 ∧ Sz 2300 (slk G g h x a).2 :=
  ⟨(h1.sub (r.gs hx)).mono (by decide), (((hG.at hx).gs.add h2).sub ((r.gs hx).add (r.hs hx))).mono (by decide)⟩
theorem mnb_g {g h : Nat → Rat} (hp : PlOk n p) (r : RowsOk n g h) : Sz 340 (mnb p g) := by
  obtain ⟨D, hD, hD2⟩ := r.g
  exact (hp.part_sz hD hD2 (Nat.le_refl _) (List.Sublist.refl _)).mono (by decide)
theorem mnb_h {g h : Nat → Rat} (hp : PlOk n p) (r : RowsOk n g h) : Sz 940 (mnb p h) := by
  obtain ⟨D, hD, hD2⟩ := r.h
  exact (hp.part_sz hD hD2 (Nat.le_refl _) (List.Sublist.refl _)).mono (by decide)
end
section
variable {K : PySem.W.Frag}
theorem h29 (vs : List V) (H : Hp) (Q : VK) (E : XK) (h : sp29 K vs H Q E) : t29 K { nx := fun _ H' => Q .non H', rt := Q } (start n29 vs) H := by
  obtain ⟨n, a, b, D, B, p, f, x, y, Hs, rfl, hp, hn, hx, hy, hf, hD, hB, hab, st, q⟩ := h
  obtain ⟨c, bs, rfl, hc, hbs⟩ := hx.list
  obtain ⟨d, ys, rfl, hd, hys⟩ := is_vd hy
  have lbs : bs.length = p.bs.length := by rw [hbs.len, List.length_map]
  have hbr := hp.br
  refine ⟨_, rfl, c, rfl, ⟨bs, SqL.of (st _ _ hc)⟩, fun E1 hE => ?_⟩
  refine lc_map (K := K) (n := bs.length) (walk_list (xs := bs)) st (fun H' s => SqL.of (s _ _ hc)) hE (fun k => (fun b : Rat × Nat => qd (b.1 * f b.2)) (p.bs.getD k (0, 0))) (by omega) ?_ ?_
  · rintro k v Hs2 H2 H2' C' hk e2 d0 ⟨rfl, hv⟩ kk
    obtain ⟨dd, hdd, iy⟩ := hbs.get' hv
    obtain ⟨br, ebr, rfl⟩ := map_get hdd
    obtain ⟨pp, v1, v2, rfl, hpp, i1, i2⟩ := (show Is K Hs v (.tuple [qd br.1, .int (br.2 : Int)]) from iy).pair
    cases i2.int'
    have hbm : br ∈ p.bs := List.mem_of_getElem? ebr
    have egt : p.bs.getD k (0, 0) = br := by simp [List.getD, ebr]
    rw [egt] at kk
    obtain ⟨u, eu, iu⟩ := hys.fget (hp.t br hbm)
    refine ⟨pp, _, rfl, sqt_up e2.t (sqt_up e2.s hpp), rfl, v1, _, rfl, _, _, rfl, rfl, rfl, ?_⟩
    refine ⟨v1, rfl, _, rfl, _, rfl, d, ys, _, u, rfl, rfl, SqL.of (e2.t _ _ (e2.s _ _ hd)), atI_nat eu, ?_⟩
    exact ⟨br.1, f br.2, 10, a + b + 1, v1, u, Hs2, rfl, i1.up e2.s, iu.up e2.s, (hp.one_sz hbm).2, hf.szp hD hB (hp.t br hbm), by omega, trivial, e2.t, fun w Hs3 H3 e3 hw => kk w Hs3 H3 e3 hw⟩
  · intro Hs2 H2 ws e d0 d1 hw
    rw [lbs, range_map p.bs (fun b : Rat × Nat => qd (b.1 * f b.2)) (0, 0)] at hw
    have e2 := e.frz hE d0 d1
    refine ⟨p.bs.map fun b => b.1 * f b.2, a + b + 10, .ref E1, upd Hs2 E1 (.lst ws), rfl, .lst upd_same (by rw [List.map_map]; exact hw.up (same_new d0)), by rw [List.length_map]; omega, by omega, fun r hr => ?_, fun i hi => ?_, e2.t, fun v Hs3 H3 e3 hv => q v Hs3 H3 (e2.trans e3) hv⟩
    · obtain ⟨br, hbr, rfl⟩ := List.mem_map.mp hr
      have := hp.part_sz hf hD hB (l := [br]) (List.singleton_sublist.mpr hbr)
      have e : sumq ([br].map fun b => b.1 * f b.2) = br.1 * f br.2 := by show br.1 * f br.2 + 0 = _; grind
      rw [e] at this
      exact this
    · rw [← List.map_take]
      exact hp.part_sz hf hD hB (List.take_sublist _ _)
theorem h30 (vs : List V) (H : Hp) (Q : VK) (E : XK) (h : sp30 K vs H Q E) : t30 K { nx := fun _ H' => Q .non H', rt := Q } (start n30 vs) H := by
  obtain ⟨n, G, g, h, x, a, u, r, z, Hs, rfl, hG, hr, hn, hx, hu, hr2, hz, s1, s2, st, q⟩ := h
  obtain ⟨c, gv, hv, rfl, hc, ig, ih⟩ := hr2.pair
  obtain ⟨bg, gs, rfl, hbg, hgs⟩ := is_vd ig
  obtain ⟨bh, hs, rfl, hbh, hhs⟩ := is_vd ih
  obtain ⟨d, a1, a2, rfl, hd, i1, i2⟩ := (show Is K Hs z (.tuple [qd a.1, qd a.2]) from hz).pair
  obtain ⟨e, xs, rfl, he, hxs⟩ := is_gd hu
  obtain ⟨ux, eux, iux⟩ := hxs.fget (i := x) (by rw [hG.len]; exact hx)
  obtain ⟨cp, gp, bb, bs, rfl, hcp, igp, hbs, ibs⟩ := is_pd iux
  obtain ⟨vg, evg, ivg⟩ := hgs.fget hx
  obtain ⟨vh, evh, ivh⟩ := hhs.fget hx
  have hp := hG.at hx
  refine ⟨_, rfl, c, _, rfl, sqt_up st hc, rfl, _, _, rfl, _, _, rfl, rfl, ?_⟩
  refine ⟨_, rfl, d, _, 0, a1, rfl, rfl, sqt_up st hd, rfl, _, rfl, _, rfl, bg, gs, _, vg, rfl, rfl, SqL.of (st _ _ hbg), atI_nat evg, ?_⟩
  refine ⟨a.1, g x, 340, 321, a1, vg, Hs, rfl, i1, ivg, s1, hr.gs hx, by decide, trivial, st, fun w1 Hs1 H1 e1 hw1 => ?_⟩
  refine ⟨_, rfl, _, rfl, e, xs, _, _, rfl, rfl, SqL.of (e1.t _ _ (e1.s _ _ he)), atI_nat eux, cp, _, 0, gp, rfl, rfl, sqt_up e1.t (sqt_up e1.s hcp), rfl, ?_⟩
  refine ⟨_, rfl, d, _, 1, a2, rfl, rfl, sqt_up e1.t (sqt_up e1.s hd), rfl, ?_⟩
  refine ⟨(pl G x).g, a.2, 28, 940, gp, a2, Hs1, rfl, igp.up e1.s, i2.up e1.s, hp.gs, s2, by decide, trivial, e1.t, fun w2 Hs2 H2 e2 hw2 => ?_⟩
  have e12 := e1.trans e2
  refine ⟨_, rfl, _, rfl, bg, gs, _, vg, rfl, rfl, SqL.of (e12.t _ _ (e12.s _ _ hbg)), atI_nat evg, _, rfl, _, rfl, bh, hs, _, vh, rfl, rfl, SqL.of (e12.t _ _ (e12.s _ _ hbh)), atI_nat evh, ?_⟩
  refine ⟨g x, h x, 321, 921, vg, vh, Hs2, rfl, ivg.up e12.s, ivh.up e12.s, hr.gs hx, hr.hs hx, by decide, trivial, e12.t, fun w3 Hs3 H3 e3 hw3 => ?_⟩
  refine ⟨(pl G x).g + a.2, g x + h x, 969, 1243, w2, w3, Hs3, rfl, hw2.up e3.s, hw3, hp.gs.add s2, (hr.gs hx).add (hr.hs hx), by decide, trivial, e3.t, fun w4 Hs4 H4 e4 hw4 => ?_⟩
  refine ⟨w1, rfl, w4, rfl, by show 2 ≤ sizeLine; decide, fun p hp => ?_⟩
  have e5 := ((e12.trans e3).trans e4).new (o := .tup [w1, w4]) hp
  have s5 := same_new (o := .tup [w1, w4]) (((e12.trans e3).trans e4).t.free hp)
  exact q _ _ _ e5 (.tup (SqT.of upd_same) (.cons ((((hw1.up e2.s).up e3.s).up e4.s).up s5) (.cons (hw4.up s5) .nil)))
theorem h31 (vs : List V) (H : Hp) (Q : VK) (E : XK) (h : sp31 K vs H Q E) : t31 K { nx := fun _ H' => Q .non H', rt := Q } (start n31 vs) H := by
  obtain ⟨n, G, g, h, x, u, r, Hs, rfl, hG, hr, hn, hx, hu, hr2, st, q⟩ := h
  obtain ⟨c, gv, hv, rfl, hc, ig, ih⟩ := hr2.pair
  obtain ⟨bg, gs, rfl, hbg, hgs⟩ := is_vd ig
  obtain ⟨bh, hs, rfl, hbh, hhs⟩ := is_vd ih
  obtain ⟨e, xs, rfl, he, hxs⟩ := is_gd hu
  obtain ⟨ux, eux, iux⟩ := hxs.fget (i := x) (by rw [hG.len]; exact hx)
  obtain ⟨cp, gp, bb, bs, rfl, hcp, igp, hbs, ibs⟩ := is_pd iux
  have hp := hG.at hx
  have lbs : bs.length = (pl G x).bs.length := by rw [ibs.len, List.length_map]
  have hbr := hp.br
  refine ⟨_, rfl, c, _, rfl, sqt_up st hc, rfl, _, _, rfl, _, _, rfl, rfl, ?_⟩
  refine ⟨_, rfl, _, rfl, e, xs, _, _, rfl, rfl, SqL.of (st _ _ he), atI_nat eux, cp, _, 2, _, rfl, rfl, sqt_up st hcp, rfl, ?_⟩
  refine ⟨_, rfl, _, rfl, e, xs, _, _, rfl, rfl, SqL.of (st _ _ he), atI_nat eux, cp, _, 1, _, rfl, rfl, sqt_up st hcp, rfl, rfl, _, rfl, ?_⟩
  have ek : decide (V.str (pl G x).k.s = V.str (PySem.Str.ofString "draw")) = decide ((pl G x).k = .draw) := kd_eq _ .draw
  rw [ek]
  by_cases hk : (pl G x).k = .draw
  · rw [decide_eq_true hk]
    refine iteT ?_
    have hP := hp.dr hk
    rw [hk] at ibs
    obtain ⟨Dg, hDg, hDg2⟩ := hr.g
    obtain ⟨Dh, hDh, hDh2⟩ := hr.h
    refine ⟨_, rfl, _, rfl, _, rfl, _, rfl, _, rfl, ?_⟩
    refine ⟨n, 250, 70, Dg, 2 ^ 70, pl G x, g, _, _, Hs, rfl, hP, hn, .lst hbs ibs, ig, hDg, hDg2, Nat.le_refl _, by decide, st, fun w1 Hs1 H1 e1 hw1 => ?_⟩
    refine ⟨_, rfl, _, rfl, ?_⟩
    refine ⟨n, 720, 200, Dh, 2 ^ 200, pl G x, h, _, _, Hs1, rfl, hP, hn, (Is.lst hbs ibs).up e1.s, ih.up e1.s, hDh, hDh2, Nat.le_refl _, by decide, e1.t, fun w2 Hs2 H2 e2 hw2 => ?_⟩
    refine ⟨by show 2 ≤ sizeLine; decide, fun p hp1 => ?_⟩
    have e3 := (e1.trans e2).new (o := .tup [w1, w2]) hp1
    have s3 := same_new (o := .tup [w1, w2]) ((e1.trans e2).t.free hp1)
    refine ⟨n, G, g, h, x, (mnb (pl G x) g, mnb (pl G x) h), _, _, _, _, rfl, hG, hr, hn, hx, hu.up e3.s, hr2.up e3.s, .tup (SqT.of upd_same) (.cons ((hw1.up e2.s).up s3) (.cons (hw2.up s3) .nil)), mnb_g hP hr, mnb_h hP hr, e3.t, fun w Hs4 H4 e4 hw => q w Hs4 H4 (e3.trans e4) ?_⟩
    rw [if_pos hk]
    exact hw
  · rw [decide_eq_false hk]
    refine iteF ?_
    refine ⟨_, rfl, bb, rfl, ⟨bs, SqL.of (st _ _ hbs)⟩, fun D hD => ?_⟩
    have ebd : (pl G x).bs.map (bd (pl G x).k) = (pl G x).bs.map fun b => PyData.int ((b.2 : Nat) : Int) := List.map_congr_left fun b _ => by
      cases hk2 : (pl G x).k with
      | draw => exact absurd hk2 hk
      | ours => rfl
      | theirs => rfl
    rw [ebd] at ibs
    refine lc_map (K := K) (n := bs.length) (walk_list (xs := bs)) st (fun H' s => SqL.of (s _ _ hbs)) hD (fun k => (fun b : Rat × Nat => ps (slkB G g h x b.2)) ((pl G x).bs.getD k (0, 0))) (by omega) ?_ ?_
    · rintro k v Hs2 H2 H2' C' hk e2 d0 ⟨rfl, hv⟩ kk
      obtain ⟨dd, hdd, iy⟩ := ibs.get' hv
      obtain ⟨br, ebr, rfl⟩ := map_get hdd
      cases iy.int'
      have hbm : br ∈ (pl G x).bs := List.mem_of_getElem? ebr
      have egt : (pl G x).bs.getD k (0, 0) = br := by simp [List.getD, ebr]
      rw [egt] at kk
      have hbn := hp.t br hbm
      obtain ⟨vg, evg, ivg⟩ := hgs.fget hbn
      obtain ⟨vh, evh, ivh⟩ := hhs.fget hbn
      refine ⟨rfl, _, rfl, _, rfl, _, rfl, ?_⟩
      refine ⟨_, rfl, _, rfl, bg, gs, _, vg, rfl, rfl, SqL.of (e2.t _ _ (e2.s _ _ hbg)), atI_nat evg, _, rfl, _, rfl, bh, hs, _, vh, rfl, rfl, SqL.of (e2.t _ _ (e2.s _ _ hbh)), atI_nat evh, by show 2 ≤ sizeLine; decide, fun p hp1 => ?_⟩
      have e3 : Ext0 Hs2 H2' (upd Hs2 p (.tup [vg, vh])) (upd H2' p (.tup [vg, vh])) := (Ext.refl e2.t).new hp1
      refine ⟨n, G, g, h, x, (g br.2, h br.2), _, _, _, _, rfl, hG, hr, hn, hx, (hu.up e2.s).up e3.s, (hr2.up e2.s).up e3.s, .tup (SqT.of upd_same) (.cons ((ivg.up e2.s).up e3.s) (.cons ((ivh.up e2.s).up e3.s) .nil)), (hr.gs hbn).mono (by decide), (hr.hs hbn).mono (by decide), e3.t, fun w Hs4 H4 e4 hw => kk w Hs4 H4 (e3.trans e4) hw⟩
    · intro Hs2 H2 ws e d0 d1 hw
      rw [lbs, range_map (pl G x).bs (fun b : Rat × Nat => ps (slkB G g h x b.2)) (0, 0)] at hw
      refine q _ _ _ (e.frz hD d0 d1) ?_
      rw [if_neg hk]
      exact .lst upd_same (hw.up (same_new d0))
end
end Mh
end
section
set_option Elab.async false
set_option linter.all false
set_option maxRecDepth 100000
set_option maxHeartbeats 4000000
set_option exponentiation.threshold 10000
/-! bounding, lifts: the readings -/
namespace Mh
open PySem PySem.Spec PyProof.Rows L2
open C8 (Cal pe_c)
open Evl (ixN_nat)
theorem bndL_succ (G : List Pl) (g h : Nat → Rat) (s : Kd) (σ : List (Option Nat)) (i : Nat) : bndL G g h s σ (i + 1) = bndL G g h s σ i ++ bnd1 G g h s σ i := by
  unfold bndL; rw [List.range_succ, List.flatMap_append]; simp
theorem bnd1_len {n : Nat} {G : List Pl} (hG : GmOk n G) (g h : Nat → Rat) (s : Kd) (σ : List (Option Nat)) {i : Nat} (hi : i < n) : (bnd1 G g h s σ i).length ≤ 6 := by
  unfold bnd1
  split
  · simp
  · split
    · simp
    · rw [List.length_map]; exact (hG.at hi).br
theorem bndL_len {n : Nat} {G : List Pl} (hG : GmOk n G) (g h : Nat → Rat) (s : Kd) (σ : List (Option Nat)) : ∀ i, i ≤ n → (bndL G g h s σ i).length ≤ 6 * i
  | 0, _ => by simp [bndL]
  | i + 1, hi => by
    rw [bndL_succ, List.length_append]
    have := bndL_len hG g h s σ i (by omega)
    have := bnd1_len hG g h s σ (i := i) (by omega)
    omega
theorem tg_lt {n : Nat} {G : List Pl} (hG : GmOk n G) {x b : Nat} (hx : x < n) (hb : b < (pl G x).bs.length) : tg G x b < n := by
  have := (hG.at hx).t _ (List.getElem_mem hb)
  have e : tg G x b = ((pl G x).bs[b]).2 := by simp [tg, List.getD, hb]
  rw [e]; exact this
theorem bndL_sz {n : Nat} {G : List Pl} {g h : Nat → Rat} {s : Kd} {σ : List (Option Nat)} (hG : GmOk n G) (r : RowsOk n g h) (hS : StOk s G σ) : ∀ p ∈ bndL G g h s σ n, Sz 700 p.1 ∧ Sz 2300 p.2 := fun p hp => by
  obtain ⟨x, hx, hp⟩ := List.mem_flatMap.mp hp
  have hx := List.mem_range.mp hx
  have hbr : ∀ y, y < n → Sz 700 (slkB G g h x y).1 ∧ Sz 2300 (slkB G g h x y).2 := fun y hy => slk_sz hG r hx ((r.gs hy).mono (by decide)) ((r.hs hy).mono (by decide))
  unfold bnd1 at hp
  split at hp
  · rename_i hk
    cases List.mem_singleton.mp hp
    exact slk_sz hG r hx (mnb_g ((hG.at hx).dr hk) r) (mnb_h ((hG.at hx).dr hk) r)
  · split at hp
    · rename_i hk
      cases List.mem_singleton.mp hp
      obtain ⟨b, eb, hb⟩ := hS.at_ x (by rw [hG.len]; exact hx) hk
      rw [ebr' eb]
      exact hbr _ (tg_lt hG hx hb)
    · obtain ⟨b, hb, rfl⟩ := List.mem_map.mp hp
      exact hbr _ ((hG.at hx).t b hb)
theorem cmp_way {a : Rat} {way : Int} (hw : way = 1 ∨ way = -1) : (cmpq a 0 = way) ↔ 0 < (way : Rat) * a := by
  have e1 : ((1 : Int) : Rat) = 1 := rfl
  have e2 : ((-1 : Int) : Rat) = -1 := rfl
  unfold cmpq
  rcases hw with rfl | rfl
  · rw [e1, Rat.one_mul]
    split
    · constructor
      · intro h; exact absurd h (by decide)
      · intro h; grind
    · split
      · exact ⟨fun _ => by assumption, fun _ => rfl⟩
      · constructor
        · intro h; exact absurd h (by decide)
        · intro h; grind
  · rw [e2]
    split
    · exact ⟨fun _ => by grind, fun _ => rfl⟩
    · split
      · constructor
        · intro h; exact absurd h (by decide)
        · intro h; grind
      · constructor
        · intro h; exact absurd h (by decide)
        · intro h; grind
theorem cmp_pos {a b : Rat} : (0 < cmpq a b) ↔ b < a := by
  unfold cmpq
  split
  · constructor
    · intro h; exact absurd h (by decide)
    · intro h; grind
  · split
    · exact ⟨fun _ => by assumption, fun _ => by decide⟩
    · constructor
      · intro h; exact absurd h (by decide)
      · intro h; grind
theorem LiftOk.mono {way : Int} {l : List (Rat × Rat)} {v w : Rat} (h : LiftOk way l v) (e : v ≤ w) : LiftOk way l w := by
  refine ⟨by have := h.1; grind, fun p hp => ?_⟩
  obtain ⟨h1, h2⟩ := h.2 p hp
  refine ⟨h1, ?_⟩
  have h3 : (w - v) * ((way : Rat) * p.1) ≤ 0 := by
    have : 0 ≤ (w - v) * (-((way : Rat) * p.1)) := Rat.mul_nonneg (by grind) (by grind)
    grind
  have e2 : (way : Rat) * (p.2 + w * p.1) = (way : Rat) * (p.2 + v * p.1) + (w - v) * ((way : Rat) * p.1) := by grind
  grind
theorem LiftOk.snoc {way : Int} {l : List (Rat × Rat)} {v : Rat} {p : Rat × Rat} (h : LiftOk way l v) (h1 : (way : Rat) * p.1 ≤ 0) (h2 : (way : Rat) * (p.2 + v * p.1) ≤ 0) : LiftOk way (l ++ [p]) v := by
  refine ⟨h.1, fun q hq => ?_⟩
  rcases List.mem_append.mp hq with z | z
  · exact h.2 q z
  · cases List.mem_singleton.mp z
    exact ⟨h1, h2⟩
section
variable {K : PySem.W.Frag}
theorem h32 (vs : List V) (H : Hp) (Q : VK) (E : XK) (h : sp32 K vs H Q E) : t32 K { nx := fun _ H' => Q .non H', rt := Q } (start n32 vs) H := by
  obtain ⟨n, G, g, h, s, σ, u, r, z, Hs, rfl, hG, hr, hn, hs, hS, hu, hr2, hz, st, q⟩ := h
  obtain ⟨a, xs, rfl, ha, hxs⟩ := is_gd hu
  obtain ⟨b, us, rfl, hb, hus⟩ := hz.list
  have lx : xs.length = n := by rw [hxs.flen, hG.len]
  refine ⟨Nat.zero_le _, fun l hl => ?_⟩
  have e0 : Ext0 Hs H Hs (upd H l (.lst [])) := (Ext.refl st).newM hl
  refine ⟨_, rfl, a, xs, rfl, SqL.of (e0.t _ _ ha), ?_⟩
  refine for_it (walk_enum (xs := xs)) (fun i τ H' => ∃ (Hs' : Hp) (ys : List V) (y5 y6 y7 y8 y9 : Option V), τ = [some (.ref a), some r, some (.str s.s), some (.ref b), some (.ref l), y5, y6, y7, y8, y9] ∧ Ext0 Hs H Hs' H' ∧ Hs' l = none ∧ H' l = some (.lst ys) ∧ IsA K Hs' ys ((bndL G g h s σ i).map ps))
    ⟨Hs, [], _, _, _, _, _, rfl, e0, st.free hl, upd_same, .nil⟩ (fun i τ H' _ ⟨Hs', _, _, _, _, _, _, _, e, _⟩ => SqL.of (e.t _ _ (e.s _ _ ha))) ?_ ?_
  · rintro i x τ H1 H1' hi ⟨Hs1, ys, y5, y6, y7, y8, y9, rfl, e1, l0, l1, iys⟩ ⟨T', x1, x2, rfl, hT, rfl, ex1, ex2⟩
    cases ex1
    obtain ⟨hi2, ix2⟩ := hxs.fget' ex2
    rw [hG.len] at hi2
    obtain ⟨c, gq, bb, bs, rfl, hc, ig, hbs, ibs⟩ := is_pd ix2
    have hTl : l ≠ T' := ne_of_none l1 hT
    have e2 : Ext0 Hs H Hs1 (upd H1 T' (.tup [.int (i : Nat), .ref c])) := e1.newM hT
    have l2 : (upd H1 T' (.tup [.int (i : Nat), .ref c])) l = some (.lst ys) := by rw [upd_ne hTl]; exact l1
    have hc' := sqt_up e2.t (sqt_up e1.s hc)
    have lys : ys.length ≤ 6 * i := by
      have := iys.len
      rw [List.length_map] at this
      have := bndL_len hG g h s σ i (by omega)
      omega
    have hbr := (hG.at hi2).br
    refine ⟨T', _, rfl, SqT.of upd_same, rfl, _, _, rfl, _, _, rfl, c, _, rfl, hc', rfl, _, _, rfl, _, _, rfl, _, _, rfl, rfl, rfl, ?_⟩
    refine ⟨_, rfl, _, rfl, _, rfl, n, G, g, h, i, _, _, Hs1, rfl, hG, hr, hn, hi2, hu.up e1.s, hr2.up e1.s, e2.t, fun w Hs3 H3 e3 hw => ?_⟩
    obtain ⟨f0, f1⟩ := e3.own (fun z => z) l2 l0
    have e4 := e2.trans e3
    have ek : decide (V.str (pl G i).k.s = V.str (PySem.Str.ofString "draw")) = decide ((pl G i).k = .draw) := kd_eq _ .draw
    refine ⟨_, rfl, rfl, _, rfl, ?_⟩
    rw [ek]
    by_cases hk : (pl G i).k = .draw
    · rw [decide_eq_true hk]
      refine iteT ?_
      rw [if_pos hk] at hw
      refine ⟨_, rfl, .inl ⟨rfl, _, .inl (.inl f1)⟩, _, rfl, l, ys, _, rfl, rfl, f1, big_lt (by omega), ?_⟩
      refine ⟨Hs3, _, _, _, _, _, _, rfl, e4.mut (.inl hl) f0, f0, upd_same, ?_⟩
      rw [bndL_succ, List.map_append]
      refine (iys.up e3.s).append ?_
      unfold bnd1
      rw [if_pos hk]
      exact .cons hw .nil
    · rw [decide_eq_false hk]
      refine iteF ?_
      rw [if_neg hk] at hw
      obtain ⟨bt, ts, rfl, hbt, hts⟩ := hw.list
      refine ⟨_, rfl, _, rfl, rfl, _, rfl, ?_⟩
      rw [kd_eq]
      by_cases hk2 : (pl G i).k = s
      · rw [decide_eq_true hk2]
        refine iteT ?_
        obtain ⟨br, ebr, hbr2⟩ := hS.at_ i (by rw [hG.len]; exact hi2) hk2
        obtain ⟨w, ew, iw⟩ := hus.get (show (σ.map od)[i]? = some (od (some br)) by rw [List.getElem?_map, ebr]; rfl)
        cases iw.int'
        obtain ⟨v2, ev2, iv2⟩ := hts.get (show ((pl G i).bs.map fun b => ps (slkB G g h i b.2))[br]? = some (ps (slkB G g h i (tg G i br))) by
          rw [List.getElem?_map, List.getElem?_eq_getElem hbr2]
          have : tg G i br = ((pl G i).bs[br]).2 := by simp [tg, List.getD, hbr2]
          rw [this]; rfl)
        refine ⟨_, rfl, .inl ⟨rfl, _, .inl (.inl f1)⟩, _, rfl, _, rfl, _, rfl, b, us, _, _, rfl, rfl, SqL.of (e4.t _ _ (e4.s _ _ hb)), atI_nat ew, bt, ts, _, v2, rfl, rfl, SqL.of (e3.t _ _ hbt), atI_nat ev2, ?_⟩
        refine ⟨l, ys, _, rfl, rfl, f1, big_lt (by omega), ?_⟩
        refine ⟨Hs3, _, _, _, _, _, _, rfl, e4.mut (.inl hl) f0, f0, upd_same, ?_⟩
        rw [bndL_succ, List.map_append]
        refine (iys.up e3.s).append ?_
        unfold bnd1
        rw [if_neg hk, if_pos hk2, ebr' ebr]
        exact .cons iv2 .nil
      · rw [decide_eq_false hk2]
        refine iteF ?_
        refine ⟨_, rfl, .inl ⟨rfl, _, .inl (.inl f1)⟩, _, rfl, l, bt, ys, ts, rfl, rfl, f1, e3.t _ _ hbt, bl_sl (by have := hts.len; rw [List.length_map] at this; omega), ?_⟩
        refine ⟨Hs3, _, _, _, _, _, _, rfl, e4.mut (.inl hl) f0, f0, upd_same, ?_⟩
        rw [bndL_succ, List.map_append]
        refine (iys.up e3.s).append ?_
        unfold bnd1
        rw [if_neg hk, if_neg hk2, List.map_map]
        exact hts
  · rintro τ H1 ⟨Hs1, ys, y5, y6, y7, y8, y9, rfl, e1, l0, l1, iys⟩
    refine ⟨_, rfl, ?_⟩
    rw [lx] at iys
    exact q _ _ _ (e1.frz hl l0 l1) (.lst upd_same (iys.up (same_new l0)))
theorem h34 (vs : List V) (H : Hp) (Q : VK) (E : XK) (h : sp34 K vs H Q E) (T : Txt K mg) : t34 K { nx := fun _ H' => Q .non H', rt := Q } (start n34 vs) H := by
  obtain ⟨a, b, x, y, Hs, rfl, hx, hy, sa, sb, hb, st, q⟩ := h
  refine ⟨_, rfl, _, rfl, a, b, 2300, 700, x, y, Hs, rfl, hx, hy, sa, sb, by decide, hb, st, fun w Hs1 H1 e1 hw => ?_⟩
  have szq : Sz 3000 (a / b) := by
    have := sa.mul (sb.inv hb)
    have e : a * (1 / b) = a / b := by grind
    rw [e] at this
    exact this
  exact ⟨0, a / b, 1, 3000, _, w, Hs1, rfl, zero_is (T.zero.2 _), hw, Sz.zero (by decide), szq, by decide, trivial, e1.t, fun v Hs2 H2 e2 hv => q v Hs2 H2 (e1.trans e2) hv⟩
theorem szq34 {a b : Rat} (sa : Sz 2300 a) (sb : Sz 700 b) (hb : b ≠ 0) : Sz 3010 (0 - a / b) := by
  have := sa.mul (sb.inv hb)
  have e : a * (1 / b) = a / b := by grind
  rw [e] at this
  exact ((Sz.zero (k := 1) (by decide)).sub this).mono (by decide)
theorem h33 (vs : List V) (H : Hp) (Q : VK) (E : XK) (h : sp33 K vs H Q E) (T : Txt K mg) : t33 K { nx := fun _ H' => Q .non H', rt := Q } (start n33 vs) H := by
  obtain ⟨l, way, x, Hs, rfl, hway, hx, hsz, st, q⟩ := h
  obtain ⟨a, xs, rfl, ha, hxs⟩ := hx.list
  have lxs : xs.length = l.length := by rw [hxs.len, List.length_map]
  refine ⟨_, rfl, a, rfl, ⟨xs, SqL.of (st _ _ ha)⟩, ?_⟩
  refine for_it (walk_list (xs := xs)) (fun i τ H' => ∃ (Hs' : Hp) (v : V) (c : Rat) (y3 y4 y5 : Option V), τ = [some (.ref a), some (.int way), some v, y3, y4, y5] ∧ Ext0 Hs H Hs' H' ∧ Is K Hs' v (qd c) ∧ Sz 3010 c ∧ LiftOk way (l.take i) c)
    ⟨Hs, _, 0, _, _, _, rfl, Ext.refl st, zero_is (T.zero.2 _), Sz.zero (by decide), Rat.le_refl, fun p hp => by rw [List.take_zero] at hp; cases hp⟩ (fun i τ H' _ ⟨Hs', _, _, _, _, _, _, e, _⟩ => SqL.of (e.t _ _ (e.s _ _ ha))) ?_ ?_
  · rintro i x τ H1 H1' hi ⟨Hs1, v, c, y3, y4, y5, rfl, e1, iv, szc, hok⟩ ⟨rfl, hx1⟩
    obtain ⟨dd, hdd, iy⟩ := hxs.get' hx1
    obtain ⟨p, ep, rfl⟩ := map_get hdd
    obtain ⟨pp, v1, v2, rfl, hpp, i1, i2⟩ := (show Is K Hs x (.tuple [qd p.1, qd p.2]) from iy).pair
    have hpm : p ∈ l := List.mem_of_getElem? ep
    obtain ⟨sz1, sz2⟩ := hsz p hpm
    have etk := take_snoc ep
    have j1 := (i1.up e1.s).up e1.t
    have j2 := (i2.up e1.s).up e1.t
    refine ⟨pp, _, rfl, sqt_up e1.t (sqt_up e1.s hpp), rfl, v1, _, rfl, v2, _, rfl, rfl, ?_⟩
    refine ⟨v1, rfl, p.1, 0, 700, 1, v1, _, rfl, j1, zero_is (T.zero.2 _), sz1, Sz.zero (by decide), by decide, ?_⟩
    refine ⟨_, rfl, rfl, _, rfl, ?_⟩
    by_cases c1 : cmpq p.1 0 = way
    · rw [decide_eq_true (by rw [c1])]
      refine iteT ?_
      exact q _ _ _ none e1 .non (fun _ => ⟨p, hpm, .inl ((cmp_way hway).mp c1)⟩) (fun _ z => by cases z)
    · rw [decide_eq_false (fun z => c1 (V.int.inj z))]
      refine iteF ?_
      have h1 : (way : Rat) * p.1 ≤ 0 := by
        have := fun z => c1 ((cmp_way hway).mpr z)
        grind
      refine ⟨v2, rfl, p.2, 0, 2300, 1, v2, _, rfl, j2, zero_is (T.zero.2 _), sz2, Sz.zero (by decide), by decide, ?_⟩
      refine ⟨_, rfl, rfl, _, rfl, ?_⟩
      by_cases c2 : cmpq p.2 0 = way
      · rw [decide_eq_true (by rw [c2])]
        refine iteT ?_
        have h2 := (cmp_way hway).mp c2
        refine ⟨v1, rfl, _, _, j1.dp, (zero_is (T.zero.2 _)).dp, shaped_qd _, shaped_qd _, ?_⟩
        rw [eqv_qd]
        refine ⟨_, rfl, ?_⟩
        by_cases c3 : p.1 = 0
        · rw [decide_eq_true c3]
          refine iteT ?_
          exact q _ _ _ none e1 .non (fun _ => ⟨p, hpm, .inr ⟨h2, c3⟩⟩) (fun _ z => by cases z)
        · rw [decide_eq_false c3]
          refine iteF ?_
          refine ⟨v2, rfl, v1, rfl, p.2, p.1, v2, v1, Hs1, rfl, i2.up e1.s, i1.up e1.s, sz2, sz1, c3, e1.t, fun w Hs2 H2 e2 hw => ?_⟩
          have e3 := e1.trans e2
          have szl := szq34 sz2 sz1 c3
          refine ⟨w, rfl, v, rfl, 0 - p.2 / p.1, c, 3010, 3010, w, v, rfl, hw.up e2.t, (iv.up e2.s).up e2.t, szl, szc, by decide, ?_⟩
          refine ⟨_, _, rfl, rfl, ?_⟩
          refine ⟨_, rfl, ?_⟩
          have hlow : ∀ w : Rat, 0 - p.2 / p.1 ≤ w → (way : Rat) * (p.2 + w * p.1) ≤ 0 := fun w hw => by
            have h3 : 0 ≤ (w - (0 - p.2 / p.1)) * (-((way : Rat) * p.1)) := Rat.mul_nonneg (by grind) (by grind)
            have h4 : p.2 / p.1 * p.1 = p.2 := by grind
            have e : (way : Rat) * (p.2 + w * p.1) = -((w - (0 - p.2 / p.1)) * (-((way : Rat) * p.1))) := by
              generalize p.2 / p.1 = d at h4
              rw [← h4]; grind
            rw [e]
            grind
          by_cases c4 : 0 < cmpq (0 - p.2 / p.1) c
          · rw [decide_eq_true c4]
            refine iteT ?_
            have hlt := cmp_pos.mp c4
            refine ⟨w, rfl, Hs2, w, 0 - p.2 / p.1, _, _, _, rfl, e3, hw, szl, ?_⟩
            rw [etk]
            exact (hok.mono (by grind)).snoc h1 (hlow _ Rat.le_refl)
          · rw [decide_eq_false c4]
            refine iteF ?_
            have hlt := fun z => c4 (cmp_pos.mpr z)
            refine ⟨Hs2, v, c, _, _, _, rfl, e3, iv.up e2.s, szc, ?_⟩
            rw [etk]
            exact hok.snoc h1 (hlow _ (by grind))
      · rw [decide_eq_false (fun z => c2 (V.int.inj z))]
        refine iteF ?_
        refine ⟨Hs1, v, c, _, _, _, rfl, e1, iv, szc, ?_⟩
        rw [etk]
        have h2 : (way : Rat) * p.2 ≤ 0 := by
          have := fun z => c2 ((cmp_way hway).mpr z)
          grind
        refine hok.snoc h1 ?_
        have h3 : 0 ≤ c * (-((way : Rat) * p.1)) := Rat.mul_nonneg hok.1 (by grind)
        grind
  · rintro τ H1 ⟨Hs1, v, c, y3, y4, y5, rfl, e1, iv, szc, hok⟩
    rw [lxs, List.take_of_length_le (Nat.le_refl _)] at hok
    exact ⟨v, rfl, q v Hs1 H1 (some c) e1 iv (fun z => by cases z) (fun _ z => by cases z; exact ⟨hok, szc⟩)⟩
theorem h35 (vs : List V) (H : Hp) (Q : VK) (E : XK) (h : sp35 K vs H Q E) : t35 K { nx := fun _ H' => Q .non H', rt := Q } (start n35 vs) H := by
  obtain ⟨n, G, g, h, σ, τ, u, r, y, z, Hs, rfl, hG, hr, hn, hσ, hτ, hu, hr2, hy, hz, st, q⟩ := h
  refine ⟨_, rfl, _, rfl, _, rfl, n, G, g, h, .ours, σ, _, _, _, Hs, rfl, hG, hr, hn, by decide, hσ, hu, hr2, hy, st, fun w1 Hs1 H1 e1 hw1 => ?_⟩
  refine ⟨_, rfl, bndL G g h .ours σ n, -1, w1, Hs1, rfl, .inr rfl, hw1, bndL_sz hG hr hσ, e1.t, fun w2 Hs2 H2 r1 e2 hw2 hb1 ho1 => ?_⟩
  have e12 := e1.trans e2
  refine ⟨_, rfl, _, rfl, _, rfl, n, G, g, h, .theirs, τ, _, _, _, Hs2, rfl, hG, hr, hn, by decide, hτ, hu.up e12.s, hr2.up e12.s, hz.up e12.s, e12.t, fun w3 Hs3 H3 e3 hw3 => ?_⟩
  refine ⟨bndL G g h .theirs τ n, 1, w3, Hs3, rfl, .inl rfl, hw3, bndL_sz hG hr hτ, e3.t, fun w4 Hs4 H4 r2 e4 hw4 hb2 ho2 => ?_⟩
  have e14 := (e12.trans e3).trans e4
  have hw2' := (hw2.up e3.s).up e4.s
  refine ⟨_, rfl, _, rfl, ?_⟩
  cases r1 with
  | none =>
    cases hw2'.non'
    refine iteT ?_
    exact iteT (q _ _ _ none e14 .non (fun _ => .inl (hb1 rfl)) (fun _ z => by cases z))
  | some c1 =>
    obtain ⟨p2, x2, y2, rfl, _⟩ := (show Is K Hs4 w2 (.tuple [.int c1.num, .int (c1.den : Int)]) from hw2').pair
    refine iteF ?_
    refine ⟨_, rfl, _, rfl, ?_⟩
    cases r2 with
    | none =>
      cases hw4.non'
      exact iteT (q _ _ _ none e14 .non (fun _ => .inr (hb2 rfl)) (fun _ z => by cases z))
    | some c2 =>
      obtain ⟨p4, x4, y4, rfl, _⟩ := (show Is K Hs4 w4 (.tuple [.int c2.num, .int (c2.den : Int)]) from hw4).pair
      refine iteF ?_
      obtain ⟨ok1, sz1⟩ := ho1 c1 rfl
      obtain ⟨ok2, sz2⟩ := ho2 c2 rfl
      refine ⟨_, rfl, _, rfl, c1, c2, 3010, 3010, _, _, rfl, (hw2'.up e4.t), (hw4.up e4.t), sz1, sz2, by decide, ?_⟩
      refine ⟨_, _, rfl, rfl, ?_⟩
      refine ⟨_, rfl, ?_⟩
      by_cases c4 : 0 < cmpq c1 c2
      · rw [decide_eq_true c4]
        refine iteT ?_
        have hlt := cmp_pos.mp c4
        exact ⟨_, rfl, q _ _ _ (some c1) e14 hw2' (fun z => by cases z) (fun _ z => by cases z; exact ⟨ok1, ok2.mono (by grind), sz1⟩)⟩
      · rw [decide_eq_false c4]
        refine iteF ?_
        have hlt := fun z => c4 (cmp_pos.mpr z)
        exact ⟨_, rfl, q _ _ _ (some c2) e14 hw4 (fun z => by cases z) (fun _ z => by cases z; exact ⟨ok1.mono (by grind), ok2, sz2⟩)⟩
theorem h36 (vs : List V) (H : Hp) (Q : VK) (E : XK) (h : sp36 K vs H Q E) : t36 K { nx := fun _ H' => Q .non H', rt := Q } (start n36 vs) H := by
  obtain ⟨n, g, h, c, r, y, z, Hs, rfl, hr, hn, hr2, hy, szc, hz, st, q⟩ := h
  obtain ⟨p, gv, hv, rfl, hp, ig, ih⟩ := hr2.pair
  obtain ⟨bg, gs, rfl, hbg, hgs⟩ := is_vd ig
  obtain ⟨bh, hs, rfl, hbh, hhs⟩ := is_vd ih
  refine ⟨_, rfl, p, _, rfl, sqt_up st hp, rfl, _, _, rfl, _, _, rfl, rfl, ?_⟩
  refine ⟨_, rfl, _, rfl, bg, bh, gs, hs, rfl, SqL.of (st _ _ hbg), SqL.of (st _ _ hbh), fun D hD => ?_⟩
  refine lc_map (K := K) (walk_zip (xs := gs) (ys := hs) (n := n) (by rw [hgs.flen, hhs.flen]; simp)) st (fun H' s => ⟨SqL.of (s _ _ hbg), SqL.of (s _ _ hbh)⟩) hD (fun j => qd (h j + (c * g j + 0))) (by omega) ?_ ?_
  · rintro i v Hs' H1 C' Hn hi e d0 ⟨T', vx, vy, rfl, hT, rfl, ex, ey⟩ k
    obtain ⟨_, ix⟩ := hgs.fget' ex
    obtain ⟨_, iy⟩ := hhs.fget' ey
    have e1 : Ext0 Hs' H1 Hs' (upd H1 T' (.tup [vx, vy])) := (Ext.refl e.t).newM hT
    refine ⟨T', _, rfl, SqT.of upd_same, rfl, vx, [vy], rfl, vy, [], rfl, rfl, rfl, ?_⟩
    refine ⟨vy, rfl, _, rfl, vx, rfl, c, g i, 3010, 321, _, vx, Hs', rfl, hy.up e.s, ix.up e.s, szc, hr.gs hi, by decide, trivial, e1.t, fun w1 Hs2 H2 e2 hw1 => ?_⟩
    refine ⟨_, rfl, c * g i, 0, 3331, 1, w1, _, Hs2, rfl, hw1, (hz.up e.s).up e2.s, szc.mul (hr.gs hi), Sz.zero (by decide), by decide, trivial, e2.t, fun w2 Hs3 H3 e3 hw2 => ?_⟩
    exact ⟨h i, c * g i + 0, 921, 3333, vy, w2, Hs3, rfl, ((iy.up e.s).up e2.s).up e3.s, hw2, hr.hs hi, (szc.mul (hr.gs hi)).add (Sz.zero (k := 1) (by decide)), by decide, trivial, e3.t, fun w3 Hs4 H4 e4 hw3 => k w3 Hs4 H4 ((e1.trans e2).trans (e3.trans e4)) hw3⟩
  · intro Hs2 H2 ws e d0 d1 hw
    exact q _ _ _ (e.frz hD d0 d1) (.lst upd_same (hw.up (same_new d0)))
end
end Mh
end
section
set_option Elab.async false
set_option linter.all false
set_option maxRecDepth 100000
set_option maxHeartbeats 4000000
/-! the search: promises and derivations -/
namespace Mh
open PySem PySem.Spec PyProof.Rows L2
open C8 (Cal pe_c)
/-- a row of whole numbers -/
def zr (w : Nat) (A : Row) : PyData := .list (fl w fun j => .int (A j).num)
def firstS (s : Kd) (G : List Pl) : List (Option Nat) := (List.range G.length).map fun x => if (pl G x).k = s then some 0 else none
/-- which way a side wants it -/
def Kd.way : Kd → Int
  | .ours => 1
  | _ => -1
def told (σ : List (Option Nat)) (x : Nat) : Nat := (σ.getD x none).getD 0
/-- no branch is better for the side than the told one -/
def Best (n : Nat) (s : Kd) (G : List Pl) (σ : List (Option Nat)) (w : Nat → Rat) : Prop := ∀ x, x < n → (pl G x).k = s → ∀ b ∈ (pl G x).bs, (s.way : Rat) * w b.2 ≤ (s.way : Rat) * w (tg G x (told σ x))
/-- changed wherever that is better -/
structure Swt (n : Nat) (s : Kd) (G : List Pl) (σ τ : List (Option Nat)) (w : Nat → Rat) : Prop where
  ok : StOk s G τ
  best : Best n s G τ w
  ch : ∀ x, x < n → (pl G x).k = s → told τ x = told σ x ∨ (s.way : Rat) * w (tg G x (told σ x)) < (s.way : Rat) * w (tg G x (told τ x))
def both (G : List Pl) (σ τ : List (Option Nat)) : List Pl := putIn .theirs τ (putIn .ours σ G)
def OneS (n : Nat) (G : List Pl) : Prop := (∀ x, x < n → (pl G x).k ≠ .ours) ∨ ∀ x, x < n → (pl G x).k ≠ .theirs
/-- what is found -/
structure FA (n : Nat) (G : List Pl) (σ τ : List (Option Nat)) (g h : Nat → Rat) : Prop where
  so : StOk .ours G σ
  st : StOk .theirs G τ
  long : Long n (Pm (both G σ τ)) (gm G) g
  draw : ∀ x, x < n → (pl G x).k = .draw → g x = mnb (pl G x) g ∧ g x + h x = (pl G x).g + mnb (pl G x) h
  low : ∀ x, x < n → (pl G x).k = .theirs → ∀ b ∈ (pl G x).bs, g x ≤ g b.2 ∧ g x + h x ≤ (pl G x).g + h b.2
  uq : ∀ g', Long n (Pm (both G σ τ)) (gm G) g' → ∀ x, x < n → g x = g' x
  upp : ∀ x, x < n → (pl G x).k = .ours → ∀ b ∈ (pl G x).bs, g b.2 ≤ g x ∧ (pl G x).g + h b.2 ≤ g x + h x
section
variable (K : PySem.W.Frag)
def sp39 : Sp := fun vs H Q _ => ∃ (m B : Nat) (A : Nat → Row) (a : Addr) (xs : List V) (Hs : Hp), vs = [.ref a] ∧ m ≤ 4 ∧ Hs a = none ∧ H a = some (.lst xs) ∧ IsA K Hs xs (fl m fun i => zr (m + 1) (A i)) ∧ Dom m 0 A ∧ (∀ i, i < m → ∀ j, j < m + 1 → IsI (A i j) ∧ ab (A i j) ≤ (B : Rat)) ∧ 1 ≤ B ∧ B ≤ 2 ^ 190 ∧ Same Hs H ∧
  ∀ v Hs' H', Ext (fun p => p = a) Hs H Hs' H' → Is K Hs' v (vd m fun k => Nst A m k m) → (∀ k, k < m → Sz 1000 (Nst A m k m)) → Q v H'
def sp41 : Sp := fun vs H Q _ => ∃ (n T : Nat) (C : List Pl) (x : V) (Hs : Hp), vs = [x, .int (T : Int)] ∧ ChOk n C ∧ n ≤ 4 ∧ 2 ≤ T ∧ T ≤ 2 ^ 160 ∧ Is K Hs x (gd C) ∧ Same Hs H ∧
  ∀ v Hs' H' w, Ext0 Hs H Hs' H' → IsW n (Pm C) (gm C) (T : Rat) w → (∀ x, x < n → Sz 1000 (w x)) → Is K Hs' v (vd n w) → Q v H'
def sp42 : Sp := fun vs H Q _ => ∃ (G : List Pl) (s : Kd) (x : V) (Hs : Hp), vs = [x, .str s.s] ∧ G.length ≤ 100 ∧ Is K Hs x (gd G) ∧ Same Hs H ∧ ∀ v Hs' H', Ext0 Hs H Hs' H' → Is K Hs' v (sd (firstS s G)) → Q v H'
def sp43 : Sp := fun vs H Q _ => ∃ (n : Nat) (G : List Pl) (s : Kd) (σ : List (Option Nat)) (w : Nat → Rat) (x y z : V) (Hs : Hp), vs = [x, .str s.s, y, z] ∧ GmOk n G ∧ n ≤ 100 ∧ s ≠ .draw ∧ StOk s G σ ∧ (∀ x, x < n → Sz 1000 (w x)) ∧ Is K Hs x (gd G) ∧ Is K Hs y (sd σ) ∧ Is K Hs z (vd n w) ∧ Same Hs H ∧
  ∀ v Hs' H' τ, Ext0 Hs H Hs' H' → Swt n s G σ τ w → Is K Hs' v (sd τ) → Q v H'
def sp44 : Sp := fun vs H Q _ => ∃ (n T : Nat) (G : List Pl) (σ τ : List (Option Nat)) (x y z : V) (Hs : Hp), vs = [x, y, z, .int (T : Int)] ∧ GmOk n G ∧ n ≤ 4 ∧ 2 ≤ T ∧ T ≤ 2 ^ 160 ∧ StOk .ours G σ ∧ StOk .theirs G τ ∧ Is K Hs x (gd G) ∧ Is K Hs y (sd σ) ∧ Is K Hs z (sd τ) ∧ Same Hs H ∧
  ∀ v Hs' H' τ' w, Ext0 Hs H Hs' H' → StOk .theirs G τ' → IsW n (Pm (both G σ τ')) (gm G) (T : Rat) w → Best n .theirs G τ' w → (∀ x, x < n → Sz 1000 (w x)) → Is K Hs' v (.tuple [sd τ', vd n w]) → Q v H'
def sp45 : Sp := fun vs H Q _ => ∃ (n T : Nat) (G : List Pl) (σ τ : List (Option Nat)) (x y z : V) (Hs : Hp), vs = [x, y, z, .int (T : Int)] ∧ GmOk n G ∧ n ≤ 4 ∧ OneS n G ∧ 2 ≤ T ∧ T ≤ 2 ^ 160 ∧ StOk .ours G σ ∧ StOk .theirs G τ ∧ Is K Hs x (gd G) ∧ Is K Hs y (sd σ) ∧ Is K Hs z (sd τ) ∧ Same Hs H ∧
  ∀ v Hs' H' σ' τ' w, Ext0 Hs H Hs' H' → StOk .ours G σ' → StOk .theirs G τ' → IsW n (Pm (both G σ' τ')) (gm G) (T : Rat) w → Best n .theirs G τ' w → Best n .ours G σ' w → Is K Hs' v (.tuple [sd σ', sd τ']) → Q v H'
def sp46 : Sp := fun vs H Q _ => ∃ (n : Nat) (G : List Pl) (x : V) (Hs : Hp), vs = [x] ∧ GmOk n G ∧ n ≤ 4 ∧ OneS n G ∧ Is K Hs x (gd G) ∧ Same Hs H ∧
  ∀ v Hs' H' σ τ g h, Ext0 Hs H Hs' H' → FA n G σ τ g h → RowsOk n g g → Is K Hs' v (.tuple [vd n g, vd n h, sd σ, sd τ]) → Q v H'
def sp48 : Sp := fun vs H Q _ => ∃ (n : Nat) (G : List Pl) (σ : List (Option Nat)) (x y : V) (Hs : Hp), vs = [x, y] ∧ GmOk n G ∧ n ≤ 4 ∧ StOk .ours G σ ∧ Is K Hs x (gd G) ∧ Is K Hs y (sd σ) ∧ Same Hs H ∧
  ∀ v Hs' H' σ' τ g h, Ext0 Hs H Hs' H' → FA n (putIn .ours σ G) σ' τ g h → RowsOk n g g → Is K Hs' v (.tuple [.tuple [vd n g, vd n h], sd τ]) → Q v H'
def sp49 : Sp := fun vs H Q _ => ∃ (n : Nat) (G : List Pl) (τ : List (Option Nat)) (x y : V) (Hs : Hp), vs = [x, y] ∧ GmOk n G ∧ n ≤ 4 ∧ StOk .theirs G τ ∧ Is K Hs x (gd G) ∧ Is K Hs y (sd τ) ∧ Same Hs H ∧
  ∀ v Hs' H' σ τ' g h, Ext0 Hs H Hs' H' → FA n (putIn .theirs τ G) σ τ' g h → RowsOk n g g → Is K Hs' v (.tuple [.tuple [vd n g, vd n h], sd σ]) → Q v H'
end
/-! solved_finding -/
abbrev n39 : List Str := ["rows", "many", "before", "k", "at", "pivot", "i", "factor", "one", "other", "row"]
theorem sc39 : FnScope n39 ["rows"] (defScope s39) := ⟨rfl, rfl, rfl, by decide +kernel, rfl, by decide +kernel, by decide +kernel⟩
def t39 (K : PySem.W.Frag) : TS :=
    (tSeq (tAsg (tCB (rLenQ K) (tCons (tVar 0) tNil)) (gName 1))
    (tSeq (tAsg (tC (.int 1)) (gName 2))
    (tSeq (tFor (iRng1 (tCons (tVar 1) tNil)) (gName 3)
      (tSeq (tAsg (tOp rAddI (tBM K "list" (rIndex K) (tLc (iRng2 (tCons (tVar 3) (tCons (tVar 1) tNil))) (gName 6) tYes (tOp rNe (tOp (rIxL K) (tOp (rIxL K) (tVar 0) (tVar 6)) (tVar 3)) (tC (.int 0))) [6]) (tCons (tC (.bl true)) tNil)) (tVar 3)) (gName 4))
    (tSeq (tAsg (tTup (tCons (tOp (rIxL K) (tVar 0) (tVar 4)) (tCons (tOp (rIxL K) (tVar 0) (tVar 3)) tNil))) (gTup K 2 (gCons (gSub (tVar 0) (tVar 3) rSetL) (gCons (gSub (tVar 0) (tVar 4) rSetL) gNil))))
    (tSeq (tAsg (tOp (rIxL K) (tOp (rIxL K) (tVar 0) (tVar 3)) (tVar 3)) (gName 5))
    (tSeq (tFor (iRng1 (tCons (tVar 1) tNil)) (gName 6)
      (tIfS (tTest (tOp rNe (tVar 6) (tVar 3))) (tSeq (tAsg (tOp (rIxL K) (tOp (rIxL K) (tVar 0) (tVar 6)) (tVar 3)) (gName 7))
    (tAsg (tLc (iZip K (tCons (tOp (rIxL K) (tVar 0) (tVar 6)) (tCons (tOp (rIxL K) (tVar 0) (tVar 3)) tNil))) (gTup K 2 (gCons (gName 8) (gCons (gName 9) gNil))) tYes (tOp rDivI (tOp rSubI (tOp rMulI (tVar 8) (tVar 5)) (tOp rMulI (tVar 7) (tVar 9))) (tVar 2)) [8, 9]) (gSub (tVar 0) (tVar 6) rSetL))) tNext))
    (tAsg (tVar 5) (gName 2)))))))
    (tRet (tLc (iEnum K (tCons (tVar 0) tNil)) (gTup K 2 (gCons (gName 3) (gCons (gName 10) gNil))) tYes (tCall (sp4 K) [] E0 (tCons (tOp (rIxL K) (tVar 10) (tVar 1)) (tCons (tOp (rIxL K) (tVar 10) (tVar 3)) tNil))) [3, 10])))))
theorem der39 {P : Program} {w : World} {K : PySem.W.Frag} {mg : Str → Option Value} {base : Heap} {f : Addr} {cdv : Value} {A : Around} {outer : List Env} {s : Shared} {H : Hp} {E : XK} {qual : Str} (T : Txt K mg) (hr : Room 1 (A.deeper (envOfC qual (defScope s39) s.heap.objs.size f cdv))) (C4 : Cal P w K mg base 1 "number" (sp4 K) []) :
    PSs (cxOf CX0 P w K mg base n39 qual (defScope s39) f cdv A outer s H E).nox (defBody s39) (t39 K) :=
    (pss_cons (ps_set (i := 1) sc39.nd rfl (.inr rfl) (pe_callB call_len_seq (by rfl) T.b_len bt_len (pa_cons (pv 0) pa_nil)))
    (pss_cons (ps_set (i := 2) sc39.nd rfl (.inr rfl) pe_int)
    (pss_cons (ps_for PassesOwn.never rfl (pi_range1 (by rfl) T.b_range (pa_cons (pv 1) pa_nil)) (pg_name (i := 3) sc39.nd rfl (.inr rfl))
      (pss_cons (ps_set (i := 4) sc39.nd rfl (.inl rfl) (pe_op op_add (pe_bm PySem.F.plainAttrs_list PySem.F.slot_list_index PySem.F.type_list_index mt_index (pe_lc (own := [("i", 6)]) (g := (gName 6)) (tt := tYes) rfl sc39.nd (pi_range2 (by rfl) T.b_range (pa_cons (pv 3) (pa_cons (pv 1) pa_nil))) (blkOk_by (own := [("i", 6)]) (N := n39) (sc := defScope s39) (by decide +kernel)) (fun _ _ _ _ _ => (pg_name (i := 6) sc39.nd rfl (.inl rfl))) (fun _ _ _ _ _ => pts_nil) (fun _ _ _ _ _ => (pe_cmpR op_ne (pe_ix ix_list (pe_ix ix_list (pv 0) (pv 6) (fun _ _ => rfl)) (pv 3) (fun _ _ => rfl)) pe_int (nomark _)))) (pa_cons pe_bl pa_nil)) (pv 3)))
    (pss_cons (ps_asg (pe_tup (pa_cons (pe_ix ix_list (pv 0) (pv 4) (fun _ _ => rfl)) (pa_cons (pe_ix ix_list (pv 0) (pv 3) (fun _ _ => rfl)) pa_nil))) (pg_tup rfl (pgs_cons (pg_sub (pv 0) (pv 3) set_list) (pgs_cons (pg_sub (pv 0) (pv 4) set_list) pgs_nil))))
    (pss_cons (ps_set (i := 5) sc39.nd rfl (.inr rfl) (pe_ix ix_list (pe_ix ix_list (pv 0) (pv 3) (fun _ _ => rfl)) (pv 3) (fun _ _ => rfl)))
    (pss_cons (ps_for PassesOwn.never rfl (pi_range1 (by rfl) T.b_range (pa_cons (pv 1) pa_nil)) (pg_name (i := 6) sc39.nd rfl (.inl rfl))
      (pss_one (ps_if (pt_cmpR op_ne (pv 6) (pv 3) (nomark _)) (pss_cons (ps_set (i := 7) sc39.nd rfl (.inr rfl) (pe_ix ix_list (pe_ix ix_list (pv 0) (pv 6) (fun _ _ => rfl)) (pv 3) (fun _ _ => rfl)))
    (pss_one (ps_asg (pe_lc (own := [("one", 8), ("other", 9)]) (g := (gTup K 2 (gCons (gName 8) (gCons (gName 9) gNil)))) (tt := tYes) rfl sc39.nd (pi_zip (by rfl) T.b_zip (pa_cons (pe_ix ix_list (pv 0) (pv 6) (fun _ _ => rfl)) (pa_cons (pe_ix ix_list (pv 0) (pv 3) (fun _ _ => rfl)) pa_nil))) (blkOk_by (own := [("one", 8), ("other", 9)]) (N := n39) (sc := defScope s39) (by decide +kernel)) (fun _ _ _ _ _ => (pg_tup rfl (pgs_cons (pg_name (i := 8) sc39.nd rfl (.inl rfl)) (pgs_cons (pg_name (i := 9) sc39.nd rfl (.inl rfl)) pgs_nil)))) (fun _ _ _ _ _ => pts_nil) (fun _ _ _ _ _ => (pe_op op_fdivW (pe_op op_sub (pe_op op_mulW (pv 8) (pv 5)) (pe_op op_mulW (pv 7) (pv 9))) (pv 2)))) (pg_sub (pv 0) (pv 6) set_list)))) pss_nil)))
    (pss_one (ps_set (i := 2) sc39.nd rfl (.inr rfl) (pv 5))))))))
    (pss_one (ps_ret (pe_lc (own := [("k", 3), ("row", 10)]) (g := (gTup K 2 (gCons (gName 3) (gCons (gName 10) gNil)))) (tt := tYes) rfl sc39.nd (pi_enum (by rfl) T.b_enumerate (pa_cons (pv 0) pa_nil)) (blkOk_by (own := [("k", 3), ("row", 10)]) (N := n39) (sc := defScope s39) (by decide +kernel)) (fun _ _ _ _ _ => (pg_tup rfl (pgs_cons (pg_name (i := 3) sc39.nd rfl (.inl rfl)) (pgs_cons (pg_name (i := 10) sc39.nd rfl (.inl rfl)) pgs_nil)))) (fun _ _ _ _ _ => pts_nil) (fun _ _ _ _ _ => (pe_c C4 hr (by decide) (by rfl) (pa_cons (pe_ix ix_list (pv 10) (pv 1) (fun _ _ => rfl)) (pa_cons (pe_ix ix_list (pv 10) (pv 3) (fun _ _ => rfl)) pa_nil))))))))))
theorem cal39 {P : Program} {w : World} {K : PySem.W.Frag} {mg : Str → Option Value} {base : Heap} (T : Txt K mg) (C4 : Cal P w K mg base 1 "number" (sp4 K) [])
    (h : ∀ (vs : List V) (H : Hp) (Q : VK) (E : XK), sp39 K vs H Q E → t39 K { nx := fun _ H' => Q .non H', rt := Q } (start n39 vs) H) (len : ∀ vs H Q E, sp39 K vs H Q E → vs.length = 1) : Cal P w K mg base 2 "solved_finding" (sp39 K) [] :=
  Tx.cal T.d39 sc39 len fun cdv A outer f s H vs Q E hr hs => ⟨t39 K, der39 T hr C4, h vs H Q E hs⟩

/-! worths -/
abbrev n41 : List Str := ["chain", "far", "rows", "place", "gain", "kind", "branches", "scale", "chance", "target", "row"]
theorem sc41 : FnScope n41 ["chain", "far"] (defScope s41) := ⟨rfl, rfl, rfl, by decide +kernel, rfl, by decide +kernel, by decide +kernel⟩
def t41 (K : PySem.W.Frag) : TS :=
    (tSeq (tAsg (tLst tNil) (gName 2))
    (tSeq (tFor (iEnum K (tCons (tVar 0) tNil)) (gTup K 2 (gCons (gName 3) (gCons (gTup K 3 (gCons (gName 4) (gCons (gName 5) (gCons (gName 6) gNil)))) gNil)))
      (tSeq (tAsg (tOp (rIxT K) (tVar 4) (tC (.int 1))) (gName 7))
    (tSeq (tFor (iList K (tVar 6)) (gTup K 2 (gCons (gName 8) (gCons (gName 9) gNil)))
      (tAsg (tCB rLcm (tCons (tVar 7) (tCons (tOp (rIxT K) (tVar 8) (tC (.int 1))) tNil))) (gName 7)))
    (tSeq (tAsg (tOp rCat (tOp rRep (tLst (tCons (tC (.int 0)) tNil)) (tCB (rLenQ K) (tCons (tVar 0) tNil))) (tLst (tCons (tOp rMulI (tOp rDivI (tOp rMulI (tVar 1) (tVar 7)) (tOp (rIxT K) (tVar 4) (tC (.int 1)))) (tOp (rIxT K) (tVar 4) (tC (.int 0)))) tNil))) (gName 10))
    (tSeq (tAsg (tOp rMulI (tVar 1) (tVar 7)) (gSub (tVar 10) (tVar 3) rSetL))
    (tSeq (tFor (iList K (tVar 6)) (gTup K 2 (gCons (gName 8) (gCons (gName 9) gNil)))
      (tAugS (tVar 10) (tVar 9) (tOp rMulI (tOp rMulI (tOp rSubI (tVar 1) (tC (.int 1))) (tOp rDivI (tVar 7) (tOp (rIxT K) (tVar 8) (tC (.int 1))))) (tOp (rIxT K) (tVar 8) (tC (.int 0)))) (rIxL K) (ipI fun i j => i - j) rSetL))
    (tDrop (tBM K "list" rAppend (tVar 2) (tCons (tVar 10) tNil)))))))))
    (tRet (tCall (sp39 K) [] E0 (tCons (tVar 2) tNil)))))
theorem der41 {P : Program} {w : World} {K : PySem.W.Frag} {mg : Str → Option Value} {base : Heap} {f : Addr} {cdv : Value} {A : Around} {outer : List Env} {s : Shared} {H : Hp} {E : XK} {qual : Str} (T : Txt K mg) (hr : Room 2 (A.deeper (envOfC qual (defScope s41) s.heap.objs.size f cdv))) (C39 : Cal P w K mg base 2 "solved_finding" (sp39 K) []) :
    PSs (cxOf CX0 P w K mg base n41 qual (defScope s41) f cdv A outer s H E).nox (defBody s41) (t41 K) :=
    (pss_cons (ps_set (i := 2) sc41.nd rfl (.inl rfl) (pe_lst pa_nil))
    (pss_cons (ps_for PassesOwn.never rfl (pi_enum (by rfl) T.b_enumerate (pa_cons (pv 0) pa_nil)) (pg_tup rfl (pgs_cons (pg_name (i := 3) sc41.nd rfl (.inl rfl)) (pgs_cons (pg_tup rfl (pgs_cons (pg_name (i := 4) sc41.nd rfl (.inl rfl)) (pgs_cons (pg_name (i := 5) sc41.nd rfl (.inl rfl)) (pgs_cons (pg_name (i := 6) sc41.nd rfl (.inl rfl)) pgs_nil)))) pgs_nil)))
      (pss_cons (ps_set (i := 7) sc41.nd rfl (.inl rfl) (pe_ix ix_tup (pv 4) pe_int (fun _ _ => rfl)))
    (pss_cons (ps_for PassesOwn.never rfl (pi_list (pv 6)) (pg_tup rfl (pgs_cons (pg_name (i := 8) sc41.nd rfl (.inl rfl)) (pgs_cons (pg_name (i := 9) sc41.nd rfl (.inl rfl)) pgs_nil)))
      (pss_one (ps_set (i := 7) sc41.nd rfl (.inl rfl) (pe_callBfun cr_lcm (by rfl) T.lcm (pa_cons (pv 7) (pa_cons (pe_ix ix_tup (pv 8) pe_int (fun _ _ => rfl)) pa_nil))))))
    (pss_cons (ps_set (i := 10) sc41.nd rfl (.inl rfl) (pe_op op_cat (pe_op op_rep (pe_lst (pa_cons pe_int pa_nil)) (pe_callB call_len_seq (by rfl) T.b_len bt_len (pa_cons (pv 0) pa_nil))) (pe_lst (pa_cons (pe_op op_mulW (pe_op op_fdivW (pe_op op_mulW (pv 1) (pv 7)) (pe_ix ix_tup (pv 4) pe_int (fun _ _ => rfl))) (pe_ix ix_tup (pv 4) pe_int (fun _ _ => rfl))) pa_nil))))
    (pss_cons (ps_asg (pe_op op_mulW (pv 1) (pv 7)) (pg_sub (pv 10) (pv 3) set_list))
    (pss_cons (ps_for PassesOwn.never rfl (pi_list (pv 6)) (pg_tup rfl (pgs_cons (pg_name (i := 8) sc41.nd rfl (.inl rfl)) (pgs_cons (pg_name (i := 9) sc41.nd rfl (.inl rfl)) pgs_nil)))
      (pss_one (ps_augS (pv 10) (pv 9) pg_list (pe_op op_mulW (pe_op op_mulW (pe_op op_sub (pv 1) pe_int) (pe_op op_fdivW (pv 7) (pe_ix ix_tup (pv 8) pe_int (fun _ _ => rfl)))) (pe_ix ix_tup (pv 8) pe_int (fun _ _ => rfl))) ip_sub set_list)))
    (pss_one (ps_expr (pe_bm PySem.F.plainAttrs_list PySem.F.slot_list_append PySem.F.type_list_append mt_append (pv 2) (pa_cons (pv 10) pa_nil))))))))))
    (pss_one (ps_ret (pe_c C39 hr (by decide) (by rfl) (pa_cons (pv 2) pa_nil))))))
theorem cal41 {P : Program} {w : World} {K : PySem.W.Frag} {mg : Str → Option Value} {base : Heap} (T : Txt K mg) (C39 : Cal P w K mg base 2 "solved_finding" (sp39 K) [])
    (h : ∀ (vs : List V) (H : Hp) (Q : VK) (E : XK), sp41 K vs H Q E → t41 K { nx := fun _ H' => Q .non H', rt := Q } (start n41 vs) H) (len : ∀ vs H Q E, sp41 K vs H Q E → vs.length = 2) : Cal P w K mg base 3 "worths" (sp41 K) [] :=
  Tx.cal T.d41 sc41 len fun cdv A outer f s H vs Q E hr hs => ⟨t41 K, der41 T hr C39, h vs H Q E hs⟩

/-! first_strategy -/
abbrev n42 : List Str := ["game", "side", "place"]
theorem sc42 : FnScope n42 ["game", "side"] (defScope s42) := ⟨rfl, rfl, rfl, by decide +kernel, rfl, by decide +kernel, by decide +kernel⟩
def t42 (K : PySem.W.Frag) : TS :=
    (tRet (tLc (iList K (tVar 0)) (gName 2) tYes (tIf (tTest (tOp rEq (tOp (rIxT K) (tVar 2) (tC (.int 1))) (tVar 1))) (tC (.int 0)) (tC .non)) [2]))
theorem der42 {P : Program} {w : World} {K : PySem.W.Frag} {mg : Str → Option Value} {base : Heap} {f : Addr} {cdv : Value} {A : Around} {outer : List Env} {s : Shared} {H : Hp} {E : XK} {qual : Str} (T : Txt K mg) (hr : Room 0 (A.deeper (envOfC qual (defScope s42) s.heap.objs.size f cdv))) :
    PSs (cxOf CX0 P w K mg base n42 qual (defScope s42) f cdv A outer s H E).nox (defBody s42) (t42 K) :=
    (pss_one (ps_ret (pe_lc (own := [("place", 2)]) (g := (gName 2)) (tt := tYes) rfl sc42.nd (pi_list (pv 0)) (blkOk_by (own := [("place", 2)]) (N := n42) (sc := defScope s42) (by decide +kernel)) (fun _ _ _ _ _ => (pg_name (i := 2) sc42.nd rfl (.inl rfl))) (fun _ _ _ _ _ => pts_nil) (fun _ _ _ _ _ => (pe_ifExp (pt_cmpR op_eq (pe_ix ix_tup (pv 2) pe_int (fun _ _ => rfl)) (pv 1) (nomark _)) pe_int pe_non)))))
theorem cal42 {P : Program} {w : World} {K : PySem.W.Frag} {mg : Str → Option Value} {base : Heap} (T : Txt K mg)
    (h : ∀ (vs : List V) (H : Hp) (Q : VK) (E : XK), sp42 K vs H Q E → t42 K { nx := fun _ H' => Q .non H', rt := Q } (start n42 vs) H) (len : ∀ vs H Q E, sp42 K vs H Q E → vs.length = 2) : Cal P w K mg base 1 "first_strategy" (sp42 K) [] :=
  Tx.cal T.d42 sc42 len fun cdv A outer f s H vs Q E hr hs => ⟨t42 K, der42 T hr, h vs H Q E hs⟩

/-! switched -/
abbrev n43 : List Str := ["game", "side", "strategy", "numbers", "way", "found", "place", "gain", "kind", "branches", "branch", "target"]
theorem sc43 : FnScope n43 ["game", "side", "strategy", "numbers"] (defScope s43) := ⟨rfl, rfl, rfl, by decide +kernel, rfl, by decide +kernel, by decide +kernel⟩
def t43 (K : PySem.W.Frag) : TS :=
    (tSeq (tAsg (tIf (tTest (tOp rEq (tVar 1) (tC (.str "ours")))) (tC (.int 1)) (tUn rNegI (tC (.int 1)))) (gName 4))
    (tSeq (tAsg (tCB (rListQ K) (tCons (tVar 2) tNil)) (gName 5))
    (tSeq (tFor (iEnum K (tCons (tVar 0) tNil)) (gTup K 2 (gCons (gName 6) (gCons (gTup K 3 (gCons (gName 7) (gCons (gName 8) (gCons (gName 9) gNil)))) gNil)))
      (tIfS (tTest (tOp rEq (tVar 8) (tVar 1))) (tFor (iEnum K (tCons (tVar 9) tNil)) (gTup K 2 (gCons (gName 10) (gCons (gName 11) gNil)))
      (tIfS (tTest (tOp rEq (tCall (sp5 K) [] E0 (tCons (tOp (rIxL K) (tVar 3) (tVar 11)) (tCons (tOp (rIxL K) (tVar 3) (tOp (rIxL K) (tVar 9) (tOp (rIxL K) (tVar 5) (tVar 6)))) tNil))) (tVar 4))) (tAsg (tVar 10) (gSub (tVar 5) (tVar 6) rSetL)) tNext)) tNext))
    (tRet (tVar 5)))))
theorem der43 {P : Program} {w : World} {K : PySem.W.Frag} {mg : Str → Option Value} {base : Heap} {f : Addr} {cdv : Value} {A : Around} {outer : List Env} {s : Shared} {H : Hp} {E : XK} {qual : Str} (T : Txt K mg) (hr : Room 1 (A.deeper (envOfC qual (defScope s43) s.heap.objs.size f cdv))) (C5 : Cal P w K mg base 1 "compare" (sp5 K) []) :
    PSs (cxOf CX0 P w K mg base n43 qual (defScope s43) f cdv A outer s H E).nox (defBody s43) (t43 K) :=
    (pss_cons (ps_set (i := 4) sc43.nd rfl (.inl rfl) (pe_ifExp (pt_cmpR op_eq (pv 1) pe_str (nomark _)) pe_int (pe_un un_neg pe_int)))
    (pss_cons (ps_set (i := 5) sc43.nd rfl (.inl rfl) (pe_callTy call_list_of (by rfl) T.b_list bt_list (pa_cons (pv 2) pa_nil)))
    (pss_cons (ps_for PassesOwn.never rfl (pi_enum (by rfl) T.b_enumerate (pa_cons (pv 0) pa_nil)) (pg_tup rfl (pgs_cons (pg_name (i := 6) sc43.nd rfl (.inl rfl)) (pgs_cons (pg_tup rfl (pgs_cons (pg_name (i := 7) sc43.nd rfl (.inl rfl)) (pgs_cons (pg_name (i := 8) sc43.nd rfl (.inl rfl)) (pgs_cons (pg_name (i := 9) sc43.nd rfl (.inl rfl)) pgs_nil)))) pgs_nil)))
      (pss_one (ps_if (pt_cmpR op_eq (pv 8) (pv 1) (nomark _)) (pss_one (ps_for PassesOwn.never rfl (pi_enum (by rfl) T.b_enumerate (pa_cons (pv 9) pa_nil)) (pg_tup rfl (pgs_cons (pg_name (i := 10) sc43.nd rfl (.inl rfl)) (pgs_cons (pg_name (i := 11) sc43.nd rfl (.inl rfl)) pgs_nil)))
      (pss_one (ps_if (pt_cmpR op_eq (pe_c C5 hr (by decide) (by rfl) (pa_cons (pe_ix ix_list (pv 3) (pv 11) (fun _ _ => rfl)) (pa_cons (pe_ix ix_list (pv 3) (pe_ix ix_list (pv 9) (pe_ix ix_list (pv 5) (pv 6) (fun _ _ => rfl)) (fun _ _ => rfl)) (fun _ _ => rfl)) pa_nil))) (pv 4) (nomark _)) (pss_one (ps_asg (pv 10) (pg_sub (pv 5) (pv 6) set_list))) pss_nil)))) pss_nil)))
    (pss_one (ps_ret (pv 5))))))
theorem cal43 {P : Program} {w : World} {K : PySem.W.Frag} {mg : Str → Option Value} {base : Heap} (T : Txt K mg) (C5 : Cal P w K mg base 1 "compare" (sp5 K) [])
    (h : ∀ (vs : List V) (H : Hp) (Q : VK) (E : XK), sp43 K vs H Q E → t43 K { nx := fun _ H' => Q .non H', rt := Q } (start n43 vs) H) (len : ∀ vs H Q E, sp43 K vs H Q E → vs.length = 4) : Cal P w K mg base 2 "switched" (sp43 K) [] :=
  Tx.cal T.d43 sc43 len fun cdv A outer f s H vs Q E hr hs => ⟨t43 K, der43 T hr C5, h vs H Q E hs⟩

/-! replied -/
abbrev n44 : List Str := ["game", "ours", "theirs", "far", "left", "numbers", "later"]
theorem sc44 : FnScope n44 ["game", "ours", "theirs", "far"] (defScope s44) := ⟨rfl, rfl, rfl, by decide +kernel, rfl, by decide +kernel, by decide +kernel⟩
def t44 (K : PySem.W.Frag) : TS :=
    (tSeq (tAsg (tCall (sp14 K) [] E0 (tCons (tVar 0) (tCons (tC (.str "ours")) (tCons (tVar 1) tNil)))) (gName 4))
    (tWhile (tB (tC (.bl true))) (tSeq (tAsg (tCall (sp41 K) [] E0 (tCons (tCall (sp14 K) [] E0 (tCons (tVar 4) (tCons (tC (.str "theirs")) (tCons (tVar 2) tNil)))) (tCons (tVar 3) tNil))) (gName 5))
    (tSeq (tAsg (tCall (sp43 K) [] E0 (tCons (tVar 0) (tCons (tC (.str "theirs")) (tCons (tVar 2) (tCons (tVar 5) tNil))))) (gName 6))
    (tSeq (tIfS (tTest (tOp (rEqD K) (tVar 6) (tVar 2))) (tRet (tTup (tCons (tVar 2) (tCons (tVar 5) tNil)))) tNext)
    (tAsg (tVar 6) (gName 2)))))))
theorem der44 {P : Program} {w : World} {K : PySem.W.Frag} {mg : Str → Option Value} {base : Heap} {f : Addr} {cdv : Value} {A : Around} {outer : List Env} {s : Shared} {H : Hp} {E : XK} {qual : Str} (T : Txt K mg) (hr : Room 3 (A.deeper (envOfC qual (defScope s44) s.heap.objs.size f cdv))) (C14 : Cal P w K mg base 2 "with_strategy" (sp14 K) []) (C41 : Cal P w K mg base 3 "worths" (sp41 K) []) (C43 : Cal P w K mg base 2 "switched" (sp43 K) []) :
    PSs (cxOf CX0 P w K mg base n44 qual (defScope s44) f cdv A outer s H E).nox (defBody s44) (t44 K) :=
    (pss_cons (ps_set (i := 4) sc44.nd rfl (.inl rfl) (pe_c C14 hr (by decide) (by rfl) (pa_cons (pv 0) (pa_cons pe_str (pa_cons (pv 1) pa_nil)))))
    (pss_one (ps_while PassesOwn.never (pt_val pe_bl) (pss_cons (ps_set (i := 5) sc44.nd rfl (.inl rfl) (pe_c C41 hr (by decide) (by rfl) (pa_cons (pe_c C14 hr (by decide) (by rfl) (pa_cons (pv 4) (pa_cons pe_str (pa_cons (pv 2) pa_nil)))) (pa_cons (pv 3) pa_nil))))
    (pss_cons (ps_set (i := 6) sc44.nd rfl (.inl rfl) (pe_c C43 hr (by decide) (by rfl) (pa_cons (pv 0) (pa_cons pe_str (pa_cons (pv 2) (pa_cons (pv 5) pa_nil))))))
    (pss_cons (ps_if (pt_cmpR (op_eqD hr.units) (pv 6) (pv 2) (nomark _)) (pss_one (ps_ret (pe_tup (pa_cons (pv 2) (pa_cons (pv 5) pa_nil))))) pss_nil)
    (pss_one (ps_set (i := 2) sc44.nd rfl (.inl rfl) (pv 6)))))))))
theorem cal44 {P : Program} {w : World} {K : PySem.W.Frag} {mg : Str → Option Value} {base : Heap} (T : Txt K mg) (C14 : Cal P w K mg base 2 "with_strategy" (sp14 K) []) (C41 : Cal P w K mg base 3 "worths" (sp41 K) []) (C43 : Cal P w K mg base 2 "switched" (sp43 K) [])
    (h : ∀ (vs : List V) (H : Hp) (Q : VK) (E : XK), sp44 K vs H Q E → t44 K { nx := fun _ H' => Q .non H', rt := Q } (start n44 vs) H) (len : ∀ vs H Q E, sp44 K vs H Q E → vs.length = 4) : Cal P w K mg base 4 "replied" (sp44 K) [] :=
  Tx.cal T.d44 sc44 len fun cdv A outer f s H vs Q E hr hs => ⟨t44 K, der44 T hr C14 C41 C43, h vs H Q E hs⟩

/-! best_pair -/
abbrev n45 : List Str := ["game", "ours", "theirs", "far", "numbers", "later"]
theorem sc45 : FnScope n45 ["game", "ours", "theirs", "far"] (defScope s45) := ⟨rfl, rfl, rfl, by decide +kernel, rfl, by decide +kernel, by decide +kernel⟩
def t45 (K : PySem.W.Frag) : TS :=
    (tWhile (tB (tC (.bl true))) (tSeq (tAsg (tCall (sp44 K) [] E0 (tCons (tVar 0) (tCons (tVar 1) (tCons (tVar 2) (tCons (tVar 3) tNil))))) (gTup K 2 (gCons (gName 2) (gCons (gName 4) gNil))))
    (tSeq (tAsg (tCall (sp43 K) [] E0 (tCons (tVar 0) (tCons (tC (.str "ours")) (tCons (tVar 1) (tCons (tVar 4) tNil))))) (gName 5))
    (tSeq (tIfS (tTest (tOp (rEqD K) (tVar 5) (tVar 1))) (tRet (tTup (tCons (tVar 1) (tCons (tVar 2) tNil)))) tNext)
    (tAsg (tVar 5) (gName 1))))))
theorem der45 {P : Program} {w : World} {K : PySem.W.Frag} {mg : Str → Option Value} {base : Heap} {f : Addr} {cdv : Value} {A : Around} {outer : List Env} {s : Shared} {H : Hp} {E : XK} {qual : Str} (T : Txt K mg) (hr : Room 4 (A.deeper (envOfC qual (defScope s45) s.heap.objs.size f cdv))) (C43 : Cal P w K mg base 2 "switched" (sp43 K) []) (C44 : Cal P w K mg base 4 "replied" (sp44 K) []) :
    PSs (cxOf CX0 P w K mg base n45 qual (defScope s45) f cdv A outer s H E).nox (defBody s45) (t45 K) :=
    (pss_one (ps_while PassesOwn.never (pt_val pe_bl) (pss_cons (ps_asg (pe_c C44 hr (by decide) (by rfl) (pa_cons (pv 0) (pa_cons (pv 1) (pa_cons (pv 2) (pa_cons (pv 3) pa_nil))))) (pg_tup rfl (pgs_cons (pg_name (i := 2) sc45.nd rfl (.inl rfl)) (pgs_cons (pg_name (i := 4) sc45.nd rfl (.inl rfl)) pgs_nil))))
    (pss_cons (ps_set (i := 5) sc45.nd rfl (.inl rfl) (pe_c C43 hr (by decide) (by rfl) (pa_cons (pv 0) (pa_cons pe_str (pa_cons (pv 1) (pa_cons (pv 4) pa_nil))))))
    (pss_cons (ps_if (pt_cmpR (op_eqD hr.units) (pv 5) (pv 1) (nomark _)) (pss_one (ps_ret (pe_tup (pa_cons (pv 1) (pa_cons (pv 2) pa_nil))))) pss_nil)
    (pss_one (ps_set (i := 1) sc45.nd rfl (.inl rfl) (pv 5))))))))
theorem cal45 {P : Program} {w : World} {K : PySem.W.Frag} {mg : Str → Option Value} {base : Heap} (T : Txt K mg) (C43 : Cal P w K mg base 2 "switched" (sp43 K) []) (C44 : Cal P w K mg base 4 "replied" (sp44 K) [])
    (h : ∀ (vs : List V) (H : Hp) (Q : VK) (E : XK), sp45 K vs H Q E → t45 K { nx := fun _ H' => Q .non H', rt := Q } (start n45 vs) H) (len : ∀ vs H Q E, sp45 K vs H Q E → vs.length = 4) : Cal P w K mg base 5 "best_pair" (sp45 K) [] :=
  Tx.cal T.d45 sc45 len fun cdv A outer f s H vs Q E hr hs => ⟨t45 K, der45 T hr C43 C44, h vs H Q E hs⟩

/-! found_answer -/
abbrev n46 : List Str := ["game", "ours", "theirs", "far", "chain", "rows", "by"]
theorem sc46 : FnScope n46 ["game"] (defScope s46) := ⟨rfl, rfl, rfl, by decide +kernel, rfl, by decide +kernel, by decide +kernel⟩
def t46 (K : PySem.W.Frag) : TS :=
    (tSeq (tPar 1 2 (tCons (tCall (sp42 K) [] E0 (tCons (tVar 0) (tCons (tC (.str "ours")) tNil))) (tCons (tCall (sp42 K) [] E0 (tCons (tVar 0) (tCons (tC (.str "theirs")) tNil))) tNil)))
    (tSeq (tAsg (tC (.int 1000)) (gName 3))
    (tWhile (tB (tC (.bl true))) (tSeq (tAsg (tCall (sp45 K) [] E0 (tCons (tVar 0) (tCons (tVar 1) (tCons (tVar 2) (tCons (tVar 3) tNil))))) (gTup K 2 (gCons (gName 1) (gCons (gName 2) gNil))))
    (tSeq (tAsg (tCall (sp14 K) [] E0 (tCons (tCall (sp14 K) [] E0 (tCons (tVar 0) (tCons (tC (.str "ours")) (tCons (tVar 1) tNil)))) (tCons (tC (.str "theirs")) (tCons (tVar 2) tNil)))) (gName 4))
    (tSeq (tAsg (tTup (tCons (tCall (sp26 K) [] E0 (tCons (tVar 4) tNil)) (tCons (tCall (sp27 K) [] E0 (tCons (tVar 4) tNil)) tNil))) (gName 5))
    (tSeq (tAsg (tCall (sp35 K) [] E0 (tCons (tVar 0) (tCons (tVar 5) (tCons (tVar 1) (tCons (tVar 2) tNil))))) (gName 6))
    (tSeq (tIfS (tB (tNotN (tVar 6))) (tRet (tTup (tCons (tOp (rIxT K) (tVar 5) (tC (.int 0))) (tCons (tCall (sp36 K) [] E0 (tCons (tVar 5) (tCons (tVar 6) (tCons (tC (.ref (He.ga K "NOUGHT_finding"))) tNil)))) (tCons (tVar 1) (tCons (tVar 2) tNil)))))) tNext)
    (tAsg (tOp rMulI (tVar 3) (tVar 3)) (gName 3))))))))))
theorem der46 {P : Program} {w : World} {K : PySem.W.Frag} {mg : Str → Option Value} {base : Heap} {f : Addr} {cdv : Value} {A : Around} {outer : List Env} {s : Shared} {H : Hp} {E : XK} {qual : Str} (T : Txt K mg) (hr : Room 8 (A.deeper (envOfC qual (defScope s46) s.heap.objs.size f cdv))) (C14 : Cal P w K mg base 2 "with_strategy" (sp14 K) []) (C26 : Cal P w K mg base 7 "long_gains" (sp26 K) []) (C27 : Cal P w K mg base 8 "leads" (sp27 K) []) (C35 : Cal P w K mg base 7 "lift_of" (sp35 K) []) (C36 : Cal P w K mg base 3 "lifted_leads" (sp36 K) []) (C42 : Cal P w K mg base 1 "first_strategy" (sp42 K) []) (C45 : Cal P w K mg base 5 "best_pair" (sp45 K) []) :
    PSs (cxOf CX0 P w K mg base n46 qual (defScope s46) f cdv A outer s H E).nox (defBody s46) (t46 K) :=
    (pss_cons (ps_par (i := 1) (j := 2) rfl sc46.nd rfl rfl (by decide) rfl rfl (pa_cons (pe_c C42 hr (by decide) (by rfl) (pa_cons (pv 0) (pa_cons pe_str pa_nil))) (pa_cons (pe_c C42 hr (by decide) (by rfl) (pa_cons (pv 0) (pa_cons pe_str pa_nil))) pa_nil)) (by rfl))
    (pss_cons (ps_set (i := 3) sc46.nd rfl (.inl rfl) pe_int)
    (pss_one (ps_while PassesOwn.never (pt_val pe_bl) (pss_cons (ps_asg (pe_c C45 hr (by decide) (by rfl) (pa_cons (pv 0) (pa_cons (pv 1) (pa_cons (pv 2) (pa_cons (pv 3) pa_nil))))) (pg_tup rfl (pgs_cons (pg_name (i := 1) sc46.nd rfl (.inl rfl)) (pgs_cons (pg_name (i := 2) sc46.nd rfl (.inl rfl)) pgs_nil))))
    (pss_cons (ps_set (i := 4) sc46.nd rfl (.inl rfl) (pe_c C14 hr (by decide) (by rfl) (pa_cons (pe_c C14 hr (by decide) (by rfl) (pa_cons (pv 0) (pa_cons pe_str (pa_cons (pv 1) pa_nil)))) (pa_cons pe_str (pa_cons (pv 2) pa_nil)))))
    (pss_cons (ps_set (i := 5) sc46.nd rfl (.inl rfl) (pe_tup (pa_cons (pe_c C26 hr (by decide) (by rfl) (pa_cons (pv 4) pa_nil)) (pa_cons (pe_c C27 hr (by decide) (by rfl) (pa_cons (pv 4) pa_nil)) pa_nil))))
    (pss_cons (ps_set (i := 6) sc46.nd rfl (.inl rfl) (pe_c C35 hr (by decide) (by rfl) (pa_cons (pv 0) (pa_cons (pv 5) (pa_cons (pv 1) (pa_cons (pv 2) pa_nil))))))
    (pss_cons (ps_if (pt_cmp (pc_notN (pv 6))) (pss_one (ps_ret (pe_tup (pa_cons (pe_ix ix_tup (pv 5) pe_int (fun _ _ => rfl)) (pa_cons (pe_c C36 hr (by decide) (by rfl) (pa_cons (pv 5) (pa_cons (pv 6) (pa_cons (pe_glob (by rfl) T.zerF.1 rfl) pa_nil)))) (pa_cons (pv 1) (pa_cons (pv 2) pa_nil))))))) pss_nil)
    (pss_one (ps_set (i := 3) sc46.nd rfl (.inl rfl) (pe_op op_mulW (pv 3) (pv 3)))))))))))))
theorem cal46 {P : Program} {w : World} {K : PySem.W.Frag} {mg : Str → Option Value} {base : Heap} (T : Txt K mg) (C14 : Cal P w K mg base 2 "with_strategy" (sp14 K) []) (C26 : Cal P w K mg base 7 "long_gains" (sp26 K) []) (C27 : Cal P w K mg base 8 "leads" (sp27 K) []) (C35 : Cal P w K mg base 7 "lift_of" (sp35 K) []) (C36 : Cal P w K mg base 3 "lifted_leads" (sp36 K) []) (C42 : Cal P w K mg base 1 "first_strategy" (sp42 K) []) (C45 : Cal P w K mg base 5 "best_pair" (sp45 K) [])
    (h : ∀ (vs : List V) (H : Hp) (Q : VK) (E : XK), sp46 K vs H Q E → t46 K { nx := fun _ H' => Q .non H', rt := Q } (start n46 vs) H) (len : ∀ vs H Q E, sp46 K vs H Q E → vs.length = 1) : Cal P w K mg base 9 "found_answer" (sp46 K) [] :=
  Tx.cal T.d46 sc46 len fun cdv A outer f s H vs Q E hr hs => ⟨t46 K, der46 T hr C14 C26 C27 C35 C36 C42 C45, h vs H Q E hs⟩

/-! least_against -/
abbrev n48 : List Str := ["game", "ours", "gains", "leads", "nobody", "theirs"]
theorem sc48 : FnScope n48 ["game", "ours"] (defScope s48) := ⟨rfl, rfl, rfl, by decide +kernel, rfl, by decide +kernel, by decide +kernel⟩
def t48 (K : PySem.W.Frag) : TS :=
    (tSeq (tAsg (tCall (sp46 K) [] E0 (tCons (tCall (sp14 K) [] E0 (tCons (tVar 0) (tCons (tC (.str "ours")) (tCons (tVar 1) tNil)))) tNil)) (gTup K 4 (gCons (gName 2) (gCons (gName 3) (gCons (gName 4) (gCons (gName 5) gNil))))))
    (tRet (tTup (tCons (tTup (tCons (tVar 2) (tCons (tVar 3) tNil))) (tCons (tVar 5) tNil)))))
theorem der48 {P : Program} {w : World} {K : PySem.W.Frag} {mg : Str → Option Value} {base : Heap} {f : Addr} {cdv : Value} {A : Around} {outer : List Env} {s : Shared} {H : Hp} {E : XK} {qual : Str} (T : Txt K mg) (hr : Room 9 (A.deeper (envOfC qual (defScope s48) s.heap.objs.size f cdv))) (C14 : Cal P w K mg base 2 "with_strategy" (sp14 K) []) (C46 : Cal P w K mg base 9 "found_answer" (sp46 K) []) :
    PSs (cxOf CX0 P w K mg base n48 qual (defScope s48) f cdv A outer s H E).nox (defBody s48) (t48 K) :=
    (pss_cons (ps_asg (pe_c C46 hr (by decide) (by rfl) (pa_cons (pe_c C14 hr (by decide) (by rfl) (pa_cons (pv 0) (pa_cons pe_str (pa_cons (pv 1) pa_nil)))) pa_nil)) (pg_tup rfl (pgs_cons (pg_name (i := 2) sc48.nd rfl (.inl rfl)) (pgs_cons (pg_name (i := 3) sc48.nd rfl (.inl rfl)) (pgs_cons (pg_name (i := 4) sc48.nd rfl (.inl rfl)) (pgs_cons (pg_name (i := 5) sc48.nd rfl (.inl rfl)) pgs_nil))))))
    (pss_one (ps_ret (pe_tup (pa_cons (pe_tup (pa_cons (pv 2) (pa_cons (pv 3) pa_nil))) (pa_cons (pv 5) pa_nil))))))
theorem cal48 {P : Program} {w : World} {K : PySem.W.Frag} {mg : Str → Option Value} {base : Heap} (T : Txt K mg) (C14 : Cal P w K mg base 2 "with_strategy" (sp14 K) []) (C46 : Cal P w K mg base 9 "found_answer" (sp46 K) [])
    (h : ∀ (vs : List V) (H : Hp) (Q : VK) (E : XK), sp48 K vs H Q E → t48 K { nx := fun _ H' => Q .non H', rt := Q } (start n48 vs) H) (len : ∀ vs H Q E, sp48 K vs H Q E → vs.length = 2) : Cal P w K mg base 10 "least_against" (sp48 K) [] :=
  Tx.cal T.d48 sc48 len fun cdv A outer f s H vs Q E hr hs => ⟨t48 K, der48 T hr C14 C46, h vs H Q E hs⟩

/-! greatest_against -/
abbrev n49 : List Str := ["game", "theirs", "gains", "leads", "ours", "nobody"]
theorem sc49 : FnScope n49 ["game", "theirs"] (defScope s49) := ⟨rfl, rfl, rfl, by decide +kernel, rfl, by decide +kernel, by decide +kernel⟩
def t49 (K : PySem.W.Frag) : TS :=
    (tSeq (tAsg (tCall (sp46 K) [] E0 (tCons (tCall (sp14 K) [] E0 (tCons (tVar 0) (tCons (tC (.str "theirs")) (tCons (tVar 1) tNil)))) tNil)) (gTup K 4 (gCons (gName 2) (gCons (gName 3) (gCons (gName 4) (gCons (gName 5) gNil))))))
    (tRet (tTup (tCons (tTup (tCons (tVar 2) (tCons (tVar 3) tNil))) (tCons (tVar 4) tNil)))))
theorem der49 {P : Program} {w : World} {K : PySem.W.Frag} {mg : Str → Option Value} {base : Heap} {f : Addr} {cdv : Value} {A : Around} {outer : List Env} {s : Shared} {H : Hp} {E : XK} {qual : Str} (T : Txt K mg) (hr : Room 9 (A.deeper (envOfC qual (defScope s49) s.heap.objs.size f cdv))) (C14 : Cal P w K mg base 2 "with_strategy" (sp14 K) []) (C46 : Cal P w K mg base 9 "found_answer" (sp46 K) []) :
    PSs (cxOf CX0 P w K mg base n49 qual (defScope s49) f cdv A outer s H E).nox (defBody s49) (t49 K) :=
    (pss_cons (ps_asg (pe_c C46 hr (by decide) (by rfl) (pa_cons (pe_c C14 hr (by decide) (by rfl) (pa_cons (pv 0) (pa_cons pe_str (pa_cons (pv 1) pa_nil)))) pa_nil)) (pg_tup rfl (pgs_cons (pg_name (i := 2) sc49.nd rfl (.inl rfl)) (pgs_cons (pg_name (i := 3) sc49.nd rfl (.inl rfl)) (pgs_cons (pg_name (i := 4) sc49.nd rfl (.inl rfl)) (pgs_cons (pg_name (i := 5) sc49.nd rfl (.inl rfl)) pgs_nil))))))
    (pss_one (ps_ret (pe_tup (pa_cons (pe_tup (pa_cons (pv 2) (pa_cons (pv 3) pa_nil))) (pa_cons (pv 4) pa_nil))))))
theorem cal49 {P : Program} {w : World} {K : PySem.W.Frag} {mg : Str → Option Value} {base : Heap} (T : Txt K mg) (C14 : Cal P w K mg base 2 "with_strategy" (sp14 K) []) (C46 : Cal P w K mg base 9 "found_answer" (sp46 K) [])
    (h : ∀ (vs : List V) (H : Hp) (Q : VK) (E : XK), sp49 K vs H Q E → t49 K { nx := fun _ H' => Q .non H', rt := Q } (start n49 vs) H) (len : ∀ vs H Q E, sp49 K vs H Q E → vs.length = 2) : Cal P w K mg base 10 "greatest_against" (sp49 K) [] :=
  Tx.cal T.d49 sc49 len fun cdv A outer f s H vs Q E hr hs => ⟨t49 K, der49 T hr C14 C46, h vs H Q E hs⟩

end Mh
end
section
set_option Elab.async false
set_option linter.all false
set_option maxRecDepth 100000
set_option maxHeartbeats 4000000
set_option exponentiation.threshold 10000
/-! whole-number elimination: the reading -/
namespace Mh
open PySem PySem.Spec PyProof.Rows L2
open C8 (Cal pe_c)
open Evl (ixN_nat)
theorem numz {q : Rat} {z : Int} (h : q = (z : Rat)) : q.num = z := by rw [h]; rfl
theorem inum {q : Rat} (h : IsI q) : ((q.num : Int) : Rat) = q := by
  obtain ⟨z, rfl⟩ := h
  rfl
section
variable {m B k : Nat} {A : Nat → Row}
structure BarI (m B : Nat) (A : Nat → Row) : Prop where
  m4 : m ≤ 4
  dom : Dom m 0 A
  e : ∀ i, i < m → ∀ j, j < m + 1 → IsI (A i j) ∧ ab (A i j) ≤ (B : Rat)
  b1 : 1 ≤ B
  b2 : B ≤ 2 ^ 190
/-- the whole numbers of the elimination -/
def zk (A : Nat → Row) (k i : Nat) : Row := fun j => Dl A k * Nst A k i j
theorem BarI.ok (h : BarI m B A) (hk : k ≤ m) : NatOk m (m + 1) A k := nat_ok (m + 1) h.dom k hk
theorem BarI.int (h : BarI m B A) (hk : k ≤ m) {i j : Nat} (hi : i < m) (hj : j < m + 1) : IsI (zk A k i j) := (h.ok hk).int hk (fun i hi j hj => (h.e i hi j hj).1) hi hj
theorem BarI.bd (h : BarI m B A) (hk : k ≤ m) {i j : Nat} (hi : i < m) (hj : j < m + 1) : (zk A k i j).num.natAbs < 2 ^ 1000 := by
  have h1 := (h.ok hk).bound hk h.b1 (fun i hi j hj => (h.e i hi j hj).2) hi hj
  have h2 : ab ((zk A k i j).num : Rat) ≤ (((m + 1) ^ (m + 1) * B ^ (m + 1) : Nat) : Rat) := by rw [inum (h.int hk hi hj)]; exact h1
  have h3 := natAbs_of_ab h2
  have h4 : (m + 1) ^ (m + 1) ≤ 2 ^ 12 := by
    have : ∀ m : Nat, m ≤ 4 → (m + 1) ^ (m + 1) ≤ 2 ^ 12 := by decide +kernel
    exact this m h.m4
  have h5 : B ^ (m + 1) ≤ 2 ^ 950 := by
    refine Nat.le_trans (Nat.pow_le_pow_left h.b2 _) ?_
    rw [← Nat.pow_mul]
    exact Nat.pow_le_pow_right (by decide) (by have := h.m4; omega)
  have h6 := p2mul h4 h5
  have h7 : (2:Nat) ^ (12 + 950) < 2 ^ 1000 := Nat.pow_lt_pow_right (by decide) (by decide)
  exact Nat.lt_of_le_of_lt (Nat.le_trans h3 h6) h7
theorem BarI.dl (h : BarI m B A) (hk : k ≤ m) : IsI (Dl A k) ∧ 0 < (Dl A k).num ∧ (Dl A k).num.natAbs < 2 ^ 1000 := by
  have hi : IsI (Dl A k) ∧ (Dl A k).num.natAbs < 2 ^ 1000 := by
    cases k with
    | zero => exact ⟨IsI.one, by show (1 : Int).natAbs < _; exact Nat.one_lt_two_pow (by decide)⟩
    | succ k => exact ⟨h.int (k := k) (by omega) (show k < m by omega) (show k < m + 1 by omega), h.bd (k := k) (by omega) (show k < m by omega) (show k < m + 1 by omega)⟩
  refine ⟨hi.1, ?_, hi.2⟩
  have := (h.ok hk).pos
  rw [← inum hi.1] at this
  exact_mod_cast this
theorem BarI.turn (h : BarI m B A) (hk : k < m) {i j : Nat} (hi : i < m) (hj : j < m + 1) (hik : i ≠ k) :
    ((zk A k i j).num * (zk A k k k).num - (zk A k i k).num * (zk A k k j).num) / (Dl A k).num = (zk A (k + 1) i j).num := by
  have e1 : (zk A k i j).num * (zk A k k k).num - (zk A k i k).num * (zk A k k j).num = (zk A (k + 1) i j).num * (Dl A k).num := by
    have h0 := (h.ok (Nat.le_of_lt hk)).turn hk (j := j) hik
    have h1 : (((zk A k i j).num * (zk A k k k).num - (zk A k i k).num * (zk A k k j).num : Int) : Rat) = (((zk A (k + 1) i j).num * (Dl A k).num : Int) : Rat) := by
      rw [Rat.intCast_sub, Rat.intCast_mul, Rat.intCast_mul, Rat.intCast_mul, inum (h.int (by omega) hi hj), inum (h.int (by omega) hk (by omega)), inum (h.int (by omega) hi (by omega)), inum (h.int (by omega) hk hj), inum (h.int (by omega) hi hj), inum (h.dl (by omega)).1]
      exact h0.symm
    exact_mod_cast h1
  rw [e1]
  exact Int.mul_ediv_cancel _ (by have := (h.dl (k := k) (by omega)).2.1; omega)
theorem BarI.turn0 (h : BarI m B A) (hk : k < m) (j : Nat) : zk A (k + 1) k j = zk A k k j := (h.ok (Nat.le_of_lt hk)).turn0 hk j
theorem BarI.unit (h : BarI m B A) {i : Nat} (hi : i < m) : zk A m i i = Dl A m := by
  have := (h.ok (Nat.le_refl m)).done hi i
  have h2 := (h.ok (Nat.le_refl m)).det
  unfold zk
  rw [this, ← h2]
  congr 1
  have e : List.range' 0 m = List.range' 0 i ++ List.range' i (m - i) := by
    have := List.range'_append (s := 0) (m := i) (n := m - i) (step := 1)
    rw [Nat.zero_add, Nat.one_mul] at this
    rw [this, show i + (m - i) = m by omega]
  rw [e, show m - i = (m - i - 1) + 1 by omega, List.range'_succ]
  rfl
theorem BarI.quot (h : BarI m B A) {i : Nat} (hi : i < m) : ((zk A m i m).num : Rat) / ((zk A m i i).num : Rat) = Nst A m i m := by
  rw [inum (h.int (Nat.le_refl m) hi (by omega)), inum (h.int (Nat.le_refl m) hi (by omega)), h.unit hi]
  have := (h.ok (Nat.le_refl m)).pos
  unfold zk
  grind
theorem BarI.sz (h : BarI m B A) {i : Nat} (hi : i < m) : Sz 1000 (Nst A m i m) := by
  refine Sz.of (n := (zk A m i m).num) (d := (Dl A m).num) ?_ (by have := (h.dl (Nat.le_refl m)).2.1; omega) (h.bd (Nat.le_refl m) hi (by omega)) (h.dl (Nat.le_refl m)).2.2
  rw [inum (h.dl (Nat.le_refl m)).1, inum (h.int (Nat.le_refl m) hi (by omega))]
  unfold zk; grind
end
theorem bls_flat : ∀ l : List Bool, (l.map V.bl).all flatV = true
  | [] => rfl
  | b :: l => by show (true && (l.map V.bl).all flatV) = true; rw [bls_flat l]; rfl
section
variable {K : PySem.W.Frag}
theorem is_zr {H : Hp} {v : V} {w : Nat} {A : Row} (h : Is K H v (zr w A)) : ∃ a xs, v = .ref a ∧ H a = some (.lst xs) ∧ IsA K H xs (fl w fun j => .int (A j).num) := h.list
theorem h39 (vs : List V) (H : Hp) (Q : VK) (E : XK) (h : sp39 K vs H Q E) : t39 K { nx := fun _ H' => Q .non H', rt := Q } (start n39 vs) H := by
  obtain ⟨m, B, A, a, xs, Hs, rfl, hm, ha0, ha, hxs, dom, hA, hb1, hb2, st, q⟩ := h
  have hI : BarI m B A := ⟨hm, dom, hA, hb1, hb2⟩
  have lx : xs.length = m := hxs.flen
  refine ⟨_, rfl, a, xs, rfl, .inl (SqL.of ha), ?_⟩
  rw [lx]
  refine ⟨_, rfl, _, rfl, by omega, by omega, ?_⟩
  have en : ((m : Nat) : Int).toNat = m := by omega
  rw [en]
  refine for_it walk_rng0 (fun k σ H' => ∃ (Hs' : Hp) (ys : List V) (y3 y4 y5 y6 y7 y8 y9 y10 : Option V), σ = [some (.ref a), some (.int (m : Int)), some (.int (Dl A k).num), y3, y4, y5, y6, y7, y8, y9, y10] ∧ Ext (fun p => p = a) Hs H Hs' H' ∧ Hs' a = none ∧ H' a = some (.lst ys) ∧ IsA K Hs' ys (fl m fun i => zr (m + 1) (zk A k i)))
    ⟨Hs, xs, _, _, _, _, _, _, _, _, rfl, Ext.refl st, ha0, ha, hxs.fcongr fun i _ => by congr 1; funext j; show A i j = 1 * A i j; rw [Rat.one_mul]⟩ (fun _ _ _ _ _ => trivial) ?_ ?_
  · rintro k x σ H1 H1' hk ⟨Hs1, ys, y3, y4, y5, y6, y7, y8, y9, y10, rfl, e1, l0, l1, hys⟩ ⟨rfl, rfl⟩
    have lys := hys.flen
    refine ⟨_, rfl, _, rfl, (k : Int), (m : Int), rfl, ⟨by omega, by omega, by omega, by omega⟩, fun D hD => ?_⟩
    have en2 : ((m : Int) - (k : Int)).toNat = m - k := by omega
    rw [en2]
    have hDl : D ≠ a := fun z => by rw [z, l1] at hD; cases hD
    refine lc_map (K := K) (Hs := Hs1) (n := m - k) (walk_rngc (c := k)) e1.t (fun _ _ => trivial) hD (fun j => .bool (!decide (V.int (zk A k (k + j) k).num = V.int 0))) (by omega) ?_ ?_
    · rintro j x Hs2 H2 H2' C hj e2 d0 ⟨rfl, rfl⟩ kk
      obtain ⟨f0, f1⟩ := e2.own (fun z => z) l1 l0
      obtain ⟨v, ev, iv⟩ := hys.fget (i := k + j) (by omega)
      obtain ⟨b, zs, rfl, hb, hzs⟩ := is_zr iv
      obtain ⟨u, eu, iu⟩ := hzs.fget (i := k) (by omega)
      cases iu.int'
      refine ⟨rfl, _, rfl, _, rfl, a, ys, _, _, rfl, rfl, SqL.of f1, atI_nat ev, _, rfl, b, zs, _, _, rfl, rfl, SqL.of (e2.t _ _ (e2.s _ _ hb)), atI_nat eu, rfl, ?_⟩
      exact kk _ Hs2 _ (Ext.refl e2.t) (.bl _)
    intro Hs2 H2 ws e2 d0 d1 hws
    obtain ⟨f0, f1⟩ := e2.own (fun z => z) l1 l0
    have ebs := hws.fbls
    have piv0 : zk A k k k ≠ 0 := by
      have h1 := (hI.dl (k := k + 1) (by omega)).2.1
      intro z
      have : (Dl A (k + 1)).num = 0 := by show (zk A k k k).num = 0; rw [z]; rfl
      omega
    have hpn : ¬ V.int (zk A k (k + 0) k).num = V.int 0 := fun z => by
      have h1 := V.int.inj z
      exact piv0 (Rat.num_eq_zero.mp h1)
    have hw0 : ws[0]? = some (.bl true) := by
      rw [ebs, List.getElem?_map, List.getElem?_map, List.getElem?_range (by omega)]
      show some (V.bl (!decide (V.int (zk A k (k + 0) k).num = V.int 0))) = _
      rw [decide_eq_false hpn]; rfl
    refine ⟨.inl ⟨rfl, _, .inl (.inl d1)⟩, D, ws, .bl true, 0, .bl true, rfl, rfl, SqL.of d1, rfl, by rw [ebs]; exact bls_flat _, hw0, rfl, fun mm _ hmm => absurd hmm (by omega), ?_⟩
    refine ⟨_, rfl, _, _, rfl, rfl, ?_⟩
    have e0k : ((0 : Nat) : Int) + ((k : Nat) : Int) = ((k : Nat) : Int) := by omega
    obtain ⟨va, eva, iva⟩ := hys.fget hk
    refine ⟨_, rfl, _, rfl, a, ys, _, va, rfl, rfl, SqL.of f1, by rw [e0k]; exact atI_nat eva, _, rfl, _, rfl, a, ys, _, va, rfl, rfl, SqL.of f1, atI_nat eva, (by show 2 ≤ sizeLine; decide), fun p hp => ?_⟩
    have hpa : a ≠ p := ne_of_none f1 hp
    have f1p : (upd H2 p (.tup [va, va])) a = some (.lst ys) := by rw [upd_ne hpa]; exact f1
    have e3 : Ext (fun p => p = a) Hs H Hs2 (upd H2 p (.tup [va, va])) := (e1.trans e2.any).newM hp
    refine ⟨p, [va, va], rfl, SqT.of upd_same, rfl, va, [va], rfl, _, rfl, _, rfl, a, ys, _, k, rfl, rfl, f1p, ixN_nat (by omega), ?_⟩
    refine ⟨va, [], rfl, _, rfl, _, rfl, a, _, _, k, rfl, rfl, upd_same, by rw [e0k]; exact ixN_nat (by rw [List.length_set]; omega), rfl, ?_⟩
    rw [upd_upd]
    have e4 : Ext (fun p => p = a) Hs H Hs2 (upd (upd H2 p (.tup [va, va])) a (.lst ((ys.set k va).set k va))) := e3.mut (.inr rfl) f0
    have hys2 : IsA K Hs2 ((ys.set k va).set k va) (fl m fun i => zr (m + 1) (zk A k i)) := by
      refine (((hys.up e2.s).fset k (iva.up e2.s)).fset k (iva.up e2.s)).fcongr fun i hi => ?_
      by_cases z : i = k
      · rw [if_pos z, z]
      · rw [if_neg z, if_neg z]
    generalize hY : (ys.set k va).set k va = Y at e4 hys2
    generalize hH4 : upd (upd H2 p (.tup [va, va])) a (.lst Y) = H4 at e4
    have a4 : H4 a = some (.lst Y) := by rw [← hH4]; exact upd_same
    have lY := hys2.flen
    obtain ⟨vk, evk, ivk⟩ := hys2.fget hk
    obtain ⟨bk, zks, rfl, hbk, hzks⟩ := is_zr ivk
    obtain ⟨u, eu, iu⟩ := hzks.fget (i := k) (by omega)
    cases iu.int'
    refine ⟨_, rfl, _, rfl, a, Y, _, _, rfl, rfl, SqL.of a4, atI_nat evk, _, rfl, bk, zks, _, _, rfl, rfl, SqL.of (e4.t _ _ hbk), atI_nat eu, ?_⟩
    refine ⟨_, rfl, _, rfl, by omega, by omega, ?_⟩
    rw [en]
    refine for_it walk_rng0 (fun i σ H' => ∃ (Hs' : Hp) (zs : List V) (y6 y7 y8 y9 : Option V), σ = [some (.ref a), some (.int (m : Int)), some (.int (Dl A k).num), some (.int (k : Int)), some (.int (((0 : Nat) : Int) + ((k : Nat) : Int))), some (.int (zk A k k k).num), y6, y7, y8, y9, y10] ∧ Ext (fun p => p = a) Hs H Hs' H' ∧ Hs' a = none ∧ H' a = some (.lst zs) ∧ IsA K Hs' zs (fl m fun c => zr (m + 1) (if c < i then zk A (k + 1) c else zk A k c)))
      ⟨Hs2, Y, _, _, _, _, rfl, e4, f0, a4, hys2.fcongr fun c _ => by rw [if_neg (Nat.not_lt_zero c)]⟩ (fun _ _ _ _ _ => trivial) ?_ ?_
    · rintro i x σ H5 H5' hi ⟨Hs5, zs, y6, y7, y8, y9, rfl, e5, m0, m1, hzs⟩ ⟨rfl, rfl⟩
      have lzs := hzs.flen
      refine ⟨_, rfl, _, rfl, rfl, _, rfl, ?_⟩
      by_cases hik : i = k
      · have ed : decide (V.int ((i : Nat) : Int) = V.int ((k : Nat) : Int)) = true := decide_eq_true (by rw [hik])
        rw [ed]
        refine iteF ?_
        refine ⟨Hs5, zs, _, _, _, _, rfl, e5, m0, m1, hzs.fcongr fun c hc => ?_⟩
        by_cases c1 : c < i
        · rw [if_pos c1, if_pos (show c < i + 1 by omega)]
        · by_cases c2 : c = i
          · subst c2; subst hik
            rw [if_neg c1, if_pos (Nat.lt_succ_self c)]
            congr 1
            funext j
            exact (hI.turn0 hk j).symm
          · rw [if_neg c1, if_neg (show ¬ c < i + 1 by omega)]
      · have ed : decide (V.int ((i : Nat) : Int) = V.int ((k : Nat) : Int)) = false := decide_eq_false fun z => hik (by have := V.int.inj z; omega)
        rw [ed]
        refine iteT ?_
        obtain ⟨vi', evi, ivi⟩ := hzs.fget hi
        rw [if_neg (Nat.lt_irrefl i)] at ivi
        obtain ⟨bi, zis, rfl, hbi, hzis⟩ := is_zr ivi
        obtain ⟨ui, eui, iui⟩ := hzis.fget (i := k) (by omega)
        cases iui.int'
        obtain ⟨vk', evk', ivk'⟩ := hzs.fget hk
        have ivk2 : Is K Hs5 vk' (zr (m + 1) (zk A k k)) := by
          by_cases c1 : k < i
          · rw [if_pos c1] at ivk'
            have : zk A (k + 1) k = zk A k k := funext fun j => hI.turn0 hk j
            rw [this] at ivk'; exact ivk'
          · rw [if_neg c1] at ivk'; exact ivk'
        obtain ⟨bk', zk', rfl, hbk', hzk'⟩ := is_zr ivk2
        refine ⟨_, rfl, _, rfl, a, zs, _, _, rfl, rfl, SqL.of m1, atI_nat evi, _, rfl, bi, zis, _, _, rfl, rfl, SqL.of (e5.t _ _ hbi), atI_nat eui, ?_⟩
        refine ⟨_, rfl, _, rfl, a, zs, _, _, rfl, rfl, SqL.of m1, atI_nat evi, _, rfl, _, rfl, a, zs, _, _, rfl, rfl, SqL.of m1, atI_nat evk', bi, bk', zis, zk', rfl, SqL.of (e5.t _ _ hbi), SqL.of (e5.t _ _ hbk'), fun D6 hD6 => ?_⟩
        refine lc_map (K := K) (Hs := Hs5) (walk_zip (xs := zis) (ys := zk') (n := m + 1) (by rw [hzis.flen, hzk'.flen]; simp)) e5.t (fun H' s => ⟨SqL.of (s _ _ hbi), SqL.of (s _ _ hbk')⟩) hD6 (fun j => .int (zk A (k + 1) i j).num) (by omega) ?_ ?_
        · rintro j v Hs6 H6 H6' C hj e6 d60 ⟨T', vx, vy, rfl, hT, rfl, ex, ey⟩ kk
          obtain ⟨_, ix⟩ := hzis.fget' ex
          obtain ⟨_, iy⟩ := hzk'.fget' ey
          cases ix.int'
          cases iy.int'
          refine ⟨T', _, rfl, SqT.of upd_same, rfl, _, _, rfl, _, [], rfl, rfl, rfl, ?_⟩
          have w1 := hI.bd (k := k) (by omega) hi hj
          have w2 := hI.bd (k := k) (by omega) hk (show k < m + 1 by omega)
          have w3 := hI.bd (k := k) (by omega) hi (show k < m + 1 by omega)
          have w4 := hI.bd (k := k) (by omega) hk hj
          obtain ⟨_, dp, db⟩ := hI.dl (k := k) (by omega)
          refine ⟨_, rfl, _, rfl, _, _, rfl, rfl, mulw w1 w2 (by decide), _, rfl, _, rfl, _, _, rfl, rfl, mulw w3 w4 (by decide), _, _, rfl, rfl, _, rfl, _, _, rfl, rfl, wide_div dp db (by decide) (by decide), ?_⟩
          refine kk _ Hs6 _ ((Ext.refl e6.t).newM hT) ?_
          rw [← hI.turn hk hi hj hik]
          exact .int _
        · intro Hs6 H6 ws6 e6 d60 d61 hw6
          obtain ⟨n0, n1⟩ := e6.own (fun z => z) m1 m0
          have hDa : D6 ≠ a := fun z => by rw [z, m1] at hD6; cases hD6
          have hD6H : H D6 = none := e5.free hD6
          refine ⟨_, rfl, _, rfl, a, zs, _, i, rfl, rfl, n1, ixN_nat (by omega), ?_⟩
          have n2 : (upd Hs6 D6 (.lst ws6)) a = none := by rw [upd_ne hDa.symm]; exact n0
          refine ⟨upd Hs6 D6 (.lst ws6), zs.set i (.ref D6), _, _, _, _, rfl, ((e5.trans e6.any).frz hD6H d60 d61).mut (.inr rfl) n2, n2, upd_same, ?_⟩
          refine (((hzs.up e6.s).up (same_new d60)).fset i (.lst upd_same (hw6.up (same_new d60)))).fcongr fun c hc => ?_
          by_cases c1 : c = i
          · rw [if_pos c1, c1, if_pos (Nat.lt_succ_self i)]
            rfl
          · rw [if_neg c1]
            by_cases c2 : c < i
            · rw [if_pos c2, if_pos (show c < i + 1 by omega)]
            · rw [if_neg c2, if_neg (show ¬ c < i + 1 by omega)]
    · rintro σ H5 ⟨Hs5, zs, y6, y7, y8, y9, rfl, e5, m0, m1, hzs⟩
      exact ⟨_, rfl, Hs5, zs, _, _, _, _, _, _, _, _, rfl, e5, m0, m1, hzs.fcongr fun c hc => by rw [if_pos hc]⟩
  · rintro σ H1 ⟨Hs1, ys, y3, y4, y5, y6, y7, y8, y9, y10, rfl, e1, l0, l1, hys⟩
    have lys := hys.flen
    have e2 := e1.frzM rfl l0 l1
    have a2 : (upd Hs1 a (.lst ys)) a = some (.lst ys) := upd_same
    refine ⟨_, rfl, a, ys, rfl, SqL.of l1, fun D hD => ?_⟩
    refine lc_map (K := K) (n := ys.length) (walk_enum (xs := ys)) e2.t (fun H' s => SqL.of (s _ _ a2)) hD (fun k => qd (Nst A m k m)) (by omega) ?_ ?_
    · rintro k v Hs2 H2 H2' C hk e3 d0 ⟨T', x1, x2, rfl, hT, rfl, ex1, ex2⟩ kk
      cases ex1
      obtain ⟨hk2, ix⟩ := hys.fget' ex2
      obtain ⟨b, zs, rfl, hb, hzs⟩ := is_zr ix
      obtain ⟨u1, eu1, iu1⟩ := hzs.fget (i := m) (by omega)
      obtain ⟨u2, eu2, iu2⟩ := hzs.fget (i := k) (by omega)
      cases iu1.int'
      cases iu2.int'
      have e4 : Ext0 Hs2 H2 Hs2 (upd H2 T' (.tup [.int (k : Nat), .ref b])) := (Ext.refl e3.t).newM hT
      have hb2 := e4.t _ _ (e3.s _ _ ((same_new l0) _ _ hb))
      refine ⟨T', _, rfl, SqT.of upd_same, rfl, _, _, rfl, _, _, rfl, rfl, rfl, ?_⟩
      refine ⟨_, rfl, _, rfl, b, zs, _, _, rfl, rfl, SqL.of hb2, atI_nat eu1, _, rfl, _, rfl, b, zs, _, _, rfl, rfl, SqL.of hb2, atI_nat eu2, ?_⟩
      have hd0 : (zk A m k k).num ≠ 0 := by rw [hI.unit hk2]; have := (hI.dl (Nat.le_refl m)).2.1; omega
      refine ⟨(zk A m k m).num, (zk A m k k).num, Hs2, rfl, hd0, Nat.lt_of_lt_of_le (hI.bd (Nat.le_refl m) hk2 (by omega)) (Nat.pow_le_pow_right (by decide) (by decide)), Nat.lt_of_lt_of_le (hI.bd (Nat.le_refl m) hk2 (by omega)) (Nat.pow_le_pow_right (by decide) (by decide)), e4.t, fun v Hs3 H3 e5 hv => kk v Hs3 H3 (e4.trans e5) ?_⟩
      rw [hI.quot hk2] at hv
      exact hv
    · intro Hs2 H2 ws e3 d0 d1 hw
      rw [lys] at hw
      exact q _ _ _ ((e2.trans e3.any).frz (e2.free hD) d0 d1) (.lst upd_same (hw.up (same_new d0))) fun k hk => hI.sz hk
end
end Mh
end
section
set_option Elab.async false
set_option linter.all false
set_option maxRecDepth 100000
set_option maxHeartbeats 4000000
set_option exponentiation.threshold 10000
/-! worths: the reading -/
namespace Mh
open PySem PySem.Spec PyProof.Rows L2
open C8 (Cal pe_c)
open Evl (ixN_nat)
theorem den_dvd {q : Rat} {S : Nat} (h : IsI (q * (S : Rat))) : q.den ∣ S := by
  obtain ⟨n, e⟩ := h
  have h1 := cross (d := (S : Int)) e
  have h2 : q.den ∣ q.num.natAbs * S := by
    have : (q.num * (S : Int)).natAbs = q.num.natAbs * S := by rw [Int.natAbs_mul]; simp
    rw [← this, h1, Int.natAbs_mul]
    exact Nat.dvd_mul_left _ _
  exact Nat.Coprime.dvd_of_dvd_mul_left (q.reduced.symm) h2
theorem dvd_int {q : Rat} {S : Nat} (h : q.den ∣ S) : IsI ((S : Rat) * q) := by
  obtain ⟨c, rfl⟩ := h
  refine ⟨(c : Int) * q.num, ?_⟩
  rw [Rat.intCast_mul, ← num_den' q, Rat.natCast_mul]
  have : ((q.den : Int) : Rat) = (q.den : Rat) := rfl
  have h2 : ((c : Int) : Rat) = (c : Rat) := rfl
  rw [this, h2]
  grind
/-- the whole number that the code computes -/
theorem dvd_num {q : Rat} {S : Nat} (h : q.den ∣ S) : ((((S : Int) / (q.den : Int)) * q.num : Int) : Rat) = (S : Rat) * q := by
  obtain ⟨c, rfl⟩ := h
  have h0 := den_ne q
  have e : ((q.den * c : Nat) : Int) / (q.den : Int) = (c : Int) := by
    rw [Int.natCast_mul]; exact Int.mul_ediv_cancel_left _ h0
  rw [e, Rat.intCast_mul, ← num_den' q, Rat.natCast_mul]
  have : ((q.den : Int) : Rat) = (q.den : Rat) := rfl
  have h2 : ((c : Int) : Rat) = (c : Rat) := rfl
  rw [this, h2]
  grind
def lcf (s : Nat) (l : List (Rat × Nat)) : Nat := l.foldl (fun s b => Nat.lcm s b.1.den) s
theorem lcf_snoc (s : Nat) (l : List (Rat × Nat)) (b : Rat × Nat) : lcf s (l ++ [b]) = Nat.lcm (lcf s l) b.1.den := by unfold lcf; rw [List.foldl_append]; rfl
theorem lcf_dvd : ∀ (l : List (Rat × Nat)) (s : Nat), s ∣ lcf s l ∧ ∀ b ∈ l, b.1.den ∣ lcf s l
  | [], s => ⟨Nat.dvd_refl _, fun b hb => by cases hb⟩
  | c :: l, s => by
    obtain ⟨h1, h2⟩ := lcf_dvd l (Nat.lcm s c.1.den)
    refine ⟨Nat.dvd_trans (Nat.dvd_lcm_left _ _) h1, fun b hb => ?_⟩
    rcases List.mem_cons.mp hb with q | q
    · subst q; exact Nat.dvd_trans (Nat.dvd_lcm_right _ _) h1
    · exact h2 b q
theorem dvd_lcf : ∀ (l : List (Rat × Nat)) (s M : Nat), s ∣ M → (∀ b ∈ l, b.1.den ∣ M) → lcf s l ∣ M
  | [], s, M, h, _ => h
  | c :: l, s, M, h, h2 => dvd_lcf l (Nat.lcm s c.1.den) M (Nat.lcm_dvd h (h2 c (by simp))) fun b hb => h2 b (by simp [hb])
def scl (p : Pl) : Nat := lcf p.g.den p.bs
theorem PlOk.scl_le {n : Nat} {p : Pl} (h : PlOk n p) {l : List (Rat × Nat)} (hl : l.Sublist p.bs) : 0 < lcf p.g.den l ∧ lcf p.g.den l ≤ 4320 := by
  obtain ⟨S, s0, s1, s2⟩ := h.den
  have h1 : lcf p.g.den l ∣ p.g.den * S := dvd_lcf l _ _ (Nat.dvd_mul_right _ _) fun b hb => Nat.dvd_trans (den_dvd (s2 b (hl.subset hb))) (Nat.dvd_mul_left _ _)
  have h2 := p.g.den_pos
  have h3 : 0 < p.g.den * S := Nat.mul_pos h2 s0
  have h4 : p.g.den * S ≤ 12 * 360 := Nat.mul_le_mul h.gd s1
  exact ⟨Nat.pos_of_dvd_of_pos h1 h3, Nat.le_trans (Nat.le_of_dvd h3 h1) h4⟩
section
variable {n T : Nat} {C : List Pl}
def ρs (C : List Pl) : Nat → Nat := fun x => scl (pl C x)
theorem ρs_le (hC : ChOk n C) {x : Nat} (hx : x < n) : 0 < ρs C x ∧ ρs C x ≤ 4320 := (hC.at hx).scl_le (List.Sublist.refl _)
theorem ρs_P (hC : ChOk n C) {x : Nat} (hx : x < n) (y : Nat) : IsI ((ρs C x : Rat) * Pm C x y) := by
  rw [Rat.mul_comm]
  refine wt_int (fun b hb => ?_) y
  rw [Rat.mul_comm]
  exact dvd_int ((lcf_dvd _ _).2 b hb)
theorem ρs_g (x : Nat) : IsI ((ρs C x : Rat) * gm C x) := dvd_int (lcf_dvd _ _).1
theorem wA_e (hC : ChOk n C) (hT : 1 ≤ T) {x : Nat} (hx : x < n) {y : Nat} (hy : y < n + 1) : IsI (wA n (Pm C) (gm C) (ρs C) (T : Rat) x y) ∧ ab (wA n (Pm C) (gm C) (ρs C) (T : Rat) x y) ≤ ((T * 4320 * 1000 : Nat) : Rat) := by
  obtain ⟨r0, r1⟩ := ρs_le hC hx
  have r2 := cast_le r1
  have r3 : (0:Rat) ≤ (ρs C x : Rat) := cast_nn _
  have t1 : (1:Rat) ≤ (T : Rat) := cast_le hT
  have t0 : (0:Rat) ≤ (T : Rat) := cast_nn _
  have tr : (T : Rat) * (ρs C x : Rat) ≤ (T : Rat) * ((4320 : Nat) : Rat) := Rat.mul_le_mul_of_nonneg_left r2 t0
  have tr0 : 0 ≤ (T : Rat) * (ρs C x : Rat) := Rat.mul_nonneg t0 r3
  have big : (T : Rat) * ((4320 : Nat) : Rat) ≤ ((T * 4320 * 1000 : Nat) : Rat) := by rw [← Rat.natCast_mul]; exact cast_le (Nat.le_mul_of_pos_right _ (by decide))
  have iT1 : IsI ((T : Rat) - 1) := (IsI.nat T).sub IsI.one
  unfold wA
  by_cases c : y = n
  · rw [if_pos c]
    refine ⟨(IsI.nat T).mul (ρs_g x), ?_⟩
    have g1 := (hC.at hx).gb
    have e : (T : Rat) * ((ρs C x : Rat) * gm C x) = (T : Rat) * (ρs C x : Rat) * gm C x := by grind
    rw [e, ab_mul, ab_of_nonneg tr0]
    have h1 := mul_le2 tr g1 tr0 (ab_nonneg _)
    refine Rat.le_trans h1 ?_
    rw [← Rat.natCast_mul, ← Rat.natCast_mul]
    exact Rat.le_refl
  · rw [if_neg c]
    have p0 := hC.stoch.nn x hx y (by omega)
    have p1 := hC.stoch.le_one hx (y := y) (by omega)
    have q0 : 0 ≤ ((T : Rat) - 1) * ((ρs C x : Rat) * Pm C x y) := Rat.mul_nonneg (by grind) (Rat.mul_nonneg r3 p0)
    have q1 : ((T : Rat) - 1) * ((ρs C x : Rat) * Pm C x y) ≤ (T : Rat) * (ρs C x : Rat) := by
      have a1 : (ρs C x : Rat) * Pm C x y ≤ (ρs C x : Rat) * 1 := Rat.mul_le_mul_of_nonneg_left p1 r3
      have a2 := mul_le2 (show (T : Rat) - 1 ≤ (T : Rat) by grind) a1 (by grind) (Rat.mul_nonneg r3 p0)
      rw [Rat.mul_one] at a2
      exact a2
    constructor
    · refine IsI.sub ?_ (iT1.mul (ρs_P hC hx y))
      split
      · exact (IsI.nat T).mul (IsI.nat _)
      · exact IsI.zero
    · refine ab_le ?_ ?_
      · split <;> grind
      · split <;> grind
/-- a row as the code builds it -/
def rowW (ρ : Nat) (T : Rat) (p : Pl) (n x k : Nat) : Row := fun y => if y = n then T * ((ρ : Rat) * p.g) else (if x = y then T * (ρ : Rat) else 0) - (T - 1) * ((ρ : Rat) * wt (p.bs.take k) y)
theorem rowW_full {k x : Nat} (hk : (pl C x).bs.length ≤ k) (T : Rat) : rowW (ρs C x) T (pl C x) n x k = wA n (Pm C) (gm C) (ρs C) T x := by
  funext y
  unfold rowW wA
  rw [List.take_of_length_le hk]
  rfl
end
section
variable {K : PySem.W.Frag}
theorem is_q {H : Hp} {v : V} {q : Rat} (h : Is K H v (qd q)) : ∃ a, v = .ref a ∧ SqT K H a [.int q.num, .int (q.den : Int)] := by
  obtain ⟨a, x, y, rfl, h1, h2, h3⟩ := h.pair
  cases h2.int'
  cases h3.int'
  exact ⟨a, rfl, h1⟩
theorem is_qt {H : Hp} {a : Addr} {q : Rat} (h : Is K H (.ref a) (qd q)) : SqT K H a [.int q.num, .int (q.den : Int)] := by
  obtain ⟨b, e, h1⟩ := is_q h
  cases e
  exact h1
theorem rep_zero (n : Nat) : (List.replicate n [V.int 0]).flatten = List.replicate n (V.int 0) := by
  induction n with
  | zero => rfl
  | succ n ih => rw [List.replicate_succ, List.flatten_cons, ih, List.replicate_succ]; rfl
theorem is_rep {H : Hp} (n : Nat) : IsA K H (List.replicate n (V.int 0)) (fl n fun _ => .int 0) := by
  induction n with
  | zero => exact .nil
  | succ n ih =>
    rw [fl_snoc, List.replicate_succ']
    exact ih.append (.cons (.int 0) .nil)
theorem h41 (vs : List V) (H : Hp) (Q : VK) (E : XK) (h : sp41 K vs H Q E) : t41 K { nx := fun _ H' => Q .non H', rt := Q } (start n41 vs) H := by
  obtain ⟨n, T, C, x, Hs, rfl, hC, hn, hT, hT2, hx, st, q⟩ := h
  obtain ⟨a, xs, rfl, ha, hxs⟩ := is_gd hx
  have lx : xs.length = n := by rw [hxs.flen, hC.len]
  refine ⟨Nat.zero_le _, fun l hl => ?_⟩
  have e0 : Ext0 Hs H Hs (upd H l (.lst [])) := (Ext.refl st).newM hl
  refine ⟨_, rfl, a, xs, rfl, SqL.of (e0.t _ _ ha), ?_⟩
  have Tb : ((T : Nat) : Int).natAbs < 2 ^ 161 := by
    have : (2:Nat) ^ 160 < 2 ^ 161 := Nat.pow_lt_pow_right (by decide) (by decide)
    simpa using Nat.lt_of_le_of_lt hT2 this
  have T1b : ((T : Int) - 1).natAbs < 2 ^ 161 := by omega
  refine for_it (walk_enum (xs := xs)) (fun i σ H' => ∃ (Hs' : Hp) (ys : List V) (y3 y4 y5 y6 y7 y8 y9 y10 : Option V), σ = [some (.ref a), some (.int (T : Int)), some (.ref l), y3, y4, y5, y6, y7, y8, y9, y10] ∧ Ext0 Hs H Hs' H' ∧ Hs' l = none ∧ H' l = some (.lst ys) ∧ IsA K Hs' ys (fl i fun k => zr (n + 1) (wA n (Pm C) (gm C) (ρs C) (T : Rat) k)))
    ⟨Hs, [], _, _, _, _, _, _, _, _, rfl, e0, st.free hl, upd_same, .nil⟩ (fun i τ H' _ ⟨Hs', _, _, _, _, _, _, _, _, _, _, e, _⟩ => SqL.of (e.t _ _ (e.s _ _ ha))) ?_ ?_
  · rintro i x τ H1 H1' hi ⟨Hs1, ys, y3, y4, y5, y6, y7, y8, y9, y10, rfl, e1, l0, l1, iys⟩ ⟨T', x1, x2, rfl, hT', rfl, ex1, ex2⟩
    cases ex1
    obtain ⟨hi2, ix2⟩ := hxs.fget' ex2
    rw [hC.len] at hi2
    obtain ⟨c, gq, bb, bs, rfl, hc, ig, hbs, ibs⟩ := is_pd ix2
    obtain ⟨ga, rfl, hga⟩ := is_q ig
    have hP := hC.at hi2
    rw [hP.dr] at ibs
    have lbs : bs.length = (pl C i).bs.length := by rw [ibs.len, List.length_map]
    have lys := iys.flen
    have hTl : l ≠ T' := ne_of_none l1 hT'
    have e2 : Ext0 Hs H Hs1 (upd H1 T' (.tup [.int (i : Nat), .ref c])) := e1.newM hT'
    have l2 : (upd H1 T' (.tup [.int (i : Nat), .ref c])) l = some (.lst ys) := by rw [upd_ne hTl]; exact l1
    generalize hH2 : upd H1 T' (.tup [.int (i : Nat), .ref c]) = H2 at e2 l2
    have hc' := sqt_up e2.t (sqt_up e1.s hc)
    have hga' := sqt_up e2.t (sqt_up e1.s hga)
    have hbs' := e2.t _ _ (e1.s _ _ hbs)
    refine ⟨T', _, rfl, SqT.of (by rw [← hH2]; exact upd_same), rfl, _, _, rfl, _, _, rfl, c, _, rfl, hc', rfl, _, _, rfl, _, _, rfl, _, _, rfl, rfl, rfl, ?_⟩
    refine ⟨_, rfl, ga, _, 1, _, rfl, rfl, hga', rfl, ?_⟩
    -- the scale
    refine ⟨_, rfl, bb, rfl, ⟨bs, SqL.of hbs'⟩, ?_⟩
    refine for_it (walk_list (xs := bs)) (fun k σ H' => H' = H2 ∧ ∃ (y8 y9 : Option V), σ = [some (.ref a), some (.int (T : Int)), some (.ref l), some (.int (i : Nat)), some (.ref ga), some (.str (pl C i).k.s), some (.ref bb), some (.int ((lcf (pl C i).g.den ((pl C i).bs.take k) : Nat) : Int)), y8, y9, y10])
      ⟨rfl, _, _, rfl⟩ (fun k σ H' _ ⟨e, _⟩ => by rw [e]; exact SqL.of hbs') ?_ ?_
    · rintro k v σ H3 H3' hk ⟨rfl, y8, y9, rfl⟩ ⟨rfl, hv⟩
      obtain ⟨dd, hdd, iy⟩ := ibs.get' hv
      obtain ⟨br, ebr, rfl⟩ := map_get hdd
      obtain ⟨pp, v1, v2, rfl, hpp, i1, i2⟩ := (show Is K Hs v (.tuple [qd br.1, .int (br.2 : Int)]) from iy).pair
      cases i2.int'
      obtain ⟨ca, rfl, hca⟩ := is_q i1
      have hbm : br ∈ (pl C i).bs := List.mem_of_getElem? ebr
      have hle := hP.scl_le (l := (pl C i).bs.take k) (List.take_sublist _ _)
      have hdn := (hP.one_sz hbm).2.2
      refine ⟨pp, _, rfl, sqt_up e2.t (sqt_up e1.s hpp), rfl, _, _, rfl, _, _, rfl, rfl, ?_⟩
      refine ⟨_, rfl, _, rfl, ca, _, 1, _, rfl, rfl, sqt_up e2.t (sqt_up e1.s hca), rfl, lcf (pl C i).g.den ((pl C i).bs.take k), br.1.den, rfl, by omega, by omega, ?_⟩
      refine ⟨rfl, some (.ref ca), some (.int (br.2 : Int)), ?_⟩
      rw [take_snoc ebr, lcf_snoc]
      rfl
    · rintro σ H3 ⟨rfl, y8, y9, rfl⟩
      rw [List.take_of_length_le (Nat.le_of_eq lbs.symm)]
      obtain ⟨r0, r1⟩ := ρs_le hC hi2
      have hρb : ((ρs C i : Nat) : Int).natAbs < 2 ^ 13 := by
        have : ρs C i < 2 ^ 13 := by omega
        simpa using this
      have hgn := hP.gd
      have gz : Sz 28 (pl C i).g := sz_pow (a := 15) (b := 12) hP.gi hP.gb (by decide) (by decide) (by decide)
      have gdp : 0 < ((pl C i).g.den : Int) := denpos _
      have gdv : (pl C i).g.den ∣ ρs C i := (lcf_dvd _ _).1
      have en : ((xs.length : Nat) : Int).toNat = n := by omega
      have hrep : [V.int 0].length * ((xs.length : Nat) : Int).toNat ≤ sizeLine := by rw [en]; exact bl_sl (by show 1 * n ≤ 100000; omega)
      refine ⟨by show 1 ≤ sizeLine; decide, fun d1 hd1 => ?_⟩
      refine ⟨_, rfl, a, xs, rfl, .inl (SqL.of (same_new hd1 _ _ (e2.t _ _ (e1.s _ _ ha)))), d1, _, [.int 0], rfl, rfl, upd_same, by omega, by omega, hrep, fun d2 hd2 => ?_⟩
      rw [en, rep_zero]
      have e3 := (e2.newM (o := .lst [.int 0]) hd1).newM (o := .lst (List.replicate n (V.int 0))) hd2
      have hga3 := sqt_up e3.t (sqt_up e1.s hga)
      have eT : ((T : Int) * ((ρs C i : Nat) : Int) / ((pl C i).g.den : Int) * (pl C i).g.num) = ((T : Rat) * ((ρs C i : Rat) * (pl C i).g)).num := by
        symm
        refine numz ?_
        have h1 := dvd_num (q := (pl C i).g) (S := T * ρs C i) (Nat.dvd_trans gdv (Nat.dvd_mul_left _ _))
        rw [Rat.natCast_mul] at h1
        rw [Int.natCast_mul] at h1
        rw [h1]; grind
      have hdb : ((pl C i).g.den : Int).natAbs < 2 ^ 4 := by
        have : (pl C i).g.den < 2 ^ 4 := by omega
        simpa using this
      have m1 : CMulW (T : Int) ((ρs C i : Nat) : Int) := mulw Tb hρb (by decide)
      have w2 : ((T : Int) * ((ρs C i : Nat) : Int)).natAbs < 2 ^ 174 := wide_lt Tb hρb
      have w3 : ((T : Int) * ((ρs C i : Nat) : Int) / ((pl C i).g.den : Int)).natAbs < 2 ^ 174 := by
        have : ((T : Int) * ((ρs C i : Nat) : Int) / ((pl C i).g.den : Int)).natAbs ≤ ((T : Int) * ((ρs C i : Nat) : Int)).natAbs := by
          rw [Int.natAbs_ediv_of_nonneg (by have : (0:Int) ≤ (T : Int) * ((ρs C i : Nat) : Int) := Int.mul_nonneg (by omega) (by omega); exact this)]
          exact Nat.div_le_self _ _
        omega
      refine ⟨_, rfl, _, rfl, _, _, rfl, rfl, m1, _, rfl, ga, _, 1, _, rfl, rfl, hga3, rfl, _, _, rfl, rfl, wide_div gdp hdb (by decide) (by decide), _, rfl, ga, _, 0, _, rfl, rfl, hga3, rfl, _, _, rfl, rfl, mulw w3 gz.1 (by decide), by show 1 ≤ sizeLine; decide, fun d3 hd3 => ?_⟩
      have n23 : d2 ≠ d3 := ne_of_none upd_same hd3
      have e4 := e3.newM (o := .lst [.int ((T : Int) * ((ρs C i : Nat) : Int) / ((pl C i).g.den : Int) * (pl C i).g.num)]) hd3
      refine ⟨d2, d3, _, _, rfl, rfl, by rw [upd_ne n23]; exact upd_same, upd_same, bl_sl (by show (List.replicate n (V.int 0)).length + 1 ≤ 100000; rw [List.length_replicate]; omega), fun p hp => ?_⟩
      have e5 := e4.newM (o := .lst (List.replicate n (V.int 0) ++ [V.int ((T : Int) * ((ρs C i : Nat) : Int) / ((pl C i).g.den : Int) * (pl C i).g.num)])) hp
      have hpH : H p = none := e4.free hp
      have nl1 : l ≠ d1 := ne_of_none l2 hd1
      have nl2 : l ≠ d2 := ne_of_none (by rw [upd_ne nl1]; exact l2) hd2
      have nl3 : l ≠ d3 := ne_of_none (by rw [upd_ne nl2, upd_ne nl1]; exact l2) hd3
      have nlp : l ≠ p := ne_of_none (by rw [upd_ne nl3, upd_ne nl2, upd_ne nl1]; exact l2) hp
      refine ⟨_, rfl, _, rfl, _, _, rfl, rfl, m1, _, rfl, _, rfl, p, _, _, i, rfl, rfl, upd_same, ixN_nat (by rw [List.length_append, List.length_replicate]; show i < n + 1; omega), ?_⟩
      rw [upd_upd]
      have hps : Hs1 p = none := e4.t.free hp
      have r0' : IsA K Hs1 ((List.replicate n (V.int 0) ++ [V.int ((T : Int) * ((ρs C i : Nat) : Int) / ((pl C i).g.den : Int) * (pl C i).g.num)]).set i (V.int ((T : Int) * ((ρs C i : Nat) : Int)))) (fl (n + 1) fun y => .int (rowW (ρs C i) (T : Rat) (pl C i) n i 0 y).num) := by
        have h0 := (is_rep (K := K) (H := Hs1) n).append (.cons (.int ((T : Int) * ((ρs C i : Nat) : Int) / ((pl C i).g.den : Int) * (pl C i).g.num)) .nil)
        have h1 : IsA K Hs1 (List.replicate n (V.int 0) ++ [V.int ((T : Int) * ((ρs C i : Nat) : Int) / ((pl C i).g.den : Int) * (pl C i).g.num)]) (fl (n + 1) fun y => if y = n then .int ((T : Int) * ((ρs C i : Nat) : Int) / ((pl C i).g.den : Int) * (pl C i).g.num) else .int 0) := by
          rw [fl_snoc, if_pos rfl, fl_congr (g := fun _ => PyData.int 0) fun y hy => if_neg (show ¬ y = n by omega)]
          exact h0
        refine (h1.fset i (.int ((T : Int) * ((ρs C i : Nat) : Int)))).fcongr fun y hy => ?_
        unfold rowW
        rw [List.take_zero, wt_nil, Rat.mul_zero, Rat.mul_zero]
        by_cases c1 : y = i
        · subst c1
          rw [if_pos rfl, if_neg (show ¬ y = n by omega), if_pos rfl]
          congr 1
          symm
          refine numz ?_
          rw [Rat.intCast_mul]
          have h2 : ((T : Int) : Rat) = (T : Rat) := rfl
          have h3 : (((ρs C y : Nat) : Int) : Rat) = (ρs C y : Rat) := rfl
          rw [h2, h3]; grind
        · rw [if_neg c1]
          by_cases c2 : y = n
          · rw [if_pos c2, if_pos c2, eT]
          · rw [if_neg c2, if_neg c2, if_neg (fun z => c1 z.symm)]
            congr 1
            have e9 : (0:Rat) - 0 = 0 := by grind
            rw [e9]; rfl
      have e6 := e5.mut (o := .lst ((List.replicate n (V.int 0) ++ [V.int ((T : Int) * ((ρs C i : Nat) : Int) / ((pl C i).g.den : Int) * (pl C i).g.num)]).set i (V.int ((T : Int) * ((ρs C i : Nat) : Int))))) (.inl hpH) hps
      rw [upd_upd] at e6
      have l6 : (upd (upd (upd (upd H3 d1 (.lst [.int 0])) d2 (.lst (List.replicate n (V.int 0)))) d3 (.lst [.int ((T : Int) * ((ρs C i : Nat) : Int) / ((pl C i).g.den : Int) * (pl C i).g.num)])) p (.lst ((List.replicate n (V.int 0) ++ [V.int ((T : Int) * ((ρs C i : Nat) : Int) / ((pl C i).g.den : Int) * (pl C i).g.num)]).set i (V.int ((T : Int) * ((ρs C i : Nat) : Int)))))) l = some (.lst ys) := by
        rw [upd_ne nlp, upd_ne nl3, upd_ne nl2, upd_ne nl1]; exact l2
      refine ⟨_, rfl, bb, rfl, ⟨bs, SqL.of (e6.t _ _ (e1.s _ _ hbs))⟩, ?_⟩
      refine for_it (walk_list (xs := bs)) (fun k σ H' => ∃ (zs : List V) (y8 y9 : Option V), σ = [some (.ref a), some (.int (T : Int)), some (.ref l), some (.int (i : Nat)), some (.ref ga), some (.str (pl C i).k.s), some (.ref bb), some (.int ((ρs C i : Nat) : Int)), y8, y9, some (.ref p)] ∧ Ext0 Hs H Hs1 H' ∧ H' l = some (.lst ys) ∧ H' p = some (.lst zs) ∧ IsA K Hs1 zs (fl (n + 1) fun y => .int (rowW (ρs C i) (T : Rat) (pl C i) n i k y).num))
        ⟨_, _, _, rfl, e6, l6, upd_same, r0'⟩ (fun k σ H' _ ⟨_, _, _, _, e, _⟩ => SqL.of (e.t _ _ (e1.s _ _ hbs))) ?_ ?_
      · rintro k v σ H5 H5' hk ⟨zs, y8, y9, rfl, e7, l7, p7, hzs⟩ ⟨rfl, hv⟩
        obtain ⟨dd, hdd, iy⟩ := ibs.get' hv
        obtain ⟨br, ebr, rfl⟩ := map_get hdd
        obtain ⟨pp, v1, v2, rfl, hpp, i1, i2⟩ := (show Is K Hs v (.tuple [qd br.1, .int (br.2 : Int)]) from iy).pair
        cases i2.int'
        obtain ⟨ca, rfl, hca⟩ := is_q i1
        have hbm : br ∈ (pl C i).bs := List.mem_of_getElem? ebr
        have hbn := hP.t br hbm
        have hz10 := (hP.one_sz hbm).2
        have bdv : br.1.den ∣ ρs C i := (lcf_dvd _ _).2 br hbm
        have lzs := hzs.flen
        have hca' := sqt_up e7.t (sqt_up e1.s hca)
        obtain ⟨u, eu, iu⟩ := hzs.fget (i := br.2) (by omega)
        cases iu.int'
        have w4 : (((ρs C i : Nat) : Int) / (br.1.den : Int)).natAbs < 2 ^ 13 := by
          rw [Int.natAbs_ediv_of_nonneg (by omega)]
          exact Nat.lt_of_le_of_lt (Nat.div_le_self _ _) hρb
        have w5 : (((T : Int) - 1) * (((ρs C i : Nat) : Int) / (br.1.den : Int))).natAbs < 2 ^ 174 := wide_lt T1b w4
        refine ⟨pp, _, rfl, sqt_up e7.t (sqt_up e1.s hpp), rfl, _, _, rfl, _, _, rfl, rfl, ?_⟩
        refine ⟨_, rfl, _, rfl, p, zs, _, _, rfl, rfl, SqL.of p7, atI_nat eu, ?_⟩
        refine ⟨_, rfl, _, _, rfl, rfl, _, rfl, _, rfl, ca, _, 1, _, rfl, rfl, hca', rfl, _, _, rfl, rfl, wide_div (denpos _) hz10.d (by decide) (by decide), _, _, rfl, rfl, mulw T1b w4 (by decide), _, rfl, ca, _, 0, _, rfl, rfl, hca', rfl, _, _, rfl, rfl, mulw w5 hz10.1 (by decide), ?_⟩
        refine ⟨_, _, rfl, rfl, p, zs, _, br.2, rfl, rfl, p7, ixN_nat (by omega), ?_⟩
        refine ⟨_, _, _, rfl, e7.mut (.inl hpH) hps, by rw [upd_ne nlp]; exact l7, upd_same, ?_⟩
        refine (hzs.fset br.2 (.int _)).fcongr fun y hy => ?_
        by_cases c1 : y = br.2
        · rw [if_pos c1]
          congr 1
          have hyn : ¬ y = n := by omega
          have hi1 : IsI (rowW (ρs C i) (T : Rat) (pl C i) n i k br.2) := by
            unfold rowW
            rw [← c1, if_neg hyn]
            refine IsI.sub ?_ (((IsI.nat T).sub IsI.one).mul ?_)
            · split
              · exact (IsI.nat T).mul (IsI.nat _)
              · exact IsI.zero
            · rw [Rat.mul_comm]
              refine wt_int (fun b hb => ?_) y
              rw [Rat.mul_comm]
              exact dvd_int ((lcf_dvd _ _).2 b ((List.take_sublist _ _).subset hb))
          symm
          refine numz ?_
          rw [Rat.intCast_sub, inum hi1]
          have h5 := dvd_num bdv
          have e8 : ((((T : Int) - 1) * (((ρs C i : Nat) : Int) / (br.1.den : Int)) * br.1.num : Int) : Rat) = ((T : Rat) - 1) * ((ρs C i : Rat) * br.1) := by
            rw [← h5, Int.mul_assoc, Rat.intCast_mul, Rat.intCast_sub]
            rfl
          rw [e8]
          unfold rowW
          rw [← c1, if_neg hyn, if_neg hyn, take_snoc ebr, wt_snoc, if_pos c1.symm]
          grind
        · rw [if_neg c1]
          unfold rowW
          by_cases c2 : y = n
          · rw [if_pos c2, if_pos c2]
          · rw [if_neg c2, if_neg c2, take_snoc ebr, wt_snoc, if_neg (show ¬ br.2 = y from fun z => c1 z.symm), Rat.add_zero]
      · rintro σ H5 ⟨zs, y8, y9, rfl, e7, l7, p7, hzs⟩
        refine ⟨_, rfl, .inl ⟨rfl, _, .inl (.inl l7)⟩, _, rfl, l, ys, _, rfl, rfl, l7, big_lt (by omega), ?_⟩
        have e8 := e7.frz hpH hps p7
        have l8 : (upd Hs1 p (.lst zs)) l = none := by rw [upd_ne nlp]; exact l0
        refine ⟨_, _, _, _, _, _, _, _, _, _, rfl, e8.mut (.inl hl) l8, l8, upd_same, ?_⟩
        rw [fl_snoc _ (fun k => zr (n + 1) (wA n (Pm C) (gm C) (ρs C) (T : Rat) k))]
        refine (iys.up (same_new hps)).append (.cons (.lst upd_same ?_) .nil)
        rw [← rowW_full (Nat.le_of_eq lbs.symm) (T : Rat)]
        exact hzs.up (same_new hps)
  · rintro τ H1 ⟨Hs1, ys, y3, y4, y5, y6, y7, y8, y9, y10, rfl, e1, l0, l1, iys⟩
    rw [lx] at iys
    have hS := hC.stoch
    have ht1 : (1 : Rat) ≤ (T : Rat) := cast_le (show 1 ≤ T by omega)
    have hρ : ∀ x, x < n → 0 < ρs C x := fun x hx => (ρs_le hC hx).1
    have hB : T * 4320 * 1000 ≤ 2 ^ 190 := by
      have h1 := p2mul hT2 (show 4320 * 1000 ≤ 2 ^ 23 by decide)
      have h2 : (2:Nat) ^ (160 + 23) ≤ 2 ^ 190 := Nat.pow_le_pow_right (by decide) (by decide)
      rw [Nat.mul_assoc]
      exact Nat.le_trans h1 h2
    refine ⟨_, rfl, n, T * 4320 * 1000, wA n (Pm C) (gm C) (ρs C) (T : Rat), l, ys, Hs1, rfl, hn, l0, l1, iys, wA_dom hS _ hρ ht1, fun i hi j hj => wA_e hC (by omega) hi hj, by omega, hB, e1.t, fun v Hs2 H2 e2 hv hz => ?_⟩
    exact q v Hs2 H2 _ (e1.hide e2 hl) (wA_answer hS _ hρ ht1) hz hv
end
end Mh
end
section
set_option Elab.async false
set_option linter.all false
set_option maxRecDepth 100000
set_option maxHeartbeats 4000000
set_option exponentiation.threshold 10000
/-! first strategies, switches: the readings -/
namespace Mh
open PySem PySem.Spec PyProof.Rows L2
open C8 (Cal pe_c)
open Evl (ixN_nat)
theorem firstS_ok {n : Nat} {G : List Pl} (hG : GmOk n G) (s : Kd) : StOk s G (firstS s G) := by
  refine ⟨by simp [firstS], fun x hx hk => ⟨0, ?_, ?_⟩, fun x hx hk => ?_⟩
  · simp [firstS, hx, hk]
  · exact List.length_pos_iff.mpr (hG.at (x := x) (by rw [← hG.len]; exact hx)).ne
  · simp [firstS, hx, hk]
theorem Kd.way_or {s : Kd} (h : s ≠ .draw) : s.way = 1 ∨ s.way = -1 := by
  cases s
  · exact absurd rfl h
  · exact .inl rfl
  · exact .inr rfl
theorem cmp_way2 {a b : Rat} {way : Int} (hw : way = 1 ∨ way = -1) : (cmpq a b = way) ↔ (way : Rat) * b < (way : Rat) * a := by
  have e1 : ((1 : Int) : Rat) = 1 := rfl
  have e2 : ((-1 : Int) : Rat) = -1 := rfl
  unfold cmpq
  rcases hw with rfl | rfl
  · rw [e1, Rat.one_mul, Rat.one_mul]
    split
    · constructor
      · intro h; exact absurd h (by decide)
      · intro h; grind
    · split
      · exact ⟨fun _ => by assumption, fun _ => rfl⟩
      · constructor
        · intro h; exact absurd h (by decide)
        · intro h; grind
  · rw [e2]
    split
    · exact ⟨fun _ => by grind, fun _ => rfl⟩
    · split
      · constructor
        · intro h; exact absurd h (by decide)
        · intro h; grind
      · constructor
        · intro h; exact absurd h (by decide)
        · intro h; grind
theorem told_of {σ : List (Option Nat)} {x b : Nat} (h : σ[x]? = some (some b)) : told σ x = b := by simp [told, List.getD, h]
/-- what a changed place is -/
structure SwP (s : Kd) (G : List Pl) (σ τ : List (Option Nat)) (w : Nat → Rat) (x : Nat) : Prop where
  yes : (pl G x).k = s → ∃ b, τ[x]? = some (some b) ∧ b < (pl G x).bs.length ∧ (∀ c ∈ (pl G x).bs, (s.way : Rat) * w c.2 ≤ (s.way : Rat) * w (tg G x b)) ∧ (b = told σ x ∨ (s.way : Rat) * w (tg G x (told σ x)) < (s.way : Rat) * w (tg G x b))
  no : (pl G x).k ≠ s → τ[x]? = some none
theorem SwP.all {n : Nat} {s : Kd} {G : List Pl} {σ τ : List (Option Nat)} {w : Nat → Rat} (hl : G.length = n) (ht : τ.length = n) (h : ∀ x, x < n → SwP s G σ τ w x) : Swt n s G σ τ w := by
  refine ⟨⟨by rw [ht, hl], fun x hx hk => ?_, fun x hx hk => (h x (by omega)).no hk⟩, fun x hx hk c hc => ?_, fun x hx hk => ?_⟩
  · obtain ⟨b, h1, h2, _⟩ := (h x (by omega)).yes hk
    exact ⟨b, h1, h2⟩
  · obtain ⟨b, h1, h2, h3, _⟩ := (h x hx).yes hk
    rw [told_of h1]
    exact h3 c hc
  · obtain ⟨b, h1, h2, _, h4⟩ := (h x hx).yes hk
    rw [told_of h1]
    exact h4
section
variable {K : PySem.W.Frag}
theorem h42 (vs : List V) (H : Hp) (Q : VK) (E : XK) (h : sp42 K vs H Q E) : t42 K { nx := fun _ H' => Q .non H', rt := Q } (start n42 vs) H := by
  obtain ⟨G, s, x, Hs, rfl, hl, hx, st, q⟩ := h
  obtain ⟨a, xs, rfl, ha, hxs⟩ := is_gd hx
  have lx := hxs.flen
  refine ⟨_, rfl, a, rfl, ⟨xs, SqL.of (st _ _ ha)⟩, fun D hD => ?_⟩
  refine lc_map (K := K) (n := xs.length) (walk_list (xs := xs)) st (fun H' s => SqL.of (s _ _ ha)) hD (fun i => od (if (pl G i).k = s then some 0 else none)) (by omega) ?_ ?_
  · rintro i v Hs2 H2 H2' C' hi e2 d0 ⟨rfl, hv⟩ kk
    obtain ⟨hi2, ix⟩ := hxs.fget' hv
    obtain ⟨c, g, bb, bs, rfl, hc, ig, hbs, ibs⟩ := is_pd ix
    refine ⟨rfl, _, rfl, c, _, 1, _, rfl, rfl, sqt_up e2.t (sqt_up e2.s hc), rfl, _, rfl, rfl, _, rfl, ?_⟩
    rw [kd_eq]
    by_cases hk : (pl G i).k = s
    · rw [decide_eq_true hk]
      refine iteT ?_
      refine kk _ Hs2 _ (Ext.refl e2.t) ?_
      rw [if_pos hk]
      exact .int ((0 : Nat) : Int)
    · rw [decide_eq_false hk]
      refine iteF ?_
      refine kk _ Hs2 _ (Ext.refl e2.t) ?_
      rw [if_neg hk]
      exact .non
  · intro Hs2 H2 ws e d0 d1 hw
    refine q _ _ _ (e.frz hD d0 d1) (.lst upd_same ?_)
    rw [lx] at hw
    unfold firstS
    rw [List.map_map]
    exact hw.up (same_new d0)
theorem h43 (vs : List V) (H : Hp) (Q : VK) (E : XK) (h : sp43 K vs H Q E) : t43 K { nx := fun _ H' => Q .non H', rt := Q } (start n43 vs) H := by
  obtain ⟨n, G, s, σ, w, x, y, z, Hs, rfl, hG, hn, hs, hσ, hw, hx, hy, hz, st, q⟩ := h
  obtain ⟨a, xs, rfl, ha, hxs⟩ := is_gd hx
  obtain ⟨b, us, rfl, hb, hus⟩ := hy.list
  obtain ⟨c, ns, rfl, hc, hns⟩ := is_vd hz
  have lx : xs.length = n := by rw [hxs.flen, hG.len]
  have lσ : σ.length = n := by rw [hσ.len, hG.len]
  have lus : us.length = n := by rw [hus.len, List.length_map, lσ]
  have hway := Kd.way_or hs
  have go : (tSeq (tAsg (tCB (rListQ K) (tCons (tVar 2) tNil)) (gName 5))
    (tSeq (tFor (iEnum K (tCons (tVar 0) tNil)) (gTup K 2 (gCons (gName 6) (gCons (gTup K 3 (gCons (gName 7) (gCons (gName 8) (gCons (gName 9) gNil)))) gNil)))
      (tIfS (tTest (tOp rEq (tVar 8) (tVar 1))) (tFor (iEnum K (tCons (tVar 9) tNil)) (gTup K 2 (gCons (gName 10) (gCons (gName 11) gNil)))
      (tIfS (tTest (tOp rEq (tCall (sp5 K) [] E0 (tCons (tOp (rIxL K) (tVar 3) (tVar 11)) (tCons (tOp (rIxL K) (tVar 3) (tOp (rIxL K) (tVar 9) (tOp (rIxL K) (tVar 5) (tVar 6)))) tNil))) (tVar 4))) (tAsg (tVar 10) (gSub (tVar 5) (tVar 6) rSetL)) tNext)) tNext))
    (tRet (tVar 5)))) { nx := fun _ H' => Q .non H', rt := Q } [some (.ref a), some (.str s.s), some (.ref b), some (.ref c), some (.int s.way), none, none, none, none, none, none, none] H := by
    refine ⟨_, rfl, b, us, rfl, .inl (SqL.of (st _ _ hb)), fun f hf => ?_⟩
    have e0 : Ext0 Hs H Hs (upd H f (.lst us)) := (Ext.refl st).newM hf
    refine ⟨_, rfl, a, xs, rfl, SqL.of (e0.t _ _ ha), ?_⟩
    refine for_it (walk_enum (xs := xs)) (fun i τ' H' => ∃ (Hs' : Hp) (ys : List V) (τ : List (Option Nat)) (y6 y7 y8 y9 y10 y11 : Option V), τ' = [some (.ref a), some (.str s.s), some (.ref b), some (.ref c), some (.int s.way), some (.ref f), y6, y7, y8, y9, y10, y11] ∧ Ext0 Hs H Hs' H' ∧ Hs' f = none ∧ H' f = some (.lst ys) ∧ IsA K Hs' ys (τ.map od) ∧ τ.length = n ∧ (∀ x, i ≤ x → τ[x]? = σ[x]?) ∧ ∀ x, x < i → SwP s G σ τ w x)
      ⟨Hs, us, σ, _, _, _, _, _, _, rfl, e0, st.free hf, upd_same, hus, lσ, fun _ _ => rfl, fun x hx => absurd hx (by omega)⟩ (fun i τ H' _ ⟨Hs', _, _, _, _, _, _, _, _, _, e, _⟩ => SqL.of (e.t _ _ (e.s _ _ ha))) ?_ ?_
    · rintro i x τ' H1 H1' hi ⟨Hs1, ys, τ, y6, y7, y8, y9, y10, y11, rfl, e1, l0, l1, iys, lτ, hrest, hdone⟩ ⟨T', x1, x2, rfl, hT, rfl, ex1, ex2⟩
      cases ex1
      obtain ⟨hi2, ix2⟩ := hxs.fget' ex2
      rw [hG.len] at hi2
      have hP := hG.at hi2
      obtain ⟨cp, gq, bb, bs, rfl, hcp, ig, hbs, ibs⟩ := is_pd ix2
      have hTl : f ≠ T' := ne_of_none l1 hT
      have e2 : Ext0 Hs H Hs1 (upd H1 T' (.tup [.int (i : Nat), .ref cp])) := e1.newM hT
      have l2 : (upd H1 T' (.tup [.int (i : Nat), .ref cp])) f = some (.lst ys) := by rw [upd_ne hTl]; exact l1
      refine ⟨T', _, rfl, SqT.of upd_same, rfl, _, _, rfl, _, _, rfl, cp, _, rfl, sqt_up e2.t (sqt_up e1.s hcp), rfl, _, _, rfl, _, _, rfl, _, _, rfl, rfl, rfl, ?_⟩
      refine ⟨_, rfl, _, rfl, rfl, _, rfl, ?_⟩
      rw [kd_eq]
      by_cases hk : (pl G i).k = s
      · rw [decide_eq_true hk]
        refine iteT ?_
        obtain ⟨b0, eb0, hb0⟩ := hσ.at_ i (by rw [hG.len]; exact hi2) hk
        have ebd : (pl G i).bs.map (bd (pl G i).k) = (pl G i).bs.map fun b => PyData.int ((b.2 : Nat) : Int) := List.map_congr_left fun b _ => by
          cases hk2 : (pl G i).k with
          | draw => exact absurd (hk.symm.trans hk2) hs
          | ours => rfl
          | theirs => rfl
        rw [ebd] at ibs
        have lbs : bs.length = (pl G i).bs.length := by rw [ibs.len, List.length_map]
        have hbs2 := e2.t _ _ (e1.s _ _ hbs)
        refine ⟨_, rfl, bb, bs, rfl, SqL.of hbs2, ?_⟩
        refine for_it (walk_enum (xs := bs)) (fun j τ' H' => ∃ (ys : List V) (τ2 : List (Option Nat)) (bj : Nat) (y10 y11 : Option V), τ' = [some (.ref a), some (.str s.s), some (.ref b), some (.ref c), some (.int s.way), some (.ref f), some (.int (i : Nat)), some gq, some (.str (pl G i).k.s), some (.ref bb), y10, y11] ∧ Ext0 Hs H Hs1 H' ∧ H' f = some (.lst ys) ∧ IsA K Hs1 ys (τ2.map od) ∧ τ2 = τ.set i (some bj) ∧ bj < (pl G i).bs.length ∧ (∀ j' c, j' < j → (pl G i).bs[j']? = some c → (s.way : Rat) * w c.2 ≤ (s.way : Rat) * w (tg G i bj)) ∧ (bj = told σ i ∨ (s.way : Rat) * w (tg G i (told σ i)) < (s.way : Rat) * w (tg G i bj)))
          ⟨ys, τ, b0, _, _, rfl, e2, l2, iys, ?_, hb0, fun j' c hj' => absurd hj' (by omega), .inl (told_of eb0).symm⟩ (fun j τ H' _ ⟨_, _, _, _, _, _, e, _⟩ => SqL.of (e.t _ _ (e1.s _ _ hbs))) ?_ ?_
        · have := hrest i (Nat.le_refl i)
          rw [eb0] at this
          apply List.ext_getElem?
          intro x
          rw [List.getElem?_set]
          by_cases c1 : i = x
          · subst c1
            rw [if_pos rfl, if_pos (by omega)]; exact this
          · rw [if_neg c1]
        · rintro j v τ' H3 H3' hj ⟨ys, τ2, bj, y10, y11, rfl, e3, l3, iys2, eτ, hbj, hlow, hor⟩ ⟨T3, v1, v2, rfl, hT3, rfl, ev1, ev2⟩
          cases ev1
          obtain ⟨dd, hdd, iv2⟩ := ibs.get' ev2
          obtain ⟨br, ebr, rfl⟩ := map_get hdd
          cases iv2.int'
          have hbrn := hP.t br (List.mem_of_getElem? ebr)
          have hTf : f ≠ T3 := ne_of_none l3 hT3
          have e4 := e3.newM (o := .tup [.int (j : Nat), .int (br.2 : Int)]) hT3
          have l4 : (upd H3 T3 (.tup [.int (j : Nat), .int (br.2 : Int)])) f = some (.lst ys) := by rw [upd_ne hTf]; exact l3
          have hτi : τ2[i]? = some (some bj) := by rw [eτ, List.getElem?_set, if_pos rfl, if_pos (by omega)]
          obtain ⟨vτ, evτ, ivτ⟩ := iys2.get (show (τ2.map od)[i]? = some (od (some bj)) by rw [List.getElem?_map, hτi]; rfl)
          cases ivτ.int'
          have etg : tg G i bj = ((pl G i).bs[bj]).2 := by simp [tg, List.getD, hbj]
          obtain ⟨vb, evb, ivb⟩ := ibs.get (show ((pl G i).bs.map fun b => PyData.int ((b.2 : Nat) : Int))[bj]? = some (.int ((tg G i bj : Nat) : Int)) by rw [List.getElem?_map, List.getElem?_eq_getElem hbj, etg]; rfl)
          cases ivb.int'
          have htn := tg_lt hG hi2 hbj
          obtain ⟨u1, eu1, iu1⟩ := hns.fget hbrn
          obtain ⟨u2, eu2, iu2⟩ := hns.fget htn
          have hc4 := e4.t _ _ (e1.s _ _ hc)
          have lys2 : ys.length = n := by rw [iys2.len, List.length_map, eτ, List.length_set, lτ]
          refine ⟨T3, _, rfl, SqT.of upd_same, rfl, _, _, rfl, _, _, rfl, rfl, ?_⟩
          refine ⟨_, rfl, _, rfl, c, ns, _, u1, rfl, rfl, SqL.of hc4, atI_nat eu1, ?_⟩
          refine ⟨_, rfl, _, rfl, _, rfl, _, rfl, f, ys, _, _, rfl, rfl, SqL.of l4, atI_nat evτ, bb, bs, _, _, rfl, rfl, SqL.of (e4.t _ _ (e1.s _ _ hbs)), atI_nat evb, c, ns, _, u2, rfl, rfl, SqL.of hc4, atI_nat eu2, ?_⟩
          refine ⟨w br.2, w (tg G i bj), 1000, 1000, u1, u2, rfl, (iu1.up e1.s).up e4.t, (iu2.up e1.s).up e4.t, hw _ hbrn, hw _ htn, by decide, ?_⟩
          refine ⟨_, rfl, rfl, _, rfl, ?_⟩
          by_cases cw : cmpq (w br.2) (w (tg G i bj)) = s.way
          · rw [decide_eq_true (by rw [cw])]
            refine iteT ?_
            have hlt := (cmp_way2 hway).mp cw
            obtain ⟨hjl, ejb⟩ := List.getElem?_eq_some_iff.mp ebr
            have etj : tg G i j = br.2 := by simp [tg, List.getD, ebr]
            refine ⟨_, rfl, _, rfl, _, rfl, f, ys, _, i, rfl, rfl, l4, ixN_nat (by omega), ?_⟩
            refine ⟨_, τ2.set i (some j), j, _, _, rfl, e4.mut (.inl hf) l0, upd_same, ?_, ?_, hjl, fun j' c' hj' ec' => ?_, ?_⟩
            · have := iys2.set i (.int ((j : Nat) : Int))
              rw [show PyData.int ((j : Nat) : Int) = od (some j) from rfl, ← List.map_set] at this
              exact this
            · rw [eτ, List.set_set]
            · rw [etj]
              by_cases c1 : j' = j
              · subst c1
                rw [ebr] at ec'
                cases ec'
                exact Rat.le_refl
              · have := hlow j' c' (by omega) ec'
                grind
            · right
              rw [etj]
              rcases hor with q1 | q1
              · rw [← q1]; exact hlt
              · grind
          · rw [decide_eq_false (fun z => cw (V.int.inj z))]
            refine iteF ?_
            have hge := fun z => cw ((cmp_way2 hway).mpr z)
            refine ⟨ys, τ2, bj, _, _, rfl, e4, l4, iys2, eτ, hbj, fun j' c' hj' ec' => ?_, hor⟩
            by_cases c1 : j' = j
            · subst c1
              rw [ebr] at ec'
              cases ec'
              grind
            · exact hlow j' c' (by omega) ec'
        · rintro τ' H3 ⟨ys, τ2, bj, y10, y11, rfl, e3, l3, iys2, eτ, hbj, hlow, hor⟩
          have gset : ∀ x, x ≠ i → τ2[x]? = τ[x]? := fun x hx => by rw [eτ, List.getElem?_set, if_neg (fun z => hx z.symm)]
          have gi : τ2[i]? = some (some bj) := by rw [eτ, List.getElem?_set, if_pos rfl, if_pos (by omega)]
          refine ⟨Hs1, ys, τ2, _, _, _, _, _, _, rfl, e3, l0, l3, iys2, by rw [eτ, List.length_set, lτ], fun x hx => by rw [gset x (by omega)]; exact hrest x (by omega), fun x hx => ?_⟩
          by_cases c1 : x = i
          · subst c1
            refine ⟨fun _ => ⟨bj, gi, hbj, fun c' hc' => ?_, hor⟩, fun z => absurd hk z⟩
            obtain ⟨j', hj', ej'⟩ := List.getElem_of_mem hc'
            exact hlow j' c' (by omega) (by rw [List.getElem?_eq_getElem hj', ej'])
          · have := hdone x (by omega)
            exact ⟨fun h => by rw [gset x c1]; exact this.yes h, fun h => by rw [gset x c1]; exact this.no h⟩
      · rw [decide_eq_false hk]
        refine iteF ?_
        refine ⟨Hs1, ys, τ, _, _, _, _, _, _, rfl, e2, l0, l2, iys, lτ, fun x hx => hrest x (by omega), fun x hx => ?_⟩
        by_cases c1 : x = i
        · subst c1
          exact ⟨fun z => absurd z hk, fun _ => by rw [hrest x (Nat.le_refl x)]; exact hσ.no x (by rw [hG.len]; exact hi2) hk⟩
        · exact hdone x (by omega)
    · rintro τ' H1 ⟨Hs1, ys, τ, y6, y7, y8, y9, y10, y11, rfl, e1, l0, l1, iys, lτ, hrest, hdone⟩
      rw [lx] at hdone
      refine ⟨_, rfl, ?_⟩
      exact q _ _ _ τ (e1.frz hf l0 l1) (SwP.all hG.len lτ hdone) (.lst upd_same (iys.up (same_new l0)))
  refine ⟨_, rfl, rfl, _, rfl, ?_⟩
  have ek : decide (V.str s.s = V.str (PySem.Str.ofString "ours")) = decide (s = .ours) := kd_eq _ .ours
  rw [ek]
  by_cases hk : s = .ours
  · rw [decide_eq_true hk]
    refine iteT ?_
    have : s.way = 1 := by rw [hk]; rfl
    rw [this] at go
    exact go
  · rw [decide_eq_false hk]
    refine iteF ?_
    have : s.way = -1 := by
      cases s
      · exact absurd rfl hs
      · exact absurd rfl hk
      · rfl
    rw [this] at go
    exact ⟨_, rfl, go⟩
end
end Mh
end
section
set_option linter.unusedVariables false
set_option exponentiation.threshold 10000
/-! strategies put in, improvement, lifts: plain -/
namespace Mh
section
variable {n : Nat} {G : List Pl} {σ τ : List (Option Nat)}
theorem both_len (G : List Pl) (σ τ : List (Option Nat)) : (both G σ τ).length = G.length := by unfold both; rw [putIn_len, putIn_len]
theorem pl_both_draw {x : Nat} (hx : x < G.length) (hk : (pl G x).k = .draw) : pl (both G σ τ) x = pl G x := by
  unfold both
  rw [pl_putIn _ _ _ (by rw [putIn_len]; exact hx)]
  have h1 : pl (putIn .ours σ G) x = pl G x := by rw [pl_putIn _ _ _ hx]; unfold putP; rw [if_neg (by rw [hk]; decide)]
  unfold putP
  rw [h1, if_neg (by rw [hk]; decide)]
theorem pl_both_ours {x : Nat} (hx : x < G.length) (hk : (pl G x).k = .ours) : pl (both G σ τ) x = ⟨(pl G x).g, .draw, [(1, tg G x (told σ x))]⟩ := by
  unfold both
  rw [pl_putIn _ _ _ (by rw [putIn_len]; exact hx)]
  have h1 : pl (putIn .ours σ G) x = ⟨(pl G x).g, .draw, [(1, tg G x (told σ x))]⟩ := by rw [pl_putIn _ _ _ hx]; unfold putP; rw [if_pos hk]; rfl
  unfold putP
  rw [h1, if_neg (show ¬ Kd.draw = Kd.theirs by decide)]
theorem pl_both_theirs {x : Nat} (hx : x < G.length) (hk : (pl G x).k = .theirs) : pl (both G σ τ) x = ⟨(pl G x).g, .draw, [(1, tg G x (told τ x))]⟩ := by
  unfold both
  rw [pl_putIn _ _ _ (by rw [putIn_len]; exact hx)]
  have h1 : pl (putIn .ours σ G) x = pl G x := by rw [pl_putIn _ _ _ hx]; unfold putP; rw [if_neg (by rw [hk]; decide)]
  unfold putP tg
  rw [h1, if_pos hk]
  rfl
theorem pl_out {x : Nat} (hx : G.length ≤ x) : pl G x = ⟨0, .draw, []⟩ := by simp [pl, List.getD, hx]
theorem gm_both : gm (both G σ τ) = gm G := by
  funext x
  unfold gm
  by_cases hx : x < G.length
  · cases hk : (pl G x).k with
    | draw => rw [pl_both_draw hx hk]
    | ours => rw [pl_both_ours hx hk]
    | theirs => rw [pl_both_theirs hx hk]
  · rw [pl_out (by rw [both_len]; omega), pl_out (by omega)]
theorem one_ok {p : Pl} (h : PgOk n p) {y : Nat} (hy : y < n) : PlOk n ⟨p.g, .draw, [(1, y)]⟩ := by
  refine ⟨rfl, fun b hb => ?_, fun b hb => ?_, by show (1:Rat) + 0 = 1; grind, ⟨1, by decide, by decide, fun b hb => ?_⟩, h.gi, h.gb, h.gd, by show 1 ≤ 6; decide⟩
  · cases List.mem_singleton.mp hb; exact hy
  · cases List.mem_singleton.mp hb; show (0:Rat) < 1; grind
  · cases List.mem_singleton.mp hb; exact IsI.one.mul IsI.one
theorem StOk.told_lt {s : Kd} (h : StOk s G σ) {x : Nat} (hx : x < G.length) (hk : (pl G x).k = s) : told σ x < (pl G x).bs.length := by
  obtain ⟨b, eb, hb⟩ := h.at_ x hx hk
  rw [told_of eb]; exact hb
theorem both_ok (hG : GmOk n G) (hσ : StOk .ours G σ) (hτ : StOk .theirs G τ) : ChOk n (both G σ τ) := by
  refine ⟨by rw [both_len, hG.len], fun p hp => ?_⟩
  obtain ⟨x, hx, ex⟩ := List.getElem_of_mem hp
  have e : p = pl (both G σ τ) x := by rw [← ex]; simp [pl, List.getD, hx]
  have hx2 : x < G.length := by rw [both_len] at hx; exact hx
  have hxn : x < n := by rw [← hG.len]; exact hx2
  rw [e]
  cases hk : (pl G x).k with
  | draw => rw [pl_both_draw hx2 hk]; exact (hG.at hxn).dr hk
  | ours => rw [pl_both_ours hx2 hk]; exact one_ok (hG.at hxn) (tg_lt hG hxn (hσ.told_lt hx2 hk))
  | theirs => rw [pl_both_theirs hx2 hk]; exact one_ok (hG.at hxn) (tg_lt hG hxn (hτ.told_lt hx2 hk))
theorem mnb_one (g : Rat) (k : Kd) (y : Nat) (v : Nat → Rat) : mnb ⟨g, k, [(1, y)]⟩ v = v y := by
  show 1 * v y + 0 = v y; grind
theorem mn_mnb {C : List Pl} (hC : ChOk n C) {x : Nat} (hx : x < n) (v : Nat → Rat) : mn n (Pm C) v x = mnb (pl C x) v := hC.mean hx v
theorem mn_draw (hG : GmOk n G) (hσ : StOk .ours G σ) (hτ : StOk .theirs G τ) {x : Nat} (hx : x < n) (hk : (pl G x).k = .draw) (v : Nat → Rat) : mn n (Pm (both G σ τ)) v x = mnb (pl G x) v := by
  rw [mn_mnb (both_ok hG hσ hτ) hx, pl_both_draw (by rw [hG.len]; exact hx) hk]
theorem mn_ours (hG : GmOk n G) (hσ : StOk .ours G σ) (hτ : StOk .theirs G τ) {x : Nat} (hx : x < n) (hk : (pl G x).k = .ours) (v : Nat → Rat) : mn n (Pm (both G σ τ)) v x = v (tg G x (told σ x)) := by
  rw [mn_mnb (both_ok hG hσ hτ) hx, pl_both_ours (by rw [hG.len]; exact hx) hk, mnb_one]
theorem mn_theirs (hG : GmOk n G) (hσ : StOk .ours G σ) (hτ : StOk .theirs G τ) {x : Nat} (hx : x < n) (hk : (pl G x).k = .theirs) (v : Nat → Rat) : mn n (Pm (both G σ τ)) v x = v (tg G x (told τ x)) := by
  rw [mn_mnb (both_ok hG hσ hτ) hx, pl_both_theirs (by rw [hG.len]; exact hx) hk, mnb_one]
/-! ### worths as a function -/
open Classical in
noncomputable def worth (n : Nat) (C : List Pl) (t : Rat) : Nat → Rat := if h : ∃ w, IsW n (Pm C) (gm C) t w then Classical.choose h else fun _ => 0
theorem worth_is {C : List Pl} (hC : ChOk n C) {t : Rat} (ht : 1 ≤ t) : IsW n (Pm C) (gm C) t (worth n C t) := by
  have h := ex_w hC.stoch (gm C) ht
  unfold worth
  rw [dif_pos h]
  exact Classical.choose_spec h
theorem worth_eq {C : List Pl} (hC : ChOk n C) {t : Rat} (ht : 1 ≤ t) {w : Nat → Rat} (hw : IsW n (Pm C) (gm C) t w) {x : Nat} (hx : x < n) : w x = worth n C t x := IsW.uniq hC.stoch ht hw (worth_is hC ht) x hx
/-! ### a change makes it better -/
theorem sm_lt {m : Nat} {f g : Nat → Rat} (h : ∀ i, i < m → f i ≤ g i) {j : Nat} (hj : j < m) (hlt : f j < g j) : sm m f < sm m g := by
  have := sm_pos (n := m) (f := fun i => g i - f i) (fun i hi => by have := h i hi; grind) hj (by grind)
  rw [sm_sub] at this
  grind
theorem better {P P' : Mat} (S : Stoch n P) (S' : Stoch n P') {r w w' : Nat → Rat} {t : Rat} {way : Int} (hway : way = 1 ∨ way = -1) (ht : 1 < t) (hw : IsW n P r t w) (hw' : IsW n P' r t w') (h : ∀ x, x < n → (way : Rat) * mn n P w x ≤ (way : Rat) * mn n P' w x)
    {x : Nat} (hx : x < n) (hlt : (way : Rat) * mn n P w x < (way : Rat) * mn n P' w x) : sm n (fun y => (way : Rat) * w y) < sm n (fun y => (way : Rat) * w' y) := by
  have e1 : ((1 : Int) : Rat) = 1 := rfl
  have e2 : ((-1 : Int) : Rat) = -1 := rfl
  rcases hway with rfl | rfl
  · rw [e1] at h hlt ⊢
    obtain ⟨h1, h2⟩ := improve S S' ht hw hw' fun x hx => by have := h x hx; grind
    refine sm_lt (fun y hy => by have := h1 y hy; grind) hx ?_
    have := h2 x hx (by grind)
    grind
  · rw [e2] at h hlt ⊢
    have neg : ∀ {P : Mat} {w : Nat → Rat}, IsW n P r t w → IsW n P (fun x => - r x) t (fun x => - w x) := fun {P w} hw x hx => by
      have := hw x hx
      rw [mn_neg]
      show t * - w x = t * - r x + (t - 1) * - mn n P w x
      grind
    obtain ⟨h1, h2⟩ := improve S S' ht (neg hw) (neg hw') fun x hx => by rw [mn_neg, mn_neg]; have := h x hx; grind
    refine sm_lt (fun y hy => by have := h1 y hy; grind) hx ?_
    have := h2 x hx (by rw [mn_neg, mn_neg]; grind)
    grind
/-! ### finitely many strategies -/
def cnt {α : Type} (f : α → Rat) (L : List α) (c : Rat) : Nat := (L.filter fun a => decide (c < f a)).length
theorem cnt_le {α : Type} (f : α → Rat) {c d : Rat} (h : c ≤ d) : ∀ L : List α, cnt f L d ≤ cnt f L c
  | [] => Nat.le_refl _
  | a :: L => by
    have ih := cnt_le f h L
    unfold cnt at ih ⊢
    by_cases c1 : d < f a
    · rw [List.filter_cons_of_pos (by simpa using c1), List.filter_cons_of_pos (by simpa using (show c < f a by grind)), List.length_cons, List.length_cons]
      omega
    · rw [List.filter_cons_of_neg (by simpa using c1)]
      by_cases c2 : c < f a
      · rw [List.filter_cons_of_pos (by simpa using c2), List.length_cons]; omega
      · rw [List.filter_cons_of_neg (by simpa using c2)]; exact ih
theorem cnt_lt {α : Type} (f : α → Rat) {c : Rat} {a : α} : ∀ {L : List α}, a ∈ L → c < f a → cnt f L (f a) < cnt f L c
  | b :: L, ha, h => by
    have key := cnt_le f (Rat.le_of_lt h) L
    by_cases e : a = b
    · subst e
      unfold cnt at key ⊢
      rw [List.filter_cons_of_neg (by simp), List.filter_cons_of_pos (by simpa using h), List.length_cons]
      omega
    · have ha2 : a ∈ L := by
        rcases List.mem_cons.mp ha with q | q
        · exact absurd q e
        · exact q
      have ih := cnt_lt f ha2 h
      unfold cnt at ih ⊢
      by_cases c1 : f a < f b
      · rw [List.filter_cons_of_pos (by simpa using c1), List.filter_cons_of_pos (by simpa using (show c < f b by grind)), List.length_cons, List.length_cons]
        omega
      · rw [List.filter_cons_of_neg (by simpa using c1)]
        by_cases c2 : c < f b
        · rw [List.filter_cons_of_pos (by simpa using c2), List.length_cons]; omega
        · rw [List.filter_cons_of_neg (by simpa using c2)]; exact ih
def opts : List (Option Nat) := none :: (List.range 6).map some
def allS : Nat → List (List (Option Nat))
  | 0 => [[]]
  | n + 1 => opts.flatMap fun o => (allS n).map (o :: ·)
theorem mem_allS : ∀ (σ : List (Option Nat)), (∀ o ∈ σ, o ∈ opts) → σ ∈ allS σ.length
  | [], _ => by simp [allS]
  | o :: σ, h => by
    have ih := mem_allS σ fun p hp => h p (by simp [hp])
    exact List.mem_flatMap.mpr ⟨o, h o (by simp), List.mem_map.mpr ⟨σ, ih, rfl⟩⟩
theorem StOk.mem {s : Kd} (hG : GmOk n G) (h : StOk s G σ) : σ ∈ allS n := by
  have e : σ.length = n := by rw [h.len, hG.len]
  have := mem_allS σ fun o ho => by
    obtain ⟨x, hx, ex⟩ := List.getElem_of_mem ho
    have hx2 : x < G.length := by rw [← h.len]; exact hx
    have ex2 : σ[x]? = some o := by rw [List.getElem?_eq_getElem hx, ex]
    by_cases hk : (pl G x).k = s
    · obtain ⟨b, eb, hb⟩ := h.at_ x hx2 hk
      rw [eb] at ex2
      cases ex2
      have := (hG.at (x := x) (by rw [← hG.len]; exact hx2)).br
      exact List.mem_cons_of_mem _ (List.mem_map.mpr ⟨b, List.mem_range.mpr (by omega), rfl⟩)
    · have := h.no x hx2 hk
      rw [this] at ex2
      cases ex2
      exact List.mem_cons_self
  rw [e] at this
  exact this
theorem StOk.ext {s : Kd} (h : StOk s G σ) (g : StOk s G τ) (e : ∀ x, x < G.length → (pl G x).k = s → told σ x = told τ x) : σ = τ := by
  apply List.ext_getElem?
  intro x
  by_cases hx : x < G.length
  · by_cases hk : (pl G x).k = s
    · obtain ⟨b, eb, _⟩ := h.at_ x hx hk
      obtain ⟨c, ec, _⟩ := g.at_ x hx hk
      have := e x hx hk
      rw [told_of eb, told_of ec] at this
      rw [eb, ec, this]
    · rw [h.no x hx hk, g.no x hx hk]
  · rw [List.getElem?_eq_none (by rw [h.len]; omega), List.getElem?_eq_none (by rw [g.len]; omega)]
/-- how many are better still, theirs -/
noncomputable def msT (n : Nat) (G : List Pl) (σ : List (Option Nat)) (t : Rat) (τ : List (Option Nat)) : Nat := cnt (fun ρ => sm n fun x => ((-1 : Int) : Rat) * worth n (both G σ ρ) t x) (allS n) (sm n fun x => ((-1 : Int) : Rat) * worth n (both G σ τ) t x)
noncomputable def msO (n : Nat) (G : List Pl) (τ : List (Option Nat)) (t : Rat) (σ : List (Option Nat)) : Nat := cnt (fun ρ => sm n fun x => ((1 : Int) : Rat) * worth n (both G ρ τ) t x) (allS n) (sm n fun x => ((1 : Int) : Rat) * worth n (both G σ τ) t x)
theorem msT_lt (hG : GmOk n G) (hσ : StOk .ours G σ) (hτ : StOk .theirs G τ) {t : Rat} (ht : 1 < t) {w : Nat → Rat} (hw : IsW n (Pm (both G σ τ)) (gm G) t w) {ρ : List (Option Nat)} (hs : Swt n .theirs G τ ρ w) (hne : ρ ≠ τ) : msT n G σ t ρ < msT n G σ t τ := by
  have h1 := both_ok hG hσ hτ
  have h2 := both_ok hG hσ hs.ok
  have t1 : 1 ≤ t := Rat.le_of_lt ht
  have hww : IsW n (Pm (both G σ τ)) (gm (both G σ τ)) t w := by rw [gm_both]; exact hw
  have e : sm n (fun x => ((-1 : Int) : Rat) * worth n (both G σ τ) t x) = sm n (fun x => ((-1 : Int) : Rat) * w x) := sm_congr fun x hx => by rw [worth_eq h1 t1 hww hx]
  unfold msT
  refine cnt_lt (fun ρ => sm n fun x => ((-1 : Int) : Rat) * worth n (both G σ ρ) t x) (hs.ok.mem hG) ?_
  rw [e]
  obtain ⟨x, hx, hk, hd⟩ : ∃ x, x < G.length ∧ (pl G x).k = .theirs ∧ told ρ x ≠ told τ x := by
    refine Classical.byContradiction fun hc => hne (hs.ok.ext hτ fun x hx hk => Classical.byContradiction fun hd => hc ⟨x, hx, hk, hd⟩)
  have hxn : x < n := by rw [← hG.len]; exact hx
  have hw2 := worth_is h2 t1
  rw [gm_both] at hw2
  refine better h1.stoch h2.stoch (.inr rfl) ht hw hw2 (fun y hy => ?_) hxn ?_
  · cases hky : (pl G y).k with
    | draw => rw [mn_draw hG hσ hτ hy hky, mn_draw hG hσ hs.ok hy hky]; exact Rat.le_refl
    | ours => rw [mn_ours hG hσ hτ hy hky, mn_ours hG hσ hs.ok hy hky]; exact Rat.le_refl
    | theirs =>
      rw [mn_theirs hG hσ hτ hy hky, mn_theirs hG hσ hs.ok hy hky]
      rcases hs.ch y hy hky with q | q
      · rw [q]; exact Rat.le_refl
      · exact Rat.le_of_lt q
  · rw [mn_theirs hG hσ hτ hxn hk, mn_theirs hG hσ hs.ok hxn hk]
    rcases hs.ch x hxn hk with q | q
    · exact absurd q hd
    · exact q
theorem msO_lt (hG : GmOk n G) (hσ : StOk .ours G σ) (hτ : StOk .theirs G τ) {t : Rat} (ht : 1 < t) {w : Nat → Rat} (hw : IsW n (Pm (both G σ τ)) (gm G) t w) {ρ : List (Option Nat)} (hs : Swt n .ours G σ ρ w) (hne : ρ ≠ σ) : msO n G τ t ρ < msO n G τ t σ := by
  have h1 := both_ok hG hσ hτ
  have h2 := both_ok hG hs.ok hτ
  have t1 : 1 ≤ t := Rat.le_of_lt ht
  have hww : IsW n (Pm (both G σ τ)) (gm (both G σ τ)) t w := by rw [gm_both]; exact hw
  have e : sm n (fun x => ((1 : Int) : Rat) * worth n (both G σ τ) t x) = sm n (fun x => ((1 : Int) : Rat) * w x) := sm_congr fun x hx => by rw [worth_eq h1 t1 hww hx]
  unfold msO
  refine cnt_lt (fun ρ => sm n fun x => ((1 : Int) : Rat) * worth n (both G ρ τ) t x) (hs.ok.mem hG) ?_
  rw [e]
  obtain ⟨x, hx, hk, hd⟩ : ∃ x, x < G.length ∧ (pl G x).k = .ours ∧ told ρ x ≠ told σ x := by
    refine Classical.byContradiction fun hc => hne (hs.ok.ext hσ fun x hx hk => Classical.byContradiction fun hd => hc ⟨x, hx, hk, hd⟩)
  have hxn : x < n := by rw [← hG.len]; exact hx
  have hw2 := worth_is h2 t1
  rw [gm_both] at hw2
  refine better h1.stoch h2.stoch (.inl rfl) ht hw hw2 (fun y hy => ?_) hxn ?_
  · cases hky : (pl G y).k with
    | draw => rw [mn_draw hG hσ hτ hy hky, mn_draw hG hs.ok hτ hy hky]; exact Rat.le_refl
    | theirs => rw [mn_theirs hG hσ hτ hy hky, mn_theirs hG hs.ok hτ hy hky]; exact Rat.le_refl
    | ours =>
      rw [mn_ours hG hσ hτ hy hky, mn_ours hG hs.ok hτ hy hky]
      rcases hs.ch y hy hky with q | q
      · rw [q]; exact Rat.le_refl
      · exact Rat.le_of_lt q
  · rw [mn_ours hG hσ hτ hxn hk, mn_ours hG hs.ok hτ hxn hk]
    rcases hs.ch x hxn hk with q | q
    · exact absurd q hd
    · exact q
/-! ### a lift is found when later steps count enough -/
def FAR : Nat := 1000 ^ 16
theorem far_big : ∀ n : Nat, n ≤ 4 → 2 * ((n + 1) * (4320 * 1000)) ^ n + 1 ≤ FAR := by unfold FAR; decide +kernel
theorem sumq_lin (l : List (Rat × Nat)) (h g : Nat → Rat) (c : Rat) : sumq (l.map fun b => b.1 * (h b.2 + (c * g b.2 + 0))) = sumq (l.map fun b => b.1 * h b.2) + c * sumq (l.map fun b => b.1 * g b.2) := by
  induction l with
  | nil => show (0:Rat) = 0 + c * 0; grind
  | cons b l ih =>
    show b.1 * (h b.2 + (c * g b.2 + 0)) + sumq (l.map fun b => b.1 * (h b.2 + (c * g b.2 + 0))) = b.1 * h b.2 + sumq (l.map fun b => b.1 * h b.2) + c * (b.1 * g b.2 + sumq (l.map fun b => b.1 * g b.2))
    rw [ih]; grind
theorem mem_bndL {g h : Nat → Rat} {s : Kd} {p : Rat × Rat} (hp : p ∈ bndL G g h s σ n) : ∃ x, x < n ∧ (((pl G x).k = .draw ∧ p = slkD G g h x) ∨ ((pl G x).k ≠ .draw ∧ (pl G x).k = s ∧ p = slkB G g h x (tg G x (told σ x))) ∨ ((pl G x).k ≠ .draw ∧ (pl G x).k ≠ s ∧ ∃ b ∈ (pl G x).bs, p = slkB G g h x b.2)) := by
  obtain ⟨x, hx, hp⟩ := List.mem_flatMap.mp hp
  refine ⟨x, List.mem_range.mp hx, ?_⟩
  unfold bnd1 at hp
  split at hp
  · rename_i hk
    exact .inl ⟨hk, List.mem_singleton.mp hp⟩
  · rename_i hk
    split at hp
    · rename_i hk2
      exact .inr (.inl ⟨hk, hk2, List.mem_singleton.mp hp⟩)
    · rename_i hk2
      obtain ⟨b, hb, rfl⟩ := List.mem_map.mp hp
      exact .inr (.inr ⟨hk, hk2, b, hb, rfl⟩)
theorem bndL_mem {g h : Nat → Rat} {s : Kd} {x : Nat} (hx : x < n) {p : Rat × Rat} (hp : p ∈ bnd1 G g h s σ x) : p ∈ bndL G g h s σ n := List.mem_flatMap.mpr ⟨x, List.mem_range.mpr hx, hp⟩
structure Told (n : Nat) (G : List Pl) (σ τ : List (Option Nat)) (g h : Nat → Rat) : Prop where
  d : ∀ x, x < n → (pl G x).k = .draw → g x = mnb (pl G x) g ∧ g x + h x = (pl G x).g + mnb (pl G x) h
  o : ∀ x, x < n → (pl G x).k = .ours → g x = g (tg G x (told σ x)) ∧ g x + h x = (pl G x).g + h (tg G x (told σ x))
  t : ∀ x, x < n → (pl G x).k = .theirs → g x = g (tg G x (told τ x)) ∧ g x + h x = (pl G x).g + h (tg G x (told τ x))
theorem told_all (hG : GmOk n G) (hσ : StOk .ours G σ) (hτ : StOk .theirs G τ) {g h : Nat → Rat} (E : Exact n (Pm (both G σ τ)) (gm G) g h) : Told n G σ τ g h := by
  refine ⟨fun x hx hk => ?_, fun x hx hk => ?_, fun x hx hk => ?_⟩
  · have a := E.a x hx
    have b := E.b x hx
    rw [mn_draw hG hσ hτ hx hk] at a b
    exact ⟨a, b⟩
  · have a := E.a x hx
    have b := E.b x hx
    rw [mn_ours hG hσ hτ hx hk] at a b
    exact ⟨a, b⟩
  · have a := E.a x hx
    have b := E.b x hx
    rw [mn_theirs hG hσ hτ hx hk] at a b
    exact ⟨a, b⟩
theorem ld_exact {C : List Pl} (hC : ChOk n C) {g h : Nat → Rat} (L : Long n (Pm C) (gm C) g) (hL : LdOut n C h) : Exact n (Pm C) (gm C) g h := by
  obtain ⟨g0, L0, E0⟩ := hL.ex
  have e : ∀ x, x < n → g0 x = g x := E0.eq hC.stoch L
  refine ⟨L.har, fun x hx => ?_⟩
  rw [← e x hx]
  exact E0.b x hx
theorem no_bad (hG : GmOk n G) (hn : n ≤ 4) (hσ : StOk .ours G σ) (hτ : StOk .theirs G τ) {T : Nat} (hT : FAR ≤ T) {w g h : Nat → Rat} (hw : IsW n (Pm (both G σ τ)) (gm G) (T : Rat) w) (bt : Best n .theirs G τ w) (bo : Best n .ours G σ w)
    (L : Long n (Pm (both G σ τ)) (gm G) g) (hL : LdOut n (both G σ τ) h) : ¬ LiftBad (-1) (bndL G g h .ours σ n) ∧ ¬ LiftBad 1 (bndL G g h .theirs τ n) := by
  have hC := both_ok hG hσ hτ
  have L' : Long n (Pm (both G σ τ)) (gm (both G σ τ)) g := by rw [gm_both]; exact L
  have E := ld_exact hC L' hL
  obtain ⟨k, hk⟩ := poisson hC.stoch (e := fun x => - h x) (fun x hx hr => by
    obtain ⟨μ, D, e⟩ := hL.zero x hx hr
    refine ⟨μ, D, ?_⟩
    have : sm n (fun y => μ y * - h y) = - sm n (fun y => μ y * h y) := by rw [← sm_neg]; exact sm_congr fun y _ => by grind
    rw [this, e]; grind)
  have hk2 : ∀ x, x < n → h x = mn n (Pm (both G σ τ)) k x - k x := fun x hx => by have := hk x hx; grind
  have t1 : (1 : Rat) ≤ (T : Rat) := cast_le (Nat.le_trans (by unfold FAR; decide +kernel) hT)
  have ord : ∀ y z, y < n → z < n → w y ≤ w z → g y ≤ g z ∧ (g y = g z → h y ≤ h z) := fun y z hy hz hle => by
    have hww : IsW n (Pm (both G σ τ)) (gm (both G σ τ)) (T : Rat) w := by rw [gm_both]; exact hw
    refine lex hC.stoch E hk2 hy hz t1 ?_
    refine order_stays hC.stoch (ρ := ρs (both G σ τ)) (R := 4320) (G := 1000) (fun x hx => (ρs_le hC hx).1) (fun x hx => (ρs_le hC hx).2) (fun x hx y _ => ρs_P hC hx y) (fun x _ => ρs_g x) (fun x hx => (hC.at hx).gb) (by decide) hy hz ?_ hww hle
    have h1 := cast_le (Nat.le_trans (far_big n hn) hT)
    rw [Rat.natCast_add] at h1
    exact h1
  have Td := told_all hG hσ hτ (by have := E; rw [gm_both] at this; exact this)
  have e1 : ((1 : Int) : Rat) = 1 := rfl
  have e2 : ((-1 : Int) : Rat) = -1 := rfl
  have zD : ∀ x, x < n → (pl G x).k = .draw → slkD G g h x = (0, 0) := fun x hx hk => by
    obtain ⟨a, b⟩ := Td.d x hx hk
    unfold slkD slk
    congr 1
    · show mnb (pl G x) g - g x = 0; grind
    · show (pl G x).g + mnb (pl G x) h - (g x + h x) = 0; grind
  constructor
  · rintro ⟨p, hp, hb⟩
    rw [e2] at hb
    obtain ⟨x, hx, q | ⟨hk, hk2, rfl⟩ | ⟨hk, hk2, b, hbm, rfl⟩⟩ := mem_bndL hp
    · rw [q.2, zD x hx q.1] at hb
      rcases hb with q | ⟨q, _⟩ <;> grind
    · obtain ⟨a, c⟩ := Td.o x hx hk2
      have z : slkB G g h x (tg G x (told σ x)) = (0, 0) := by
        unfold slkB slk
        congr 1
        · show g (tg G x (told σ x)) - g x = 0; grind
        · show (pl G x).g + h (tg G x (told σ x)) - (g x + h x) = 0; grind
      rw [z] at hb
      rcases hb with q | ⟨q, _⟩ <;> grind
    · have hk3 : (pl G x).k = .theirs := by
        cases hq : (pl G x).k with
        | draw => exact absurd hq hk
        | ours => exact absurd hq hk2
        | theirs => rfl
      obtain ⟨a, c⟩ := Td.t x hx hk3
      have hbest := bt x hx hk3 b hbm
      have hle : w (tg G x (told τ x)) ≤ w b.2 := by
        have : ((Kd.theirs.way : Int) : Rat) = -1 := rfl
        rw [this] at hbest; grind
      obtain ⟨o1, o2⟩ := ord _ _ (tg_lt hG hx (hτ.told_lt (by rw [hG.len]; exact hx) hk3)) ((hG.at hx).t b hbm) hle
      rcases hb with q | ⟨q, q2⟩
      · have q : 0 < -1 * (g b.2 - g x) := q
        grind
      · have q : 0 < -1 * ((pl G x).g + h b.2 - (g x + h x)) := q
        have q2 : g b.2 - g x = 0 := q2
        have := o2 (by grind)
        grind
  · rintro ⟨p, hp, hb⟩
    rw [e1] at hb
    obtain ⟨x, hx, q | ⟨hk, hk2, rfl⟩ | ⟨hk, hk2, b, hbm, rfl⟩⟩ := mem_bndL hp
    · rw [q.2, zD x hx q.1] at hb
      rcases hb with q | ⟨q, _⟩ <;> grind
    · obtain ⟨a, c⟩ := Td.t x hx hk2
      have z : slkB G g h x (tg G x (told τ x)) = (0, 0) := by
        unfold slkB slk
        congr 1
        · show g (tg G x (told τ x)) - g x = 0; grind
        · show (pl G x).g + h (tg G x (told τ x)) - (g x + h x) = 0; grind
      rw [z] at hb
      rcases hb with q | ⟨q, _⟩ <;> grind
    · have hk3 : (pl G x).k = .ours := by
        cases hq : (pl G x).k with
        | draw => exact absurd hq hk
        | ours => rfl
        | theirs => exact absurd hq hk2
      obtain ⟨a, c⟩ := Td.o x hx hk3
      have hbest := bo x hx hk3 b hbm
      have hle : w b.2 ≤ w (tg G x (told σ x)) := by
        have : ((Kd.ours.way : Int) : Rat) = 1 := rfl
        rw [this] at hbest; grind
      obtain ⟨o1, o2⟩ := ord _ _ ((hG.at hx).t b hbm) (tg_lt hG hx (hσ.told_lt (by rw [hG.len]; exact hx) hk3)) hle
      rcases hb with q | ⟨q, q2⟩
      · have q : 0 < 1 * (g b.2 - g x) := q
        grind
      · have q : 0 < 1 * ((pl G x).g + h b.2 - (g x + h x)) := q
        have q2 : g b.2 - g x = 0 := q2
        have := o2 (by grind)
        grind
theorem fa_law (hG : GmOk n G) (hσ : StOk .ours G σ) (hτ : StOk .theirs G τ) {g h : Nat → Rat} (L : Long n (Pm (both G σ τ)) (gm G) g) (hL : LdOut n (both G σ τ) h) {c : Rat} (h1 : LiftOk (-1) (bndL G g h .ours σ n) c) (h2 : LiftOk 1 (bndL G g h .theirs τ n) c) : FA n G σ τ g (fun x => h x + (c * g x + 0)) := by
  have hC := both_ok hG hσ hτ
  have L' : Long n (Pm (both G σ τ)) (gm (both G σ τ)) g := by rw [gm_both]; exact L
  have E := ld_exact hC L' hL
  have Td := told_all hG hσ hτ (by have := E; rw [gm_both] at this; exact this)
  have e1 : ((1 : Int) : Rat) = 1 := rfl
  have e2 : ((-1 : Int) : Rat) = -1 := rfl
  refine ⟨hσ, hτ, L, fun x hx hk => ?_, fun x hx hk b hb => ?_, fun g' L2 x hx => E.eq hC.stoch (by rw [gm_both]; exact L2) x hx, fun x hx hk b hb => ?_⟩
  · obtain ⟨a, b⟩ := Td.d x hx hk
    refine ⟨a, ?_⟩
    have e : mnb (pl G x) (fun x => h x + (c * g x + 0)) = mnb (pl G x) h + c * mnb (pl G x) g := sumq_lin _ h g c
    rw [e]
    show g x + (h x + (c * g x + 0)) = _
    rw [← a]; grind
  · have hp : slkB G g h x b.2 ∈ bndL G g h .ours σ n := bndL_mem hx (by
      unfold bnd1
      rw [if_neg (by rw [hk]; decide), if_neg (by rw [hk]; decide)]
      exact List.mem_map.mpr ⟨b, hb, rfl⟩)
    obtain ⟨q1, q2⟩ := h1.2 _ hp
    rw [e2] at q1 q2
    have q1 : -1 * (g b.2 - g x) ≤ 0 := q1
    have q2 : -1 * ((pl G x).g + h b.2 - (g x + h x) + c * (g b.2 - g x)) ≤ 0 := q2
    refine ⟨by grind, ?_⟩
    show g x + (h x + (c * g x + 0)) ≤ (pl G x).g + (h b.2 + (c * g b.2 + 0))
    grind
  · have hp : slkB G g h x b.2 ∈ bndL G g h .theirs τ n := bndL_mem hx (by
      unfold bnd1
      rw [if_neg (by rw [hk]; decide), if_neg (by rw [hk]; decide)]
      exact List.mem_map.mpr ⟨b, hb, rfl⟩)
    obtain ⟨q1, q2⟩ := h2.2 _ hp
    rw [e1] at q1 q2
    have q1 : 1 * (g b.2 - g x) ≤ 0 := q1
    have q2 : 1 * ((pl G x).g + h b.2 - (g x + h x) + c * (g b.2 - g x)) ≤ 0 := q2
    refine ⟨by grind, ?_⟩
    show (pl G x).g + (h b.2 + (c * g b.2 + 0)) ≤ g x + (h x + (c * g x + 0))
    grind
end
end Mh
end
section
set_option Elab.async false
set_option linter.all false
set_option maxRecDepth 100000
set_option maxHeartbeats 4000000
set_option exponentiation.threshold 10000
/-! the search: the readings -/
namespace Mh
open PySem PySem.Spec PyProof.Rows L2
open C8 (Cal pe_c)
open Evl (ixN_nat)
theorem shaped_list {ds : List PyData} (h : ∀ d ∈ ds, d.canLay0 = true ∧ d.depth ≤ 9) : SeqAt.shaped (.list ds) = true := by
  have h1 : ∀ ds : List PyData, (∀ d ∈ ds, d.canLay0 = true ∧ d.depth ≤ 9) → PyData.canLayAll0 ds = true ∧ PyData.depthAll ds ≤ 9 := by
    intro ds
    induction ds with
    | nil => intro _; exact ⟨rfl, by show 0 ≤ 9; decide⟩
    | cons a ds ih =>
      intro h
      obtain ⟨i1, i2⟩ := ih fun d hd => h d (by simp [hd])
      obtain ⟨j1, j2⟩ := h a (by simp)
      refine ⟨?_, ?_⟩
      · show (a.canLay0 && PyData.canLayAll0 ds) = true
        rw [i1, j1]; rfl
      · show max a.depth (PyData.depthAll ds) ≤ 9
        omega
  obtain ⟨h2, h3⟩ := h1 ds h
  show (PyData.canLayAll0 ds && decide (PyData.depthAll ds + 1 ≤ 64)) = true
  rw [h2, decide_eq_true (by omega)]; rfl
theorem shaped_sd (σ : List (Option Nat)) : SeqAt.shaped (sd σ) = true := shaped_list fun d hd => by
  obtain ⟨o, _, rfl⟩ := List.mem_map.mp hd
  cases o with
  | none => exact ⟨rfl, by show 0 ≤ 9; decide⟩
  | some b => exact ⟨rfl, by show 0 ≤ 9; decide⟩
theorem eqv_sd : ∀ σ τ : List (Option Nat), PyData.eqv (sd σ) (sd τ) = decide (σ = τ)
  | [], [] => rfl
  | [], b :: τ => rfl
  | a :: σ, [] => rfl
  | a :: σ, b :: τ => by
    have ih := eqv_sd σ τ
    show (PyData.eqv (od a) (od b) && PyData.eqv (sd σ) (sd τ)) = _
    rw [ih]
    have e : PyData.eqv (od a) (od b) = decide (a = b) := by
      cases a with
      | none => cases b with
        | none => rfl
        | some b => rfl
      | some a => cases b with
        | none => rfl
        | some b =>
          show ((a : Int) == (b : Int)) = _
          by_cases h : a = b
          · subst h; simp
          · rw [decide_eq_false (fun z => h (Option.some.inj z))]
            exact beq_eq_false_iff_ne.mpr (by omega)
    rw [e]
    by_cases h1 : a = b
    · by_cases h2 : σ = τ
      · subst h1; subst h2; simp
      · rw [decide_eq_false h2, decide_eq_false (fun z => h2 (List.cons.inj z).2), Bool.and_false]
    · rw [decide_eq_false h1, decide_eq_false (fun z => h1 (List.cons.inj z).1), Bool.false_and]
section
variable {n : Nat} {G : List Pl} {σ τ : List (Option Nat)}
theorem putIn_ok {s : Kd} (hG : GmOk n G) (hσ : StOk s G σ) : GmOk n (putIn s σ G) := by
  refine ⟨by rw [putIn_len, hG.len], fun p hp => ?_⟩
  obtain ⟨x, hx, ex⟩ := List.getElem_of_mem hp
  have e : p = pl (putIn s σ G) x := by rw [← ex]; simp [pl, List.getD, hx]
  have hx2 : x < G.length := by rw [putIn_len] at hx; exact hx
  have hxn : x < n := by rw [← hG.len]; exact hx2
  rw [e, pl_putIn _ _ _ hx2]
  unfold putP
  by_cases hk : (pl G x).k = s
  · rw [if_pos hk]
    have hy := tg_lt hG hxn (hσ.told_lt hx2 hk)
    have h := hG.at hxn
    refine ⟨fun b hb => ?_, by simp, by show 1 ≤ 6; decide, h.gi, h.gb, h.gd, fun _ => one_ok h hy⟩
    cases List.mem_singleton.mp hb; exact hy
  · rw [if_neg hk]; exact hG.at hxn
theorem st_putIn {s t : Kd} (hst : s ≠ t) (hτ : StOk t G τ) (ht : t ≠ .draw) : StOk t (putIn s σ G) τ := by
  have key : ∀ x, x < G.length → ((pl (putIn s σ G) x).k = t ↔ (pl G x).k = t) ∧ ((pl G x).k = t → pl (putIn s σ G) x = pl G x) := fun x hx => by
    rw [pl_putIn _ _ _ hx]
    unfold putP
    by_cases hk : (pl G x).k = s
    · rw [if_pos hk]
      exact ⟨⟨fun z => absurd z.symm ht, fun z => absurd (hk.symm.trans z) hst⟩, fun z => absurd (hk.symm.trans z) hst⟩
    · rw [if_neg hk]
      exact ⟨Iff.rfl, fun _ => rfl⟩
  refine ⟨by rw [putIn_len]; exact hτ.len, fun x hx hk => ?_, fun x hx hk => ?_⟩
  · rw [putIn_len] at hx
    obtain ⟨k1, k2⟩ := key x hx
    have hk' := k1.mp hk
    obtain ⟨b, e, hb⟩ := hτ.at_ x hx hk'
    exact ⟨b, e, by rw [k2 hk']; exact hb⟩
  · rw [putIn_len] at hx
    obtain ⟨k1, k2⟩ := key x hx
    exact hτ.no x hx fun z => hk (k1.mpr z)
theorem putIn_one {s : Kd} (hs : s ≠ .draw) {x : Nat} (hx : x < G.length) : (pl (putIn s σ G) x).k ≠ s := by
  rw [pl_putIn _ _ _ hx]
  unfold putP
  by_cases hk : (pl G x).k = s
  · rw [if_pos hk]; exact fun z => hs z.symm
  · rw [if_neg hk]; exact hk
end
section
variable {K : PySem.W.Frag}
theorem h44 (vs : List V) (H : Hp) (Q : VK) (E : XK) (h : sp44 K vs H Q E) : t44 K { nx := fun _ H' => Q .non H', rt := Q } (start n44 vs) H := by
  obtain ⟨n, T, G, σ, τ, x, y, z, Hs, rfl, hG, hn, hT, hT2, hσ, hτ, hx, hy, hz, st, q⟩ := h
  have hGn := hG.len
  refine ⟨_, rfl, _, rfl, G, .ours, σ, _, _, Hs, rfl, hx, hy, hσ, by decide, by omega, st, fun left Hs1 H1 e1 hl => ?_⟩
  refine ⟨fun m s' H' => ∃ (Hs' : Hp) (τ' : List (Option Nat)) (z' : V) (y5 y6 : Option V), s' = [some x, some y, some z', some (.int (T : Int)), some left, y5, y6] ∧ Ext0 Hs H Hs' H' ∧ Same Hs1 Hs' ∧ StOk .theirs G τ' ∧ Is K Hs' z' (sd τ') ∧ m = msT n G σ (T : Rat) τ',
    ⟨_, Hs1, τ, z, _, _, rfl, e1, Same.refl _, hτ, hz.up e1.s, rfl⟩, ?_⟩
  rintro m s' H2 ⟨Hs2, τ', z', y5, y6, rfl, e2, s2, hτ', hz', rfl⟩
  refine ⟨true, rfl, ?_⟩
  refine iteT ?_
  refine ⟨fun s' H' => ∃ m', m' < msT n G σ (T : Rat) τ' ∧ ∃ (Hs' : Hp) (τ' : List (Option Nat)) (z' : V) (y5 y6 : Option V), s' = [some x, some y, some z', some (.int (T : Int)), some left, y5, y6] ∧ Ext0 Hs H Hs' H' ∧ Same Hs1 Hs' ∧ StOk .theirs G τ' ∧ Is K Hs' z' (sd τ') ∧ m' = msT n G σ (T : Rat) τ', fun _ _ h => h, ?_⟩
  have hC := both_ok hG hσ hτ'
  refine ⟨_, rfl, _, rfl, putIn .ours σ G, .theirs, τ', _, _, Hs2, rfl, hl.up s2, hz', st_putIn (by decide) hτ' (by decide), by decide, by rw [putIn_len]; omega, e2.t, fun c Hs3 H3 e3 hc => ?_⟩
  refine ⟨_, rfl, n, T, both G σ τ', _, Hs3, rfl, hC, hn, hT, hT2, hc, e3.t, fun nu Hs4 H4 w e4 hw hsz hnu => ?_⟩
  rw [gm_both] at hw
  have e5 := e3.trans e4
  have e6 := e2.trans e5
  refine ⟨_, rfl, _, rfl, _, rfl, n, G, .theirs, τ', w, _, _, _, Hs4, rfl, hG, by omega, by decide, hτ', hsz, hx.up e6.s, hz'.up e5.s, hnu, e4.t, fun la Hs5 H5 ρ e7 hρ hla => ?_⟩
  have e8 := e5.trans e7
  have e9 := e2.trans e8
  refine ⟨_, rfl, _, rfl, _, _, (hla.up e7.t).dp, ((hz'.up e8.s).up e7.t).dp, shaped_sd _, shaped_sd _, ?_⟩
  rw [eqv_sd]
  refine ⟨_, rfl, ?_⟩
  by_cases hρτ : ρ = τ'
  · rw [decide_eq_true hρτ]
    refine iteT ?_
    subst hρτ
    refine ⟨_, rfl, _, rfl, by show 2 ≤ sizeLine; decide, fun p hp => ?_⟩
    have sn := same_new (o := .tup [z', nu]) (e9.t.free hp)
    exact q _ _ _ ρ w (e9.new hp) hρ.ok hw hρ.best hsz (.tup (SqT.of upd_same) (.cons ((hz'.up e8.s).up sn) (.cons ((hnu.up e7.s).up sn) .nil)))
  · rw [decide_eq_false hρτ]
    refine iteF ?_
    exact ⟨_, rfl, msT n G σ (T : Rat) ρ, msT_lt hG hσ hτ' (by have := cast_le hT; have e : ((2 : Nat) : Rat) = 2 := rfl; rw [e] at this; grind) hw hρ hρτ, Hs5, ρ, la, _, _, rfl, e9, s2.trans e8.s, hρ.ok, hla, rfl⟩
theorem h45 (vs : List V) (H : Hp) (Q : VK) (E : XK) (h : sp45 K vs H Q E) : t45 K { nx := fun _ H' => Q .non H', rt := Q } (start n45 vs) H := by
  obtain ⟨n, T, G, σ, τ, x, y, z, Hs, rfl, hG, hn, hone, hT, hT2, hσ, hτ, hx, hy, hz, st, q⟩ := h
  refine ⟨fun m s' H' => ∃ (Hs' : Hp) (σ' τ' : List (Option Nat)) (y' z' : V) (y4 y5 : Option V), s' = [some x, some y', some z', some (.int (T : Int)), y4, y5] ∧ Ext0 Hs H Hs' H' ∧ StOk .ours G σ' ∧ StOk .theirs G τ' ∧ Is K Hs' y' (sd σ') ∧ Is K Hs' z' (sd τ') ∧ m = msO n G τ' (T : Rat) σ',
    ⟨_, Hs, σ, τ, y, z, _, _, rfl, Ext.refl st, hσ, hτ, hy, hz, rfl⟩, ?_⟩
  rintro m s' H2 ⟨Hs2, σ', τ', y', z', y4, y5, rfl, e2, hσ', hτ', hy', hz', rfl⟩
  refine ⟨true, rfl, ?_⟩
  refine iteT ?_
  refine ⟨fun s' H' => ∃ m', m' < msO n G τ' (T : Rat) σ' ∧ ∃ (Hs' : Hp) (σ' τ' : List (Option Nat)) (y' z' : V) (y4 y5 : Option V), s' = [some x, some y', some z', some (.int (T : Int)), y4, y5] ∧ Ext0 Hs H Hs' H' ∧ StOk .ours G σ' ∧ StOk .theirs G τ' ∧ Is K Hs' y' (sd σ') ∧ Is K Hs' z' (sd τ') ∧ m' = msO n G τ' (T : Rat) σ', fun _ _ h => h, ?_⟩
  refine ⟨_, rfl, _, rfl, _, rfl, _, rfl, n, T, G, σ', τ', _, _, _, Hs2, rfl, hG, hn, hT, hT2, hσ', hτ', hx.up e2.s, hy', hz', e2.t, fun v Hs3 H3 τ2 w e3 hτ2 hw hbt hsz hv => ?_⟩
  obtain ⟨p, va, vb, rfl, hp, iva, ivb⟩ := hv.pair
  refine ⟨p, _, rfl, sqt_up e3.t hp, rfl, va, _, rfl, vb, _, rfl, rfl, ?_⟩
  have e4 := e2.trans e3
  refine ⟨_, rfl, _, rfl, _, rfl, n, G, .ours, σ', w, _, _, _, Hs3, rfl, hG, by omega, by decide, hσ', hsz, hx.up e4.s, hy'.up e3.s, ivb, e3.t, fun la Hs5 H5 ρ e7 hρ hla => ?_⟩
  have e8 := e3.trans e7
  have e9 := e2.trans e8
  refine ⟨_, rfl, _, rfl, _, _, (hla.up e7.t).dp, ((hy'.up e8.s).up e7.t).dp, shaped_sd _, shaped_sd _, ?_⟩
  rw [eqv_sd]
  refine ⟨_, rfl, ?_⟩
  by_cases hρσ : ρ = σ'
  · rw [decide_eq_true hρσ]
    refine iteT ?_
    subst hρσ
    refine ⟨_, rfl, _, rfl, by show 2 ≤ sizeLine; decide, fun p hp => ?_⟩
    have sn := same_new (o := .tup [y', va]) (e9.t.free hp)
    exact q _ _ _ ρ τ2 w (e9.new hp) hρ.ok hτ2 hw hbt hρ.best (.tup (SqT.of upd_same) (.cons ((hy'.up e8.s).up sn) (.cons ((iva.up e7.s).up sn) .nil)))
  · rw [decide_eq_false hρσ]
    refine iteF ?_
    have hex : ∃ x, x < G.length ∧ (pl G x).k = .ours := by
      refine Classical.byContradiction fun hc => hρσ (hρ.ok.ext hσ' fun x hx hk => absurd ⟨x, hx, hk⟩ hc)
    obtain ⟨x0, hx0, hk0⟩ := hex
    have hno : ∀ x, x < n → (pl G x).k ≠ .theirs := by
      rcases hone with h1 | h1
      · exact absurd hk0 (h1 x0 (by rw [← hG.len]; exact hx0))
      · exact h1
    have ett : τ2 = τ' := hτ2.ext hτ' fun x hx hk => absurd hk (hno x (by rw [← hG.len]; exact hx))
    subst ett
    refine ⟨_, rfl, msO n G τ2 (T : Rat) ρ, msO_lt hG hσ' hτ' (by have := cast_le hT; have e : ((2 : Nat) : Rat) = 2 := rfl; rw [e] at this; grind) hw hρ hρσ, Hs5, ρ, τ2, la, va, _, _, rfl, e9, hρ.ok, hτ2, hla, iva.up e7.s, rfl⟩
theorem h46 (vs : List V) (H : Hp) (Q : VK) (E : XK) (h : sp46 K vs H Q E) (Tx : Txt K mg) : t46 K { nx := fun _ H' => Q .non H', rt := Q } (start n46 vs) H := by
  obtain ⟨n, G, x, Hs, rfl, hG, hn, hone, hx, st, q⟩ := h
  have hGn := hG.len
  refine ⟨_, rfl, G, .ours, _, Hs, rfl, by omega, hx, st, fun v1 Hs1 H1 e1 hv1 => ?_⟩
  refine ⟨_, rfl, G, .theirs, _, Hs1, rfl, by omega, hx.up e1.s, e1.t, fun v2 Hs2 H2 e2 hv2 => ?_⟩
  have e12 := e1.trans e2
  refine ⟨v1, v2, rfl, ?_⟩
  refine ⟨fun m s' H' => ∃ (Hs' : Hp) (σ τ : List (Option Nat)) (y z : V) (k T : Nat) (fz : Int) (y4 y5 y6 : Option V), s' = [some x, some y, some z, some (.int fz), y4, y5, y6] ∧ fz = (T : Int) ∧ T = 1000 ^ 2 ^ k ∧ k ≤ 4 ∧ m = 4 - k ∧ Ext0 Hs H Hs' H' ∧ StOk .ours G σ ∧ StOk .theirs G τ ∧ Is K Hs' y (sd σ) ∧ Is K Hs' z (sd τ),
    ⟨_, Hs2, _, _, v1, v2, 0, 1000, 1000, _, _, _, rfl, rfl, rfl, by decide, rfl, e12, firstS_ok hG .ours, firstS_ok hG .theirs, hv1.up e2.s, hv2⟩, ?_⟩
  rintro m s' H3 ⟨Hs3, σ, τ, y, z, k, T, fz, y4, y5, y6, rfl, rfl, hTk, hk4, rfl, e3, hσ, hτ, hy, hz⟩
  refine ⟨true, rfl, ?_⟩
  refine iteT ?_
  refine ⟨fun s' H' => ∃ m', m' < 4 - k ∧ ∃ (Hs' : Hp) (σ τ : List (Option Nat)) (y z : V) (k T : Nat) (fz : Int) (y4 y5 y6 : Option V), s' = [some x, some y, some z, some (.int fz), y4, y5, y6] ∧ fz = (T : Int) ∧ T = 1000 ^ 2 ^ k ∧ k ≤ 4 ∧ m' = 4 - k ∧ Ext0 Hs H Hs' H' ∧ StOk .ours G σ ∧ StOk .theirs G τ ∧ Is K Hs' y (sd σ) ∧ Is K Hs' z (sd τ), fun _ _ h => h, ?_⟩
  have hT2 : 2 ≤ T ∧ T ≤ 2 ^ 160 := by
    have : ∀ k : Nat, k ≤ 4 → 2 ≤ 1000 ^ 2 ^ k ∧ 1000 ^ 2 ^ k ≤ 2 ^ 160 := by decide +kernel
    rw [hTk]; exact this k hk4
  refine ⟨_, rfl, _, rfl, _, rfl, _, rfl, n, T, G, σ, τ, _, _, _, Hs3, rfl, hG, hn, hone, hT2.1, hT2.2, hσ, hτ, hx.up e3.s, hy, hz, e3.t, fun v Hs4 H4 σ' τ' w e4 hσ' hτ' hw hbt hbo hv => ?_⟩
  obtain ⟨p, va, vb, rfl, hp, iva, ivb⟩ := hv.pair
  refine ⟨p, _, rfl, sqt_up e4.t hp, rfl, va, _, rfl, vb, _, rfl, rfl, ?_⟩
  have e5 := e3.trans e4
  have hC := both_ok hG hσ' hτ'
  refine ⟨_, rfl, _, rfl, G, .ours, σ', _, _, Hs4, rfl, hx.up e5.s, iva, hσ', by decide, by omega, e4.t, fun left Hs5 H5 e6 hl => ?_⟩
  refine ⟨_, rfl, putIn .ours σ' G, .theirs, τ', _, _, Hs5, rfl, hl, ivb.up e6.s, st_putIn (by decide) hτ' (by decide), by decide, by rw [putIn_len]; omega, e6.t, fun c Hs6 H6 e7 hc => ?_⟩
  have hc : Is K Hs6 c (gd (both G σ' τ')) := hc
  refine ⟨_, rfl, n, both G σ' τ', _, Hs6, rfl, hC, hn, hc, e7.t, fun vg Hs7 H7 g e8 hg hvg => ?_⟩
  refine ⟨_, rfl, n, both G σ' τ', _, Hs7, rfl, hC, hn, hc.up e8.s, e8.t, fun vh Hs8 H8 h e9 hh hvh => ?_⟩
  refine ⟨by show 2 ≤ sizeLine; decide, fun r hr => ?_⟩
  have e10 := (e6.trans e7).trans (e8.trans e9)
  have e11 := e10.new (o := .tup [vg, vh]) hr
  have sn := same_new (o := .tup [vg, vh]) (e10.t.free hr)
  have hro : RowsOk n g h := ⟨hg.dn, hh.dn⟩
  have e13 := e5.trans e11
  have ir : Is K (upd Hs8 r (.tup [vg, vh])) (.ref r) (.tuple [vd n g, vd n h]) := .tup (SqT.of upd_same) (.cons ((hvg.up e9.s).up sn) (.cons (hvh.up sn) .nil))
  refine ⟨_, rfl, _, rfl, _, rfl, _, rfl, n, G, g, h, σ', τ', _, _, _, _, _, rfl, hG, hro, by omega, hσ', hτ', hx.up e13.s, ir, iva.up e11.s, ivb.up e11.s, e11.t, fun vb' Hs9 H9 rb e14 hvb hbad hgood => ?_⟩
  have e15 := e13.trans e14
  have L : Long n (Pm (both G σ' τ')) (gm G) g := by have := hg.long; rw [gm_both] at this; exact this
  refine ⟨_, rfl, _, rfl, ?_⟩
  cases rb with
  | none =>
    cases hvb.non'
    refine iteF ?_
    have hk3 : k < 4 := by
      refine Classical.byContradiction fun hk => ?_
      have hk : k = 4 := by omega
      have hF : FAR ≤ T := by rw [hTk, hk]; unfold FAR; decide +kernel
      obtain ⟨n1, n2⟩ := no_bad hG hn hσ' hτ' hF hw hbt hbo L hh
      rcases hbad rfl with q1 | q1
      · exact n1 q1
      · exact n2 q1
    have Tb : ((T : Nat) : Int).natAbs < 2 ^ 161 := by
      have : (2:Nat) ^ 160 < 2 ^ 161 := Nat.pow_lt_pow_right (by decide) (by decide)
      simpa using Nat.lt_of_le_of_lt hT2.2 this
    refine ⟨_, rfl, _, rfl, _, _, rfl, rfl, mulw Tb Tb (by decide), ?_⟩
    refine ⟨4 - (k + 1), by omega, Hs9, σ', τ', va, vb, k + 1, T * T, (T : Int) * (T : Int), _, _, _, rfl, by rw [Int.natCast_mul], ?_, by omega, rfl, e15, hσ', hτ', (iva.up e11.s).up e14.s, (ivb.up e11.s).up e14.s⟩
    rw [hTk, ← Nat.pow_add, Nat.pow_succ]
    congr 1
    omega
  | some c =>
    obtain ⟨p2, x2, y2, rfl, _⟩ := (show Is K Hs9 vb' (.tuple [.int c.num, .int (c.den : Int)]) from hvb).pair
    refine iteT ?_
    obtain ⟨ok1, ok2, szc⟩ := hgood c rfl
    refine ⟨_, rfl, r, _, 0, vg, rfl, rfl, SqT.of (e14.t _ _ (e14.s _ _ upd_same)), rfl, ?_⟩
    refine ⟨_, rfl, _, rfl, n, g, h, c, _, _, _, Hs9, rfl, hro, by omega, ir.up e14.s, hvb, szc, zero_is (Tx.zerF.2 _), e14.t, fun vl Hs10 H10 e16 hvl => ?_⟩
    refine ⟨_, rfl, _, rfl, by show 4 ≤ sizeLine; decide, fun u hu => ?_⟩
    have e17 := e15.trans e16
    have sn2 := same_new (o := .tup [vg, vl, va, vb]) (e17.t.free hu)
    have s9 : Same Hs8 Hs10 := (sn.trans e14.s).trans e16.s
    have s4 : Same Hs4 Hs10 := (e11.s.trans e14.s).trans e16.s
    refine q _ _ _ σ' τ' g _ (e17.new hu) (fa_law hG hσ' hτ' L hh ok1 ok2) ⟨hg.dn, ?_⟩ (.tup (SqT.of upd_same) (.cons (((hvg.up e9.s).up s9).up sn2) (.cons (hvl.up sn2) (.cons ((iva.up s4).up sn2) (.cons ((ivb.up s4).up sn2) .nil)))))
    obtain ⟨D, d1, d2⟩ := hg.dn
    exact ⟨D, d1.bound (Nat.pow_le_pow_right (by decide) (by decide)), Nat.le_trans d2 (Nat.pow_le_pow_right (by decide) (by decide))⟩
theorem h48 (vs : List V) (H : Hp) (Q : VK) (E : XK) (h : sp48 K vs H Q E) : t48 K { nx := fun _ H' => Q .non H', rt := Q } (start n48 vs) H := by
  obtain ⟨n, G, σ, x, y, Hs, rfl, hG, hn, hσ, hx, hy, st, q⟩ := h
  have hGn := hG.len
  refine ⟨_, rfl, _, rfl, G, .ours, σ, _, _, Hs, rfl, hx, hy, hσ, by decide, by omega, st, fun left Hs1 H1 e1 hl => ?_⟩
  refine ⟨n, putIn .ours σ G, _, Hs1, rfl, putIn_ok hG hσ, hn, .inl fun x hx => putIn_one (by decide) (by rw [hG.len]; exact hx), hl, e1.t, fun v Hs2 H2 σ' τ g h e2 hfa hro hv => ?_⟩
  obtain ⟨p, ds, rfl, hp, hds⟩ := hv.tuple
  obtain ⟨v1, v2, v3, v4, rfl, i1, i2, i3, i4⟩ := hds.four
  refine ⟨p, _, rfl, sqt_up e2.t hp, rfl, v1, _, rfl, v2, _, rfl, v3, _, rfl, v4, _, rfl, rfl, ?_⟩
  refine ⟨_, rfl, _, rfl, by show 2 ≤ sizeLine; decide, fun r hr => ?_⟩
  refine ⟨_, rfl, by show 2 ≤ sizeLine; decide, fun u hu => ?_⟩
  have e3 := (e1.trans e2).new (o := .tup [v1, v2]) hr
  have sn := same_new (o := .tup [v1, v2]) (e2.t.free hr)
  have e4 := e3.new (o := .tup [.ref r, v4]) hu
  have sn2 := same_new (o := .tup [.ref r, v4]) (e3.t.free hu)
  have nru : r ≠ u := ne_of_none upd_same hu
  exact q _ _ _ σ' τ g h e4 hfa hro (.tup (SqT.of upd_same) (.cons (.tup (SqT.of (by rw [upd_ne nru]; exact upd_same)) (.cons ((i1.up sn).up sn2) (.cons ((i2.up sn).up sn2) .nil))) (.cons ((i4.up sn).up sn2) .nil)))
theorem h49 (vs : List V) (H : Hp) (Q : VK) (E : XK) (h : sp49 K vs H Q E) : t49 K { nx := fun _ H' => Q .non H', rt := Q } (start n49 vs) H := by
  obtain ⟨n, G, τ, x, y, Hs, rfl, hG, hn, hτ, hx, hy, st, q⟩ := h
  have hGn := hG.len
  refine ⟨_, rfl, _, rfl, G, .theirs, τ, _, _, Hs, rfl, hx, hy, hτ, by decide, by omega, st, fun left Hs1 H1 e1 hl => ?_⟩
  refine ⟨n, putIn .theirs τ G, _, Hs1, rfl, putIn_ok hG hτ, hn, .inr fun x hx => putIn_one (by decide) (by rw [hG.len]; exact hx), hl, e1.t, fun v Hs2 H2 σ τ' g h e2 hfa hro hv => ?_⟩
  obtain ⟨p, ds, rfl, hp, hds⟩ := hv.tuple
  obtain ⟨v1, v2, v3, v4, rfl, i1, i2, i3, i4⟩ := hds.four
  refine ⟨p, _, rfl, sqt_up e2.t hp, rfl, v1, _, rfl, v2, _, rfl, v3, _, rfl, v4, _, rfl, rfl, ?_⟩
  refine ⟨_, rfl, _, rfl, by show 2 ≤ sizeLine; decide, fun r hr => ?_⟩
  refine ⟨_, rfl, by show 2 ≤ sizeLine; decide, fun u hu => ?_⟩
  have e3 := (e1.trans e2).new (o := .tup [v1, v2]) hr
  have sn := same_new (o := .tup [v1, v2]) (e2.t.free hr)
  have e4 := e3.new (o := .tup [.ref r, v3]) hu
  have sn2 := same_new (o := .tup [.ref r, v3]) (e3.t.free hu)
  have nru : r ≠ u := ne_of_none upd_same hu
  exact q _ _ _ σ τ' g h e4 hfa hro (.tup (SqT.of upd_same) (.cons (.tup (SqT.of (by rw [upd_ne nru]; exact upd_same)) (.cons ((i1.up sn).up sn2) (.cons ((i2.up sn).up sn2) .nil))) (.cons ((i3.up sn).up sn2) .nil)))
end
end Mh
end
section
set_option Elab.async false
set_option linter.all false
set_option maxRecDepth 100000
set_option maxHeartbeats 4000000
/-! the law: the pool, the drawn game: promises and derivations -/
namespace Mh
open PySem PySem.Spec PyProof.Rows L2
open C8 (Cal pe_c)
abbrev rMulS : R2 := rI CMul fun i j => .int (i * j)
def PoolOk (H : Hp) (p : Addr) : Prop := ∃ zs : List Int, H p = some (.lst (zs.map V.int)) ∧ 2 ≤ zs.length ∧ zs.length ≤ 10000 ∧ ∀ z ∈ zs, 0 ≤ z ∧ z < 20000
/-- the first told branch of some strategies -/
def playB (ps : List (List (Option Nat))) (x : Nat) : Option Nat := (ps.filterMap fun σ => σ.getD x none).head?
def playP (G : List Pl) (ps : List (List (Option Nat))) (x : Nat) : Pl :=
  if (pl G x).k = .draw then pl G x else match playB ps x with
    | some b => ⟨(pl G x).g, .draw, [(1, tg G x b)]⟩
    | none => pl G x
def playG (G : List Pl) (ps : List (List (Option Nat))) : List Pl := (List.range G.length).map (playP G ps)
section
variable (K : PySem.W.Frag)
def sp51 : Sp := fun vs H Q _ => ∃ (n : Nat) (G : List Pl) (ps : List (List (Option Nat))) (x y : V) (Hs : Hp), vs = [x, y] ∧ G.length = n ∧ n ≤ 100 ∧ ps.length ≤ 100 ∧ Is K Hs x (gd G) ∧ Is K Hs y (.list (ps.map sd)) ∧ (∀ σ ∈ ps, σ.length = n) ∧ (∀ x, x < n → ∀ b, playB ps x = some b → (pl G x).k ≠ .draw → b < (pl G x).bs.length) ∧ Same Hs H ∧
  ∀ v Hs' H', Ext0 Hs H Hs' H' → Is K Hs' v (gd (playG G ps)) → Q v H'
def sp52 : Sp := fun vs H Q _ => ∃ (ns : List Int) (a : Addr) (Hs : Hp), vs = [.ref a] ∧ SqL K Hs a (ns.map V.int) ∧ ns.length ≤ 100000 ∧ Same Hs H ∧
  ∀ p Hs' H' (zs : List Int), Ext0 Hs H Hs' H' → H p = none → Hs' p = none → H' p = some (.lst (zs.map V.int)) → 1 ≤ zs.length → zs.length ≤ 9999 → (∀ z ∈ zs, 0 ≤ z ∧ z < 60) → Q (.ref p) H'
def sp53 : Sp := fun vs H Q _ => ∃ (ns : List Int) (a : Addr) (Hs : Hp), vs = [.ref a] ∧ SqL K Hs a (ns.map V.int) ∧ ns.length ≤ 100000 ∧ Same Hs H ∧
  ∀ p Hs' H', Ext0 Hs H Hs' H' → H p = none → Hs' p = none → PoolOk H' p → Q (.ref p) H'
def sp54 (_ : PySem.W.Frag) : Sp := fun vs H Q _ => ∃ (p : Addr) (m : Int) (Hs : Hp), vs = [.ref p, .int m] ∧ 0 < m ∧ PoolOk H p ∧ Hs p = none ∧ Same Hs H ∧
  ∀ r Hs' H', Ext (fun q => q = p) Hs H Hs' H' → Hs' p = none → PoolOk H' p → 0 ≤ r → r < m → Q (.int r) H'
def sp55 : Sp := fun vs H Q _ => ∃ (n d : Int) (Hs : Hp), vs = [.int n, .int d] ∧ d ≠ 0 ∧ n.natAbs < 2 ^ 8990 ∧ d.natAbs < 2 ^ 8990 ∧ Same Hs H ∧ ∀ v Hs' H', Ext0 Hs H Hs' H' → Is K Hs' v (qd ((n : Rat) / (d : Rat))) → Q v H'
def sp56 : Sp := fun vs H Q _ => ∃ (p : Addr) (m : Nat) (Hs : Hp), vs = [.ref p, .int (m : Int)] ∧ 0 < m ∧ m ≤ 6 ∧ PoolOk H p ∧ Hs p = none ∧ Same Hs H ∧
  ∀ v Hs' H' (ks : List Nat), Ext (fun q => q = p) Hs H Hs' H' → Hs' p = none → PoolOk H' p → ks.length = m → (∀ k ∈ ks, 1 ≤ k ∧ k ≤ 60) → Is K Hs' v (.list (ks.map fun (k : Nat) => qd ((k : Rat) / ((ks.sum : Nat) : Rat)))) → Q v H'
def sp57 : Sp := fun vs H Q _ => ∃ (p : Addr) (Hs : Hp), vs = [.ref p] ∧ PoolOk H p ∧ Hs p = none ∧ Same Hs H ∧
  ∀ v Hs' H' (g : Rat), Ext (fun q => q = p) Hs H Hs' H' → Hs' p = none → PoolOk H' p → IsI (g * (27720 : Nat)) → ab g ≤ ((1000 : Nat) : Rat) → g.den ≤ 12 → Is K Hs' v (qd g) → Q v H'
def sp58 : Sp := fun vs H Q _ => ∃ (p : Addr) (Hs : Hp), vs = [.ref p, .int 4, .int 12] ∧ PoolOk H p ∧ Hs p = none ∧ Same Hs H ∧
  ∀ v Hs' H' (n : Nat) (G : List Pl), Ext (fun q => q = p) Hs H Hs' H' → Hs' p = none → PoolOk H' p → 1 ≤ n → n ≤ 4 → GmOk n G → Is K Hs' v (gd G) → Q v H'
def sp59 : Sp := fun vs H Q _ => ∃ (n : Nat) (G : List Pl) (s : Kd) (p : Addr) (x : V) (Hs : Hp), vs = [.ref p, x, .str s.s] ∧ GmOk n G ∧ n ≤ 100 ∧ s ≠ .draw ∧ Is K Hs x (gd G) ∧ PoolOk H p ∧ Hs p = none ∧ Same Hs H ∧
  ∀ v Hs' H' σ, Ext (fun q => q = p) Hs H Hs' H' → Hs' p = none → PoolOk H' p → StOk s G σ → Is K Hs' v (sd σ) → Q v H'
end
/-! _law_played -/
abbrev n51 : List Str := ["_law_game", "_law_plans_here", "_law_found", "_law_k", "_law_gain_here", "_law_kind", "_law_ends", "_law_told", "_law_plan_here"]
theorem sc51 : FnScope n51 ["_law_game", "_law_plans_here"] (defScope s51) := ⟨rfl, rfl, rfl, by decide +kernel, rfl, by decide +kernel, by decide +kernel⟩
def t51 (K : PySem.W.Frag) : TS :=
    (tSeq (tAsg (tLst tNil) (gName 2))
    (tSeq (tFor (iRng1 (tCons (tCB (rLenQ K) (tCons (tVar 0) tNil)) tNil)) (gName 3)
      (tSeq (tAsg (tOp (rIxL K) (tVar 0) (tVar 3)) (gTup K 3 (gCons (gName 4) (gCons (gName 5) (gCons (gName 6) gNil)))))
    (tSeq (tAsg (tLc (iList K (tVar 1)) (gName 8) (tB (tNotN (tOp (rIxL K) (tVar 8) (tVar 3)))) (tOp (rIxL K) (tVar 8) (tVar 3)) [8]) (gName 7))
    (tIfS (tAnd (tTest (tOp rNe (tVar 5) (tC (.str "draw")))) (tTest (tOp (rNeD K) (tVar 7) (tLst tNil)))) (tDrop (tBM K "list" rAppend (tVar 2) (tCons (tTup (tCons (tVar 4) (tCons (tC (.str "draw")) (tCons (tLst (tCons (tTup (tCons (tTup (tCons (tC (.int 1)) (tCons (tC (.int 1)) tNil))) (tCons (tOp (rIxL K) (tVar 6) (tOp (rIxL K) (tVar 7) (tC (.int 0)))) tNil))) tNil)) tNil)))) tNil))) (tDrop (tBM K "list" rAppend (tVar 2) (tCons (tTup (tCons (tVar 4) (tCons (tVar 5) (tCons (tCB (rListQ K) (tCons (tVar 6) tNil)) tNil)))) tNil)))))))
    (tRet (tVar 2))))
theorem der51 {P : Program} {w : World} {K : PySem.W.Frag} {mg : Str → Option Value} {base : Heap} {f : Addr} {cdv : Value} {A : Around} {outer : List Env} {s : Shared} {H : Hp} {E : XK} {qual : Str} (T : Txt K mg) (hr : Room 0 (A.deeper (envOfC qual (defScope s51) s.heap.objs.size f cdv))) :
    PSs (cxOf CX0 P w K mg base n51 qual (defScope s51) f cdv A outer s H E).nox (defBody s51) (t51 K) :=
    (pss_cons (ps_set (i := 2) sc51.nd rfl (.inl rfl) (pe_lst pa_nil))
    (pss_cons (ps_for PassesOwn.never rfl (pi_range1 (by rfl) T.b_range (pa_cons (pe_callB call_len_seq (by rfl) T.b_len bt_len (pa_cons (pv 0) pa_nil)) pa_nil)) (pg_name (i := 3) sc51.nd rfl (.inr rfl))
      (pss_cons (ps_asg (pe_ix ix_list (pv 0) (pv 3) (fun _ _ => rfl)) (pg_tup rfl (pgs_cons (pg_name (i := 4) sc51.nd rfl (.inl rfl)) (pgs_cons (pg_name (i := 5) sc51.nd rfl (.inl rfl)) (pgs_cons (pg_name (i := 6) sc51.nd rfl (.inl rfl)) pgs_nil)))))
    (pss_cons (ps_setLc (i := 7) (own := [("_law_plan_here", 8)]) (g := (gName 8)) (tt := (tB (tNotN (tOp (rIxL K) (tVar 8) (tVar 3))))) rfl sc51.nd rfl rfl (sw_true rfl rfl rfl (by decide +kernel)) (pi_list (pv 1)) (blkOk_by (own := [("_law_plan_here", 8)]) (N := n51) (sc := defScope s51) (by decide +kernel)) (fun _ _ _ _ _ => (pg_name (i := 8) sc51.nd rfl (.inl rfl))) (fun _ _ _ _ _ => (pts_one (pt_cmp (pc_notN (pe_ix ix_list (pv 8) (pv 3) (fun _ _ => rfl)))))) (fun _ _ _ _ _ => (pe_ix ix_list (pv 8) (pv 3) (fun _ _ => rfl))))
    (pss_one (ps_if (PW.pt (pw_and (pt_cmpR op_ne (pv 5) pe_str (nomark _)) (pw_and1 (pt_cmpR (op_neD hr.units) (pv 7) (pe_lst pa_nil) (nomark _))))) (pss_one (ps_expr (pe_bm PySem.F.plainAttrs_list PySem.F.slot_list_append PySem.F.type_list_append mt_append (pv 2) (pa_cons (pe_tup (pa_cons (pv 4) (pa_cons pe_str (pa_cons (pe_lst (pa_cons (pe_tup (pa_cons (pe_tup (pa_cons pe_int (pa_cons pe_int pa_nil))) (pa_cons (pe_ix ix_list (pv 6) (pe_ix ix_list (pv 7) pe_int (fun _ _ => rfl)) (fun _ _ => rfl)) pa_nil))) pa_nil)) pa_nil)))) pa_nil)))) (pss_one (ps_expr (pe_bm PySem.F.plainAttrs_list PySem.F.slot_list_append PySem.F.type_list_append mt_append (pv 2) (pa_cons (pe_tup (pa_cons (pv 4) (pa_cons (pv 5) (pa_cons (pe_callTy call_list_of (by rfl) T.b_list bt_list (pa_cons (pv 6) pa_nil)) pa_nil)))) pa_nil)))))))))
    (pss_one (ps_ret (pv 2)))))
theorem cal51 {P : Program} {w : World} {K : PySem.W.Frag} {mg : Str → Option Value} {base : Heap} (T : Txt K mg)
    (h : ∀ (vs : List V) (H : Hp) (Q : VK) (E : XK), sp51 K vs H Q E → t51 K { nx := fun _ H' => Q .non H', rt := Q } (start n51 vs) H) (len : ∀ vs H Q E, sp51 K vs H Q E → vs.length = 2) : Cal P w K mg base 1 "_law_played" (sp51 K) [] :=
  Tx.cal T.d51 sc51 len fun cdv A outer f s H vs Q E hr hs => ⟨t51 K, der51 T hr, h vs H Q E hs⟩

/-! _law_pool -/
abbrev n52 : List Str := ["_law_script", "_law_pool_here", "_law_state", "_law_k", "_law_cell", "_law_step", "_law_one", "_law_two"]
theorem sc52 : FnScope n52 ["_law_script"] (defScope s52) := ⟨rfl, rfl, rfl, by decide +kernel, rfl, by decide +kernel, by decide +kernel⟩
def t52 (K : PySem.W.Frag) : TS :=
    (tSeq (tAsg (tLst tNil) (gName 1))
    (tSeq (tAsg (tC (.int 17)) (gName 2))
    (tSeq (tFor (iRng1 (tCons (tCB rMin2 (tCons (tCB (rLenQ K) (tCons (tVar 0) tNil)) (tCons (tC (.int 63)) tNil))) tNil)) (gName 3)
      (tSeq (tAsg (tOp (rIxL K) (tVar 0) (tVar 3)) (gName 4))
    (tSeq (tAsg (tOp rModI (tCB rInt1 (tCons (tOp rAddI (tOp rAddI (tOp rMulS (tVar 2) (tC (.int 69621))) (tOp rMulS (tVar 4) (tC (.int 48271)))) (tVar 3)) tNil)) (tC (.int 2147483647))) (gName 2))
    (tIfS (tTest (tOp rGeI (tVar 4) (tOp rPowI (tC (.int 10)) (tC (.int 18))))) (tFor (iRng1 (tCons (tC (.int 60)) tNil)) (gName 5)
      (tSeq (tDrop (tBM K "list" rAppend (tVar 1) (tCons (tOp rModI (tCB rInt1 (tCons (tVar 4) tNil)) (tC (.int 60))) tNil)))
    (tAsg (tOp rDivI (tVar 4) (tC (.int 60))) (gName 4)))) (tSeq (tAsg (tOp rModI (tCB rInt1 (tCons (tOp rAddI (tOp rAddI (tOp rMulS (tVar 4) (tC (.int 48271))) (tOp rMulS (tVar 3) (tC (.int 69621)))) (tC (.int 7))) tNil)) (tC (.int 2147483647))) (gName 6))
    (tSeq (tAsg (tOp rModI (tCB rInt1 (tCons (tOp rAddI (tOp rAddI (tOp rMulS (tVar 6) (tC (.int 16807))) (tOp rMulS (tVar 4) (tC (.int 31)))) (tVar 3)) tNil)) (tC (.int 1000003))) (gName 7))
    (tAsg (tOp rCat (tVar 1) (tLst (tCons (tOp rModI (tCB rInt1 (tCons (tOp rDivI (tVar 6) (tC (.int 11))) tNil)) (tC (.int 60))) (tCons (tOp rModI (tCB rInt1 (tCons (tVar 7) tNil)) (tC (.int 60))) tNil)))) (gName 1))))))))
    (tSeq (tFor (iRng1 (tCons (tC (.int 300)) tNil)) (gName 5)
      (tSeq (tAsg (tOp rModI (tCB rInt1 (tCons (tOp rAddI (tOp rMulS (tVar 2) (tC (.int 48271))) (tC (.int 11))) tNil)) (tC (.int 2147483647))) (gName 2))
    (tDrop (tBM K "list" rAppend (tVar 1) (tCons (tOp rModI (tCB rInt1 (tCons (tOp rDivI (tVar 2) (tC (.int 97))) tNil)) (tC (.int 60))) tNil)))))
    (tRet (tVar 1))))))
theorem der52 {P : Program} {w : World} {K : PySem.W.Frag} {mg : Str → Option Value} {base : Heap} {f : Addr} {cdv : Value} {A : Around} {outer : List Env} {s : Shared} {H : Hp} {E : XK} {qual : Str} (T : Txt K mg) (hr : Room 0 (A.deeper (envOfC qual (defScope s52) s.heap.objs.size f cdv))) :
    PSs (cxOf CX0 P w K mg base n52 qual (defScope s52) f cdv A outer s H E).nox (defBody s52) (t52 K) :=
    (pss_cons (ps_set (i := 1) sc52.nd rfl (.inl rfl) (pe_lst pa_nil))
    (pss_cons (ps_set (i := 2) sc52.nd rfl (.inl rfl) pe_int)
    (pss_cons (ps_for PassesOwn.never rfl (pi_range1 (by rfl) T.b_range (pa_cons (pe_callB (call_min2 rfl) (by rfl) T.b_min bt_min (pa_cons (pe_callB call_len_seq (by rfl) T.b_len bt_len (pa_cons (pv 0) pa_nil)) (pa_cons pe_int pa_nil))) pa_nil)) (pg_name (i := 3) sc52.nd rfl (.inl rfl))
      (pss_cons (ps_set (i := 4) sc52.nd rfl (.inl rfl) (pe_ix ix_list (pv 0) (pv 3) (fun _ _ => rfl)))
    (pss_cons (ps_set (i := 2) sc52.nd rfl (.inl rfl) (pe_op op_mod (pe_callTy call_int1 (by rfl) T.b_int bt_int (pa_cons (pe_op op_add (pe_op op_add (pe_op op_mul (pv 2) pe_int) (pe_op op_mul (pv 4) pe_int)) (pv 3)) pa_nil)) pe_int))
    (pss_one (ps_if (pt_cmpR op_ge (pv 4) (pe_op op_pow pe_int pe_int) (nomark _)) (pss_one (ps_for PassesOwn.never rfl (pi_range1 (by rfl) T.b_range (pa_cons pe_int pa_nil)) (pg_name (i := 5) sc52.nd rfl (.inl rfl))
      (pss_cons (ps_expr (pe_bm PySem.F.plainAttrs_list PySem.F.slot_list_append PySem.F.type_list_append mt_append (pv 1) (pa_cons (pe_op op_mod (pe_callTy call_int1 (by rfl) T.b_int bt_int (pa_cons (pv 4) pa_nil)) pe_int) pa_nil)))
    (pss_one (ps_set (i := 4) sc52.nd rfl (.inl rfl) (pe_op op_fdivW (pv 4) pe_int)))))) (pss_cons (ps_set (i := 6) sc52.nd rfl (.inl rfl) (pe_op op_mod (pe_callTy call_int1 (by rfl) T.b_int bt_int (pa_cons (pe_op op_add (pe_op op_add (pe_op op_mul (pv 4) pe_int) (pe_op op_mul (pv 3) pe_int)) pe_int) pa_nil)) pe_int))
    (pss_cons (ps_set (i := 7) sc52.nd rfl (.inl rfl) (pe_op op_mod (pe_callTy call_int1 (by rfl) T.b_int bt_int (pa_cons (pe_op op_add (pe_op op_add (pe_op op_mul (pv 6) pe_int) (pe_op op_mul (pv 4) pe_int)) (pv 3)) pa_nil)) pe_int))
    (pss_one (ps_set (i := 1) sc52.nd rfl (.inl rfl) (pe_op op_cat (pv 1) (pe_lst (pa_cons (pe_op op_mod (pe_callTy call_int1 (by rfl) T.b_int bt_int (pa_cons (pe_op op_fdivW (pv 6) pe_int) pa_nil)) pe_int) (pa_cons (pe_op op_mod (pe_callTy call_int1 (by rfl) T.b_int bt_int (pa_cons (pv 7) pa_nil)) pe_int) pa_nil)))))))))))))
    (pss_cons (ps_for PassesOwn.never rfl (pi_range1 (by rfl) T.b_range (pa_cons pe_int pa_nil)) (pg_name (i := 5) sc52.nd rfl (.inl rfl))
      (pss_cons (ps_set (i := 2) sc52.nd rfl (.inl rfl) (pe_op op_mod (pe_callTy call_int1 (by rfl) T.b_int bt_int (pa_cons (pe_op op_add (pe_op op_mul (pv 2) pe_int) pe_int) pa_nil)) pe_int))
    (pss_one (ps_expr (pe_bm PySem.F.plainAttrs_list PySem.F.slot_list_append PySem.F.type_list_append mt_append (pv 1) (pa_cons (pe_op op_mod (pe_callTy call_int1 (by rfl) T.b_int bt_int (pa_cons (pe_op op_fdivW (pv 2) pe_int) pa_nil)) pe_int) pa_nil))))))
    (pss_one (ps_ret (pv 1)))))))
theorem cal52 {P : Program} {w : World} {K : PySem.W.Frag} {mg : Str → Option Value} {base : Heap} (T : Txt K mg)
    (h : ∀ (vs : List V) (H : Hp) (Q : VK) (E : XK), sp52 K vs H Q E → t52 K { nx := fun _ H' => Q .non H', rt := Q } (start n52 vs) H) (len : ∀ vs H Q E, sp52 K vs H Q E → vs.length = 1) : Cal P w K mg base 1 "_law_pool" (sp52 K) [] :=
  Tx.cal T.d52 sc52 len fun cdv A outer f s H vs Q E hr hs => ⟨t52 K, der52 T hr, h vs H Q E hs⟩

/-! _law_stream -/
abbrev n53 : List Str := ["_law_script"]
theorem sc53 : FnScope n53 ["_law_script"] (defScope s53) := ⟨rfl, rfl, rfl, by decide +kernel, rfl, by decide +kernel, by decide +kernel⟩
def t53 (K : PySem.W.Frag) : TS :=
    (tRet (tOp rCat (tLst (tCons (tC (.int 0)) tNil)) (tCall (sp52 K) [] E0 (tCons (tVar 0) tNil))))
theorem der53 {P : Program} {w : World} {K : PySem.W.Frag} {mg : Str → Option Value} {base : Heap} {f : Addr} {cdv : Value} {A : Around} {outer : List Env} {s : Shared} {H : Hp} {E : XK} {qual : Str} (T : Txt K mg) (hr : Room 1 (A.deeper (envOfC qual (defScope s53) s.heap.objs.size f cdv))) (C52 : Cal P w K mg base 1 "_law_pool" (sp52 K) []) :
    PSs (cxOf CX0 P w K mg base n53 qual (defScope s53) f cdv A outer s H E).nox (defBody s53) (t53 K) :=
    (pss_one (ps_ret (pe_op op_cat (pe_lst (pa_cons pe_int pa_nil)) (pe_c C52 hr (by decide) (by rfl) (pa_cons (pv 0) pa_nil)))))
theorem cal53 {P : Program} {w : World} {K : PySem.W.Frag} {mg : Str → Option Value} {base : Heap} (T : Txt K mg) (C52 : Cal P w K mg base 1 "_law_pool" (sp52 K) [])
    (h : ∀ (vs : List V) (H : Hp) (Q : VK) (E : XK), sp53 K vs H Q E → t53 K { nx := fun _ H' => Q .non H', rt := Q } (start n53 vs) H) (len : ∀ vs H Q E, sp53 K vs H Q E → vs.length = 1) : Cal P w K mg base 2 "_law_stream" (sp53 K) [] :=
  Tx.cal T.d53 sc53 len fun cdv A outer f s H vs Q E hr hs => ⟨t53 K, der53 T hr C52, h vs H Q E hs⟩

/-! _law_pick -/
abbrev n54 : List Str := ["_law_pool_here", "_law_many"]
theorem sc54 : FnScope n54 ["_law_pool_here", "_law_many"] (defScope s54) := ⟨rfl, rfl, rfl, by decide +kernel, rfl, by decide +kernel, by decide +kernel⟩
def t54 (K : PySem.W.Frag) : TS :=
    (tSeq (tAsg (tOp rAddI (tC (.int 1)) (tOp rModI (tCB rInt1 (tCons (tOp (rIxL K) (tVar 0) (tC (.int 0))) tNil)) (tOp rSubI (tCB (rLenQ K) (tCons (tVar 0) tNil)) (tC (.int 1))))) (gSub (tVar 0) (tC (.int 0)) rSetL))
    (tRet (tOp rModI (tCB rInt1 (tCons (tOp (rIxL K) (tVar 0) (tOp (rIxL K) (tVar 0) (tC (.int 0)))) tNil)) (tVar 1))))
theorem der54 {P : Program} {w : World} {K : PySem.W.Frag} {mg : Str → Option Value} {base : Heap} {f : Addr} {cdv : Value} {A : Around} {outer : List Env} {s : Shared} {H : Hp} {E : XK} {qual : Str} (T : Txt K mg) (hr : Room 0 (A.deeper (envOfC qual (defScope s54) s.heap.objs.size f cdv))) :
    PSs (cxOf CX0 P w K mg base n54 qual (defScope s54) f cdv A outer s H E).nox (defBody s54) (t54 K) :=
    (pss_cons (ps_asg (pe_op op_add pe_int (pe_op op_mod (pe_callTy call_int1 (by rfl) T.b_int bt_int (pa_cons (pe_ix ix_list (pv 0) pe_int (fun _ _ => rfl)) pa_nil)) (pe_op op_sub (pe_callB call_len_seq (by rfl) T.b_len bt_len (pa_cons (pv 0) pa_nil)) pe_int))) (pg_sub (pv 0) pe_int set_list))
    (pss_one (ps_ret (pe_op op_mod (pe_callTy call_int1 (by rfl) T.b_int bt_int (pa_cons (pe_ix ix_list (pv 0) (pe_ix ix_list (pv 0) pe_int (fun _ _ => rfl)) (fun _ _ => rfl)) pa_nil)) (pv 1)))))
theorem cal54 {P : Program} {w : World} {K : PySem.W.Frag} {mg : Str → Option Value} {base : Heap} (T : Txt K mg)
    (h : ∀ (vs : List V) (H : Hp) (Q : VK) (E : XK), sp54 K vs H Q E → t54 K { nx := fun _ H' => Q .non H', rt := Q } (start n54 vs) H) (len : ∀ vs H Q E, sp54 K vs H Q E → vs.length = 2) : Cal P w K mg base 1 "_law_pick" (sp54 K) [] :=
  Tx.cal T.d54 sc54 len fun cdv A outer f s H vs Q E hr hs => ⟨t54 K, der54 T hr, h vs H Q E hs⟩

/-! _law_cut -/
abbrev n55 : List Str := ["_law_n", "_law_d", "_law_one", "_law_other", "_law_step"]
theorem sc55 : FnScope n55 ["_law_n", "_law_d"] (defScope s55) := ⟨rfl, rfl, rfl, by decide +kernel, rfl, by decide +kernel, by decide +kernel⟩
def t55 (K : PySem.W.Frag) : TS :=
    (tSeq (tIfS (tTest (tOp rLtI (tVar 1) (tC (.int 0)))) (tPar 0 1 (tCons (tUn rNegI (tVar 0)) (tCons (tUn rNegI (tVar 1)) tNil))) tNext)
    (tSeq (tPar 2 3 (tCons (tCB rAbs (tCons (tVar 0) tNil)) (tCons (tVar 1) tNil)))
    (tSeq (tFor (iRng1 (tCons (tC (.int 20000)) tNil)) (gName 4)
      (tSeq (tIfS (tTest (tOp rEq (tVar 3) (tC (.int 0)))) tBreak tNext)
    (tPar 2 3 (tCons (tVar 3) (tCons (tOp rModI (tCB rInt1 (tCons (tVar 2) tNil)) (tVar 3)) tNil)))))
    (tRet (tTup (tCons (tOp rDivI (tVar 0) (tVar 2)) (tCons (tOp rDivI (tVar 1) (tVar 2)) tNil)))))))
theorem der55 {P : Program} {w : World} {K : PySem.W.Frag} {mg : Str → Option Value} {base : Heap} {f : Addr} {cdv : Value} {A : Around} {outer : List Env} {s : Shared} {H : Hp} {E : XK} {qual : Str} (T : Txt K mg) (hr : Room 0 (A.deeper (envOfC qual (defScope s55) s.heap.objs.size f cdv))) :
    PSs (cxOf CX0 P w K mg base n55 qual (defScope s55) f cdv A outer s H E).nox (defBody s55) (t55 K) :=
    (pss_cons (ps_if (pt_cmpR op_lt (pv 1) pe_int (nomark _)) (pss_one (ps_par (i := 0) (j := 1) rfl sc55.nd rfl rfl (by decide) rfl rfl (pa_cons (pe_un un_neg (pv 0)) (pa_cons (pe_un un_neg (pv 1)) pa_nil)) (by rfl))) pss_nil)
    (pss_cons (ps_par (i := 2) (j := 3) rfl sc55.nd rfl rfl (by decide) rfl rfl (pa_cons (pe_callB call_abs (by rfl) T.b_abs bt_abs (pa_cons (pv 0) pa_nil)) (pa_cons (pv 1) pa_nil)) (by rfl))
    (pss_cons (ps_for PassesOwn.never rfl (pi_range1 (by rfl) T.b_range (pa_cons pe_int pa_nil)) (pg_name (i := 4) sc55.nd rfl (.inl rfl))
      (pss_cons (ps_if (pt_cmpR op_eq (pv 3) pe_int (nomark _)) (pss_one ps_break) pss_nil)
    (pss_one (ps_par (i := 2) (j := 3) rfl sc55.nd rfl rfl (by decide) rfl rfl (pa_cons (pv 3) (pa_cons (pe_op op_mod (pe_callTy call_int1 (by rfl) T.b_int bt_int (pa_cons (pv 2) pa_nil)) (pv 3)) pa_nil)) (by rfl)))))
    (pss_one (ps_ret (pe_tup (pa_cons (pe_op op_fdivW (pv 0) (pv 2)) (pa_cons (pe_op op_fdivW (pv 1) (pv 2)) pa_nil))))))))
theorem cal55 {P : Program} {w : World} {K : PySem.W.Frag} {mg : Str → Option Value} {base : Heap} (T : Txt K mg)
    (h : ∀ (vs : List V) (H : Hp) (Q : VK) (E : XK), sp55 K vs H Q E → t55 K { nx := fun _ H' => Q .non H', rt := Q } (start n55 vs) H) (len : ∀ vs H Q E, sp55 K vs H Q E → vs.length = 2) : Cal P w K mg base 1 "_law_cut" (sp55 K) [] :=
  Tx.cal T.d55 sc55 len fun cdv A outer f s H vs Q E hr hs => ⟨t55 K, der55 T hr, h vs H Q E hs⟩

/-! _law_odds -/
abbrev n56 : List Str := ["_law_pool_here", "_law_size", "_law_rows", "_law_k", "_law_one"]
theorem sc56 : FnScope n56 ["_law_pool_here", "_law_size"] (defScope s56) := ⟨rfl, rfl, rfl, by decide +kernel, rfl, by decide +kernel, by decide +kernel⟩
def t56 (K : PySem.W.Frag) : TS :=
    (tSeq (tAsg (tLc (iRng1 (tCons (tVar 1) tNil)) (gName 3) tYes (tOp rAddI (tC (.int 1)) (tCall (sp54 K) [] E0 (tCons (tVar 0) (tCons (tC (.int 5)) tNil)))) [3]) (gName 2))
    (tSeq (tIfS (tTest (tOp rEq (tCall (sp54 K) [] E0 (tCons (tVar 0) (tCons (tC (.int 5)) tNil))) (tC (.int 0)))) (tAsg (tLc (iRng1 (tCons (tVar 1) tNil)) (gName 3) tYes (tOp rAddI (tC (.int 1)) (tCall (sp54 K) [] E0 (tCons (tVar 0) (tCons (tC (.int 60)) tNil)))) [3]) (gName 2)) tNext)
    (tRet (tLc (iList K (tVar 2)) (gName 4) tYes (tCall (sp55 K) [] E0 (tCons (tVar 4) (tCons (tCB (rSum K) (tCons (tVar 2) tNil)) tNil))) [4]))))
theorem der56 {P : Program} {w : World} {K : PySem.W.Frag} {mg : Str → Option Value} {base : Heap} {f : Addr} {cdv : Value} {A : Around} {outer : List Env} {s : Shared} {H : Hp} {E : XK} {qual : Str} (T : Txt K mg) (hr : Room 1 (A.deeper (envOfC qual (defScope s56) s.heap.objs.size f cdv))) (C54 : Cal P w K mg base 1 "_law_pick" (sp54 K) []) (C55 : Cal P w K mg base 1 "_law_cut" (sp55 K) []) :
    PSs (cxOf CX0 P w K mg base n56 qual (defScope s56) f cdv A outer s H E).nox (defBody s56) (t56 K) :=
    (pss_cons (ps_set (i := 2) sc56.nd rfl (.inr rfl) (pe_lc (own := [("_law_k", 3)]) (g := (gName 3)) (tt := tYes) rfl sc56.nd (pi_range1 (by rfl) T.b_range (pa_cons (pv 1) pa_nil)) (blkOk_by (own := [("_law_k", 3)]) (N := n56) (sc := defScope s56) (by decide +kernel)) (fun _ _ _ _ _ => (pg_name (i := 3) sc56.nd rfl (.inl rfl))) (fun _ _ _ _ _ => pts_nil) (fun _ _ _ _ _ => (pe_op op_add pe_int (pe_c C54 hr (by decide) (by rfl) (pa_cons (pv 0) (pa_cons pe_int pa_nil)))))))
    (pss_cons (ps_if (pt_cmpR op_eq (pe_c C54 hr (by decide) (by rfl) (pa_cons (pv 0) (pa_cons pe_int pa_nil))) pe_int (nomark _)) (pss_one (ps_set (i := 2) sc56.nd rfl (.inr rfl) (pe_lc (own := [("_law_k", 3)]) (g := (gName 3)) (tt := tYes) rfl sc56.nd (pi_range1 (by rfl) T.b_range (pa_cons (pv 1) pa_nil)) (blkOk_by (own := [("_law_k", 3)]) (N := n56) (sc := defScope s56) (by decide +kernel)) (fun _ _ _ _ _ => (pg_name (i := 3) sc56.nd rfl (.inl rfl))) (fun _ _ _ _ _ => pts_nil) (fun _ _ _ _ _ => (pe_op op_add pe_int (pe_c C54 hr (by decide) (by rfl) (pa_cons (pv 0) (pa_cons pe_int pa_nil)))))))) pss_nil)
    (pss_one (ps_ret (pe_lc (own := [("_law_one", 4)]) (g := (gName 4)) (tt := tYes) rfl sc56.nd (pi_list (pv 2)) (blkOk_by (own := [("_law_one", 4)]) (N := n56) (sc := defScope s56) (by decide +kernel)) (fun _ _ _ _ _ => (pg_name (i := 4) sc56.nd rfl (.inl rfl))) (fun _ _ _ _ _ => pts_nil) (fun _ _ _ _ _ => (pe_c C55 hr (by decide) (by rfl) (pa_cons (pv 4) (pa_cons (pe_callB (cr_sum rfl) (by rfl) T.b_sum bt_sum (pa_cons (pv 2) pa_nil)) pa_nil)))))))))
theorem cal56 {P : Program} {w : World} {K : PySem.W.Frag} {mg : Str → Option Value} {base : Heap} (T : Txt K mg) (C54 : Cal P w K mg base 1 "_law_pick" (sp54 K) []) (C55 : Cal P w K mg base 1 "_law_cut" (sp55 K) [])
    (h : ∀ (vs : List V) (H : Hp) (Q : VK) (E : XK), sp56 K vs H Q E → t56 K { nx := fun _ H' => Q .non H', rt := Q } (start n56 vs) H) (len : ∀ vs H Q E, sp56 K vs H Q E → vs.length = 2) : Cal P w K mg base 2 "_law_odds" (sp56 K) [] :=
  Tx.cal T.d56 sc56 len fun cdv A outer f s H vs Q E hr hs => ⟨t56 K, der56 T hr C54 C55, h vs H Q E hs⟩

/-! _law_gain -/
abbrev n57 : List Str := ["_law_pool_here", "_law_kind"]
theorem sc57 : FnScope n57 ["_law_pool_here"] (defScope s57) := ⟨rfl, rfl, rfl, by decide +kernel, rfl, by decide +kernel, by decide +kernel⟩
def t57 (K : PySem.W.Frag) : TS :=
    (tSeq (tAsg (tCall (sp54 K) [] E0 (tCons (tVar 0) (tCons (tC (.int 8)) tNil))) (gName 1))
    (tSeq (tIfS (tTest (tOp rEq (tVar 1) (tC (.int 0)))) (tRet (tCall (sp55 K) [] E0 (tCons (tOp rSubI (tOp rMulI (tCall (sp54 K) [] E0 (tCons (tVar 0) (tCons (tC (.int 60)) tNil))) (tC (.int 16))) (tOp rMulI (tCall (sp54 K) [] E0 (tCons (tVar 0) (tCons (tC (.int 60)) tNil))) (tC (.int 16)))) (tCons (tOp rAddI (tC (.int 1)) (tCall (sp54 K) [] E0 (tCons (tVar 0) (tCons (tC (.int 12)) tNil)))) tNil)))) tNext)
    (tSeq (tIfS (tTest (tOp rEq (tVar 1) (tC (.int 1)))) (tRet (tCall (sp55 K) [] E0 (tCons (tOp rSubI (tCall (sp54 K) [] E0 (tCons (tVar 0) (tCons (tC (.int 19)) tNil))) (tC (.int 9))) (tCons (tOp rAddI (tC (.int 2)) (tCall (sp54 K) [] E0 (tCons (tVar 0) (tCons (tC (.int 5)) tNil)))) tNil)))) tNext)
    (tRet (tTup (tCons (tOp rSubI (tCall (sp54 K) [] E0 (tCons (tVar 0) (tCons (tC (.int 14)) tNil))) (tC (.int 6))) (tCons (tC (.int 1)) tNil)))))))
theorem der57 {P : Program} {w : World} {K : PySem.W.Frag} {mg : Str → Option Value} {base : Heap} {f : Addr} {cdv : Value} {A : Around} {outer : List Env} {s : Shared} {H : Hp} {E : XK} {qual : Str} (T : Txt K mg) (hr : Room 1 (A.deeper (envOfC qual (defScope s57) s.heap.objs.size f cdv))) (C54 : Cal P w K mg base 1 "_law_pick" (sp54 K) []) (C55 : Cal P w K mg base 1 "_law_cut" (sp55 K) []) :
    PSs (cxOf CX0 P w K mg base n57 qual (defScope s57) f cdv A outer s H E).nox (defBody s57) (t57 K) :=
    (pss_cons (ps_set (i := 1) sc57.nd rfl (.inl rfl) (pe_c C54 hr (by decide) (by rfl) (pa_cons (pv 0) (pa_cons pe_int pa_nil))))
    (pss_cons (ps_if (pt_cmpR op_eq (pv 1) pe_int (nomark _)) (pss_one (ps_ret (pe_c C55 hr (by decide) (by rfl) (pa_cons (pe_op op_sub (pe_op op_mulW (pe_c C54 hr (by decide) (by rfl) (pa_cons (pv 0) (pa_cons pe_int pa_nil))) pe_int) (pe_op op_mulW (pe_c C54 hr (by decide) (by rfl) (pa_cons (pv 0) (pa_cons pe_int pa_nil))) pe_int)) (pa_cons (pe_op op_add pe_int (pe_c C54 hr (by decide) (by rfl) (pa_cons (pv 0) (pa_cons pe_int pa_nil)))) pa_nil))))) pss_nil)
    (pss_cons (ps_if (pt_cmpR op_eq (pv 1) pe_int (nomark _)) (pss_one (ps_ret (pe_c C55 hr (by decide) (by rfl) (pa_cons (pe_op op_sub (pe_c C54 hr (by decide) (by rfl) (pa_cons (pv 0) (pa_cons pe_int pa_nil))) pe_int) (pa_cons (pe_op op_add pe_int (pe_c C54 hr (by decide) (by rfl) (pa_cons (pv 0) (pa_cons pe_int pa_nil)))) pa_nil))))) pss_nil)
    (pss_one (ps_ret (pe_tup (pa_cons (pe_op op_sub (pe_c C54 hr (by decide) (by rfl) (pa_cons (pv 0) (pa_cons pe_int pa_nil))) pe_int) (pa_cons pe_int pa_nil))))))))
theorem cal57 {P : Program} {w : World} {K : PySem.W.Frag} {mg : Str → Option Value} {base : Heap} (T : Txt K mg) (C54 : Cal P w K mg base 1 "_law_pick" (sp54 K) []) (C55 : Cal P w K mg base 1 "_law_cut" (sp55 K) [])
    (h : ∀ (vs : List V) (H : Hp) (Q : VK) (E : XK), sp57 K vs H Q E → t57 K { nx := fun _ H' => Q .non H', rt := Q } (start n57 vs) H) (len : ∀ vs H Q E, sp57 K vs H Q E → vs.length = 1) : Cal P w K mg base 2 "_law_gain" (sp57 K) [] :=
  Tx.cal T.d57 sc57 len fun cdv A outer f s H vs Q E hr hs => ⟨t57 K, der57 T hr C54 C55, h vs H Q E hs⟩

/-! _law_field -/
abbrev n58 : List Str := ["_law_pool_here", "_law_most", "_law_pairs", "_law_many", "_law_game", "_law_k", "_law_ends", "_law_kind", "_law_odds_here", "_law_turn", "_law_count", "_law_wide", "_law_n"]
theorem sc58 : FnScope n58 ["_law_pool_here", "_law_most", "_law_pairs"] (defScope s58) := ⟨rfl, rfl, rfl, by decide +kernel, rfl, by decide +kernel, by decide +kernel⟩
def t58 (K : PySem.W.Frag) : TS :=
    (tSeq (tAsg (tOp rAddI (tC (.int 1)) (tCall (sp54 K) [] E0 (tCons (tVar 0) (tCons (tVar 1) tNil)))) (gName 3))
    (tSeq (tAsg (tLst tNil) (gName 4))
    (tSeq (tFor (iRng1 (tCons (tVar 3) tNil)) (gName 5)
      (tSeq (tAsg (tLc (iRng1 (tCons (tOp (rIxL K) (tLst (tCons (tC (.int 1)) (tCons (tC (.int 2)) (tCons (tC (.int 3)) (tCons (tC (.int 2)) (tCons (tC (.int 1)) (tCons (tC (.int 2)) (tCons (tC (.int 4)) (tCons (tC (.int 6)) tNil))))))))) (tCall (sp54 K) [] E0 (tCons (tVar 0) (tCons (tC (.int 8)) tNil)))) tNil)) (gName 12) tYes (tCall (sp54 K) [] E0 (tCons (tVar 0) (tCons (tVar 3) tNil))) [12]) (gName 6))
    (tSeq (tAsg (tOp (rIxL K) (tLst (tCons (tC (.str "ours")) (tCons (tC (.str "theirs")) (tCons (tC (.str "draw")) tNil)))) (tCall (sp54 K) [] E0 (tCons (tVar 0) (tCons (tC (.int 3)) tNil)))) (gName 7))
    (tSeq (tIfS (tTest (tOp rEq (tVar 7) (tC (.str "draw")))) (tSeq (tAsg (tCall (sp56 K) [] E0 (tCons (tVar 0) (tCons (tCB (rLenQ K) (tCons (tVar 6) tNil)) tNil))) (gName 8))
    (tAsg (tLc (iRng1 (tCons (tCB (rLenQ K) (tCons (tVar 6) tNil)) tNil)) (gName 12) tYes (tTup (tCons (tOp (rIxL K) (tVar 8) (tVar 12)) (tCons (tOp (rIxL K) (tVar 6) (tVar 12)) tNil))) [12]) (gName 6))) tNext)
    (tDrop (tBM K "list" rAppend (tVar 4) (tCons (tTup (tCons (tCall (sp57 K) [] E0 (tCons (tVar 0) tNil)) (tCons (tVar 7) (tCons (tVar 6) tNil)))) tNil)))))))
    (tSeq (tFor (iRng1 (tCons (tC (.int 40)) tNil)) (gName 9)
      (tSeq (tAsg (tC (.int 1)) (gName 10))
    (tSeq (tAsg (tC (.int 0)) (gName 11))
    (tSeq (tFor (iRng1 (tCons (tVar 3) tNil)) (gName 5)
      (tIfS (tTest (tOp rNe (tOp (rIxT K) (tOp (rIxL K) (tVar 4) (tVar 5)) (tC (.int 1))) (tC (.str "draw")))) (tSeq (tAsg (tOp rMulI (tVar 10) (tCB (rLenQ K) (tCons (tOp (rIxT K) (tOp (rIxL K) (tVar 4) (tVar 5)) (tC (.int 2))) tNil))) (gName 10))
    (tIfS (tOr (tTest (tOp rGtI (tCB (rLenQ K) (tCons (tOp (rIxT K) (tOp (rIxL K) (tVar 4) (tVar 5)) (tC (.int 2))) tNil)) (tCB (rLenQ K) (tCons (tOp (rIxT K) (tOp (rIxL K) (tVar 4) (tVar 11)) (tC (.int 2))) tNil)))) (tTest (tOp rEq (tOp (rIxT K) (tOp (rIxL K) (tVar 4) (tVar 11)) (tC (.int 1))) (tC (.str "draw"))))) (tAsg (tVar 5) (gName 11)) tNext)) tNext))
    (tSeq (tIfS (tTest (tOp rLeI (tVar 10) (tVar 2))) tBreak tNext)
    (tAsg (tTup (tCons (tOp (rIxT K) (tOp (rIxL K) (tVar 4) (tVar 11)) (tC (.int 0))) (tCons (tOp (rIxT K) (tOp (rIxL K) (tVar 4) (tVar 11)) (tC (.int 1))) (tCons (tSl (rSlL K) (tOp (rIxT K) (tOp (rIxL K) (tVar 4) (tVar 11)) (tC (.int 2))) (tPart (tC (.int 1))) tNoPart) tNil)))) (gSub (tVar 4) (tVar 11) rSetL)))))))
    (tRet (tVar 4))))))
theorem der58 {P : Program} {w : World} {K : PySem.W.Frag} {mg : Str → Option Value} {base : Heap} {f : Addr} {cdv : Value} {A : Around} {outer : List Env} {s : Shared} {H : Hp} {E : XK} {qual : Str} (T : Txt K mg) (hr : Room 2 (A.deeper (envOfC qual (defScope s58) s.heap.objs.size f cdv))) (C54 : Cal P w K mg base 1 "_law_pick" (sp54 K) []) (C56 : Cal P w K mg base 2 "_law_odds" (sp56 K) []) (C57 : Cal P w K mg base 2 "_law_gain" (sp57 K) []) :
    PSs (cxOf CX0 P w K mg base n58 qual (defScope s58) f cdv A outer s H E).nox (defBody s58) (t58 K) :=
    (pss_cons (ps_set (i := 3) sc58.nd rfl (.inr rfl) (pe_op op_add pe_int (pe_c C54 hr (by decide) (by rfl) (pa_cons (pv 0) (pa_cons (pv 1) pa_nil)))))
    (pss_cons (ps_set (i := 4) sc58.nd rfl (.inl rfl) (pe_lst pa_nil))
    (pss_cons (ps_for PassesOwn.never rfl (pi_range1 (by rfl) T.b_range (pa_cons (pv 3) pa_nil)) (pg_name (i := 5) sc58.nd rfl (.inl rfl))
      (pss_cons (ps_set (i := 6) sc58.nd rfl (.inr rfl) (pe_lc (own := [("_law_n", 12)]) (g := (gName 12)) (tt := tYes) rfl sc58.nd (pi_range1 (by rfl) T.b_range (pa_cons (pe_ix ix_list (pe_lst (pa_cons pe_int (pa_cons pe_int (pa_cons pe_int (pa_cons pe_int (pa_cons pe_int (pa_cons pe_int (pa_cons pe_int (pa_cons pe_int pa_nil))))))))) (pe_c C54 hr (by decide) (by rfl) (pa_cons (pv 0) (pa_cons pe_int pa_nil))) (fun _ _ => rfl)) pa_nil)) (blkOk_by (own := [("_law_n", 12)]) (N := n58) (sc := defScope s58) (by decide +kernel)) (fun _ _ _ _ _ => (pg_name (i := 12) sc58.nd rfl (.inl rfl))) (fun _ _ _ _ _ => pts_nil) (fun _ _ _ _ _ => (pe_c C54 hr (by decide) (by rfl) (pa_cons (pv 0) (pa_cons (pv 3) pa_nil))))))
    (pss_cons (ps_set (i := 7) sc58.nd rfl (.inl rfl) (pe_ix ix_list (pe_lst (pa_cons pe_str (pa_cons pe_str (pa_cons pe_str pa_nil)))) (pe_c C54 hr (by decide) (by rfl) (pa_cons (pv 0) (pa_cons pe_int pa_nil))) (fun _ _ => rfl)))
    (pss_cons (ps_if (pt_cmpR op_eq (pv 7) pe_str (nomark _)) (pss_cons (ps_set (i := 8) sc58.nd rfl (.inr rfl) (pe_c C56 hr (by decide) (by rfl) (pa_cons (pv 0) (pa_cons (pe_callB call_len_seq (by rfl) T.b_len bt_len (pa_cons (pv 6) pa_nil)) pa_nil))))
    (pss_one (ps_set (i := 6) sc58.nd rfl (.inr rfl) (pe_lc (own := [("_law_n", 12)]) (g := (gName 12)) (tt := tYes) rfl sc58.nd (pi_range1 (by rfl) T.b_range (pa_cons (pe_callB call_len_seq (by rfl) T.b_len bt_len (pa_cons (pv 6) pa_nil)) pa_nil)) (blkOk_by (own := [("_law_n", 12)]) (N := n58) (sc := defScope s58) (by decide +kernel)) (fun _ _ _ _ _ => (pg_name (i := 12) sc58.nd rfl (.inl rfl))) (fun _ _ _ _ _ => pts_nil) (fun _ _ _ _ _ => (pe_tup (pa_cons (pe_ix ix_list (pv 8) (pv 12) (fun _ _ => rfl)) (pa_cons (pe_ix ix_list (pv 6) (pv 12) (fun _ _ => rfl)) pa_nil)))))))) pss_nil)
    (pss_one (ps_expr (pe_bm PySem.F.plainAttrs_list PySem.F.slot_list_append PySem.F.type_list_append mt_append (pv 4) (pa_cons (pe_tup (pa_cons (pe_c C57 hr (by decide) (by rfl) (pa_cons (pv 0) pa_nil)) (pa_cons (pv 7) (pa_cons (pv 6) pa_nil)))) pa_nil))))))))
    (pss_cons (ps_for PassesOwn.never rfl (pi_range1 (by rfl) T.b_range (pa_cons pe_int pa_nil)) (pg_name (i := 9) sc58.nd rfl (.inl rfl))
      (pss_cons (ps_set (i := 10) sc58.nd rfl (.inl rfl) pe_int)
    (pss_cons (ps_set (i := 11) sc58.nd rfl (.inl rfl) pe_int)
    (pss_cons (ps_for PassesOwn.never rfl (pi_range1 (by rfl) T.b_range (pa_cons (pv 3) pa_nil)) (pg_name (i := 5) sc58.nd rfl (.inl rfl))
      (pss_one (ps_if (pt_cmpR op_ne (pe_ix ix_tup (pe_ix ix_list (pv 4) (pv 5) (fun _ _ => rfl)) pe_int (fun _ _ => rfl)) pe_str (nomark _)) (pss_cons (ps_set (i := 10) sc58.nd rfl (.inl rfl) (pe_op op_mulW (pv 10) (pe_callB call_len_seq (by rfl) T.b_len bt_len (pa_cons (pe_ix ix_tup (pe_ix ix_list (pv 4) (pv 5) (fun _ _ => rfl)) pe_int (fun _ _ => rfl)) pa_nil))))
    (pss_one (ps_if (PW.pt (pw_or (pt_cmpR op_gt (pe_callB call_len_seq (by rfl) T.b_len bt_len (pa_cons (pe_ix ix_tup (pe_ix ix_list (pv 4) (pv 5) (fun _ _ => rfl)) pe_int (fun _ _ => rfl)) pa_nil)) (pe_callB call_len_seq (by rfl) T.b_len bt_len (pa_cons (pe_ix ix_tup (pe_ix ix_list (pv 4) (pv 11) (fun _ _ => rfl)) pe_int (fun _ _ => rfl)) pa_nil)) (nomark _)) (pw_or1 (pt_cmpR op_eq (pe_ix ix_tup (pe_ix ix_list (pv 4) (pv 11) (fun _ _ => rfl)) pe_int (fun _ _ => rfl)) pe_str (nomark _))))) (pss_one (ps_set (i := 11) sc58.nd rfl (.inl rfl) (pv 5))) pss_nil))) pss_nil)))
    (pss_cons (ps_if (pt_cmpR op_le (pv 10) (pv 2) (nomark _)) (pss_one ps_break) pss_nil)
    (pss_one (ps_asg (pe_tup (pa_cons (pe_ix ix_tup (pe_ix ix_list (pv 4) (pv 11) (fun _ _ => rfl)) pe_int (fun _ _ => rfl)) (pa_cons (pe_ix ix_tup (pe_ix ix_list (pv 4) (pv 11) (fun _ _ => rfl)) pe_int (fun _ _ => rfl)) (pa_cons (pe_slice sl_list (pe_ix ix_tup (pe_ix ix_list (pv 4) (pv 11) (fun _ _ => rfl)) pe_int (fun _ _ => rfl)) (po_some pe_int) po_none) pa_nil)))) (pg_sub (pv 4) (pv 11) set_list))))))))
    (pss_one (ps_ret (pv 4)))))))
theorem cal58 {P : Program} {w : World} {K : PySem.W.Frag} {mg : Str → Option Value} {base : Heap} (T : Txt K mg) (C54 : Cal P w K mg base 1 "_law_pick" (sp54 K) []) (C56 : Cal P w K mg base 2 "_law_odds" (sp56 K) []) (C57 : Cal P w K mg base 2 "_law_gain" (sp57 K) [])
    (h : ∀ (vs : List V) (H : Hp) (Q : VK) (E : XK), sp58 K vs H Q E → t58 K { nx := fun _ H' => Q .non H', rt := Q } (start n58 vs) H) (len : ∀ vs H Q E, sp58 K vs H Q E → vs.length = 3) : Cal P w K mg base 3 "_law_field" (sp58 K) [] :=
  Tx.cal T.d58 sc58 len fun cdv A outer f s H vs Q E hr hs => ⟨t58 K, der58 T hr C54 C56 C57, h vs H Q E hs⟩

/-! _law_plan -/
abbrev n59 : List Str := ["_law_pool_here", "_law_game", "_law_side", "_law_found", "_law_gain_here", "_law_kind", "_law_ends", "_law_told"]
theorem sc59 : FnScope n59 ["_law_pool_here", "_law_game", "_law_side"] (defScope s59) := ⟨rfl, rfl, rfl, by decide +kernel, rfl, by decide +kernel, by decide +kernel⟩
def t59 (K : PySem.W.Frag) : TS :=
    (tSeq (tAsg (tLst tNil) (gName 3))
    (tSeq (tFor (iList K (tVar 1)) (gTup K 3 (gCons (gName 4) (gCons (gName 5) (gCons (gName 6) gNil))))
      (tSeq (tAsg (tCall (sp54 K) [] E0 (tCons (tVar 0) (tCons (tCB (rLenQ K) (tCons (tVar 6) tNil)) tNil))) (gName 7))
    (tDrop (tBM K "list" rAppend (tVar 3) (tCons (tOp (rIxL K) (tLst (tCons (tC .non) (tCons (tVar 7) tNil))) (tCB rInt1 (tCons (tOp rEq (tVar 5) (tVar 2)) tNil))) tNil)))))
    (tRet (tVar 3))))
theorem der59 {P : Program} {w : World} {K : PySem.W.Frag} {mg : Str → Option Value} {base : Heap} {f : Addr} {cdv : Value} {A : Around} {outer : List Env} {s : Shared} {H : Hp} {E : XK} {qual : Str} (T : Txt K mg) (hr : Room 1 (A.deeper (envOfC qual (defScope s59) s.heap.objs.size f cdv))) (C54 : Cal P w K mg base 1 "_law_pick" (sp54 K) []) :
    PSs (cxOf CX0 P w K mg base n59 qual (defScope s59) f cdv A outer s H E).nox (defBody s59) (t59 K) :=
    (pss_cons (ps_set (i := 3) sc59.nd rfl (.inl rfl) (pe_lst pa_nil))
    (pss_cons (ps_for PassesOwn.never rfl (pi_list (pv 1)) (pg_tup rfl (pgs_cons (pg_name (i := 4) sc59.nd rfl (.inl rfl)) (pgs_cons (pg_name (i := 5) sc59.nd rfl (.inl rfl)) (pgs_cons (pg_name (i := 6) sc59.nd rfl (.inl rfl)) pgs_nil))))
      (pss_cons (ps_set (i := 7) sc59.nd rfl (.inl rfl) (pe_c C54 hr (by decide) (by rfl) (pa_cons (pv 0) (pa_cons (pe_callB call_len_seq (by rfl) T.b_len bt_len (pa_cons (pv 6) pa_nil)) pa_nil))))
    (pss_one (ps_expr (pe_bm PySem.F.plainAttrs_list PySem.F.slot_list_append PySem.F.type_list_append mt_append (pv 3) (pa_cons (pe_ix ix_list (pe_lst (pa_cons pe_non (pa_cons (pv 7) pa_nil))) (pe_callTy call_int1 (by rfl) T.b_int bt_int (pa_cons (pe_cmpR op_eq (pv 5) (pv 2) (nomark _)) pa_nil)) (fun _ _ => rfl)) pa_nil))))))
    (pss_one (ps_ret (pv 3)))))
theorem cal59 {P : Program} {w : World} {K : PySem.W.Frag} {mg : Str → Option Value} {base : Heap} (T : Txt K mg) (C54 : Cal P w K mg base 1 "_law_pick" (sp54 K) [])
    (h : ∀ (vs : List V) (H : Hp) (Q : VK) (E : XK), sp59 K vs H Q E → t59 K { nx := fun _ H' => Q .non H', rt := Q } (start n59 vs) H) (len : ∀ vs H Q E, sp59 K vs H Q E → vs.length = 3) : Cal P w K mg base 2 "_law_plan" (sp59 K) [] :=
  Tx.cal T.d59 sc59 len fun cdv A outer f s H vs Q E hr hs => ⟨t59 K, der59 T hr C54, h vs H Q E hs⟩

end Mh
end
section
set_option Elab.async false
set_option linter.all false
set_option maxRecDepth 100000
set_option maxHeartbeats 4000000
set_option exponentiation.threshold 20000
/-! the pool, cuts: the readings -/
namespace Mh
open PySem PySem.Spec PyProof.Rows L2
open C8 (Cal pe_c)
open Evl (ixN_nat)
theorem PoolOk.keep {H : Hp} {p q : Addr} {o : HO} (h : PoolOk H p) (hq : H q = none) : PoolOk (upd H q o) p := by
  obtain ⟨zs, h1, h2⟩ := h
  exact ⟨zs, by rw [upd_ne (ne_of_none h1 hq)]; exact h1, h2⟩
theorem PoolOk.put {H : Hp} {p q : Addr} {o : HO} (h : PoolOk H p) (hq : p ≠ q) : PoolOk (upd H q o) p := by
  obtain ⟨zs, h1, h2⟩ := h
  exact ⟨zs, by rw [upd_ne hq]; exact h1, h2⟩
theorem PoolOk.ne {H : Hp} {p q : Addr} (h : PoolOk H p) (hq : H q = none) : p ≠ q := by
  obtain ⟨zs, h1, h2⟩ := h
  exact ne_of_none h1 hq
theorem PoolOk.ext {Hs H Hs' H' : Hp} {p : Addr} (h : PoolOk H p) (e : Ext0 Hs H Hs' H') (h0 : Hs p = none) : PoolOk H' p ∧ Hs' p = none := by
  obtain ⟨zs, h1, h2⟩ := h
  obtain ⟨a, b⟩ := e.own (fun z => z) h1 h0
  exact ⟨⟨zs, b, h2⟩, a⟩
abbrev Mp (p : Addr) : Addr → Prop := fun q => q = p
section
variable {K : PySem.W.Frag} {J : It} {n : Nat} {G : Hp → Prop} {Y : Nat → Hp → V → Hp → Prop} {g : TG} {te : TE} {vs : List Nat} {σ : L2.St} {Hs H1 : Hp} {D p : Addr} {Qd : Hp → Prop}
/-- a comprehension that draws from the pool -/
theorem lc_pool (w : Walk J n G Y) (st : Same Hs H1) (fG : ∀ H, Same Hs H → G H) (hD : H1 D = none) (hp0 : Hs p = none) (hp1 : PoolOk H1 p) (P : Nat → PyData → Prop) (hn : n ≤ 100000)
    (hs : ∀ (i : Nat) (x : V) (Hs' H H' : Hp) (C : VK), i < n → Ext (Mp p) Hs H1 Hs' H → Hs' p = none → PoolOk H p → Y i H x H' → (∀ y Hs4 H4 d, Ext (Mp p) Hs' H Hs4 H4 → Hs4 p = none → PoolOk H4 p → Is K Hs4 y d → P i d → C y H4) →
      g x (wipe σ vs) H' fun σ2 H2 => wipe σ2 vs = wipe σ vs ∧ te σ2 H2 C)
    (hd : ∀ Hs' H' ys ds, Ext (Mp p) Hs H1 Hs' H' → Hs' p = none → PoolOk H' p → Hs' D = none → H' D = some (.lst ys) → IsA K Hs' ys ds → ds.length = n → (∀ j d, ds[j]? = some d → P j d) → Qd H') :
    ∃ W : Nat → Nat → Hp → Prop, (∃ m, W 0 m (upd H1 D (.lst []))) ∧ ∀ i m H, W i m H →
      (J.stop i H ∧ Qd H) ∨ (J.go i H ∧ ∃ Nx : Hp → Prop, (∀ H', Nx H' → ∃ m', m' < m ∧ W (i + 1) m' H') ∧ ∀ x H', J.yld i H x H' → g x (wipe σ vs) H' fun σ2 H2 => wipe σ2 vs = wipe σ vs ∧ tYes σ2 H2 fun b H3 =>
        if b = true then te σ2 H3 fun y H4 => ∃ acc, H4 D = some (.lst acc) ∧ acc.length < sizeLine ∧ Nx (upd H4 D (.lst (acc ++ [y]))) else Nx H3) := by
  have hDp : p ≠ D := hp1.ne hD
  refine lc_it (Qd := Qd) w (fun i H => ∃ Hs' acc ds, Ext (Mp p) Hs H1 Hs' H ∧ Hs' p = none ∧ PoolOk H p ∧ Hs' D = none ∧ H D = some (.lst acc) ∧ IsA K Hs' acc ds ∧ ds.length = i ∧ ∀ j d, ds[j]? = some d → P j d)
    ⟨Hs, [], [], (Ext.refl st).newM hD, hp0, hp1.keep hD, st.free hD, upd_same, .nil, rfl, fun j d h => by simp at h⟩ (fun i H _ ⟨Hs', acc, ds, e, _⟩ => fG H (e.s.trans e.t)) (fun i x H H' hi ⟨Hs', acc, ds, e, q0, q1, d0, d1, ha, hl, hP⟩ y => ?_) (fun H ⟨Hs', acc, ds, e, q0, q1, d0, d1, ha, hl, hP⟩ => hd Hs' H acc ds e q0 q1 d0 d1 ha hl hP)
  refine hs i x Hs' H H' _ hi e q0 q1 y fun v Hs4 H4 d e4 q2 q3 hv hPd => ?_
  obtain ⟨f0, f1⟩ := e4.own (fun z => hDp z.symm) d1 d0
  have l1 := ha.len
  refine ⟨acc, f1, big_lt (by omega), Hs4, acc ++ [v], ds ++ [d], (e.trans e4).mut (.inl hD) f0, q2, q3.put hDp, f0, upd_same, (ha.up e4.s).append (.cons hv .nil), by rw [List.length_append, hl]; rfl, fun j d' h => ?_⟩
  by_cases c : j < ds.length
  · rw [List.getElem?_append_left c] at h
    exact hP j d' h
  · rw [List.getElem?_append_right (by omega)] at h
    have hj : j - ds.length = 0 := by
      have := (List.getElem?_eq_some_iff.mp h).1
      simp at this
      omega
    rw [hj] at h
    cases h
    have : j = i := by omega
    rw [this]; exact hPd
end
theorem ex_map {α : Type} {f : α → PyData} {R : α → Prop} : ∀ {ds : List PyData}, (∀ (j : Nat) d, ds[j]? = some d → ∃ k, d = f k ∧ R k) → ∃ ks : List α, ds = ks.map f ∧ ∀ k ∈ ks, R k
  | [], _ => ⟨[], rfl, fun k h => by cases h⟩
  | d :: ds, h => by
    obtain ⟨k, e, r⟩ := h 0 d rfl
    obtain ⟨ks, e2, r2⟩ := ex_map (ds := ds) fun j d' hd => h (j + 1) d' hd
    refine ⟨k :: ks, by rw [e, e2]; rfl, fun k' hk => ?_⟩
    rcases List.mem_cons.mp hk with q | q
    · subst q; exact r
    · exact r2 k' q
section
variable {K : PySem.W.Frag}
theorem h54 (vs : List V) (H : Hp) (Q : VK) (E : XK) (h : sp54 K vs H Q E) : t54 K { nx := fun _ H' => Q .non H', rt := Q } (start n54 vs) H := by
  obtain ⟨p, m, Hs, rfl, hm, ⟨zs, hp, h2, h4, hz⟩, h0, st, q⟩ := h
  have e0 : (zs.map V.int)[0]? = some (.int (zs[0]'(by omega))) := by rw [List.getElem?_map, List.getElem?_eq_getElem (by omega)]; rfl
  obtain ⟨z0, hz0⟩ : ∃ z0, z0 = zs[0]'(by omega) := ⟨_, rfl⟩
  rw [← hz0] at e0
  have lz : (zs.map V.int).length = zs.length := List.length_map _
  obtain ⟨nv, hnv⟩ : ∃ nv : Int, nv = 1 + z0 % (((zs.map V.int).length : Int) - 1) := ⟨_, rfl⟩
  have hpos : (0:Int) < ((zs.map V.int).length : Int) - 1 := by omega
  have n1 := Int.emod_nonneg z0 (show ((zs.map V.int).length : Int) - 1 ≠ 0 by omega)
  have n2 := Int.emod_lt_of_pos z0 hpos
  have hnv1 : 1 ≤ nv ∧ nv < (zs.length : Int) := by omega
  refine ⟨_, rfl, p, _, _, _, rfl, rfl, SqL.of hp, atI_nat (j := 0) e0, .inl ⟨_, rfl, ?_⟩⟩
  refine ⟨_, rfl, p, _, rfl, .inl (SqL.of hp), _, _, rfl, rfl, _, _, rfl, rfl, hpos, _, _, rfl, rfl, ?_⟩
  refine ⟨_, rfl, p, _, _, 0, rfl, rfl, hp, ixN_nat (j := 0) (by omega), ?_⟩
  have eset : ((zs.map V.int).set 0 (.int (1 + z0 % (((zs.map V.int).length : Int) - 1)))) = (zs.set 0 nv).map V.int := by rw [← hnv, List.map_set]
  have hp1 : (upd H p (.lst ((zs.map V.int).set 0 (.int (1 + z0 % (((zs.map V.int).length : Int) - 1)))))) p = some (.lst ((zs.set 0 nv).map V.int)) := by rw [upd_same, eset]
  have ls : (zs.set 0 nv).length = zs.length := List.length_set ..
  have g0 : ((zs.set 0 nv).map V.int)[0]? = some (.int nv) := by rw [List.getElem?_map, List.getElem?_set, if_pos rfl, if_pos (by omega)]; rfl
  obtain ⟨w, hw⟩ : ∃ w, (zs.set 0 nv)[nv.toNat]? = some w := ⟨_, List.getElem?_eq_getElem (by omega)⟩
  have g1 : ((zs.set 0 nv).map V.int)[nv.toNat]? = some (.int w) := by rw [List.getElem?_map, hw]; rfl
  have env : nv = ((nv.toNat : Nat) : Int) := by omega
  have gat : atI ((zs.set 0 nv).map V.int) nv = some (.int w) := by
    have := atI_nat g1
    rw [← env] at this
    exact this
  refine ⟨_, rfl, _, rfl, p, _, _, _, rfl, rfl, SqL.of hp1, atI_nat (j := 0) g0, p, _, nv, _, rfl, rfl, SqL.of hp1, gat, .inl ⟨_, rfl, ?_⟩⟩
  refine ⟨_, rfl, _, _, rfl, rfl, hm, ?_⟩
  refine q _ Hs _ ((Ext.refl st).mut (.inr rfl) h0) h0 ⟨zs.set 0 nv, hp1, by omega, by omega, fun z hz' => ?_⟩ (Int.emod_nonneg _ (by omega)) (Int.emod_lt_of_pos _ hm)
  rcases List.mem_or_eq_of_mem_set hz' with q1 | q1
  · exact hz z q1
  · subst q1; omega
theorem h53 (vs : List V) (H : Hp) (Q : VK) (E : XK) (h : sp53 K vs H Q E) : t53 K { nx := fun _ H' => Q .non H', rt := Q } (start n53 vs) H := by
  obtain ⟨ns, a, Hs, rfl, ha, hl, st, q⟩ := h
  refine ⟨by show 1 ≤ sizeLine; decide, fun b hb => ?_⟩
  have e1 : Ext0 Hs H Hs (upd H b (.lst [.int 0])) := (Ext.refl st).newM hb
  refine ⟨_, rfl, ns, a, Hs, rfl, ha, hl, e1.t, fun p Hs' H' zs e2 hp1 hp2 hp3 h1 h2 hz => ?_⟩
  obtain ⟨b0, b1⟩ := e2.own (fun z => z) upd_same (st.free hb)
  have e3 := e1.trans e2
  refine ⟨b, p, _, _, rfl, rfl, b1, hp3, bl_sl (by show 1 + (zs.map V.int).length ≤ 100000; rw [List.length_map]; omega), fun r hr => ?_⟩
  exact q r Hs' _ (e3.newM hr) (e3.free hr) (e3.t.free hr) ⟨0 :: zs, upd_same, by simp; omega, by simp; omega, fun z hz' => by
    rcases List.mem_cons.mp hz' with q1 | q1
    · subst q1; decide
    · have := hz z q1; omega⟩
end
theorem euc_half {a b : Nat} (hb : 0 < b) (h : b ≤ a) : 2 * (b * (a % b)) ≤ a * b := by
  have h1 := Nat.mod_lt a hb
  have h2 : 2 * (a % b) ≤ a := by
    have e := Nat.div_add_mod a b
    have h3 : 1 ≤ a / b := (Nat.one_le_div_iff hb).mpr h
    have h4 : b * 1 ≤ b * (a / b) := Nat.mul_le_mul_left _ h3
    omega
  have := Nat.mul_le_mul_left b h2
  rw [Nat.mul_comm a b]
  have e2 : 2 * (b * (a % b)) = b * (2 * (a % b)) := by rw [Nat.mul_left_comm]
  omega
theorem tw (x Z Y : Nat) (h : x < Z) (g : Z * 2 ^ 1 ≤ Y) : 2 * x < Y := by omega
theorem tw2 (x Y Z : Nat) (h : 1 * Z ≤ x) (g : x ≤ Y) (k : Y < Z) : False := by omega
section
variable {K : PySem.W.Frag}
theorem h55 (vs : List V) (H : Hp) (Q : VK) (E : XK) (h : sp55 K vs H Q E) : t55 K { nx := fun _ H' => Q .non H', rt := Q } (start n55 vs) H := by
  obtain ⟨n, d, Hs, rfl, hd, hn, hdd, st, q⟩ := h
  have go : ∀ n d : Int, 0 < d → n.natAbs < 2 ^ 8990 → d.natAbs < 2 ^ 8990 → (∀ v Hs' H', Ext0 Hs H Hs' H' → Is K Hs' v (qd ((n : Rat) / (d : Rat))) → Q v H') →
      (tSeq (tPar 2 3 (tCons (tCB rAbs (tCons (tVar 0) tNil)) (tCons (tVar 1) tNil)))
    (tSeq (tFor (iRng1 (tCons (tC (.int 20000)) tNil)) (gName 4)
      (tSeq (tIfS (tTest (tOp rEq (tVar 3) (tC (.int 0)))) tBreak tNext)
    (tPar 2 3 (tCons (tVar 3) (tCons (tOp rModI (tCB rInt1 (tCons (tVar 2) tNil)) (tVar 3)) tNil)))))
    (tRet (tTup (tCons (tOp rDivI (tVar 0) (tVar 2)) (tCons (tOp rDivI (tVar 1) (tVar 2)) tNil)))))) { nx := fun _ H' => Q .non H', rt := Q } [some (.int n), some (.int d), none, none, none] H := by
    intro n d hd hn hdd q
    have fin : ∀ (y4 : Option V), (tRet (tTup (tCons (tOp rDivI (tVar 0) (tVar 2)) (tCons (tOp rDivI (tVar 1) (tVar 2)) tNil)))) { nx := fun _ H' => Q .non H', rt := Q } [some (.int n), some (.int d), some (.int ((Nat.gcd n.natAbs d.natAbs : Nat) : Int)), some (.int 0), y4] H := by
      intro y4
      have g0 : (0 : Int) < ((Nat.gcd n.natAbs d.natAbs : Nat) : Int) := by
        have := Nat.gcd_pos_of_pos_right n.natAbs (show 0 < d.natAbs by omega)
        omega
      have gw : ∀ i : Int, CDivW i ((Nat.gcd n.natAbs d.natAbs : Nat) : Int) := fun i => wide_div (b := 8995) g0 (gcd_lt (by omega) (Nat.lt_of_lt_of_le hdd (Nat.pow_le_pow_right (by decide) (by decide)))) (by decide) (by decide)
      refine ⟨_, rfl, _, rfl, _, _, rfl, rfl, gw _, _, rfl, _, rfl, _, _, rfl, rfl, gw _, (by show 2 ≤ sizeLine; decide), fun p hp => ?_⟩
      refine q _ _ _ ((Ext.refl st).new hp) ?_
      obtain ⟨e1, e2⟩ := quot_pos (n := n) hd
      unfold qd
      rw [e1, e2]
      exact tup2 upd_same
    refine ⟨_, rfl, _, rfl, _, rfl, _, _, rfl, ?_⟩
    refine ⟨_, rfl, by decide, by decide, ?_⟩
    have eabs : (if n < 0 then -n else n) = ((n.natAbs : Nat) : Int) := by split <;> omega
    rw [eabs]
    have ed : d = ((d.natAbs : Nat) : Int) := by omega
    have en : (20000 : Int).toNat = 20000 := rfl
    rw [en]
    refine for_it walk_rng0 (fun i σ H' => H' = H ∧ ∃ (a b : Nat) (y4 : Option V), σ = [some (.int n), some (.int d), some (.int (a : Int)), some (.int (b : Int)), y4] ∧ Nat.gcd a b = Nat.gcd n.natAbs d.natAbs ∧ (i = 0 ∨ (b ≤ a ∧ a * b * 2 ^ i ≤ 2 * (n.natAbs * d.natAbs))) ∧ (i = 0 → a = n.natAbs ∧ b = d.natAbs))
      ⟨rfl, n.natAbs, d.natAbs, _, by rw [← ed]; rfl, rfl, .inl rfl, fun _ => ⟨rfl, rfl⟩⟩ (fun _ _ _ _ _ => trivial) ?_ ?_
    · rintro i x σ H1 H1' hi ⟨rfl, a, b, y4, rfl, hg, hor, h0⟩ ⟨rfl, rfl⟩
      refine ⟨_, rfl, rfl, _, rfl, ?_⟩
      by_cases hb : b = 0
      · subst hb
        rw [Nat.gcd_zero_right] at hg
        subst hg
        refine iteT ?_
        exact fin _
      · rw [decide_eq_false (fun z => hb (by have := V.int.inj z; omega))]
        refine iteF ?_
        refine ⟨_, rfl, _, rfl, .inl ⟨_, rfl, ?_⟩⟩
        refine ⟨_, rfl, _, _, rfl, rfl, by omega, _, _, rfl, ?_⟩
        refine ⟨rfl, b, a % b, _, rfl, ?_, .inr ?_, fun z => absurd z (by omega)⟩
        · rw [← hg, Nat.gcd_comm a b, Nat.gcd_rec b a, Nat.gcd_comm]
        · have hlt := Nat.mod_lt a (show 0 < b by omega)
          refine ⟨Nat.le_of_lt hlt, ?_⟩
          rcases hor with q1 | ⟨q1, q2⟩
          · subst q1
            obtain ⟨e1, e2⟩ := h0 rfl
            have h1 : a % b ≤ a := Nat.mod_le a b
            have h2 : b * (a % b) ≤ b * a := Nat.mul_le_mul_left _ h1
            rw [← e1, ← e2, Nat.mul_comm a b]
            show b * (a % b) * 2 ^ 1 ≤ 2 * (b * a)
            omega
          · have h1 := euc_half (show 0 < b by omega) q1
            have h2 : 2 * (b * (a % b)) * 2 ^ i ≤ a * b * 2 ^ i := Nat.mul_le_mul_right _ h1
            rw [Nat.pow_succ]
            have e3 : b * (a % b) * (2 ^ i * 2) = 2 * (b * (a % b)) * 2 ^ i := by
              rw [← Nat.mul_assoc, Nat.mul_comm (b * (a % b) * 2 ^ i) 2, ← Nat.mul_assoc]
            omega
    · rintro σ H1 ⟨rfl, a, b, y4, rfl, hg, hor, h0⟩
      have hb : b = 0 := by
        rcases hor with q1 | ⟨q1, q2⟩
        · exact absurd q1 (by decide)
        · refine Classical.byContradiction fun hb => ?_
          have ha : 1 ≤ a * b := Nat.mul_pos (by omega) (by omega)
          have h1 : 1 * 2 ^ 20000 ≤ a * b * 2 ^ 20000 := Nat.mul_le_mul_right _ ha
          have h2 : n.natAbs * d.natAbs < 2 ^ 8990 * 2 ^ 8990 := Nat.mul_lt_mul'' hn hdd
          have h3 : 2 * (n.natAbs * d.natAbs) < 2 ^ 20000 := by
            have e1 : (2:Nat) ^ 8990 * 2 ^ 8990 = 2 ^ 17980 := by rw [← Nat.pow_add]
            have e2 : (2:Nat) ^ 20000 = 2 ^ 17980 * 2 ^ 2020 := by rw [← Nat.pow_add]
            have e3 : (2:Nat) ^ 1 ≤ 2 ^ 2020 := Nat.pow_le_pow_right (by decide) (by decide)
            rw [e1] at h2
            rw [e2]
            have e4 : (2:Nat) ^ 17980 * 2 ^ 1 ≤ 2 ^ 17980 * 2 ^ 2020 := Nat.mul_le_mul_left _ e3
            exact tw _ _ _ h2 e4
          exact tw2 _ _ _ h1 q2 h3
      subst hb
      rw [Nat.gcd_zero_right] at hg
      subst hg
      exact fin _
  refine ⟨_, rfl, _, _, rfl, rfl, _, rfl, ?_⟩
  refine ite2 (fun e => ?_) (fun e => ?_)
  · have e1 : d < 0 := of_decide_eq_true e
    refine ⟨_, rfl, _, rfl, _, rfl, _, rfl, _, _, rfl, ?_⟩
    exact go (-n) (-d) (by omega) (by omega) (by omega) (fun v Hs' H' ex hv => q v Hs' H' ex (by rw [quot_neg e1]; exact hv))
  · have e1 : ¬ d < 0 := fun z => e (decide_eq_true z)
    exact go n d (by omega) hn hdd q
end
end Mh
end
section
set_option Elab.async false
set_option linter.all false
set_option maxRecDepth 100000
set_option maxHeartbeats 4000000
set_option exponentiation.threshold 20000
/-! played, odds, gains, plans: the readings -/
namespace Mh
open PySem PySem.Spec PyProof.Rows L2
open C8 (Cal pe_c)
open Evl (ixN_nat)
theorem shaped_il (l : List Nat) : SeqAt.shaped (il l) = true := shaped_list fun d hd => by
  obtain ⟨o, _, rfl⟩ := List.mem_map.mp hd
  exact ⟨rfl, by show 0 ≤ 9; decide⟩
theorem eqv_nil (l : List Nat) : PyData.eqv (il l) (.list []) = l.isEmpty := by cases l <;> rfl
theorem fmap_opt (ps : List (List (Option Nat))) (x : Nat) : ps.filterMap (fun σ => (σ.getD x none).map fun b => PyData.int ((b : Nat) : Int)) = (ps.filterMap fun σ => σ.getD x none).map fun (b : Nat) => PyData.int (b : Int) := by
  rw [List.map_filterMap]
theorem range_get {α : Type} (l : List α) (d : α) {i : Nat} (h : i < l.length) : l[i]? = some (l.getD i d) := by simp [List.getD, h]
section
variable {K : PySem.W.Frag}
theorem h51 (vs : List V) (H : Hp) (Q : VK) (E : XK) (h : sp51 K vs H Q E) : t51 K { nx := fun _ H' => Q .non H', rt := Q } (start n51 vs) H := by
  obtain ⟨n, G, ps, x, y, Hs, rfl, hGl, hn, hps, hx, hy, hlen, hbr, st, q⟩ := h
  obtain ⟨a, xs, rfl, ha, hxs⟩ := is_gd hx
  obtain ⟨b, us, rfl, hb, hus⟩ := hy.list
  have lx : xs.length = n := by rw [hxs.flen, hGl]
  have lus : us.length = ps.length := by rw [hus.len, List.length_map]
  refine ⟨Nat.zero_le _, fun l hl => ?_⟩
  have e0 : Ext0 Hs H Hs (upd H l (.lst [])) := (Ext.refl st).newM hl
  refine ⟨_, rfl, a, xs, rfl, .inl (SqL.of (e0.t _ _ ha)), _, rfl, by omega, by omega, ?_⟩
  have en : ((xs.length : Nat) : Int).toNat = n := by omega
  rw [en]
  refine for_it walk_rng0 (fun i τ H' => ∃ (Hs' : Hp) (ys : List V) (y3 y4 y5 y6 y7 y8 : Option V), τ = [some (.ref a), some (.ref b), some (.ref l), y3, y4, y5, y6, y7, y8] ∧ Ext0 Hs H Hs' H' ∧ Hs' l = none ∧ H' l = some (.lst ys) ∧ IsA K Hs' ys (fl i fun x => pd (playP G ps x)))
    ⟨Hs, [], _, _, _, _, _, _, rfl, e0, st.free hl, upd_same, .nil⟩ (fun _ _ _ _ _ => trivial) ?_ ?_
  · rintro i x τ H1 H1' hi ⟨Hs1, ys, y3, y4, y5, y6, y7, y8, rfl, e1, l0, l1, iys⟩ ⟨rfl, rfl⟩
    have lys := iys.flen
    obtain ⟨u, eu, iu⟩ := hxs.fget (i := i) (by omega)
    obtain ⟨c, gq, bb, bs, rfl, hc, ig, hbs, ibs⟩ := is_pd iu
    refine ⟨_, rfl, _, rfl, a, xs, _, _, rfl, rfl, SqL.of (e1.t _ _ (e1.s _ _ ha)), atI_nat eu, c, _, rfl, sqt_up e1.t (sqt_up e1.s hc), rfl, _, _, rfl, _, _, rfl, _, _, rfl, rfl, ?_⟩
    have hb1 := e1.t _ _ (e1.s _ _ hb)
    refine ⟨_, rfl, b, rfl, ⟨us, SqL.of hb1⟩, fun D hD => ?_⟩
    refine lc_go (K := K) (Hs := Hs1) (n := us.length) (walk_list (xs := us)) e1.t (fun H' s => SqL.of (s _ _ (e1.s _ _ hb))) hD (fun j => (fun σ : List (Option Nat) => (σ.getD i none).map fun b => PyData.int ((b : Nat) : Int)) (ps.getD j [])) (by omega) ?_ ?_
    · rintro j v Hs2 H2 H2' C' N hj e2 d0 ⟨rfl, hv⟩ k1 k2
      obtain ⟨dd, hdd, iv⟩ := hus.get' hv
      obtain ⟨σ, eσ, rfl⟩ := map_get hdd
      have gσ : ps.getD j [] = σ := by simp [List.getD, eσ]
      rw [gσ] at k1 k2
      obtain ⟨bp, ws, rfl, hbp, hws⟩ := (show Is K Hs v (.list (σ.map od)) from iv).list
      have hσl := hlen σ (List.mem_of_getElem? eσ)
      have hod : (σ.map od)[i]? = some (od (σ.getD i none)) := by rw [List.getElem?_map, range_get σ none (by omega)]; rfl
      obtain ⟨w, ew, iw⟩ := hws.get hod
      have hbp2 := e2.t _ _ (e2.s _ _ (e1.s _ _ hbp))
      refine ⟨rfl, _, rfl, _, rfl, bp, ws, _, w, rfl, rfl, SqL.of hbp2, atI_nat ew, _, rfl, ?_⟩
      cases ho : σ.getD i none with
      | none =>
        rw [ho] at iw
        cases iw.non'
        refine iteF ?_
        exact k2 Hs2 _ (by show (σ.getD i none).map _ = none; rw [ho]; rfl) (Ext.refl e2.t)
      | some bq =>
        rw [ho] at iw
        cases iw.int'
        refine iteT ?_
        exact ⟨_, rfl, _, rfl, bp, ws, _, _, rfl, rfl, SqL.of hbp2, atI_nat ew, k1 _ Hs2 _ (.int (bq : Int)) (by show (σ.getD i none).map _ = _; rw [ho]; rfl) (Ext.refl e2.t) (.int _)⟩
    intro Hs2 H2 ws e2 d0 d1 hws
    rw [lus, fmap_range ps [] (fun σ : List (Option Nat) => (σ.getD i none).map fun b => PyData.int ((b : Nat) : Int)), fmap_opt] at hws
    obtain ⟨f0, f1⟩ := e2.own (fun z => z) l1 l0
    obtain ⟨L, hL⟩ : ∃ L, L = ps.filterMap fun σ => σ.getD i none := ⟨_, rfl⟩
    rw [← hL] at hws
    have e3 := (e1.trans e2).frz (e1.free hD) d0 d1
    have iL : Is K (upd Hs2 D (.lst ws)) (.ref D) (il L) := .lst upd_same (hws.up (same_new d0))
    have nlD : l ≠ D := ne_of_none l1 hD
    have f0' : (upd Hs2 D (.lst ws)) l = none := by rw [upd_ne nlD]; exact f0
    have s3 : Same Hs1 (upd Hs2 D (.lst ws)) := e2.s.trans (same_new d0)
    generalize hHs3 : upd Hs2 D (.lst ws) = Hs3 at e3 iL f0' s3
    refine ⟨_, rfl, rfl, _, rfl, ?_⟩
    have ek : decide (V.str (pl G i).k.s = V.str (PySem.Str.ofString "draw")) = decide ((pl G i).k = .draw) := kd_eq _ .draw
    rw [ek]
    have ibs3 := (ibs.up e1.s).up s3
    have hbs3 := s3 _ _ (e1.s _ _ hbs)
    have ig3 := (ig.up e1.s).up s3
    have rest : ∀ (H3 : Hp), Ext0 Hs H Hs3 H3 → H3 l = some (.lst ys) → playP G ps i = pl G i → (tDrop (tBM K "list" rAppend (tVar 2) (tCons (tTup (tCons (tVar 4) (tCons (tVar 5) (tCons (tCB (rListQ K) (tCons (tVar 6) tNil)) tNil)))) tNil))) { nx := fun τ H' => ∃ (Hs' : Hp) (ys : List V) (y3 y4 y5 y6 y7 y8 : Option V), τ = [some (.ref a), some (.ref b), some (.ref l), y3, y4, y5, y6, y7, y8] ∧ Ext0 Hs H Hs' H' ∧ Hs' l = none ∧ H' l = some (.lst ys) ∧ IsA K Hs' ys (fl (i + 1) fun x => pd (playP G ps x)), rt := Q } [some (.ref a), some (.ref b), some (.ref l), some (.int (i : Nat)), some gq, some (.str (pl G i).k.s), some (.ref bb), some (.ref D), y8] H3 := by
      intro H3 e4 l3 hpl
      refine ⟨_, rfl, .inl ⟨rfl, _, .inl (.inl l3)⟩, _, rfl, _, rfl, _, rfl, bb, bs, rfl, .inl (SqL.of (e4.t _ _ hbs3)), fun p1 hp1 => ?_⟩
      refine ⟨by show 3 ≤ sizeLine; decide, fun p2 hp2 => ?_⟩
      have n12 : p1 ≠ p2 := ne_of_none upd_same hp2
      have nl1 : l ≠ p1 := ne_of_none l3 hp1
      have nl2 : l ≠ p2 := ne_of_none (by rw [upd_ne nl1]; exact l3) hp2
      have e5 := (e4.new (o := .lst bs) hp1).new (o := .tup [gq, .str (pl G i).k.s, .ref p1]) hp2
      have s5 : Same Hs3 (upd (upd Hs3 p1 (.lst bs)) p2 (.tup [gq, .str (pl G i).k.s, .ref p1])) := (same_new (e4.t.free hp1)).trans (same_new ((e4.new (o := .lst bs) hp1).t.free hp2))
      have l5 : (upd (upd Hs3 p1 (.lst bs)) p2 (.tup [gq, .str (pl G i).k.s, .ref p1])) l = none := by rw [upd_ne nl2, upd_ne nl1]; exact f0'
      refine ⟨l, ys, _, rfl, rfl, by rw [upd_ne nl2, upd_ne nl1]; exact l3, big_lt (by omega), ?_⟩
      refine ⟨_, _, _, _, _, _, _, _, rfl, e5.mut (.inl hl) l5, l5, upd_same, ?_⟩
      rw [fl_snoc]
      refine ((iys.up s3).up s5).snoc ?_
      rw [hpl]
      exact .tup (SqT.of upd_same) (.cons (ig3.up s5) (.cons (.str _) (.cons (.lst (by rw [upd_ne n12]; exact upd_same) (ibs3.up s5)) .nil)))
    by_cases hk : (pl G i).k = .draw
    · rw [decide_eq_true hk]
      refine iteF ?_
      refine iteF ?_
      exact rest H2 e3 f1 (by unfold playP; rw [if_pos hk])
    · rw [decide_eq_false hk]
      refine iteT ?_
      refine ⟨_, rfl, Nat.zero_le _, fun p0 hp0 => ?_⟩
      have e4 := e3.newM (o := .lst []) hp0
      have nl0 : l ≠ p0 := ne_of_none f1 hp0
      have l4 : (upd H2 p0 (.lst [])) l = some (.lst ys) := by rw [upd_ne nl0]; exact f1
      refine ⟨_, _, (iL.up e4.t).dp, (Is.lst (K := K) (ds := []) (show (upd H2 p0 (.lst [])) p0 = some (.lst []) from upd_same) .nil).dp, shaped_il _, shaped_list (fun d hd => by cases hd), ?_⟩
      rw [eqv_nil]
      refine ⟨_, rfl, ?_⟩
      cases hLe : L with
      | nil =>
        refine iteF ?_
        refine rest _ e4 l4 ?_
        unfold playP playB
        rw [if_neg hk, ← hL, hLe]
        rfl
      | cons t0 Lr =>
        refine iteT ?_
        have hpb : playB ps i = some t0 := by unfold playB; rw [← hL, hLe]; rfl
        have ht0 := hbr i (by omega) t0 hpb hk
        have ebd : (pl G i).bs.map (bd (pl G i).k) = (pl G i).bs.map fun b => PyData.int ((b.2 : Nat) : Int) := List.map_congr_left fun b _ => by
          cases hk2 : (pl G i).k with
          | draw => exact absurd hk2 hk
          | ours => rfl
          | theirs => rfl
        rw [ebd] at ibs3
        have etg : tg G i t0 = ((pl G i).bs[t0]).2 := by simp [tg, List.getD, ht0]
        obtain ⟨v2, ev2, iv2⟩ := ibs3.get (show ((pl G i).bs.map fun b => PyData.int ((b.2 : Nat) : Int))[t0]? = some (.int ((tg G i t0 : Nat) : Int)) by rw [List.getElem?_map, List.getElem?_eq_getElem ht0, etg]; rfl)
        cases iv2.int'
        obtain ⟨DD, hDe, hD3⟩ := is_il iL
        cases hDe
        have ev0 : (vi L)[0]? = some (.int (t0 : Int)) := vi_at (by rw [hLe]; rfl)
        refine ⟨_, rfl, .inl ⟨rfl, _, .inl (.inl l4)⟩, _, rfl, by show 2 ≤ sizeLine; decide, fun p1 hp1 => ?_⟩
        have e5 := e4.new (o := .tup [.int 1, .int 1]) hp1
        refine ⟨_, rfl, _, rfl, D, _, _, _, rfl, rfl, SqL.of (same_new hp1 _ _ (e4.t _ _ hD3)), atI_nat (j := 0) ev0, bb, bs, _, _, rfl, rfl, SqL.of (same_new hp1 _ _ (e4.t _ _ hbs3)), atI_nat ev2, by show 2 ≤ sizeLine; decide, fun p2 hp2 => ?_⟩
        have e6 := e5.new (o := .tup [.ref p1, .int ((tg G i t0 : Nat) : Int)]) hp2
        refine ⟨by show 1 ≤ sizeLine; decide, fun p3 hp3 => ?_⟩
        have e7 := e6.new (o := .lst [.ref p2]) hp3
        refine ⟨by show 3 ≤ sizeLine; decide, fun p4 hp4 => ?_⟩
        have e8 := e7.new (o := .tup [gq, .str "draw", .ref p3]) hp4
        have k1 : l ≠ p1 := ne_of_none l4 hp1
        have k2 : l ≠ p2 := ne_of_none (by rw [upd_ne k1]; exact l4) hp2
        have k3 : l ≠ p3 := ne_of_none (by rw [upd_ne k2, upd_ne k1]; exact l4) hp3
        have k4 : l ≠ p4 := ne_of_none (by rw [upd_ne k3, upd_ne k2, upd_ne k1]; exact l4) hp4
        have n12 : p1 ≠ p2 := ne_of_none upd_same hp2
        have n23 : p2 ≠ p3 := ne_of_none upd_same hp3
        have n34 : p3 ≠ p4 := ne_of_none upd_same hp4
        have n13 : p1 ≠ p3 := ne_of_none (by rw [upd_ne n12]; exact upd_same) hp3
        have n14 : p1 ≠ p4 := ne_of_none (by rw [upd_ne n13, upd_ne n12]; exact upd_same) hp4
        have n24 : p2 ≠ p4 := ne_of_none (by rw [upd_ne n23]; exact upd_same) hp4
        have s8 : Same Hs3 (upd (upd (upd (upd Hs3 p1 (.tup [.int 1, .int 1])) p2 (.tup [.ref p1, .int ((tg G i t0 : Nat) : Int)])) p3 (.lst [.ref p2])) p4 (.tup [gq, .str "draw", .ref p3])) :=
          (((same_new (e4.t.free hp1)).trans (same_new (e5.t.free hp2))).trans (same_new (e6.t.free hp3))).trans (same_new (e7.t.free hp4))
        have l8 : (upd (upd (upd (upd Hs3 p1 (.tup [.int 1, .int 1])) p2 (.tup [.ref p1, .int ((tg G i t0 : Nat) : Int)])) p3 (.lst [.ref p2])) p4 (.tup [gq, .str "draw", .ref p3])) l = none := by rw [upd_ne k4, upd_ne k3, upd_ne k2, upd_ne k1]; exact f0'
        refine ⟨l, ys, _, rfl, rfl, by rw [upd_ne k4, upd_ne k3, upd_ne k2, upd_ne k1]; exact l4, big_lt (by omega), ?_⟩
        refine ⟨_, _, _, _, _, _, _, _, rfl, e8.mut (.inl hl) l8, l8, upd_same, ?_⟩
        rw [fl_snoc]
        refine ((iys.up s3).up s8).snoc ?_
        have hpp : playP G ps i = ⟨(pl G i).g, .draw, [(1, tg G i t0)]⟩ := by unfold playP; rw [if_neg hk, hpb]
        rw [hpp]
        refine .tup (SqT.of upd_same) (.cons (ig3.up s8) (.cons (.str _) (.cons (.lst (by rw [upd_ne n34]; exact upd_same) (.cons (.tup (SqT.of (by rw [upd_ne n24, upd_ne n23]; exact upd_same)) (.cons (.tup (SqT.of (by rw [upd_ne n14, upd_ne n13, upd_ne n12]; exact upd_same)) (.cons (.int 1) (.cons (.int 1) .nil))) (.cons (.int _) .nil))) .nil)) .nil)))
  · rintro τ H1 ⟨Hs1, ys, y3, y4, y5, y6, y7, y8, rfl, e1, l0, l1, iys⟩
    refine ⟨_, rfl, ?_⟩
    refine q _ _ _ (e1.frz hl l0 l1) (.lst upd_same ?_)
    have eL : (playG G ps).length = n := by simp [playG, hGl]
    rw [eL]
    refine (iys.up (same_new l0)).fcongr fun x hx => ?_
    have : pl (playG G ps) x = playP G ps x := by simp [pl, playG, List.getD, hGl, hx]
    rw [this]
theorem h59 (vs : List V) (H : Hp) (Q : VK) (E : XK) (h : sp59 K vs H Q E) : t59 K { nx := fun _ H' => Q .non H', rt := Q } (start n59 vs) H := by
  obtain ⟨n, G, s, p, x, Hs, rfl, hG, hn, hs, hx, hp1, hp0, st, q⟩ := h
  obtain ⟨a, xs, rfl, ha, hxs⟩ := is_gd hx
  have lx : xs.length = n := by rw [hxs.flen, hG.len]
  refine ⟨Nat.zero_le _, fun l hl => ?_⟩
  have npl : p ≠ l := hp1.ne hl
  have e0 : Ext (Mp p) Hs H Hs (upd H l (.lst [])) := (Ext.refl st).newM hl
  refine ⟨_, rfl, a, rfl, ⟨xs, SqL.of (e0.t _ _ ha)⟩, ?_⟩
  refine for_it (walk_list (xs := xs)) (fun i τ H' => ∃ (Hs' : Hp) (ys : List V) (σ : List (Option Nat)) (y4 y5 y6 y7 : Option V), τ = [some (.ref p), some (.ref a), some (.str s.s), some (.ref l), y4, y5, y6, y7] ∧ Ext (Mp p) Hs H Hs' H' ∧ Hs' p = none ∧ PoolOk H' p ∧ Hs' l = none ∧ H' l = some (.lst ys) ∧ IsA K Hs' ys (σ.map od) ∧ σ.length = i ∧ ∀ x, x < i → ((pl G x).k = s → ∃ b, σ[x]? = some (some b) ∧ b < (pl G x).bs.length) ∧ ((pl G x).k ≠ s → σ[x]? = some none))
    ⟨Hs, [], [], _, _, _, _, rfl, e0, hp0, hp1.keep hl, st.free hl, upd_same, .nil, rfl, fun x hx => absurd hx (by omega)⟩ (fun i τ H' _ ⟨Hs', _, _, _, _, _, _, _, e, _⟩ => SqL.of (e.t _ _ (e.s _ _ ha))) ?_ ?_
  · rintro i v τ H1 H1' hi ⟨Hs1, ys, σ, y4, y5, y6, y7, rfl, e1, q0, q1, l0, l1, iys, lσ, hσ⟩ ⟨rfl, hv⟩
    obtain ⟨hi2, ix⟩ := hxs.fget' hv
    rw [hG.len] at hi2
    obtain ⟨c, gq, bb, bs, rfl, hc, ig, hbs, ibs⟩ := is_pd ix
    have hP := hG.at hi2
    have lbs : bs.length = (pl G i).bs.length := by rw [ibs.len, List.length_map]
    have hpos : 0 < (pl G i).bs.length := List.length_pos_iff.mpr hP.ne
    refine ⟨c, _, rfl, sqt_up e1.t (sqt_up e1.s hc), rfl, _, _, rfl, _, _, rfl, _, _, rfl, rfl, ?_⟩
    refine ⟨_, rfl, _, rfl, bb, bs, rfl, .inl (SqL.of (e1.t _ _ (e1.s _ _ hbs))), p, _, Hs1, rfl, by omega, q1, q0, e1.t, fun r Hs2 H2 e2 q2 q3 r0 r1 => ?_⟩
    obtain ⟨f0, f1⟩ := e2.own (fun z => npl z.symm) l1 l0
    have e3 := e1.trans e2
    refine ⟨_, rfl, .inl ⟨rfl, _, .inl (.inl f1)⟩, _, rfl, by show 2 ≤ sizeLine; decide, fun d hd => ?_⟩
    have nld : l ≠ d := ne_of_none f1 hd
    have hrn : r = ((r.toNat : Nat) : Int) := by omega
    refine ⟨_, rfl, _, rfl, rfl, .inr ⟨_, rfl, ?_⟩⟩
    rw [kd_eq]
    have fin : ∀ (o : Option Nat) (w : V), Is K Hs2 w (od o) → ((pl G i).k = s → ∃ b, o = some b ∧ b < (pl G i).bs.length) → ((pl G i).k ≠ s → o = none) →
        ∃ (Hs' : Hp) (ys' : List V) (σ : List (Option Nat)) (y4 y5 y6 y7 : Option V), ([some (.ref p), some (.ref a), some (.str s.s), some (.ref l), some gq, some (.str (pl G i).k.s), some (.ref bb), some (.int r)] : L2.St) = [some (.ref p), some (.ref a), some (.str s.s), some (.ref l), y4, y5, y6, y7] ∧ Ext (Mp p) Hs H Hs' (upd (upd H2 d (.lst [.non, .int r])) l (.lst (ys ++ [w]))) ∧ Hs' p = none ∧ PoolOk (upd (upd H2 d (.lst [.non, .int r])) l (.lst (ys ++ [w]))) p ∧ Hs' l = none ∧ (upd (upd H2 d (.lst [.non, .int r])) l (.lst (ys ++ [w]))) l = some (.lst ys') ∧ IsA K Hs' ys' (σ.map od) ∧ σ.length = i + 1 ∧ ∀ x, x < i + 1 → ((pl G x).k = s → ∃ b, σ[x]? = some (some b) ∧ b < (pl G x).bs.length) ∧ ((pl G x).k ≠ s → σ[x]? = some none) := fun o w hw h1 h2 => by
      refine ⟨Hs2, _, σ ++ [o], _, _, _, _, rfl, (e3.newM hd).mut (.inl hl) f0, q2, (q3.keep hd).put npl, f0, upd_same, ?_, by simp [lσ], fun x hx => ?_⟩
      · rw [List.map_append]
        exact (iys.up e2.s).append (.cons hw .nil)
      · by_cases c : x = i
        · subst c
          have : (σ ++ [o])[x]? = some o := by rw [List.getElem?_append_right (by omega), lσ]; simp
          refine ⟨fun hk => ?_, fun hk => ?_⟩
          · obtain ⟨b, e, hb⟩ := h1 hk
            exact ⟨b, by rw [this, e], hb⟩
          · rw [this, h2 hk]
        · have : (σ ++ [o])[x]? = σ[x]? := List.getElem?_append_left (by omega)
          rw [this]
          exact hσ x (by omega)
    by_cases hk : (pl G i).k = s
    · rw [decide_eq_true hk]
      refine ⟨d, _, _, .int r, rfl, rfl, SqL.of upd_same, rfl, ?_⟩
      refine ⟨l, ys, _, rfl, rfl, by rw [upd_ne nld]; exact f1, big_lt (by have := iys.len; rw [List.length_map] at this; omega), ?_⟩
      exact fin (some r.toNat) (.int r) (by rw [hrn]; exact .int _) (fun _ => ⟨r.toNat, rfl, by omega⟩) (fun z => absurd hk z)
    · rw [decide_eq_false hk]
      refine ⟨d, _, _, .non, rfl, rfl, SqL.of upd_same, rfl, ?_⟩
      refine ⟨l, ys, _, rfl, rfl, by rw [upd_ne nld]; exact f1, big_lt (by have := iys.len; rw [List.length_map] at this; omega), ?_⟩
      exact fin none .non .non (fun z => absurd z hk) (fun _ => rfl)
  · rintro τ H1 ⟨Hs1, ys, σ, y4, y5, y6, y7, rfl, e1, q0, q1, l0, l1, iys, lσ, hσ⟩
    rw [lx] at lσ hσ
    refine ⟨_, rfl, ?_⟩
    refine q _ (upd Hs1 l (.lst ys)) _ σ (e1.frz hl l0 l1) (by rw [upd_ne npl]; exact q0) q1 ⟨by rw [lσ, hG.len], fun x hx hk => (hσ x (by rw [← hG.len]; exact hx)).1 hk, fun x hx hk => (hσ x (by rw [← hG.len]; exact hx)).2 hk⟩ (.lst upd_same (iys.up (same_new l0)))
end
end Mh
end
section
set_option Elab.async false
set_option linter.all false
set_option maxRecDepth 100000
set_option maxHeartbeats 4000000
set_option exponentiation.threshold 20000
/-! odds, gains, the pool: the readings -/
namespace Mh
open PySem PySem.Spec PyProof.Rows L2
open C8 (Cal pe_c)
open Evl (ixN_nat)
theorem sum_cast : ∀ l : List Nat, (l.map fun (n : Nat) => (n : Int)).sum = ((l.sum : Nat) : Int)
  | [] => rfl
  | a :: l => by rw [List.map_cons, List.sum_cons, List.sum_cons, sum_cast l]; omega
theorem vi_ints (l : List Nat) : vi l = (l.map fun (n : Nat) => (n : Int)).map V.int := by unfold vi; rw [List.map_map]; rfl
theorem sum_bd {l : List Nat} {c : Nat} (h : ∀ k ∈ l, k ≤ c) : l.sum ≤ c * l.length := by
  induction l with
  | nil => simp
  | cons a l ih =>
    have h1 := h a (by simp)
    have h2 := ih fun k hk => h k (by simp [hk])
    rw [List.sum_cons, List.length_cons, Nat.mul_succ]
    omega
theorem sum_ge {l : List Nat} (h : ∀ k ∈ l, 1 ≤ k) : l.length ≤ l.sum := by
  induction l with
  | nil => simp
  | cons a l ih =>
    have h1 := h a (by simp)
    have h2 := ih fun k hk => h k (by simp [hk])
    rw [List.sum_cons, List.length_cons]
    omega
theorem gain_ok {n d : Int} (h1 : 1 ≤ d) (h2 : d ≤ 12) (h3 : -1000 ≤ n) (h4 : n ≤ 1000) : IsI ((n : Rat) / (d : Rat) * (27720 : Nat)) ∧ ab ((n : Rat) / (d : Rat)) ≤ ((1000 : Nat) : Rat) ∧ ((n : Rat) / (d : Rat)).den ≤ 12 := by
  have hd : (d : Rat) ≠ 0 := by
    have : d ≠ 0 := by omega
    exact_mod_cast this
  have e0 : (n : Rat) / (d : Rat) * (d : Rat) = (n : Rat) := by grind
  refine ⟨?_, ?_, ?_⟩
  · obtain ⟨c, hc⟩ : ∃ c : Int, 27720 = d * c := by
      have : d = 1 ∨ d = 2 ∨ d = 3 ∨ d = 4 ∨ d = 5 ∨ d = 6 ∨ d = 7 ∨ d = 8 ∨ d = 9 ∨ d = 10 ∨ d = 11 ∨ d = 12 := by omega
      rcases this with rfl | rfl | rfl | rfl | rfl | rfl | rfl | rfl | rfl | rfl | rfl | rfl
      · exact ⟨27720, rfl⟩
      · exact ⟨13860, rfl⟩
      · exact ⟨9240, rfl⟩
      · exact ⟨6930, rfl⟩
      · exact ⟨5544, rfl⟩
      · exact ⟨4620, rfl⟩
      · exact ⟨3960, rfl⟩
      · exact ⟨3465, rfl⟩
      · exact ⟨3080, rfl⟩
      · exact ⟨2772, rfl⟩
      · exact ⟨2520, rfl⟩
      · exact ⟨2310, rfl⟩
    refine ⟨n * c, ?_⟩
    have e1 : ((27720 : Nat) : Rat) = (d : Rat) * (c : Rat) := by
      rw [← Rat.intCast_mul, ← hc]; rfl
    rw [e1, Rat.intCast_mul, ← Rat.mul_assoc, e0]
  · have h5 : ab (n : Rat) ≤ ((1000 : Nat) : Rat) := by
      refine ab_le ?_ ?_
      · have : (n : Rat) ≤ ((1000 : Int) : Rat) := by exact_mod_cast h4
        exact this
      · have : ((-n : Int) : Rat) ≤ ((1000 : Int) : Rat) := by
          have : -n ≤ 1000 := by omega
          exact_mod_cast this
        rw [Rat.intCast_neg] at this
        exact this
    have h6 : (1 : Rat) ≤ (d : Rat) := by exact_mod_cast h1
    have h7 : ab ((n : Rat) / (d : Rat)) * (d : Rat) = ab (n : Rat) := by
      have : ab ((n : Rat) / (d : Rat) * (d : Rat)) = ab ((n : Rat) / (d : Rat)) * ab (d : Rat) := ab_mul _ _
      rw [e0, ab_of_nonneg (show (0:Rat) ≤ (d : Rat) by grind)] at this
      exact this.symm
    have h8 := Rat.mul_le_mul_of_nonneg_left h6 (ab_nonneg ((n : Rat) / (d : Rat)))
    grind
  · have := den_le e0 (by omega)
    omega
section
variable {K : PySem.W.Frag}
theorem h56 (vs : List V) (H : Hp) (Q : VK) (E : XK) (h : sp56 K vs H Q E) : t56 K { nx := fun _ H' => Q .non H', rt := Q } (start n56 vs) H := by
  obtain ⟨p, m, Hs, rfl, hm0, hm6, hp1, hp0, st, q⟩ := h
  have en : ((m : Nat) : Int).toNat = m := by omega
  have go : ∀ (Hs2 H2 : Hp) (D : Addr) (ks : List Nat) (y3 y4 : Option V), Ext (Mp p) Hs H Hs2 H2 → Hs2 p = none → PoolOk H2 p → Is K Hs2 (.ref D) (il ks) → ks.length = m → (∀ k ∈ ks, 1 ≤ k ∧ k ≤ 60) →
      (tRet (tLc (iList K (tVar 2)) (gName 4) tYes (tCall (sp55 K) [] E0 (tCons (tVar 4) (tCons (tCB (rSum K) (tCons (tVar 2) tNil)) tNil))) [4])) { nx := fun _ H' => Q .non H', rt := Q } [some (.ref p), some (.int (m : Int)), some (.ref D), y3, y4] H2 := by
    intro Hs2 H2 D ks y3 y4 e q0 q1 iD hl hks
    obtain ⟨DD, hDe, hD⟩ := is_il iD
    cases hDe
    have lvi : (vi ks).length = m := by rw [vi_len, hl]
    have s1 := sum_bd (c := 60) fun k hk => (hks k hk).2
    have s2 := sum_ge fun k hk => (hks k hk).1
    have hs1 : ks.sum ≤ 360 := by omega
    have hs0 : 0 < ks.sum := by omega
    refine ⟨_, rfl, D, rfl, ⟨vi ks, SqL.of (e.t _ _ hD)⟩, fun D2 hD2 => ?_⟩
    refine lc_map (K := K) (Hs := Hs2) (n := (vi ks).length) (walk_list (xs := vi ks)) e.t (fun H' s => SqL.of (s _ _ hD)) hD2 (fun j => (fun (k : Nat) => qd ((k : Rat) / ((ks.sum : Nat) : Rat))) (ks.getD j 0)) (by omega) ?_ ?_
    · rintro j v Hs3 H3 H3' C hj e3 d0 ⟨rfl, hv⟩ kk
      obtain ⟨k, ek, rfl⟩ := vi_get hv
      have gk : ks.getD j 0 = k := by simp [List.getD, ek]
      rw [gk] at kk
      have hk := hks k (List.mem_of_getElem? ek)
      refine ⟨rfl, _, rfl, _, rfl, D, ks.map fun (n : Nat) => (n : Int), rfl, SqL.of (by rw [← vi_ints]; exact e3.t _ _ (e3.s _ _ hD)), ?_⟩
      rw [sum_cast]
      refine ⟨(k : Int), ((ks.sum : Nat) : Int), Hs3, rfl, by omega, ?_, ?_, e3.t, fun w Hs4 H4 e4 hw => kk w Hs4 H4 e4 hw⟩
      · exact Nat.lt_of_lt_of_le (show ((k : Nat) : Int).natAbs < 2 ^ 10 by omega) (Nat.pow_le_pow_right (by decide) (by decide))
      · exact Nat.lt_of_lt_of_le (show ((ks.sum : Nat) : Int).natAbs < 2 ^ 10 by omega) (Nat.pow_le_pow_right (by decide) (by decide))
    · intro Hs3 H3 ws e3 d0 d1 hws
      rw [vi_len, range_map ks (fun (k : Nat) => qd ((k : Rat) / ((ks.sum : Nat) : Rat))) 0] at hws
      obtain ⟨q3, q2⟩ := q1.ext e3 q0
      have hDp : p ≠ D2 := q1.ne hD2
      exact q _ (upd Hs3 D2 (.lst ws)) _ ks ((e.trans e3.any).frz (e.free hD2) d0 d1) (by rw [upd_ne hDp]; exact q2) q3 hl hks (.lst upd_same (hws.up (same_new d0)))
  have draw : ∀ (c : Int) (Hs1 H1 : Hp) (y2 y3 y4 : Option V) (Qd : V → Hp → Prop), 0 < c → c ≤ 60 → Ext (Mp p) Hs H Hs1 H1 → Hs1 p = none → PoolOk H1 p → (∀ D Hs2 H2 ks, Ext (Mp p) Hs H Hs2 H2 → Hs2 p = none → PoolOk H2 p → Is K Hs2 (.ref D) (il ks) → ks.length = m → (∀ k ∈ ks, 1 ≤ k ∧ k ≤ 60) → Qd (.ref D) H2) →
      (tLc (iRng1 (tCons (tVar 1) tNil)) (gName 3) tYes (tOp rAddI (tC (.int 1)) (tCall (sp54 K) [] E0 (tCons (tVar 0) (tCons (tC (.int c)) tNil)))) [3]) [some (.ref p), some (.int (m : Int)), y2, y3, y4] H1 Qd := by
    intro c Hs1 H1 y2 y3 y4 Qd hc hc60 e q0 q1 kq
    refine ⟨_, rfl, _, rfl, by omega, by omega, fun D hD => ?_⟩
    rw [en]
    refine lc_pool (K := K) (p := p) (Hs := Hs1) (n := m) walk_rng0 e.t (fun _ _ => trivial) hD q0 q1 (fun _ d => ∃ k : Nat, d = .int (k : Int) ∧ 1 ≤ k ∧ k ≤ 60) (by omega) ?_ ?_
    · rintro i x Hs2 H2 H2' C hi e2 q2 q3 ⟨rfl, rfl⟩ kk
      refine ⟨rfl, _, rfl, p, c, Hs2, rfl, hc, q3, q2, e2.t, fun r Hs3 H3 e3 q4 q5 r0 r1 => ?_⟩
      refine ⟨_, _, rfl, rfl, kk _ Hs3 H3 (.int (1 + r)) e3 q4 q5 (.int _) ⟨(1 + r).toNat, by congr 1; omega, by omega, by omega⟩⟩
    · intro Hs2 H2 ws ds e2 q2 q3 d0 d1 hws hl hP
      obtain ⟨ks, rfl, hks⟩ := ex_map hP
      have hDp : p ≠ D := q1.ne hD
      refine kq D (upd Hs2 D (.lst ws)) H2 ks ((e.trans e2).frz (e.free hD) d0 d1) (by rw [upd_ne hDp]; exact q2) q3 (.lst upd_same (hws.up (same_new d0))) (by rw [List.length_map] at hl; exact hl) hks
  delta t56 tSeq tAsg
  refine draw 5 Hs H none none none _ (by decide) (by decide) (Ext.refl st) hp0 hp1 fun D Hs2 H2 ks e q0 q1 iD hl hks => ?_
  refine ⟨_, rfl, p, 5, Hs2, rfl, by decide, q1, q0, e.t, fun r Hs3 H3 e3 q2 q3 r0 r1 => ?_⟩
  refine ⟨rfl, _, rfl, ?_⟩
  have e4 := e.trans e3
  by_cases c : r = 0
  · rw [decide_eq_true (by rw [c])]
    refine iteT ?_
    refine draw 60 Hs3 H3 _ _ _ _ (by decide) (by decide) e4 q2 q3 fun D Hs2 H2 ks e q0 q1 iD hl hks => ?_
    exact go Hs2 H2 D ks _ _ e q0 q1 iD hl hks
  · rw [decide_eq_false (fun z => c (V.int.inj z))]
    refine iteF ?_
    exact go Hs3 H3 D ks _ _ e4 q2 q3 (iD.up e3.s) hl hks
theorem h57 (vs : List V) (H : Hp) (Q : VK) (E : XK) (h : sp57 K vs H Q E) : t57 K { nx := fun _ H' => Q .non H', rt := Q } (start n57 vs) H := by
  obtain ⟨p, Hs, rfl, hp1, hp0, st, q⟩ := h
  have sm1 : ∀ z : Int, z.natAbs < 2 ^ 12 → z.natAbs < 2 ^ 8990 := fun z h => Nat.lt_of_lt_of_le h (Nat.pow_le_pow_right (by decide) (by decide))
  refine ⟨_, rfl, p, 8, Hs, rfl, by decide, hp1, hp0, st, fun r Hs1 H1 e1 q0 q1 r0 r1 => ?_⟩
  refine ⟨_, rfl, rfl, _, rfl, ?_⟩
  by_cases c : r = 0
  · rw [decide_eq_true (by rw [c])]
    refine iteT ?_
    refine ⟨_, rfl, p, 60, Hs1, rfl, by decide, q1, q0, e1.t, fun a Hs2 H2 e2 q2 q3 a0 a1 => ?_⟩
    refine ⟨_, _, rfl, rfl, mulw (a := 8) (b := 8) (by omega) (by decide) (by decide), ?_⟩
    refine ⟨_, rfl, p, 60, Hs2, rfl, by decide, q3, q2, e2.t, fun b Hs3 H3 e3 q4 q5 b0 b1 => ?_⟩
    refine ⟨_, _, rfl, rfl, mulw (a := 8) (b := 8) (by omega) (by decide) (by decide), _, _, rfl, rfl, ?_⟩
    refine ⟨_, rfl, p, 12, Hs3, rfl, by decide, q5, q4, e3.t, fun d Hs4 H4 e4 q6 q7 d0 d1 => ?_⟩
    refine ⟨_, _, rfl, rfl, ?_⟩
    refine ⟨a * 16 - b * 16, 1 + d, Hs4, rfl, by omega, sm1 _ (by omega), sm1 _ (by omega), e4.t, fun v Hs5 H5 e5 hv => ?_⟩
    obtain ⟨g1, g2, g3⟩ := gain_ok (n := a * 16 - b * 16) (d := 1 + d) (by omega) (by omega) (by omega) (by omega)
    obtain ⟨q9, q8⟩ := q7.ext e5 q6
    exact q v Hs5 H5 _ ((((e1.trans e2).trans e3).trans e4).trans e5.any) q8 q9 g1 g2 g3 hv
  · rw [decide_eq_false (fun z => c (V.int.inj z))]
    refine iteF ?_
    refine ⟨_, rfl, rfl, _, rfl, ?_⟩
    by_cases c1 : r = 1
    · rw [decide_eq_true (by rw [c1])]
      refine iteT ?_
      refine ⟨_, rfl, p, 19, Hs1, rfl, by decide, q1, q0, e1.t, fun a Hs2 H2 e2 q2 q3 a0 a1 => ?_⟩
      refine ⟨_, _, rfl, rfl, ?_⟩
      refine ⟨_, rfl, p, 5, Hs2, rfl, by decide, q3, q2, e2.t, fun d Hs4 H4 e4 q6 q7 d0 d1 => ?_⟩
      refine ⟨_, _, rfl, rfl, ?_⟩
      refine ⟨a - 9, 2 + d, Hs4, rfl, by omega, sm1 _ (by omega), sm1 _ (by omega), e4.t, fun v Hs5 H5 e5 hv => ?_⟩
      obtain ⟨g1, g2, g3⟩ := gain_ok (n := a - 9) (d := 2 + d) (by omega) (by omega) (by omega) (by omega)
      obtain ⟨q9, q8⟩ := q7.ext e5 q6
      exact q v Hs5 H5 _ (((e1.trans e2).trans e4).trans e5.any) q8 q9 g1 g2 g3 hv
    · rw [decide_eq_false (fun z => c1 (V.int.inj z))]
      refine iteF ?_
      refine ⟨_, rfl, p, 14, Hs1, rfl, by decide, q1, q0, e1.t, fun a Hs2 H2 e2 q2 q3 a0 a1 => ?_⟩
      refine ⟨_, _, rfl, rfl, by show 2 ≤ sizeLine; decide, fun u hu => ?_⟩
      obtain ⟨g1, g2, g3⟩ := gain_ok (n := a - 6) (d := 1) (by omega) (by omega) (by omega) (by omega)
      have eg : ((a - 6 : Int) : Rat) / ((1 : Int) : Rat) = ((a - 6 : Int) : Rat) := by
        have : ((1 : Int) : Rat) = 1 := rfl
        rw [this]; grind
      rw [eg] at g1 g2 g3
      have hup : p ≠ u := q3.ne hu
      exact q _ (upd Hs2 u (.tup [.int (a - 6), .int 1])) _ ((a - 6 : Int) : Rat) ((e1.trans e2).new hu) (by rw [upd_ne hup]; exact q2) (q3.keep hu) g1 g2 g3 (.tup (SqT.of upd_same) (.cons (.int _) (.cons (.int _) .nil)))
theorem h52 (vs : List V) (H : Hp) (Q : VK) (E : XK) (h : sp52 K vs H Q E) : t52 K { nx := fun _ H' => Q .non H', rt := Q } (start n52 vs) H := by
  obtain ⟨ns, a, Hs, rfl, ha, hl, st, q⟩ := h
  have lns : (ns.map V.int).length = ns.length := List.length_map _
  refine ⟨Nat.zero_le _, fun l hl0 => ?_⟩
  have e0 : Ext0 Hs H Hs (upd H l (.lst [])) := (Ext.refl st).newM hl0
  obtain ⟨m, hm⟩ : ∃ m : Nat, m = (if (63 : Int) < ((ns.map V.int).length : Int) then (63 : Int) else ((ns.map V.int).length : Int)).toNat := ⟨_, rfl⟩
  have hm1 : m ≤ 63 ∧ m ≤ ns.length := by
    rw [hm]
    split <;> omega
  have cs : ∀ i j : Int, -(2 ^ 64) < j ∧ j < 2 ^ 64 → CMul i j := fun i j h => .inr h
  refine ⟨_, rfl, a, _, rfl, .inl (e0.t.seq ha), _, _, rfl, _, rfl, by split <;> omega, by split <;> omega, ?_⟩
  rw [← hm]
  refine for_it walk_rng0 (fun i τ H' => ∃ (l : Addr) (zs : List Int) (s : Int) (y3 y4 y5 y6 y7 : Option V), τ = [some (.ref a), some (.ref l), some (.int s), y3, y4, y5, y6, y7] ∧ Ext0 Hs H Hs H' ∧ H l = none ∧ Hs l = none ∧ H' l = some (.lst (zs.map V.int)) ∧ zs.length ≤ 60 * i ∧ ∀ z ∈ zs, 0 ≤ z ∧ z < 60)
    ⟨l, [], 17, _, _, _, _, _, rfl, e0, hl0, st.free hl0, upd_same, by simp, fun z hz => by cases hz⟩ (fun _ _ _ _ _ => trivial) ?_ ?_
  · rintro i x τ H1 H1' hi ⟨l, zs, s, y3, y4, y5, y6, y7, rfl, e1, l0, ls, l1, lz, hz⟩ ⟨rfl, rfl⟩
    obtain ⟨c, hc⟩ : ∃ c, ns[i]? = some c := ⟨_, List.getElem?_eq_getElem (by omega)⟩
    have ec : (ns.map V.int)[i]? = some (.int c) := by rw [List.getElem?_map, hc]; rfl
    refine ⟨_, rfl, _, rfl, a, _, _, _, rfl, rfl, e1.t.seq ha, atI_nat ec, ?_⟩
    refine ⟨_, rfl, _, _, rfl, rfl, cs _ _ (by decide), _, rfl, _, _, rfl, rfl, cs _ _ (by decide), _, _, rfl, rfl, _, rfl, _, _, rfl, rfl, .inl ⟨_, rfl, _, _, rfl, rfl, (show (0:Int) < _ by decide), ?_⟩⟩
    refine ⟨_, rfl, _, _, rfl, rfl, ⟨by decide, by decide, by decide⟩, _, _, rfl, rfl, _, rfl, ?_⟩
    by_cases hbig : (10 : Int) ^ (18 : Int).toNat ≤ c
    · rw [decide_eq_true hbig]
      refine iteT ?_
      refine ⟨_, rfl, by decide, by decide, ?_⟩
      have en : (60 : Int).toNat = 60 := rfl
      rw [en]
      refine for_it walk_rng0 (fun j τ H' => ∃ (zs' : List Int) (s c : Int) (y5 : Option V), τ = [some (.ref a), some (.ref l), some (.int s), some (.int (i : Nat)), some (.int c), y5, y6, y7] ∧ Ext0 Hs H Hs H' ∧ H' l = some (.lst (zs'.map V.int)) ∧ zs'.length = zs.length + j ∧ ∀ z ∈ zs', 0 ≤ z ∧ z < 60)
        ⟨zs, _, c, _, rfl, e1, l1, by omega, hz⟩ (fun _ _ _ _ _ => trivial) ?_ ?_
      · rintro j x τ H2 H2' hj ⟨zs', s', c', y5, rfl, e2, l2, lz', hz'⟩ ⟨rfl, rfl⟩
        refine ⟨_, rfl, .inl ⟨rfl, _, .inl (.inl l2)⟩, _, rfl, .inl ⟨_, rfl, _, _, rfl, rfl, (show (0:Int) < _ by decide), ?_⟩⟩
        refine ⟨l, _, _, rfl, rfl, l2, big_lt (by rw [List.length_map]; omega), ?_⟩
        refine ⟨_, rfl, _, _, rfl, rfl, wide_div (b := 8) (by decide) (by decide) (by decide) (by decide), ?_⟩
        refine ⟨zs' ++ [c' % 60], _, _, _, rfl, e2.mut (.inl l0) ls, by rw [upd_same, List.map_append]; rfl, by simp; omega, fun z hz2 => ?_⟩
        rcases List.mem_append.mp hz2 with w | w
        · exact hz' z w
        · cases List.mem_singleton.mp w
          exact ⟨Int.emod_nonneg _ (by decide), Int.emod_lt_of_pos _ (by decide)⟩
      · rintro τ H2 ⟨zs', s', c', y5, rfl, e2, l2, lz', hz'⟩
        exact ⟨l, zs', _, _, _, _, _, _, rfl, e2, l0, ls, l2, by omega, hz'⟩
    · rw [decide_eq_false hbig]
      refine iteF ?_
      refine ⟨_, rfl, _, _, rfl, rfl, cs _ _ (by decide), _, rfl, _, _, rfl, rfl, cs _ _ (by decide), _, _, rfl, rfl, _, _, rfl, rfl, .inl ⟨_, rfl, _, _, rfl, rfl, (show (0:Int) < _ by decide), ?_⟩⟩
      refine ⟨_, rfl, _, _, rfl, rfl, cs _ _ (by decide), _, rfl, _, _, rfl, rfl, cs _ _ (by decide), _, _, rfl, rfl, _, rfl, _, _, rfl, rfl, .inl ⟨_, rfl, _, _, rfl, rfl, (show (0:Int) < _ by decide), ?_⟩⟩
      refine ⟨_, rfl, _, rfl, _, _, rfl, rfl, wide_div (b := 8) (by decide) (by decide) (by decide) (by decide), .inl ⟨_, rfl, _, _, rfl, rfl, (show (0:Int) < _ by decide), ?_⟩⟩
      refine ⟨_, rfl, .inl ⟨_, rfl, _, _, rfl, rfl, (show (0:Int) < _ by decide), by show 2 ≤ sizeLine; decide, fun b hb => ?_⟩⟩
      have nlb : l ≠ b := ne_of_none l1 hb
      refine ⟨l, b, _, _, rfl, rfl, by rw [upd_ne nlb]; exact l1, upd_same, bl_sl (by show (zs.map V.int).length + 2 ≤ 100000; rw [List.length_map]; omega), fun p hp => ?_⟩
      have nbp : b ≠ p := ne_of_none upd_same hp
      have hp1 : H1' p = none := by rw [upd_ne nbp.symm] at hp; exact hp
      refine ⟨p, zs ++ [_, _], _, _, _, _, _, _, rfl, (e1.newM hb).newM hp, e1.free hp1, e1.t.free hp1, by rw [upd_same, List.map_append]; rfl, by simp; omega, fun z hz2 => ?_⟩
      rcases List.mem_append.mp hz2 with w | w
      · exact hz z w
      · rcases List.mem_cons.mp w with w | w
        · subst w; exact ⟨Int.emod_nonneg _ (by decide), Int.emod_lt_of_pos _ (by decide)⟩
        · cases List.mem_singleton.mp w; exact ⟨Int.emod_nonneg _ (by decide), Int.emod_lt_of_pos _ (by decide)⟩
  · rintro τ H1 ⟨l, zs, s, y3, y4, y5, y6, y7, rfl, e1, l0, ls, l1, lz, hz⟩
    refine ⟨_, rfl, by decide, by decide, ?_⟩
    have en : (300 : Int).toNat = 300 := rfl
    rw [en]
    refine for_it walk_rng0 (fun j τ H' => ∃ (zs' : List Int) (s : Int) (y5 : Option V), τ = [some (.ref a), some (.ref l), some (.int s), y3, y4, y5, y6, y7] ∧ Ext0 Hs H Hs H' ∧ H' l = some (.lst (zs'.map V.int)) ∧ zs'.length = zs.length + j ∧ ∀ z ∈ zs', 0 ≤ z ∧ z < 60)
      ⟨zs, _, _, rfl, e1, l1, by omega, hz⟩ (fun _ _ _ _ _ => trivial) ?_ ?_
    · rintro j x τ H2 H2' hj ⟨zs', s', y5, rfl, e2, l2, lz', hz'⟩ ⟨rfl, rfl⟩
      refine ⟨_, rfl, _, _, rfl, rfl, cs _ _ (by decide), _, _, rfl, rfl, .inl ⟨_, rfl, _, _, rfl, rfl, (show (0:Int) < _ by decide), ?_⟩⟩
      refine ⟨_, rfl, .inl ⟨rfl, _, .inl (.inl l2)⟩, _, rfl, _, _, rfl, rfl, wide_div (b := 8) (by decide) (by decide) (by decide) (by decide), .inl ⟨_, rfl, _, _, rfl, rfl, (show (0:Int) < _ by decide), ?_⟩⟩
      refine ⟨l, _, _, rfl, rfl, l2, big_lt (by rw [List.length_map]; omega), ?_⟩
      refine ⟨zs' ++ [_], _, _, rfl, e2.mut (.inl l0) ls, by rw [upd_same, List.map_append]; rfl, by simp; omega, fun z hz2 => ?_⟩
      rcases List.mem_append.mp hz2 with w | w
      · exact hz' z w
      · cases List.mem_singleton.mp w
        exact ⟨Int.emod_nonneg _ (by decide), Int.emod_lt_of_pos _ (by decide)⟩
    · rintro τ H2 ⟨zs', s', y5, rfl, e2, l2, lz', hz'⟩
      exact ⟨_, rfl, q l Hs H2 zs' e2 l0 ls l2 (by omega) (by omega) hz'⟩
end
end Mh
end
section
set_option Elab.async false
set_option linter.all false
set_option maxRecDepth 100000
set_option maxHeartbeats 4000000
set_option exponentiation.threshold 20000
/-! the drawn game: the reading -/
namespace Mh
open PySem PySem.Spec PyProof.Rows L2
open C8 (Cal pe_c)
open Evl (ixN_nat)
theorem odds_sum (S : Rat) : ∀ ks : List Nat, sumq (ks.map fun (k : Nat) => (k : Rat) / S) = ((ks.sum : Nat) : Rat) / S
  | [] => by show (0:Rat) = ((0 : Nat) : Rat) / S; have : ((0:Nat):Rat) = 0 := rfl; rw [this]; grind
  | k :: ks => by
    show (k : Rat) / S + sumq (ks.map fun (k : Nat) => (k : Rat) / S) = _
    rw [odds_sum S ks, List.sum_cons, Rat.natCast_add]
    grind
/-- a drawn draw is a draw -/
theorem draw_ok {n : Nat} {g : Rat} {ks es : List Nat} (h1 : IsI (g * (27720 : Nat))) (h2 : ab g ≤ ((1000 : Nat) : Rat)) (h3 : g.den ≤ 12) (hl : ks.length = es.length) (h0 : 0 < es.length) (h6 : es.length ≤ 6) (hk : ∀ k ∈ ks, 1 ≤ k ∧ k ≤ 60) (he : ∀ e ∈ es, e < n) :
    PlOk n ⟨g, .draw, (List.range es.length).map fun j => (((ks.getD j 0 : Nat) : Rat) / ((ks.sum : Nat) : Rat), es.getD j 0)⟩ := by
  have s1 := sum_bd (c := 60) fun k hk' => (hk k hk').2
  have s2 := sum_ge fun k hk' => (hk k hk').1
  have hs0 : 0 < ks.sum := by omega
  have hs1 : ks.sum ≤ 360 := by omega
  have hS : (0:Rat) < ((ks.sum : Nat) : Rat) := cast_pos hs0
  have hkp : ∀ j, j < es.length → 1 ≤ ks.getD j 0 := fun j hj => (hk _ (getD_mem (by omega))).1
  refine ⟨rfl, fun b hb => ?_, fun b hb => ?_, ?_, ⟨ks.sum, hs0, hs1, fun b hb => ?_⟩, h1, h2, h3, ?_⟩
  · obtain ⟨j, hj, rfl⟩ := List.mem_map.mp hb
    exact he _ (getD_mem (List.mem_range.mp hj))
  · obtain ⟨j, hj, rfl⟩ := List.mem_map.mp hb
    have := hkp j (List.mem_range.mp hj)
    have hp : (0:Rat) < ((ks.getD j 0 : Nat) : Rat) := cast_pos (by omega)
    show (0:Rat) < ((ks.getD j 0 : Nat) : Rat) / ((ks.sum : Nat) : Rat)
    rw [Rat.div_def]
    exact Rat.mul_pos hp (Rat.inv_pos.mpr hS)
  · rw [List.map_map]
    have e : (List.range es.length).map ((fun b : Rat × Nat => b.1) ∘ fun j => (((ks.getD j 0 : Nat) : Rat) / ((ks.sum : Nat) : Rat), es.getD j 0)) = ks.map fun (k : Nat) => (k : Rat) / ((ks.sum : Nat) : Rat) := by
      rw [← hl]
      exact range_map ks (fun (k : Nat) => (k : Rat) / ((ks.sum : Nat) : Rat)) 0
    have e' := e
    show sumq ((List.range es.length).map ((fun b : Rat × Nat => b.1) ∘ fun j => (((ks.getD j 0 : Nat) : Rat) / ((ks.sum : Nat) : Rat), es.getD j 0))) = 1
    rw [e', odds_sum]
    grind
  · obtain ⟨j, hj, rfl⟩ := List.mem_map.mp hb
    refine ⟨((ks.getD j 0 : Nat) : Int), ?_⟩
    show ((ks.getD j 0 : Nat) : Rat) / ((ks.sum : Nat) : Rat) * ((ks.sum : Nat) : Rat) = ((ks.getD j 0 : Nat) : Rat)
    grind
  · show ((List.range es.length).map _).length ≤ 6
    rw [List.length_map, List.length_range]; exact h6
/-- how wide -/
structure Wide (G : List Pl) (j c W : Nat) : Prop where
  c1 : 1 ≤ c
  cb : c ≤ 6 ^ j
  wid : ∀ x, x < j → (pl G x).k ≠ .draw → (pl G W).k ≠ .draw ∧ (pl G x).bs.length ≤ (pl G W).bs.length
  cnt : (∀ x, x < j → (pl G x).k ≠ .draw → (pl G x).bs.length ≤ 1) → c = 1
theorem pl_set {G : List Pl} {w x : Nat} {q : Pl} (hw : w < G.length) : pl (G.set w q) x = if x = w then q else pl G x := by
  unfold pl
  rw [List.getD_eq_getElem?_getD, List.getD_eq_getElem?_getD, List.getElem?_set]
  by_cases e : x = w
  · subst e; rw [if_pos rfl, if_pos hw, if_pos rfl]; rfl
  · rw [if_neg (fun z => e z.symm), if_neg e]
theorem cut_ok {n : Nat} {G : List Pl} (hG : GmOk n G) {w : Nat} (hw : w < n) (hk : (pl G w).k ≠ .draw) (h2 : 2 ≤ (pl G w).bs.length) : GmOk n (G.set w ⟨(pl G w).g, (pl G w).k, (pl G w).bs.drop 1⟩) := by
  refine ⟨by rw [List.length_set, hG.len], fun p hp => ?_⟩
  rcases List.mem_or_eq_of_mem_set hp with q | q
  · exact hG.ok p q
  · subst q
    have h := hG.at hw
    refine ⟨fun b hb => h.t b ((List.drop_sublist _ _).subset hb), fun z => ?_, ?_, h.gi, h.gb, h.gd, fun z => absurd z hk⟩
    · have : ((pl G w).bs.drop 1).length = (pl G w).bs.length - 1 := List.length_drop
      have z : (pl G w).bs.drop 1 = [] := z
      rw [z, List.length_nil] at this
      omega
    · show ((pl G w).bs.drop 1).length ≤ 6
      rw [List.length_drop]; have := h.br; omega
theorem wid_tab : ∀ j : Nat, j < 8 → ∃ c : Nat, 1 ≤ c ∧ c ≤ 6 ∧ ([V.int 1, .int 2, .int 3, .int 2, .int 1, .int 2, .int 4, .int 6] : List V)[j]? = some (.int (c : Int)) := by
  intro j hj
  have : j = 0 ∨ j = 1 ∨ j = 2 ∨ j = 3 ∨ j = 4 ∨ j = 5 ∨ j = 6 ∨ j = 7 := by omega
  rcases this with rfl | rfl | rfl | rfl | rfl | rfl | rfl | rfl
  · exact ⟨1, by decide, by decide, rfl⟩
  · exact ⟨2, by decide, by decide, rfl⟩
  · exact ⟨3, by decide, by decide, rfl⟩
  · exact ⟨2, by decide, by decide, rfl⟩
  · exact ⟨1, by decide, by decide, rfl⟩
  · exact ⟨2, by decide, by decide, rfl⟩
  · exact ⟨4, by decide, by decide, rfl⟩
  · exact ⟨6, by decide, by decide, rfl⟩
theorem kd_tab : ∀ j : Nat, j < 3 → ∃ k : Kd, ([V.str "ours", .str "theirs", .str "draw"] : List V)[j]? = some (.str k.s) := by
  intro j hj
  have : j = 0 ∨ j = 1 ∨ j = 2 := by omega
  rcases this with rfl | rfl | rfl
  · exact ⟨.ours, rfl⟩
  · exact ⟨.theirs, rfl⟩
  · exact ⟨.draw, rfl⟩
section
variable {K : PySem.W.Frag}
theorem h58 (vs : List V) (H : Hp) (Q : VK) (E : XK) (h : sp58 K vs H Q E) : t58 K { nx := fun _ H' => Q .non H', rt := Q } (start n58 vs) H := by
  obtain ⟨p, Hs, rfl, hp1, hp0, st, q⟩ := h
  refine ⟨_, rfl, _, rfl, p, 4, Hs, rfl, by decide, hp1, hp0, st, fun r Hs1 H1 e1 q0 q1 r0 r1 => ?_⟩
  refine ⟨_, _, rfl, rfl, ?_⟩
  obtain ⟨n, hn⟩ : ∃ n : Nat, ((n : Nat) : Int) = 1 + r := ⟨(1 + r).toNat, by omega⟩
  have hn1 : 1 ≤ n ∧ n ≤ 4 := by omega
  have eR : (fun i j : Int => V.int (i + j)) 1 r = V.int (n : Int) := by show V.int (1 + r) = _; rw [hn]
  refine ⟨Nat.zero_le _, fun l hl => ?_⟩
  have hlH : H l = none := e1.free hl
  have npl : p ≠ l := q1.ne hl
  have e2 := e1.newM (o := .lst []) hl
  refine ⟨_, rfl, _, rfl, by omega, by omega, ?_⟩
  have en : ((1 : Int) + r).toNat = n := by omega
  rw [en]
  refine for_it walk_rng0 (fun i τ H' => ∃ (Hs' : Hp) (ys : List V) (G : List Pl) (y5 y6 y7 y8 y9 y10 y11 y12 : Option V), τ = [some (.ref p), some (.int 4), some (.int 12), some (.int (1 + r)), some (.ref l), y5, y6, y7, y8, y9, y10, y11, y12] ∧ Ext (Mp p) Hs H Hs' H' ∧ Hs' p = none ∧ PoolOk H' p ∧ Hs' l = none ∧ H' l = some (.lst ys) ∧ IsA K Hs' ys (G.map pd) ∧ G.length = i ∧ ∀ q ∈ G, PgOk n q)
    ⟨Hs1, [], [], _, _, _, _, _, _, _, _, rfl, e2, q0, q1.keep hl, e1.t.free hl, upd_same, .nil, rfl, fun q hq => by cases hq⟩ (fun _ _ _ _ _ => trivial) ?_ ?_
  · rintro i x τ H2 H2' hi ⟨Hs2, ys, G, y5, y6, y7, y8, y9, y10, y11, y12, rfl, e3, q2, q3, l0, l1, iys, lG, hG⟩ ⟨rfl, rfl⟩
    have lys : ys.length = i := by rw [iys.len, List.length_map, lG]
    refine ⟨by show 8 ≤ sizeLine; decide, fun d hd => ?_⟩
    have npd : p ≠ d := q3.ne hd
    have nld : l ≠ d := ne_of_none l1 hd
    have e4 := e3.newM (o := .lst [.int 1, .int 2, .int 3, .int 2, .int 1, .int 2, .int 4, .int 6]) hd
    refine ⟨_, rfl, p, 8, Hs2, rfl, by decide, q3.keep hd, q2, e4.t, fun w Hs3 H3 e5 q4 q5 w0 w1 => ?_⟩
    obtain ⟨c, hc1, hc6, hct⟩ := wid_tab w.toNat (by omega)
    have hw : w = ((w.toNat : Nat) : Int) := by omega
    obtain ⟨d0, d1⟩ := e5.own (fun z => npd z.symm) (show (upd H2' d (.lst [.int 1, .int 2, .int 3, .int 2, .int 1, .int 2, .int 4, .int 6])) d = _ from upd_same) (e3.t.free hd)
    obtain ⟨l2, l3⟩ := e5.own (fun z => npl z.symm) (show (upd H2' d (.lst [.int 1, .int 2, .int 3, .int 2, .int 1, .int 2, .int 4, .int 6])) l = some (.lst ys) by rw [upd_ne nld]; exact l1) l0
    have e6 := e4.trans e5
    refine ⟨d, _, w, .int (c : Int), rfl, rfl, SqL.of d1, by have := atI_nat hct; rw [← hw] at this; exact this, ?_⟩
    refine ⟨_, rfl, by omega, by omega, fun D hD => ?_⟩
    have ec : ((c : Nat) : Int).toNat = c := by omega
    rw [ec]
    refine lc_pool (K := K) (p := p) (Hs := Hs3) (n := c) walk_rng0 e5.t (fun _ _ => trivial) hD q4 q5 (fun _ d => ∃ k : Nat, d = .int (k : Int) ∧ k < n) (by omega) ?_ ?_
    · rintro j x Hs4 H4 H4' C hj e7 q6 q7 ⟨rfl, rfl⟩ kk
      refine ⟨rfl, _, rfl, _, rfl, p, 1 + r, Hs4, rfl, by omega, q7, q6, e7.t, fun u Hs5 H5 e8 q8 q9 u0 u1 => ?_⟩
      exact kk _ Hs5 H5 (.int u) e8 q8 q9 (.int _) ⟨u.toNat, by congr 1; omega, by omega⟩
    intro Hs4 H4 ws ds e7 q6 q7 D0 D1 hws hdl hP
    obtain ⟨es, rfl, hes⟩ := ex_map hP
    rw [List.length_map] at hdl
    have npD : p ≠ D := q5.ne hD
    have nlD : l ≠ D := ne_of_none l3 hD
    obtain ⟨l4, l5⟩ := e7.own (fun z => npl z.symm) l3 l2
    have e8 := (e6.trans e7).frz (e6.free hD) D0 D1
    have s4 : Same Hs2 (upd Hs4 D (.lst ws)) := (e5.s.trans e7.s).trans (same_new D0)
    have ies : Is K (upd Hs4 D (.lst ws)) (.ref D) (il es) := .lst upd_same (hws.up (same_new D0))
    have q6' : (upd Hs4 D (.lst ws)) p = none := by rw [upd_ne npD]; exact q6
    have l4' : (upd Hs4 D (.lst ws)) l = none := by rw [upd_ne nlD]; exact l4
    generalize hHs5 : upd Hs4 D (.lst ws) = Hs5 at e8 s4 ies q6' l4'
    refine ⟨by show 3 ≤ sizeLine; decide, fun d2 hd2 => ?_⟩
    have npd2 : p ≠ d2 := q7.ne hd2
    have nld2 : l ≠ d2 := ne_of_none l5 hd2
    have e9 := e8.newM (o := .lst [.str "ours", .str "theirs", .str "draw"]) hd2
    refine ⟨_, rfl, p, 3, Hs5, rfl, by decide, q7.keep hd2, q6', e9.t, fun w2 Hs6 H6 e10 q8 q9 w20 w21 => ?_⟩
    obtain ⟨kd, hkd⟩ := kd_tab w2.toNat (by omega)
    have hw2 : w2 = ((w2.toNat : Nat) : Int) := by omega
    obtain ⟨d20, d21⟩ := e10.own (fun z => npd2 z.symm) (show (upd H4 d2 (.lst [.str "ours", .str "theirs", .str "draw"])) d2 = _ from upd_same) (e8.t.free hd2)
    obtain ⟨l6, l7⟩ := e10.own (fun z => npl z.symm) (show (upd H4 d2 (.lst [.str "ours", .str "theirs", .str "draw"])) l = some (.lst ys) by rw [upd_ne nld2]; exact l5) l4'
    have e11 := e9.trans e10
    refine ⟨d2, _, w2, .str kd.s, rfl, rfl, SqL.of d21, by have := atI_nat hkd; rw [← hw2] at this; exact this, ?_⟩
    have s6 : Same Hs2 Hs6 := s4.trans e10.s
    have ies6 := ies.up e10.s
    obtain ⟨DD, hDe, hDD⟩ := is_il ies6
    cases hDe
    -- what is appended
    have app : ∀ (Hs7 H7 : Hp) (y8 y12 : Option V) (v6 : V) (bs : List (Rat × Nat)), Ext (Mp p) Hs H Hs7 H7 → Hs7 p = none → PoolOk H7 p → Hs7 l = none → H7 l = some (.lst ys) → Same Hs2 Hs7 → Is K Hs7 v6 (.list (bs.map (bd kd))) → (∀ g : Rat, IsI (g * (27720 : Nat)) → ab g ≤ ((1000 : Nat) : Rat) → g.den ≤ 12 → PgOk n ⟨g, kd, bs⟩) →
        (tDrop (tBM K "list" rAppend (tVar 4) (tCons (tTup (tCons (tCall (sp57 K) [] E0 (tCons (tVar 0) tNil)) (tCons (tVar 7) (tCons (tVar 6) tNil)))) tNil))) { nx := fun τ H' => ∃ (Hs' : Hp) (ys : List V) (G : List Pl) (y5 y6 y7 y8 y9 y10 y11 y12 : Option V), τ = [some (.ref p), some (.int 4), some (.int 12), some (.int (1 + r)), some (.ref l), y5, y6, y7, y8, y9, y10, y11, y12] ∧ Ext (Mp p) Hs H Hs' H' ∧ Hs' p = none ∧ PoolOk H' p ∧ Hs' l = none ∧ H' l = some (.lst ys) ∧ IsA K Hs' ys (G.map pd) ∧ G.length = i + 1 ∧ ∀ q ∈ G, PgOk n q, rt := Q }
          [some (.ref p), some (.int 4), some (.int 12), some (.int (1 + r)), some (.ref l), some (.int (i : Nat)), some v6, some (.str kd.s), y8, y9, y10, y11, y12] H7 := by
      intro Hs7 H7 y8 y12 v6 bs e12 q10 q11 l8 l9 s7 i6 hpg
      refine ⟨_, rfl, .inl ⟨rfl, _, .inl (.inl l9)⟩, _, rfl, p, Hs7, rfl, q11, q10, e12.t, fun vg Hs8 H8 g e13 q12 q13 g1 g2 g3 ig => ?_⟩
      obtain ⟨l10, l11⟩ := e13.own (fun z => npl z.symm) l9 l8
      have e14 := e12.trans e13
      refine ⟨_, rfl, _, rfl, by show 3 ≤ sizeLine; decide, fun u hu => ?_⟩
      have npu : p ≠ u := q13.ne hu
      have nlu : l ≠ u := ne_of_none l11 hu
      have sn := same_new (o := .tup [vg, .str kd.s, v6]) (e14.t.free hu)
      have e15 := e14.new (o := .tup [vg, .str kd.s, v6]) hu
      have l12 : (upd Hs8 u (.tup [vg, .str kd.s, v6])) l = none := by rw [upd_ne nlu]; exact l10
      refine ⟨l, ys, _, rfl, rfl, by rw [upd_ne nlu]; exact l11, big_lt (by omega), ?_⟩
      refine ⟨_, _, G ++ [⟨g, kd, bs⟩], _, _, _, _, _, _, _, _, rfl, e15.mut (.inl hlH) l12, by rw [upd_ne npu]; exact q12, (q13.keep hu).put npl, l12, upd_same, ?_, by simp [lG], fun q hq => ?_⟩
      · rw [List.map_append]
        exact (((iys.up s7).up e13.s).up sn).append (.cons (.tup (SqT.of upd_same) (.cons (ig.up sn) (.cons (.str _) (.cons ((i6.up e13.s).up sn) .nil)))) .nil)
      · rcases List.mem_append.mp hq with z | z
        · exact hG q z
        · cases List.mem_singleton.mp z
          exact hpg g g1 g2 g3
    refine ⟨_, rfl, rfl, _, rfl, ?_⟩
    have ek : decide (V.str kd.s = V.str (PySem.Str.ofString "draw")) = decide (kd = .draw) := kd_eq _ .draw
    rw [ek]
    by_cases hk : kd = .draw
    · rw [decide_eq_true hk]
      refine iteT ?_
      have lvi : (vi es).length = c := by rw [vi_len, hdl]
      refine ⟨_, rfl, _, rfl, D, vi es, rfl, .inl (SqL.of (e10.t _ _ hDD)), p, c, Hs6, by rw [lvi]; rfl, by omega, hc6, q9, q8, e10.t, fun vo Hs7 H7 ks e12 q10 q11 lks hks io => ?_⟩
      obtain ⟨bo, os, rfl, hbo, ios⟩ := io.list
      obtain ⟨l8, l9⟩ := e12.own (fun z => npl z.symm) l7 l6
      have e13 := e11.trans e12
      have hDD7 := e12.s _ _ hDD
      refine ⟨_, rfl, D, vi es, rfl, .inl (SqL.of (e12.t _ _ hDD7)), _, rfl, by omega, by omega, fun D2 hD2 => ?_⟩
      have ec2 : (((vi es).length : Nat) : Int).toNat = es.length := by rw [vi_len]; omega
      rw [ec2]
      have nlD2 : l ≠ D2 := ne_of_none l9 hD2
      have npD2 : p ≠ D2 := q11.ne hD2
      refine lc_map (K := K) (Hs := Hs7) (n := es.length) walk_rng0 e12.t (fun _ _ => trivial) hD2 (fun j => bd .draw (((ks.getD j 0 : Nat) : Rat) / ((ks.sum : Nat) : Rat), es.getD j 0)) (by omega) ?_ ?_
      · rintro j x Hs8 H8 H8' C hj e14 d0 ⟨rfl, rfl⟩ kk
        obtain ⟨vq, evq, ivq⟩ := ios.get (show (ks.map fun (k : Nat) => qd ((k : Rat) / ((ks.sum : Nat) : Rat)))[j]? = some (qd (((ks.getD j 0 : Nat) : Rat) / ((ks.sum : Nat) : Rat))) by rw [List.getElem?_map, range_get ks 0 (by omega)]; rfl)
        have eve : (vi es)[j]? = some (.int ((es.getD j 0 : Nat) : Int)) := vi_at (range_get es 0 hj)
        refine ⟨rfl, _, rfl, _, rfl, bo, os, _, vq, rfl, rfl, SqL.of (e14.t _ _ (e14.s _ _ hbo)), atI_nat evq, _, rfl, _, rfl, D, vi es, _, _, rfl, rfl, SqL.of (e14.t _ _ (e14.s _ _ hDD7)), atI_nat eve, by show 2 ≤ sizeLine; decide, fun u hu => ?_⟩
        have sn := same_new (o := .tup [vq, .int ((es.getD j 0 : Nat) : Int)]) (e14.t.free hu)
        exact kk _ _ _ ((Ext.refl e14.t).new hu) (.tup (SqT.of upd_same) (.cons ((ivq.up e14.s).up sn) (.cons (.int _) .nil)))
      · intro Hs8 H8 ws2 e14 d0 d1 hw2
        obtain ⟨q13, q12⟩ := q11.ext e14 q10
        obtain ⟨l10, l11⟩ := e14.own (fun z => z) l9 l8
        have e15 := (e13.trans e14.any).frz (e13.free hD2) d0 d1
        refine app _ H8 _ _ (.ref D2) ((List.range es.length).map fun j => (((ks.getD j 0 : Nat) : Rat) / ((ks.sum : Nat) : Rat), es.getD j 0)) e15 (by rw [upd_ne npD2]; exact q12) q13 (by rw [upd_ne nlD2]; exact l10) l11 (((s6.trans e12.s).trans e14.s).trans (same_new d0)) (.lst upd_same ?_) fun g g1 g2 g3 => ?_
        · rw [List.map_map, hk]
          exact hw2.up (same_new d0)
        · have hd := draw_ok g1 g2 g3 (by omega) (by omega) (by omega) hks hes
          refine ⟨hd.t, fun z => ?_, hd.br, g1, g2, g3, fun _ => by rw [hk]; exact hd⟩
          have := congrArg List.length z
          rw [List.length_map, List.length_range, List.length_nil] at this
          omega
    · rw [decide_eq_false hk]
      refine iteF ?_
      refine app Hs6 H6 _ _ (.ref D) (es.map fun e => (1, e)) e11 q8 q9 l6 l7 s6 ?_ fun g g1 g2 g3 => ?_
      · have : (es.map fun e => ((1 : Rat), e)).map (bd kd) = es.map fun (e : Nat) => PyData.int (e : Int) := by
          rw [List.map_map]
          refine List.map_congr_left fun e _ => ?_
          cases kd with
          | draw => exact absurd rfl hk
          | ours => rfl
          | theirs => rfl
        rw [this]
        exact ies6
      · refine ⟨fun b hb => ?_, fun z => ?_, ?_, g1, g2, g3, fun z => absurd z hk⟩
        · obtain ⟨e, he, rfl⟩ := List.mem_map.mp hb
          exact hes e he
        · have := congrArg List.length z
          rw [List.length_map, List.length_nil] at this
          omega
        · show (es.map _).length ≤ 6
          rw [List.length_map]; omega
  · rintro τ H2 ⟨Hs2, ys, G0, y5, y6, y7, y8, y9, y10, y11, y12, rfl, e3, q2, q3, l0, l1, iys0, lG0, hG0⟩
    have eG : G0.map pd = fl G0.length (fun x => pd (pl G0 x)) := (range_map G0 pd ⟨0, .draw, []⟩).symm
    rw [eG] at iys0
    have fin : ∀ (Hs3 H3 : Hp) (ys : List V) (G : List Pl) (y5 y6 y7 y8 y9 y10 y11 y12 : Option V), Ext (Mp p) Hs H Hs3 H3 → Hs3 p = none → PoolOk H3 p → Hs3 l = none → H3 l = some (.lst ys) → IsA K Hs3 ys (fl n fun x => pd (pl G x)) → GmOk n G → (tRet (tVar 4)) { nx := fun _ H' => Q .non H', rt := Q } [some (.ref p), some (.int 4), some (.int 12), some (.int (1 + r)), some (.ref l), y5, y6, y7, y8, y9, y10, y11, y12] H3 := by
      intro Hs3 H3 ys G y5 y6 y7 y8 y9 y10 y11 y12 e4 q4 q5 l2 l3 iys hG
      refine ⟨_, rfl, ?_⟩
      refine q _ (upd Hs3 l (.lst ys)) H3 n G (e4.frz hlH l2 l3) (by rw [upd_ne npl]; exact q4) q5 hn1.1 hn1.2 hG (.lst upd_same ?_)
      rw [hG.len]
      exact iys.up (same_new l2)
    refine ⟨_, rfl, by decide, by decide, ?_⟩
    have en40 : (40 : Int).toNat = 40 := rfl
    rw [en40]
    rw [lG0] at iys0
    refine for_it walk_rng0 (fun i τ H' => ∃ (Hs' : Hp) (ys : List V) (G : List Pl) (y5 y9 y10 y11 : Option V), τ = [some (.ref p), some (.int 4), some (.int 12), some (.int (1 + r)), some (.ref l), y5, y6, y7, y8, y9, y10, y11, y12] ∧ Ext (Mp p) Hs H Hs' H' ∧ Hs' p = none ∧ PoolOk H' p ∧ Hs' l = none ∧ H' l = some (.lst ys) ∧ IsA K Hs' ys (fl n fun x => pd (pl G x)) ∧ GmOk n G)
      ⟨Hs2, ys, G0, _, _, _, _, rfl, e3, q2, q3, l0, l1, iys0, ⟨lG0, hG0⟩⟩ (fun _ _ _ _ _ => trivial) ?_ ?_
    · rintro i x τ H4 H4' hi ⟨Hs4, ys, G, y5, y9, y10, y11, rfl, e4, q4, q5, l2, l3, iys, hG⟩ ⟨rfl, rfl⟩
      have lys := iys.flen
      have get : ∀ x, x < n → ∃ c g bb bs, ys[x]? = some (.ref c) ∧ SqT K H4' c [g, .str (pl G x).k.s, .ref bb] ∧ Is K Hs4 g (qd (pl G x).g) ∧ SqL K H4' bb bs ∧ IsA K Hs4 bs ((pl G x).bs.map (bd (pl G x).k)) ∧ Hs4 bb = some (.lst bs) := fun x hx => by
        obtain ⟨u, eu, iu⟩ := iys.fget hx
        obtain ⟨c, g, bb, bs, rfl, hc, ig, hbs, ibs⟩ := is_pd iu
        exact ⟨c, g, bb, bs, eu, sqt_up e4.t hc, ig, SqL.of (e4.t _ _ hbs), ibs, hbs⟩
      refine ⟨_, rfl, _, rfl, by omega, by omega, ?_⟩
      rw [en]
      refine for_it walk_rng0 (fun j τ H' => H' = H4' ∧ ∃ (c W : Nat) (cz wz : Int) (y5 : Option V), τ = [some (.ref p), some (.int 4), some (.int 12), some (.int (1 + r)), some (.ref l), y5, y6, y7, y8, some (.int (i : Nat)), some (.int cz), some (.int wz), y12] ∧ cz = (c : Int) ∧ wz = (W : Int) ∧ W < n ∧ Wide G j c W)
        ⟨rfl, 1, 0, 1, 0, _, rfl, rfl, rfl, by omega, by decide, by decide, fun x hx => absurd hx (by omega), fun _ => rfl⟩ (fun _ _ _ _ _ => trivial) ?_ ?_
      · rintro j x τ H5 H5' hj ⟨rfl, c, W, cz, wz, y5, rfl, rfl, rfl, hW, hwd⟩ ⟨rfl, rfl⟩
        obtain ⟨cj, gj, bbj, bsj, euj, hcj, igj, hsj, ibj, hbj⟩ := get j hj
        obtain ⟨cw, gw, bbw, bsw, euw, hcw, igw, hsw, ibw, hbw⟩ := get W hW
        have lbj : bsj.length = (pl G j).bs.length := by rw [ibj.len, List.length_map]
        have lbw : bsw.length = (pl G W).bs.length := by rw [ibw.len, List.length_map]
        refine ⟨_, rfl, _, rfl, l, ys, _, _, rfl, rfl, SqL.of l3, atI_nat euj, cj, _, 1, _, rfl, rfl, hcj, rfl, rfl, _, rfl, ?_⟩
        have ekj : decide (V.str (pl G j).k.s = V.str (PySem.Str.ofString "draw")) = decide ((pl G j).k = .draw) := kd_eq _ .draw
        rw [ekj]
        by_cases hkj : (pl G j).k = .draw
        · rw [decide_eq_true hkj]
          refine iteF ?_
          refine ⟨rfl, c, W, _, _, _, rfl, rfl, rfl, hW, hwd.c1, Nat.le_trans hwd.cb (Nat.pow_le_pow_right (by decide) (by omega)), fun x hx hk => ?_, fun hh => hwd.cnt fun x hx hk => hh x (by omega) hk⟩
          by_cases cx : x = j
          · subst cx; exact absurd hkj hk
          · exact hwd.wid x (by omega) hk
        · rw [decide_eq_false hkj]
          refine iteT ?_
          have hbrj := (hG.at hj).br
          have hnej : 1 ≤ (pl G j).bs.length := List.length_pos_iff.mpr (hG.at hj).ne
          have hc1296 : c ≤ 6 ^ 4 := Nat.le_trans hwd.cb (Nat.pow_le_pow_right (by decide) (by omega))
          refine ⟨_, rfl, _, rfl, _, rfl, l, ys, _, _, rfl, rfl, SqL.of l3, atI_nat euj, cj, _, 2, _, rfl, rfl, hcj, rfl, bbj, bsj, rfl, .inl hsj, _, _, rfl, rfl, mulw (a := 12) (b := 12) (by omega) (by omega) (by decide), ?_⟩
          have hcz : (c : Int) * ((bsj.length : Nat) : Int) = ((c * (pl G j).bs.length : Nat) : Int) := by rw [lbj, Int.natCast_mul]
          have hc' : 1 ≤ c * (pl G j).bs.length := Nat.mul_pos hwd.c1 hnej
          have hcb' : c * (pl G j).bs.length ≤ 6 ^ (j + 1) := by rw [Nat.pow_succ]; exact Nat.mul_le_mul hwd.cb hbrj
          have hcnt' : (∀ x, x < j + 1 → (pl G x).k ≠ .draw → (pl G x).bs.length ≤ 1) → c * (pl G j).bs.length = 1 := fun hh => by
            rw [hwd.cnt fun x hx hk => hh x (by omega) hk]
            have := hh j (by omega) hkj
            omega
          have ekw : decide (V.str (pl G W).k.s = V.str (PySem.Str.ofString "draw")) = decide ((pl G W).k = .draw) := kd_eq _ .draw
          refine ⟨_, rfl, _, rfl, l, ys, _, _, rfl, rfl, SqL.of l3, atI_nat euj, cj, _, 2, _, rfl, rfl, hcj, rfl, bbj, bsj, rfl, .inl hsj, ?_⟩
          refine ⟨_, rfl, _, rfl, l, ys, _, _, rfl, rfl, SqL.of l3, atI_nat euw, cw, _, 2, _, rfl, rfl, hcw, rfl, bbw, bsw, rfl, .inl hsw, _, _, rfl, rfl, _, rfl, ?_⟩
          by_cases hlen : ((bsw.length : Nat) : Int) < ((bsj.length : Nat) : Int)
          · rw [decide_eq_true hlen]
            refine iteT ?_
            refine iteT ?_
            refine ⟨_, rfl, rfl, c * (pl G j).bs.length, j, _, _, _, rfl, hcz, rfl, hj, hc', hcb', fun x hx hk => ⟨hkj, ?_⟩, hcnt'⟩
            by_cases cx : x = j
            · rw [cx]; exact Nat.le_refl _
            · have := (hwd.wid x (by omega) hk).2; omega
          · rw [decide_eq_false hlen]
            refine iteF ?_
            refine ⟨_, rfl, _, rfl, l, ys, _, _, rfl, rfl, SqL.of l3, atI_nat euw, cw, _, 1, _, rfl, rfl, hcw, rfl, rfl, _, rfl, ?_⟩
            rw [ekw]
            by_cases hkw : (pl G W).k = .draw
            · rw [decide_eq_true hkw]
              refine iteT ?_
              refine ⟨_, rfl, rfl, c * (pl G j).bs.length, j, _, _, _, rfl, hcz, rfl, hj, hc', hcb', fun x hx hk => ⟨hkj, ?_⟩, hcnt'⟩
              by_cases cx : x = j
              · rw [cx]; exact Nat.le_refl _
              · exact absurd hkw (hwd.wid x (by omega) hk).1
            · rw [decide_eq_false hkw]
              refine iteF ?_
              refine ⟨rfl, c * (pl G j).bs.length, W, _, _, _, rfl, hcz, rfl, hW, hc', hcb', fun x hx hk => ?_, hcnt'⟩
              by_cases cx : x = j
              · subst cx; exact ⟨hkw, by omega⟩
              · exact hwd.wid x (by omega) hk
      · rintro τ H5 ⟨rfl, c, W, cz, wz, y5, rfl, rfl, rfl, hW, hwd⟩
        refine ⟨_, rfl, _, rfl, _, _, rfl, rfl, _, rfl, ?_⟩
        by_cases hc12 : ((c : Nat) : Int) ≤ 12
        · rw [decide_eq_true hc12]
          refine iteT ?_
          exact fin Hs4 _ ys G _ _ _ _ _ _ _ _ e4 q4 q5 l2 l3 iys hG
        · rw [decide_eq_false hc12]
          refine iteF ?_
          have hbig : ∃ x, x < n ∧ (pl G x).k ≠ .draw ∧ 2 ≤ (pl G x).bs.length := by
            refine Classical.byContradiction fun hc => ?_
            have := hwd.cnt fun x hx hk => Classical.byContradiction fun hb => hc ⟨x, hx, hk, by omega⟩
            omega
          obtain ⟨x0, hx0, hk0, hb0⟩ := hbig
          obtain ⟨hkW, hlW⟩ := hwd.wid x0 hx0 hk0
          obtain ⟨cw, gw, bbw, bsw, euw, hcw, igw, hsw, ibw, hbw⟩ := get W hW
          refine ⟨_, rfl, _, rfl, l, ys, _, _, rfl, rfl, SqL.of l3, atI_nat euw, cw, _, 0, _, rfl, rfl, hcw, rfl, ?_⟩
          refine ⟨_, rfl, _, rfl, l, ys, _, _, rfl, rfl, SqL.of l3, atI_nat euw, cw, _, 1, _, rfl, rfl, hcw, rfl, ?_⟩
          refine ⟨_, rfl, _, rfl, l, ys, _, _, rfl, rfl, SqL.of l3, atI_nat euw, cw, _, 2, _, rfl, rfl, hcw, rfl, _, rfl, bbw, bsw, rfl, hsw, fun d hd => ?_⟩
          rw [cutV_one]
          refine ⟨by show 3 ≤ sizeLine; decide, fun u hu => ?_⟩
          have npd : p ≠ d := q5.ne hd
          have nld : l ≠ d := ne_of_none l3 hd
          have ndu : d ≠ u := ne_of_none upd_same hu
          have npu : p ≠ u := (q5.keep hd).ne hu
          have nlu : l ≠ u := ne_of_none (by rw [upd_ne nld]; exact l3) hu
          have e5 := (e4.new (o := .lst (bsw.drop 1)) hd).new (o := .tup [gw, .str (pl G W).k.s, .ref d]) hu
          have s5 : Same Hs4 (upd (upd Hs4 d (.lst (bsw.drop 1))) u (.tup [gw, .str (pl G W).k.s, .ref d])) := (same_new (e4.t.free hd)).trans (same_new ((e4.new (o := .lst (bsw.drop 1)) hd).t.free hu))
          refine ⟨_, rfl, _, rfl, l, ys, _, W, rfl, rfl, by rw [upd_ne nlu, upd_ne nld]; exact l3, ixN_nat (by omega), ?_⟩
          have l6 : (upd (upd Hs4 d (.lst (bsw.drop 1))) u (.tup [gw, .str (pl G W).k.s, .ref d])) l = none := by rw [upd_ne nlu, upd_ne nld]; exact l2
          refine ⟨_, ys.set W (.ref u), G.set W ⟨(pl G W).g, (pl G W).k, (pl G W).bs.drop 1⟩, _, _, _, _, rfl, e5.mut (.inl hlH) l6, by rw [upd_ne npu, upd_ne npd]; exact q4, ((q5.keep hd).keep hu).put npl, l6, upd_same, ?_, cut_ok hG hW hkW (by omega)⟩
          refine ((iys.up s5).fset W (v := .ref u) (d := pd ⟨(pl G W).g, (pl G W).k, (pl G W).bs.drop 1⟩) ?_).fcongr fun x hx => ?_
          · refine .tup (SqT.of upd_same) (.cons (igw.up s5) (.cons (.str _) (.cons (.lst (by rw [upd_ne ndu]; exact upd_same) ?_) .nil)))
            show IsA K _ (bsw.drop 1) (((pl G W).bs.drop 1).map (bd (pl G W).k))
            rw [List.map_drop]
            exact (ibw.up s5).drop 1
          · rw [pl_set (by rw [hG.len]; exact hW)]
            by_cases cx : x = W
            · rw [if_pos cx, if_pos cx]
            · rw [if_neg cx, if_neg cx]
    · rintro τ H4 ⟨Hs4, ys, G, y5, y9, y10, y11, rfl, e4, q4, q5, l2, l3, iys, hG⟩
      exact fin Hs4 _ ys G _ _ _ _ _ _ _ _ e4 q4 q5 l2 l3 iys hG
end
end Mh
end
section
set_option Elab.async false
set_option linter.all false
set_option maxRecDepth 100000
set_option maxHeartbeats 4000000
/-! the law's own sums: promises and derivations -/
namespace Mh
open PySem PySem.Spec PyProof.Rows L2
open C8 (Cal pe_c)
open Classical in
/-- the room of a place -/
noncomputable def roomD (n : Nat) (P : Mat) (x : Nat) : PyData := if Recu n P x then il (reachL n P x) else .none
/-- replies that go round -/
def rndP (n p : Nat) (G : List Pl) (ρs : List (List (Option Nat))) (z : Nat) : Pl :=
  let q := playP G [ρs.getD (z / n) []] (z % n)
  ⟨q.g, q.k, q.bs.map fun b => (b.1, n * ((z / n + 1) % p) + b.2)⟩
def rnd (n p : Nat) (G : List Pl) (ρs : List (List (Option Nat))) : List Pl := (List.range (p * n)).map (rndP n p G ρs)
structure Ext1 (n : Nat) (way : Int) (L : List (Nat → Rat)) (f : Nat → Rat) : Prop where
  at_ : ∀ x, x < n → ∃ g ∈ L, f x = g x
  le : ∀ x, x < n → ∀ g ∈ L, (way : Rat) * g x ≤ (way : Rat) * f x
section
variable (K : PySem.W.Frag)
def sp60 : Sp := fun vs H Q _ => ∃ (qs : List Rat) (k : Nat) (x : V) (Hs : Hp), vs = [x] ∧ Is K Hs x (.list (qs.map qd)) ∧ qs.length ≤ 1000 ∧ k ≤ 4480 ∧ (∀ q ∈ qs, Sz k q) ∧ (∀ i, i ≤ qs.length → Sz k (sumq (qs.take i))) ∧ Same Hs H ∧
  ∀ v Hs' H', Ext0 Hs H Hs' H' → Is K Hs' v (qd (sumq qs)) → Q v H'
def spC2 (f : Rat → Rat → Rat) : Sp := fun vs H Q _ => ∃ (a b : Rat) (i j : Nat) (x y : V) (Hs : Hp), vs = [x, y] ∧ Is K Hs x (qd a) ∧ Is K Hs y (qd b) ∧ Sz i a ∧ Sz j b ∧ i + j ≤ 8980 ∧ Same Hs H ∧
  ∀ v Hs' H', Ext0 Hs H Hs' H' → Is K Hs' v (qd (f a b)) → Q v H'
def sp61 : Sp := spC2 K fun a b => a * b
def sp62 : Sp := spC2 K fun a b => a - b
def sp63 : Sp := fun vs H Q _ => ∃ (m : Nat) (M0 : Nat → Row) (x : V) (Hs : Hp), vs = [x] ∧ 1 ≤ m ∧ m ≤ 50 ∧ Is K Hs x (md m (m + 1) M0) ∧ Inj m M0 ∧ Small m M0 ∧ Same Hs H ∧
  ∀ v Hs' H' y, Ext0 Hs H Hs' H' → Ans m M0 y → Is K Hs' v (vd m y) → Q v H'
def sp64 : Sp := fun vs H Q _ => ∃ (n : Nat) (C : List Pl) (x : V) (Hs : Hp), vs = [x] ∧ ChOk n C ∧ n ≤ 12 ∧ Is K Hs x (gd C) ∧ Same Hs H ∧
  ∀ v Hs' H', Ext0 Hs H Hs' H' → Is K Hs' v (md n n (Pm C)) → Q v H'
def sp65 : Sp := fun vs H Q _ => ∃ (n : Nat) (P : Mat) (x : V) (Hs : Hp), vs = [x] ∧ n ≤ 12 ∧ Is K Hs x (md n n P) ∧ Same Hs H ∧
  ∀ v Hs' H', Ext0 Hs H Hs' H' → Is K Hs' v (.list (fl n (roomD n P))) → Q v H'
def sp66 : Sp := fun vs H Q _ => ∃ (n : Nat) (C : List Pl) (R : List Nat) (x y : V) (Hs : Hp), vs = [x, y] ∧ ChOk n C ∧ n ≤ 12 ∧ Klass n (Pm C) R ∧ R ≠ [] ∧ Is K Hs x (md n n (Pm C)) ∧ Is K Hs y (il R) ∧ Same Hs H ∧
  ∀ v Hs' H' ν, Ext0 Hs H Hs' H' → Shares n (Pm C) R ν → Is K Hs' v (vd R.length ν) → Q v H'
def sp67 : Sp := fun vs H Q _ => ∃ (n : Nat) (C : List Pl) (x : V) (Hs : Hp), vs = [x] ∧ ChOk n C ∧ 1 ≤ n ∧ n ≤ 12 ∧ Is K Hs x (gd C) ∧ Same Hs H ∧
  ∀ v Hs' H' g, Ext0 Hs H Hs' H' → Long n (Pm C) (gm C) g → (∀ x, x < n → Sz 2900 (g x)) → Is K Hs' v (vd n g) → Q v H'
def sp68 : Sp := fun vs H Q _ => ∃ (a b : Rat) (i j : Nat) (x y : V), vs = [x, y] ∧ Is K H x (qd a) ∧ Is K H y (qd b) ∧ Sz i a ∧ Sz j b ∧ i + j ≤ 90000 ∧ Q (.int (cmpq a b)) H
def sp69 : Sp := fun vs H Q _ => ∃ (n p : Nat) (G : List Pl) (ρs : List (List (Option Nat))) (s : Kd) (x y : V) (Hs : Hp), vs = [x, y] ∧ GmOk n G ∧ 1 ≤ n ∧ n ≤ 4 ∧ ρs.length = p ∧ 1 ≤ p ∧ p ≤ 3 ∧ s ≠ .draw ∧ (∀ x, x < n → (pl G x).k = .draw ∨ (pl G x).k = s) ∧ (∀ ρ ∈ ρs, StOk s G ρ) ∧ Is K Hs x (gd G) ∧ Is K Hs y (.list (ρs.map sd)) ∧ Same Hs H ∧
  ∀ v Hs' H', Ext0 Hs H Hs' H' → Is K Hs' v (gd (rnd n p G ρs)) → Q v H'
def sp70 : Sp := fun vs H Q _ => ∃ (n : Nat) (L : List (Nat → Rat)) (way : Int) (x : V) (Hs : Hp), vs = [x, .int way] ∧ (way = 1 ∨ way = -1) ∧ n ≤ 100 ∧ L ≠ [] ∧ (∀ g ∈ L, ∀ x, x < n → Sz 2900 (g x)) ∧ Is K Hs x (.list (L.map fun g => vd n g)) ∧ Same Hs H ∧
  ∀ v Hs' H' f, Ext0 Hs H Hs' H' → Ext1 n way L f → Is K Hs' v (vd n f) → Q v H'
def sp71 : Sp := fun vs H Q _ => ∃ (n : Nat) (G : List Pl) (s : Kd) (x : V) (Hs : Hp), vs = [x, .str s.s] ∧ GmOk n G ∧ n ≤ 4 ∧ s ≠ .draw ∧ Is K Hs x (gd G) ∧ Same Hs H ∧
  ∀ v Hs' H' (L : List (List (Option Nat))), Ext0 Hs H Hs' H' → L.length ≤ 10000 → (∀ σ, σ ∈ L ↔ StOk s G σ) → Is K Hs' v (.list (L.map sd)) → Q v H'
def sp72 : Sp := fun vs H Q _ => ∃ (n : Nat) (G : List Pl) (σ : List (Option Nat)) (x y : V) (Hs : Hp), vs = [x, y] ∧ GmOk n G ∧ 1 ≤ n ∧ n ≤ 4 ∧ StOk .ours G σ ∧ Is K Hs x (gd G) ∧ Is K Hs y (sd σ) ∧ Same Hs H ∧
  ∀ v Hs' H' f, Ext0 Hs H Hs' H' → (∀ x, x < n → (∃ τ g, StOk .theirs G τ ∧ Long n (Pm (both G σ τ)) (gm G) g ∧ f x = g x) ∧ ∀ τ, StOk .theirs G τ → ∃ g, Long n (Pm (both G σ τ)) (gm G) g ∧ f x ≤ g x) → Is K Hs' v (vd n f) → Q v H'
def sp73 : Sp := fun vs H Q _ => ∃ (n : Nat) (G : List Pl) (τ : List (Option Nat)) (x y : V) (Hs : Hp), vs = [x, y] ∧ GmOk n G ∧ 1 ≤ n ∧ n ≤ 4 ∧ StOk .theirs G τ ∧ Is K Hs x (gd G) ∧ Is K Hs y (sd τ) ∧ Same Hs H ∧
  ∀ v Hs' H' f, Ext0 Hs H Hs' H' → (∀ x, x < n → (∃ σ g, StOk .ours G σ ∧ Long n (Pm (both G σ τ)) (gm G) g ∧ f x = g x) ∧ ∀ σ, StOk .ours G σ → ∃ g, Long n (Pm (both G σ τ)) (gm G) g ∧ g x ≤ f x) → Is K Hs' v (vd n f) → Q v H'
def sp74 : Sp := fun vs H Q _ => ∃ (ns : List Int) (a : Addr) (Hs : Hp), vs = [.ref a] ∧ SqL K Hs a (ns.map V.int) ∧ ns.length ≤ 100000 ∧ Same Hs H ∧ ∀ H', Q (.bl true) H'
end
/-! _law_and -/
abbrev n60 : List Str := ["_law_numbers", "_law_top", "_law_down", "_law_n", "_law_d"]
theorem sc60 : FnScope n60 ["_law_numbers"] (defScope s60) := ⟨rfl, rfl, rfl, by decide +kernel, rfl, by decide +kernel, by decide +kernel⟩
def t60 (K : PySem.W.Frag) : TS :=
    (tSeq (tAsg (tTup (tCons (tC (.int 0)) (tCons (tC (.int 1)) tNil))) (gTup K 2 (gCons (gName 1) (gCons (gName 2) gNil))))
    (tSeq (tFor (iList K (tVar 0)) (gTup K 2 (gCons (gName 3) (gCons (gName 4) gNil)))
      (tAsg (tCall (sp55 K) [] E0 (tCons (tOp rAddI (tOp rMulI (tVar 1) (tVar 4)) (tOp rMulI (tVar 3) (tVar 2))) (tCons (tOp rMulI (tVar 2) (tVar 4)) tNil))) (gTup K 2 (gCons (gName 1) (gCons (gName 2) gNil)))))
    (tRet (tTup (tCons (tVar 1) (tCons (tVar 2) tNil))))))
theorem der60 {P : Program} {w : World} {K : PySem.W.Frag} {mg : Str → Option Value} {base : Heap} {f : Addr} {cdv : Value} {A : Around} {outer : List Env} {s : Shared} {H : Hp} {E : XK} {qual : Str} (T : Txt K mg) (hr : Room 1 (A.deeper (envOfC qual (defScope s60) s.heap.objs.size f cdv))) (C55 : Cal P w K mg base 1 "_law_cut" (sp55 K) []) :
    PSs (cxOf CX0 P w K mg base n60 qual (defScope s60) f cdv A outer s H E).nox (defBody s60) (t60 K) :=
    (pss_cons (ps_asg (pe_tup (pa_cons pe_int (pa_cons pe_int pa_nil))) (pg_tup rfl (pgs_cons (pg_name (i := 1) sc60.nd rfl (.inl rfl)) (pgs_cons (pg_name (i := 2) sc60.nd rfl (.inl rfl)) pgs_nil))))
    (pss_cons (ps_for PassesOwn.never rfl (pi_list (pv 0)) (pg_tup rfl (pgs_cons (pg_name (i := 3) sc60.nd rfl (.inl rfl)) (pgs_cons (pg_name (i := 4) sc60.nd rfl (.inl rfl)) pgs_nil)))
      (pss_one (ps_asg (pe_c C55 hr (by decide) (by rfl) (pa_cons (pe_op op_add (pe_op op_mulW (pv 1) (pv 4)) (pe_op op_mulW (pv 3) (pv 2))) (pa_cons (pe_op op_mulW (pv 2) (pv 4)) pa_nil))) (pg_tup rfl (pgs_cons (pg_name (i := 1) sc60.nd rfl (.inl rfl)) (pgs_cons (pg_name (i := 2) sc60.nd rfl (.inl rfl)) pgs_nil))))))
    (pss_one (ps_ret (pe_tup (pa_cons (pv 1) (pa_cons (pv 2) pa_nil)))))))
theorem cal60 {P : Program} {w : World} {K : PySem.W.Frag} {mg : Str → Option Value} {base : Heap} (T : Txt K mg) (C55 : Cal P w K mg base 1 "_law_cut" (sp55 K) [])
    (h : ∀ (vs : List V) (H : Hp) (Q : VK) (E : XK), sp60 K vs H Q E → t60 K { nx := fun _ H' => Q .non H', rt := Q } (start n60 vs) H) (len : ∀ vs H Q E, sp60 K vs H Q E → vs.length = 1) : Cal P w K mg base 2 "_law_and" (sp60 K) [] :=
  Tx.cal T.d60 sc60 len fun cdv A outer f s H vs Q E hr hs => ⟨t60 K, der60 T hr C55, h vs H Q E hs⟩

/-! _law_by -/
abbrev n61 : List Str := ["_law_one", "_law_other"]
theorem sc61 : FnScope n61 ["_law_one", "_law_other"] (defScope s61) := ⟨rfl, rfl, rfl, by decide +kernel, rfl, by decide +kernel, by decide +kernel⟩
def t61 (K : PySem.W.Frag) : TS :=
    (tRet (tCall (sp55 K) [] E0 (tCons (tOp rMulI (tOp (rIxT K) (tVar 0) (tC (.int 0))) (tOp (rIxT K) (tVar 1) (tC (.int 0)))) (tCons (tOp rMulI (tOp (rIxT K) (tVar 0) (tC (.int 1))) (tOp (rIxT K) (tVar 1) (tC (.int 1)))) tNil))))
theorem der61 {P : Program} {w : World} {K : PySem.W.Frag} {mg : Str → Option Value} {base : Heap} {f : Addr} {cdv : Value} {A : Around} {outer : List Env} {s : Shared} {H : Hp} {E : XK} {qual : Str} (T : Txt K mg) (hr : Room 1 (A.deeper (envOfC qual (defScope s61) s.heap.objs.size f cdv))) (C55 : Cal P w K mg base 1 "_law_cut" (sp55 K) []) :
    PSs (cxOf CX0 P w K mg base n61 qual (defScope s61) f cdv A outer s H E).nox (defBody s61) (t61 K) :=
    (pss_one (ps_ret (pe_c C55 hr (by decide) (by rfl) (pa_cons (pe_op op_mulW (pe_ix ix_tup (pv 0) pe_int (fun _ _ => rfl)) (pe_ix ix_tup (pv 1) pe_int (fun _ _ => rfl))) (pa_cons (pe_op op_mulW (pe_ix ix_tup (pv 0) pe_int (fun _ _ => rfl)) (pe_ix ix_tup (pv 1) pe_int (fun _ _ => rfl))) pa_nil)))))
theorem cal61 {P : Program} {w : World} {K : PySem.W.Frag} {mg : Str → Option Value} {base : Heap} (T : Txt K mg) (C55 : Cal P w K mg base 1 "_law_cut" (sp55 K) [])
    (h : ∀ (vs : List V) (H : Hp) (Q : VK) (E : XK), sp61 K vs H Q E → t61 K { nx := fun _ H' => Q .non H', rt := Q } (start n61 vs) H) (len : ∀ vs H Q E, sp61 K vs H Q E → vs.length = 2) : Cal P w K mg base 2 "_law_by" (sp61 K) [] :=
  Tx.cal T.d61 sc61 len fun cdv A outer f s H vs Q E hr hs => ⟨t61 K, der61 T hr C55, h vs H Q E hs⟩

/-! _law_less_by -/
abbrev n62 : List Str := ["_law_one", "_law_other"]
theorem sc62 : FnScope n62 ["_law_one", "_law_other"] (defScope s62) := ⟨rfl, rfl, rfl, by decide +kernel, rfl, by decide +kernel, by decide +kernel⟩
def t62 (K : PySem.W.Frag) : TS :=
    (tRet (tCall (sp55 K) [] E0 (tCons (tOp rSubI (tOp rMulI (tOp (rIxT K) (tVar 0) (tC (.int 0))) (tOp (rIxT K) (tVar 1) (tC (.int 1)))) (tOp rMulI (tOp (rIxT K) (tVar 1) (tC (.int 0))) (tOp (rIxT K) (tVar 0) (tC (.int 1))))) (tCons (tOp rMulI (tOp (rIxT K) (tVar 0) (tC (.int 1))) (tOp (rIxT K) (tVar 1) (tC (.int 1)))) tNil))))
theorem der62 {P : Program} {w : World} {K : PySem.W.Frag} {mg : Str → Option Value} {base : Heap} {f : Addr} {cdv : Value} {A : Around} {outer : List Env} {s : Shared} {H : Hp} {E : XK} {qual : Str} (T : Txt K mg) (hr : Room 1 (A.deeper (envOfC qual (defScope s62) s.heap.objs.size f cdv))) (C55 : Cal P w K mg base 1 "_law_cut" (sp55 K) []) :
    PSs (cxOf CX0 P w K mg base n62 qual (defScope s62) f cdv A outer s H E).nox (defBody s62) (t62 K) :=
    (pss_one (ps_ret (pe_c C55 hr (by decide) (by rfl) (pa_cons (pe_op op_sub (pe_op op_mulW (pe_ix ix_tup (pv 0) pe_int (fun _ _ => rfl)) (pe_ix ix_tup (pv 1) pe_int (fun _ _ => rfl))) (pe_op op_mulW (pe_ix ix_tup (pv 1) pe_int (fun _ _ => rfl)) (pe_ix ix_tup (pv 0) pe_int (fun _ _ => rfl)))) (pa_cons (pe_op op_mulW (pe_ix ix_tup (pv 0) pe_int (fun _ _ => rfl)) (pe_ix ix_tup (pv 1) pe_int (fun _ _ => rfl))) pa_nil)))))
theorem cal62 {P : Program} {w : World} {K : PySem.W.Frag} {mg : Str → Option Value} {base : Heap} (T : Txt K mg) (C55 : Cal P w K mg base 1 "_law_cut" (sp55 K) [])
    (h : ∀ (vs : List V) (H : Hp) (Q : VK) (E : XK), sp62 K vs H Q E → t62 K { nx := fun _ H' => Q .non H', rt := Q } (start n62 vs) H) (len : ∀ vs H Q E, sp62 K vs H Q E → vs.length = 2) : Cal P w K mg base 2 "_law_less_by" (sp62 K) [] :=
  Tx.cal T.d62 sc62 len fun cdv A outer f s H vs Q E hr hs => ⟨t62 K, der62 T hr C55, h vs H Q E hs⟩

/-! _law_cleared -/
abbrev n63 : List Str := ["_law_rows", "_law_many", "_law_done", "_law_column", "_law_at", "_law_k", "_law_turn", "_law_share", "_law_row", "_law_one", "_law_n"]
theorem sc63 : FnScope n63 ["_law_rows"] (defScope s63) := ⟨rfl, rfl, rfl, by decide +kernel, rfl, by decide +kernel, by decide +kernel⟩
def t63 (K : PySem.W.Frag) : TS :=
    (tSeq (tAsg (tLc (iList K (tVar 0)) (gName 8) tYes (tCB (rListQ K) (tCons (tVar 8) tNil)) [8]) (gName 0))
    (tSeq (tAsg (tOp rSubI (tCB (rLenQ K) (tCons (tOp (rIxL K) (tVar 0) (tC (.int 0))) tNil)) (tC (.int 1))) (gName 1))
    (tSeq (tAsg (tLst tNil) (gName 2))
    (tSeq (tFor (iRng1 (tCons (tVar 1) tNil)) (gName 3)
      (tSeq (tAsg (tC .non) (gName 4))
    (tSeq (tFor (iRng1 (tCons (tCB (rLenQ K) (tCons (tVar 0) tNil)) tNil)) (gName 5)
      (tIfS (tAnd (tB (tIsN (tVar 4))) (tAnd (tTest (tOp (rIn K true) (tVar 5) (tVar 2))) (tTest (tOp rNe (tOp (rIxT K) (tOp (rIxL K) (tOp (rIxL K) (tVar 0) (tVar 5)) (tVar 3)) (tC (.int 0))) (tC (.int 0)))))) (tAsg (tVar 5) (gName 4)) tNext))
    (tSeq (tIfS (tB (tIsN (tVar 4))) (tRet (tC .non)) tNext)
    (tSeq (tDrop (tBM K "list" rAppend (tVar 2) (tCons (tVar 4) tNil)))
    (tSeq (tAsg (tCall (sp55 K) [] E0 (tCons (tOp (rIxT K) (tOp (rIxL K) (tOp (rIxL K) (tVar 0) (tVar 4)) (tVar 3)) (tC (.int 1))) (tCons (tOp (rIxT K) (tOp (rIxL K) (tOp (rIxL K) (tVar 0) (tVar 4)) (tVar 3)) (tC (.int 0))) tNil))) (gName 6))
    (tSeq (tAsg (tLc (iList K (tOp (rIxL K) (tVar 0) (tVar 4))) (gName 9) tYes (tCall (sp61 K) [] E0 (tCons (tVar 9) (tCons (tVar 6) tNil))) [9]) (gSub (tVar 0) (tVar 4) rSetL))
    (tFor (iRng1 (tCons (tCB (rLenQ K) (tCons (tVar 0) tNil)) tNil)) (gName 5)
      (tSeq (tAsg (tOp (rIxL K) (tOp (rIxL K) (tVar 0) (tVar 5)) (tVar 3)) (gName 7))
    (tIfS (tAnd (tTest (tOp rNe (tVar 5) (tVar 4))) (tTest (tOp rNe (tOp (rIxT K) (tVar 7) (tC (.int 0))) (tC (.int 0))))) (tAsg (tLc (iRng1 (tCons (tOp rAddI (tVar 1) (tC (.int 1))) tNil)) (gName 10) tYes (tCall (sp62 K) [] E0 (tCons (tOp (rIxL K) (tOp (rIxL K) (tVar 0) (tVar 5)) (tVar 10)) (tCons (tCall (sp61 K) [] E0 (tCons (tVar 7) (tCons (tOp (rIxL K) (tOp (rIxL K) (tVar 0) (tVar 4)) (tVar 10)) tNil))) tNil))) [10]) (gSub (tVar 0) (tVar 5) rSetL)) tNext))))))))))
    (tRet (tLc (iList K (tVar 2)) (gName 4) tYes (tOp (rIxL K) (tOp (rIxL K) (tVar 0) (tVar 4)) (tVar 1)) [4]))))))
theorem der63 {P : Program} {w : World} {K : PySem.W.Frag} {mg : Str → Option Value} {base : Heap} {f : Addr} {cdv : Value} {A : Around} {outer : List Env} {s : Shared} {H : Hp} {E : XK} {qual : Str} (T : Txt K mg) (hr : Room 2 (A.deeper (envOfC qual (defScope s63) s.heap.objs.size f cdv))) (C55 : Cal P w K mg base 1 "_law_cut" (sp55 K) []) (C61 : Cal P w K mg base 2 "_law_by" (sp61 K) []) (C62 : Cal P w K mg base 2 "_law_less_by" (sp62 K) []) :
    PSs (cxOf CX0 P w K mg base n63 qual (defScope s63) f cdv A outer s H E).nox (defBody s63) (t63 K) :=
    (pss_cons (ps_set (i := 0) sc63.nd rfl (.inr rfl) (pe_lc (own := [("_law_row", 8)]) (g := (gName 8)) (tt := tYes) rfl sc63.nd (pi_list (pv 0)) (blkOk_by (own := [("_law_row", 8)]) (N := n63) (sc := defScope s63) (by decide +kernel)) (fun _ _ _ _ _ => (pg_name (i := 8) sc63.nd rfl (.inl rfl))) (fun _ _ _ _ _ => pts_nil) (fun _ _ _ _ _ => (pe_callTy call_list_of (by rfl) T.b_list bt_list (pa_cons (pv 8) pa_nil)))))
    (pss_cons (ps_set (i := 1) sc63.nd rfl (.inr rfl) (pe_op op_sub (pe_callB call_len_seq (by rfl) T.b_len bt_len (pa_cons (pe_ix ix_list (pv 0) pe_int (fun _ _ => rfl)) pa_nil)) pe_int))
    (pss_cons (ps_set (i := 2) sc63.nd rfl (.inl rfl) (pe_lst pa_nil))
    (pss_cons (ps_for PassesOwn.never rfl (pi_range1 (by rfl) T.b_range (pa_cons (pv 1) pa_nil)) (pg_name (i := 3) sc63.nd rfl (.inl rfl))
      (pss_cons (ps_set (i := 4) sc63.nd rfl (.inr rfl) pe_non)
    (pss_cons (ps_for PassesOwn.never rfl (pi_range1 (by rfl) T.b_range (pa_cons (pe_callB call_len_seq (by rfl) T.b_len bt_len (pa_cons (pv 0) pa_nil)) pa_nil)) (pg_name (i := 5) sc63.nd rfl (.inr rfl))
      (pss_one (ps_if (PW.pt (pw_and (pt_cmp (pc_isN (pv 4))) (pw_and (pt_cmpR op_notIn_seq (pv 5) (pv 2) (by with_unfolding_all rfl)) (pw_and1 (pt_cmpR op_ne (pe_ix ix_tup (pe_ix ix_list (pe_ix ix_list (pv 0) (pv 5) (fun _ _ => rfl)) (pv 3) (fun _ _ => rfl)) pe_int (fun _ _ => rfl)) pe_int (nomark _)))))) (pss_one (ps_set (i := 4) sc63.nd rfl (.inr rfl) (pv 5))) pss_nil)))
    (pss_cons (ps_if (pt_cmp (pc_isN (pv 4))) (pss_one (ps_ret pe_non)) pss_nil)
    (pss_cons (ps_expr (pe_bm PySem.F.plainAttrs_list PySem.F.slot_list_append PySem.F.type_list_append mt_append (pv 2) (pa_cons (pv 4) pa_nil)))
    (pss_cons (ps_set (i := 6) sc63.nd rfl (.inr rfl) (pe_c C55 hr (by decide) (by rfl) (pa_cons (pe_ix ix_tup (pe_ix ix_list (pe_ix ix_list (pv 0) (pv 4) (fun _ _ => rfl)) (pv 3) (fun _ _ => rfl)) pe_int (fun _ _ => rfl)) (pa_cons (pe_ix ix_tup (pe_ix ix_list (pe_ix ix_list (pv 0) (pv 4) (fun _ _ => rfl)) (pv 3) (fun _ _ => rfl)) pe_int (fun _ _ => rfl)) pa_nil))))
    (pss_cons (ps_asg (pe_lc (own := [("_law_one", 9)]) (g := (gName 9)) (tt := tYes) rfl sc63.nd (pi_list (pe_ix ix_list (pv 0) (pv 4) (fun _ _ => rfl))) (blkOk_by (own := [("_law_one", 9)]) (N := n63) (sc := defScope s63) (by decide +kernel)) (fun _ _ _ _ _ => (pg_name (i := 9) sc63.nd rfl (.inl rfl))) (fun _ _ _ _ _ => pts_nil) (fun _ _ _ _ _ => (pe_c C61 hr (by decide) (by rfl) (pa_cons (pv 9) (pa_cons (pv 6) pa_nil))))) (pg_sub (pv 0) (pv 4) set_list))
    (pss_one (ps_for PassesOwn.never rfl (pi_range1 (by rfl) T.b_range (pa_cons (pe_callB call_len_seq (by rfl) T.b_len bt_len (pa_cons (pv 0) pa_nil)) pa_nil)) (pg_name (i := 5) sc63.nd rfl (.inr rfl))
      (pss_cons (ps_set (i := 7) sc63.nd rfl (.inr rfl) (pe_ix ix_list (pe_ix ix_list (pv 0) (pv 5) (fun _ _ => rfl)) (pv 3) (fun _ _ => rfl)))
    (pss_one (ps_if (PW.pt (pw_and (pt_cmpR op_ne (pv 5) (pv 4) (nomark _)) (pw_and1 (pt_cmpR op_ne (pe_ix ix_tup (pv 7) pe_int (fun _ _ => rfl)) pe_int (nomark _))))) (pss_one (ps_asg (pe_lc (own := [("_law_n", 10)]) (g := (gName 10)) (tt := tYes) rfl sc63.nd (pi_range1 (by rfl) T.b_range (pa_cons (pe_op op_add (pv 1) pe_int) pa_nil)) (blkOk_by (own := [("_law_n", 10)]) (N := n63) (sc := defScope s63) (by decide +kernel)) (fun _ _ _ _ _ => (pg_name (i := 10) sc63.nd rfl (.inl rfl))) (fun _ _ _ _ _ => pts_nil) (fun _ _ _ _ _ => (pe_c C62 hr (by decide) (by rfl) (pa_cons (pe_ix ix_list (pe_ix ix_list (pv 0) (pv 5) (fun _ _ => rfl)) (pv 10) (fun _ _ => rfl)) (pa_cons (pe_c C61 hr (by decide) (by rfl) (pa_cons (pv 7) (pa_cons (pe_ix ix_list (pe_ix ix_list (pv 0) (pv 4) (fun _ _ => rfl)) (pv 10) (fun _ _ => rfl)) pa_nil))) pa_nil))))) (pg_sub (pv 0) (pv 5) set_list))) pss_nil))))))))))))
    (pss_one (ps_ret (pe_lc (own := [("_law_at", 4)]) (g := (gName 4)) (tt := tYes) rfl sc63.nd (pi_list (pv 2)) (blkOk_by (own := [("_law_at", 4)]) (N := n63) (sc := defScope s63) (by decide +kernel)) (fun _ _ _ _ _ => (pg_name (i := 4) sc63.nd rfl (.inl rfl))) (fun _ _ _ _ _ => pts_nil) (fun _ _ _ _ _ => (pe_ix ix_list (pe_ix ix_list (pv 0) (pv 4) (fun _ _ => rfl)) (pv 1) (fun _ _ => rfl))))))))))
theorem cal63 {P : Program} {w : World} {K : PySem.W.Frag} {mg : Str → Option Value} {base : Heap} (T : Txt K mg) (C55 : Cal P w K mg base 1 "_law_cut" (sp55 K) []) (C61 : Cal P w K mg base 2 "_law_by" (sp61 K) []) (C62 : Cal P w K mg base 2 "_law_less_by" (sp62 K) [])
    (h : ∀ (vs : List V) (H : Hp) (Q : VK) (E : XK), sp63 K vs H Q E → t63 K { nx := fun _ H' => Q .non H', rt := Q } (start n63 vs) H) (len : ∀ vs H Q E, sp63 K vs H Q E → vs.length = 1) : Cal P w K mg base 3 "_law_cleared" (sp63 K) [] :=
  Tx.cal T.d63 sc63 len fun cdv A outer f s H vs Q E hr hs => ⟨t63 K, der63 T hr C55 C61 C62, h vs H Q E hs⟩

/-! _law_flow -/
abbrev n64 : List Str := ["_law_chain", "_law_found", "_law_gain_here", "_law_kind", "_law_ends", "_law_row", "_law_chance", "_law_x", "_law_place"]
theorem sc64 : FnScope n64 ["_law_chain"] (defScope s64) := ⟨rfl, rfl, rfl, by decide +kernel, rfl, by decide +kernel, by decide +kernel⟩
def t64 (K : PySem.W.Frag) : TS :=
    (tSeq (tAsg (tLst tNil) (gName 1))
    (tSeq (tFor (iList K (tVar 0)) (gTup K 3 (gCons (gName 2) (gCons (gName 3) (gCons (gName 4) gNil))))
      (tSeq (tAsg (tLc (iList K (tVar 0)) (gName 8) tYes (tTup (tCons (tC (.int 0)) (tCons (tC (.int 1)) tNil))) [8]) (gName 5))
    (tSeq (tFor (iList K (tVar 4)) (gTup K 2 (gCons (gName 6) (gCons (gName 7) gNil)))
      (tAsg (tCall (sp60 K) [] E0 (tCons (tLst (tCons (tOp (rIxL K) (tVar 5) (tVar 7)) (tCons (tVar 6) tNil))) tNil)) (gSub (tVar 5) (tVar 7) rSetL)))
    (tDrop (tBM K "list" rAppend (tVar 1) (tCons (tVar 5) tNil))))))
    (tRet (tVar 1))))
theorem der64 {P : Program} {w : World} {K : PySem.W.Frag} {mg : Str → Option Value} {base : Heap} {f : Addr} {cdv : Value} {A : Around} {outer : List Env} {s : Shared} {H : Hp} {E : XK} {qual : Str} (T : Txt K mg) (hr : Room 2 (A.deeper (envOfC qual (defScope s64) s.heap.objs.size f cdv))) (C60 : Cal P w K mg base 2 "_law_and" (sp60 K) []) :
    PSs (cxOf CX0 P w K mg base n64 qual (defScope s64) f cdv A outer s H E).nox (defBody s64) (t64 K) :=
    (pss_cons (ps_set (i := 1) sc64.nd rfl (.inl rfl) (pe_lst pa_nil))
    (pss_cons (ps_for PassesOwn.never rfl (pi_list (pv 0)) (pg_tup rfl (pgs_cons (pg_name (i := 2) sc64.nd rfl (.inl rfl)) (pgs_cons (pg_name (i := 3) sc64.nd rfl (.inl rfl)) (pgs_cons (pg_name (i := 4) sc64.nd rfl (.inl rfl)) pgs_nil))))
      (pss_cons (ps_setLc (i := 5) (own := [("_law_place", 8)]) (g := (gName 8)) (tt := tYes) rfl sc64.nd rfl rfl (sw_true rfl rfl rfl (by decide +kernel)) (pi_list (pv 0)) (blkOk_by (own := [("_law_place", 8)]) (N := n64) (sc := defScope s64) (by decide +kernel)) (fun _ _ _ _ _ => (pg_name (i := 8) sc64.nd rfl (.inl rfl))) (fun _ _ _ _ _ => pts_nil) (fun _ _ _ _ _ => (pe_tup (pa_cons pe_int (pa_cons pe_int pa_nil)))))
    (pss_cons (ps_for PassesOwn.never rfl (pi_list (pv 4)) (pg_tup rfl (pgs_cons (pg_name (i := 6) sc64.nd rfl (.inl rfl)) (pgs_cons (pg_name (i := 7) sc64.nd rfl (.inl rfl)) pgs_nil)))
      (pss_one (ps_asg (pe_c C60 hr (by decide) (by rfl) (pa_cons (pe_lst (pa_cons (pe_ix ix_list (pv 5) (pv 7) (fun _ _ => rfl)) (pa_cons (pv 6) pa_nil))) pa_nil)) (pg_sub (pv 5) (pv 7) set_list))))
    (pss_one (ps_expr (pe_bm PySem.F.plainAttrs_list PySem.F.slot_list_append PySem.F.type_list_append mt_append (pv 1) (pa_cons (pv 5) pa_nil)))))))
    (pss_one (ps_ret (pv 1)))))
theorem cal64 {P : Program} {w : World} {K : PySem.W.Frag} {mg : Str → Option Value} {base : Heap} (T : Txt K mg) (C60 : Cal P w K mg base 2 "_law_and" (sp60 K) [])
    (h : ∀ (vs : List V) (H : Hp) (Q : VK) (E : XK), sp64 K vs H Q E → t64 K { nx := fun _ H' => Q .non H', rt := Q } (start n64 vs) H) (len : ∀ vs H Q E, sp64 K vs H Q E → vs.length = 1) : Cal P w K mg base 3 "_law_flow" (sp64 K) [] :=
  Tx.cal T.d64 sc64 len fun cdv A outer f s H vs Q E hr hs => ⟨t64 K, der64 T hr C60, h vs H Q E hs⟩

/-! _law_settling -/
abbrev n65 : List Str := ["_law_flow_here", "_law_many", "_law_ahead", "_law_k", "_law_middle", "_law_found", "_law_room", "_law_x"]
theorem sc65 : FnScope n65 ["_law_flow_here"] (defScope s65) := ⟨rfl, rfl, rfl, by decide +kernel, rfl, by decide +kernel, by decide +kernel⟩
def t65 (K : PySem.W.Frag) : TS :=
    (tSeq (tAsg (tCB (rLenQ K) (tCons (tVar 0) tNil)) (gName 1))
    (tSeq (tAsg (tLst tNil) (gName 2))
    (tSeq (tFor (iRng1 (tCons (tVar 1) tNil)) (gName 3)
      (tDrop (tBM K "list" rAppend (tVar 2) (tCons (tLc (iRng1 (tCons (tVar 1) tNil)) (gName 7) tYes (tOrV (tOp rEq (tVar 3) (tVar 7)) (tOp rGtI (tOp (rIxT K) (tOp (rIxL K) (tOp (rIxL K) (tVar 0) (tVar 3)) (tVar 7)) (tC (.int 0))) (tC (.int 0)))) [7]) tNil))))
    (tSeq (tFor (iRng1 (tCons (tVar 1) tNil)) (gName 4)
      (tFor (iRng1 (tCons (tVar 1) tNil)) (gName 3)
      (tIfS (tB (tOp (rIxL K) (tOp (rIxL K) (tVar 2) (tVar 3)) (tVar 4))) (tAsg (tLc (iRng1 (tCons (tVar 1) tNil)) (gName 7) tYes (tOrV (tOp (rIxL K) (tOp (rIxL K) (tVar 2) (tVar 3)) (tVar 7)) (tOp (rIxL K) (tOp (rIxL K) (tVar 2) (tVar 4)) (tVar 7))) [7]) (gSub (tVar 2) (tVar 3) rSetL)) tNext)))
    (tSeq (tAsg (tLst tNil) (gName 5))
    (tSeq (tFor (iRng1 (tCons (tVar 1) tNil)) (gName 3)
      (tSeq (tAsg (tLc (iRng1 (tCons (tVar 1) tNil)) (gName 7) (tB (tOp (rIxL K) (tOp (rIxL K) (tVar 2) (tVar 3)) (tVar 7))) (tVar 7) [7]) (gName 6))
    (tIfS (tB (tCB (rAll K) (tCons (tLc (iList K (tVar 6)) (gName 7) tYes (tOp (rIxL K) (tOp (rIxL K) (tVar 2) (tVar 7)) (tVar 3)) [7]) tNil))) (tDrop (tBM K "list" rAppend (tVar 5) (tCons (tVar 6) tNil))) (tDrop (tBM K "list" rAppend (tVar 5) (tCons (tC .non) tNil))))))
    (tRet (tVar 5))))))))
theorem der65 {P : Program} {w : World} {K : PySem.W.Frag} {mg : Str → Option Value} {base : Heap} {f : Addr} {cdv : Value} {A : Around} {outer : List Env} {s : Shared} {H : Hp} {E : XK} {qual : Str} (T : Txt K mg) (hr : Room 0 (A.deeper (envOfC qual (defScope s65) s.heap.objs.size f cdv))) :
    PSs (cxOf CX0 P w K mg base n65 qual (defScope s65) f cdv A outer s H E).nox (defBody s65) (t65 K) :=
    (pss_cons (ps_set (i := 1) sc65.nd rfl (.inl rfl) (pe_callB call_len_seq (by rfl) T.b_len bt_len (pa_cons (pv 0) pa_nil)))
    (pss_cons (ps_set (i := 2) sc65.nd rfl (.inr rfl) (pe_lst pa_nil))
    (pss_cons (ps_for PassesOwn.never rfl (pi_range1 (by rfl) T.b_range (pa_cons (pv 1) pa_nil)) (pg_name (i := 3) sc65.nd rfl (.inr rfl))
      (pss_one (ps_expr (pe_bm PySem.F.plainAttrs_list PySem.F.slot_list_append PySem.F.type_list_append mt_append (pv 2) (pa_cons (pe_lc (own := [("_law_x", 7)]) (g := (gName 7)) (tt := tYes) rfl sc65.nd (pi_range1 (by rfl) T.b_range (pa_cons (pv 1) pa_nil)) (blkOk_by (own := [("_law_x", 7)]) (N := n65) (sc := defScope s65) (by decide +kernel)) (fun _ _ _ _ _ => (pg_name (i := 7) sc65.nd rfl (.inl rfl))) (fun _ _ _ _ _ => pts_nil) (fun _ _ _ _ _ => (pe_or (pe_cmpR op_eq (pv 3) (pv 7) (nomark _)) (pe_one (pe_cmpR op_gt (pe_ix ix_tup (pe_ix ix_list (pe_ix ix_list (pv 0) (pv 3) (fun _ _ => rfl)) (pv 7) (fun _ _ => rfl)) pe_int (fun _ _ => rfl)) pe_int (nomark _)))))) pa_nil)))))
    (pss_cons (ps_for PassesOwn.never rfl (pi_range1 (by rfl) T.b_range (pa_cons (pv 1) pa_nil)) (pg_name (i := 4) sc65.nd rfl (.inr rfl))
      (pss_one (ps_for PassesOwn.never rfl (pi_range1 (by rfl) T.b_range (pa_cons (pv 1) pa_nil)) (pg_name (i := 3) sc65.nd rfl (.inr rfl))
      (pss_one (ps_if (pt_val (pe_ix ix_list (pe_ix ix_list (pv 2) (pv 3) (fun _ _ => rfl)) (pv 4) (fun _ _ => rfl))) (pss_one (ps_asg (pe_lc (own := [("_law_x", 7)]) (g := (gName 7)) (tt := tYes) rfl sc65.nd (pi_range1 (by rfl) T.b_range (pa_cons (pv 1) pa_nil)) (blkOk_by (own := [("_law_x", 7)]) (N := n65) (sc := defScope s65) (by decide +kernel)) (fun _ _ _ _ _ => (pg_name (i := 7) sc65.nd rfl (.inl rfl))) (fun _ _ _ _ _ => pts_nil) (fun _ _ _ _ _ => (pe_or (pe_ix ix_list (pe_ix ix_list (pv 2) (pv 3) (fun _ _ => rfl)) (pv 7) (fun _ _ => rfl)) (pe_one (pe_ix ix_list (pe_ix ix_list (pv 2) (pv 4) (fun _ _ => rfl)) (pv 7) (fun _ _ => rfl)))))) (pg_sub (pv 2) (pv 3) set_list))) pss_nil)))))
    (pss_cons (ps_set (i := 5) sc65.nd rfl (.inl rfl) (pe_lst pa_nil))
    (pss_cons (ps_for PassesOwn.never rfl (pi_range1 (by rfl) T.b_range (pa_cons (pv 1) pa_nil)) (pg_name (i := 3) sc65.nd rfl (.inr rfl))
      (pss_cons (ps_setLc (i := 6) (own := [("_law_x", 7)]) (g := (gName 7)) (tt := (tB (tOp (rIxL K) (tOp (rIxL K) (tVar 2) (tVar 3)) (tVar 7)))) rfl sc65.nd rfl rfl (sw_true rfl rfl rfl (by decide +kernel)) (pi_range1 (by rfl) T.b_range (pa_cons (pv 1) pa_nil)) (blkOk_by (own := [("_law_x", 7)]) (N := n65) (sc := defScope s65) (by decide +kernel)) (fun _ _ _ _ _ => (pg_name (i := 7) sc65.nd rfl (.inl rfl))) (fun _ _ _ _ _ => (pts_one (pt_val (pe_ix ix_list (pe_ix ix_list (pv 2) (pv 3) (fun _ _ => rfl)) (pv 7) (fun _ _ => rfl))))) (fun _ _ _ _ _ => (pv 7)))
    (pss_one (ps_if (pt_val (pe_callB (cr_all rfl) (by rfl) T.b_all bt_all (pa_cons (pe_lc (own := [("_law_x", 7)]) (g := (gName 7)) (tt := tYes) rfl sc65.nd (pi_list (pv 6)) (blkOk_by (own := [("_law_x", 7)]) (N := n65) (sc := defScope s65) (by decide +kernel)) (fun _ _ _ _ _ => (pg_name (i := 7) sc65.nd rfl (.inl rfl))) (fun _ _ _ _ _ => pts_nil) (fun _ _ _ _ _ => (pe_ix ix_list (pe_ix ix_list (pv 2) (pv 7) (fun _ _ => rfl)) (pv 3) (fun _ _ => rfl)))) pa_nil))) (pss_one (ps_expr (pe_bm PySem.F.plainAttrs_list PySem.F.slot_list_append PySem.F.type_list_append mt_append (pv 5) (pa_cons (pv 6) pa_nil)))) (pss_one (ps_expr (pe_bm PySem.F.plainAttrs_list PySem.F.slot_list_append PySem.F.type_list_append mt_append (pv 5) (pa_cons pe_non pa_nil))))))))
    (pss_one (ps_ret (pv 5)))))))))
theorem cal65 {P : Program} {w : World} {K : PySem.W.Frag} {mg : Str → Option Value} {base : Heap} (T : Txt K mg)
    (h : ∀ (vs : List V) (H : Hp) (Q : VK) (E : XK), sp65 K vs H Q E → t65 K { nx := fun _ H' => Q .non H', rt := Q } (start n65 vs) H) (len : ∀ vs H Q E, sp65 K vs H Q E → vs.length = 1) : Cal P w K mg base 1 "_law_settling" (sp65 K) [] :=
  Tx.cal T.d65 sc65 len fun cdv A outer f s H vs Q E hr hs => ⟨t65 K, der65 T hr, h vs H Q E hs⟩

/-! _law_weights -/
abbrev n66 : List Str := ["_law_flow_here", "_law_room", "_law_rows", "_law_x", "_law_row", "_law_y"]
theorem sc66 : FnScope n66 ["_law_flow_here", "_law_room"] (defScope s66) := ⟨rfl, rfl, rfl, by decide +kernel, rfl, by decide +kernel, by decide +kernel⟩
def t66 (K : PySem.W.Frag) : TS :=
    (tSeq (tAsg (tLst tNil) (gName 2))
    (tSeq (tFor (iList K (tVar 1)) (gName 3)
      (tSeq (tAsg (tLst tNil) (gName 4))
    (tSeq (tFor (iList K (tVar 1)) (gName 5)
      (tDrop (tBM K "list" rAppend (tVar 4) (tCons (tCall (sp60 K) [] E0 (tCons (tLst (tCons (tOp (rIxL K) (tOp (rIxL K) (tVar 0) (tVar 5)) (tVar 3)) (tCons (tTup (tCons (tUn rNegI (tCB rInt1 (tCons (tOp rEq (tVar 3) (tVar 5)) tNil))) (tCons (tC (.int 1)) tNil))) tNil))) tNil)) tNil))))
    (tDrop (tBM K "list" rAppend (tVar 2) (tCons (tOp rCat (tVar 4) (tLst (tCons (tTup (tCons (tC (.int 0)) (tCons (tC (.int 1)) tNil))) tNil))) tNil))))))
    (tSeq (tDrop (tBM K "list" rAppend (tVar 2) (tCons (tOp rCat (tLc (iList K (tVar 1)) (gName 3) tYes (tTup (tCons (tC (.int 1)) (tCons (tC (.int 1)) tNil))) [3]) (tLst (tCons (tTup (tCons (tC (.int 1)) (tCons (tC (.int 1)) tNil))) tNil))) tNil)))
    (tRet (tCall (sp63 K) [] E0 (tCons (tSl (rSlL K) (tVar 2) (tPart (tC (.int 1))) tNoPart) tNil))))))
theorem der66 {P : Program} {w : World} {K : PySem.W.Frag} {mg : Str → Option Value} {base : Heap} {f : Addr} {cdv : Value} {A : Around} {outer : List Env} {s : Shared} {H : Hp} {E : XK} {qual : Str} (T : Txt K mg) (hr : Room 3 (A.deeper (envOfC qual (defScope s66) s.heap.objs.size f cdv))) (C60 : Cal P w K mg base 2 "_law_and" (sp60 K) []) (C63 : Cal P w K mg base 3 "_law_cleared" (sp63 K) []) :
    PSs (cxOf CX0 P w K mg base n66 qual (defScope s66) f cdv A outer s H E).nox (defBody s66) (t66 K) :=
    (pss_cons (ps_set (i := 2) sc66.nd rfl (.inl rfl) (pe_lst pa_nil))
    (pss_cons (ps_for PassesOwn.never rfl (pi_list (pv 1)) (pg_name (i := 3) sc66.nd rfl (.inl rfl))
      (pss_cons (ps_set (i := 4) sc66.nd rfl (.inl rfl) (pe_lst pa_nil))
    (pss_cons (ps_for PassesOwn.never rfl (pi_list (pv 1)) (pg_name (i := 5) sc66.nd rfl (.inl rfl))
      (pss_one (ps_expr (pe_bm PySem.F.plainAttrs_list PySem.F.slot_list_append PySem.F.type_list_append mt_append (pv 4) (pa_cons (pe_c C60 hr (by decide) (by rfl) (pa_cons (pe_lst (pa_cons (pe_ix ix_list (pe_ix ix_list (pv 0) (pv 5) (fun _ _ => rfl)) (pv 3) (fun _ _ => rfl)) (pa_cons (pe_tup (pa_cons (pe_un un_neg (pe_callTy call_int1 (by rfl) T.b_int bt_int (pa_cons (pe_cmpR op_eq (pv 3) (pv 5) (nomark _)) pa_nil))) (pa_cons pe_int pa_nil))) pa_nil))) pa_nil)) pa_nil)))))
    (pss_one (ps_expr (pe_bm PySem.F.plainAttrs_list PySem.F.slot_list_append PySem.F.type_list_append mt_append (pv 2) (pa_cons (pe_op op_cat (pv 4) (pe_lst (pa_cons (pe_tup (pa_cons pe_int (pa_cons pe_int pa_nil))) pa_nil))) pa_nil)))))))
    (pss_cons (ps_expr (pe_bm PySem.F.plainAttrs_list PySem.F.slot_list_append PySem.F.type_list_append mt_append (pv 2) (pa_cons (pe_op op_cat (pe_lc (own := [("_law_x", 3)]) (g := (gName 3)) (tt := tYes) rfl sc66.nd (pi_list (pv 1)) (blkOk_by (own := [("_law_x", 3)]) (N := n66) (sc := defScope s66) (by decide +kernel)) (fun _ _ _ _ _ => (pg_name (i := 3) sc66.nd rfl (.inl rfl))) (fun _ _ _ _ _ => pts_nil) (fun _ _ _ _ _ => (pe_tup (pa_cons pe_int (pa_cons pe_int pa_nil))))) (pe_lst (pa_cons (pe_tup (pa_cons pe_int (pa_cons pe_int pa_nil))) pa_nil))) pa_nil)))
    (pss_one (ps_ret (pe_c C63 hr (by decide) (by rfl) (pa_cons (pe_slice sl_list (pv 2) (po_some pe_int) po_none) pa_nil)))))))
theorem cal66 {P : Program} {w : World} {K : PySem.W.Frag} {mg : Str → Option Value} {base : Heap} (T : Txt K mg) (C60 : Cal P w K mg base 2 "_law_and" (sp60 K) []) (C63 : Cal P w K mg base 3 "_law_cleared" (sp63 K) [])
    (h : ∀ (vs : List V) (H : Hp) (Q : VK) (E : XK), sp66 K vs H Q E → t66 K { nx := fun _ H' => Q .non H', rt := Q } (start n66 vs) H) (len : ∀ vs H Q E, sp66 K vs H Q E → vs.length = 2) : Cal P w K mg base 4 "_law_weights" (sp66 K) [] :=
  Tx.cal T.d66 sc66 len fun cdv A outer f s H vs Q E hr hs => ⟨t66 K, der66 T hr C60 C63, h vs H Q E hs⟩

/-! _law_long -/
abbrev n67 : List Str := ["_law_chain", "_law_flow_here", "_law_rooms", "_law_many", "_law_rows", "_law_k", "_law_row", "_law_due", "_law_weights_here", "_law_x", "_law_n"]
theorem sc67 : FnScope n67 ["_law_chain"] (defScope s67) := ⟨rfl, rfl, rfl, by decide +kernel, rfl, by decide +kernel, by decide +kernel⟩
def t67 (K : PySem.W.Frag) : TS :=
    (tSeq (tAsg (tCall (sp64 K) [] E0 (tCons (tVar 0) tNil)) (gName 1))
    (tSeq (tAsg (tCall (sp65 K) [] E0 (tCons (tVar 1) tNil)) (gName 2))
    (tSeq (tAsg (tCB (rLenQ K) (tCons (tVar 0) tNil)) (gName 3))
    (tSeq (tAsg (tLst tNil) (gName 4))
    (tSeq (tFor (iRng1 (tCons (tVar 3) tNil)) (gName 5)
      (tSeq (tAsg (tLc (iRng1 (tCons (tVar 3) tNil)) (gName 9) tYes (tTup (tCons (tCB rInt1 (tCons (tOp rEq (tVar 5) (tVar 9)) tNil)) (tCons (tC (.int 1)) tNil))) [9]) (gName 6))
    (tSeq (tAsg (tTup (tCons (tC (.int 0)) (tCons (tC (.int 1)) tNil))) (gName 7))
    (tSeq (tIfS (tB (tIsN (tOp (rIxL K) (tVar 2) (tVar 5)))) (tAsg (tLc (iRng1 (tCons (tVar 3) tNil)) (gName 9) tYes (tCall (sp60 K) [] E0 (tCons (tLst (tCons (tOp (rIxL K) (tVar 6) (tVar 9)) (tCons (tTup (tCons (tUn rNegI (tOp (rIxT K) (tOp (rIxL K) (tOp (rIxL K) (tVar 1) (tVar 5)) (tVar 9)) (tC (.int 0)))) (tCons (tOp (rIxT K) (tOp (rIxL K) (tOp (rIxL K) (tVar 1) (tVar 5)) (tVar 9)) (tC (.int 1))) tNil))) tNil))) tNil)) [9]) (gName 6)) (tSeq (tAsg (tCall (sp66 K) [] E0 (tCons (tVar 1) (tCons (tOp (rIxL K) (tVar 2) (tVar 5)) tNil))) (gName 8))
    (tAsg (tCall (sp60 K) [] E0 (tCons (tLc (iRng1 (tCons (tCB (rLenQ K) (tCons (tVar 8) tNil)) tNil)) (gName 10) tYes (tCall (sp61 K) [] E0 (tCons (tOp (rIxL K) (tVar 8) (tVar 10)) (tCons (tOp (rIxT K) (tOp (rIxL K) (tVar 0) (tOp (rIxL K) (tOp (rIxL K) (tVar 2) (tVar 5)) (tVar 10))) (tC (.int 0))) tNil))) [10]) tNil)) (gName 7))))
    (tDrop (tBM K "list" rAppend (tVar 4) (tCons (tOp rCat (tVar 6) (tLst (tCons (tVar 7) tNil))) tNil)))))))
    (tRet (tCall (sp63 K) [] E0 (tCons (tVar 4) tNil))))))))
theorem der67 {P : Program} {w : World} {K : PySem.W.Frag} {mg : Str → Option Value} {base : Heap} {f : Addr} {cdv : Value} {A : Around} {outer : List Env} {s : Shared} {H : Hp} {E : XK} {qual : Str} (T : Txt K mg) (hr : Room 4 (A.deeper (envOfC qual (defScope s67) s.heap.objs.size f cdv))) (C60 : Cal P w K mg base 2 "_law_and" (sp60 K) []) (C61 : Cal P w K mg base 2 "_law_by" (sp61 K) []) (C63 : Cal P w K mg base 3 "_law_cleared" (sp63 K) []) (C64 : Cal P w K mg base 3 "_law_flow" (sp64 K) []) (C65 : Cal P w K mg base 1 "_law_settling" (sp65 K) []) (C66 : Cal P w K mg base 4 "_law_weights" (sp66 K) []) :
    PSs (cxOf CX0 P w K mg base n67 qual (defScope s67) f cdv A outer s H E).nox (defBody s67) (t67 K) :=
    (pss_cons (ps_set (i := 1) sc67.nd rfl (.inr rfl) (pe_c C64 hr (by decide) (by rfl) (pa_cons (pv 0) pa_nil)))
    (pss_cons (ps_set (i := 2) sc67.nd rfl (.inr rfl) (pe_c C65 hr (by decide) (by rfl) (pa_cons (pv 1) pa_nil)))
    (pss_cons (ps_set (i := 3) sc67.nd rfl (.inl rfl) (pe_callB call_len_seq (by rfl) T.b_len bt_len (pa_cons (pv 0) pa_nil)))
    (pss_cons (ps_set (i := 4) sc67.nd rfl (.inl rfl) (pe_lst pa_nil))
    (pss_cons (ps_for PassesOwn.never rfl (pi_range1 (by rfl) T.b_range (pa_cons (pv 3) pa_nil)) (pg_name (i := 5) sc67.nd rfl (.inr rfl))
      (pss_cons (ps_set (i := 6) sc67.nd rfl (.inr rfl) (pe_lc (own := [("_law_x", 9)]) (g := (gName 9)) (tt := tYes) rfl sc67.nd (pi_range1 (by rfl) T.b_range (pa_cons (pv 3) pa_nil)) (blkOk_by (own := [("_law_x", 9)]) (N := n67) (sc := defScope s67) (by decide +kernel)) (fun _ _ _ _ _ => (pg_name (i := 9) sc67.nd rfl (.inl rfl))) (fun _ _ _ _ _ => pts_nil) (fun _ _ _ _ _ => (pe_tup (pa_cons (pe_callTy call_int1 (by rfl) T.b_int bt_int (pa_cons (pe_cmpR op_eq (pv 5) (pv 9) (nomark _)) pa_nil)) (pa_cons pe_int pa_nil))))))
    (pss_cons (ps_set (i := 7) sc67.nd rfl (.inl rfl) (pe_tup (pa_cons pe_int (pa_cons pe_int pa_nil))))
    (pss_cons (ps_if (pt_cmp (pc_isN (pe_ix ix_list (pv 2) (pv 5) (fun _ _ => rfl)))) (pss_one (ps_set (i := 6) sc67.nd rfl (.inr rfl) (pe_lc (own := [("_law_x", 9)]) (g := (gName 9)) (tt := tYes) rfl sc67.nd (pi_range1 (by rfl) T.b_range (pa_cons (pv 3) pa_nil)) (blkOk_by (own := [("_law_x", 9)]) (N := n67) (sc := defScope s67) (by decide +kernel)) (fun _ _ _ _ _ => (pg_name (i := 9) sc67.nd rfl (.inl rfl))) (fun _ _ _ _ _ => pts_nil) (fun _ _ _ _ _ => (pe_c C60 hr (by decide) (by rfl) (pa_cons (pe_lst (pa_cons (pe_ix ix_list (pv 6) (pv 9) (fun _ _ => rfl)) (pa_cons (pe_tup (pa_cons (pe_un un_neg (pe_ix ix_tup (pe_ix ix_list (pe_ix ix_list (pv 1) (pv 5) (fun _ _ => rfl)) (pv 9) (fun _ _ => rfl)) pe_int (fun _ _ => rfl))) (pa_cons (pe_ix ix_tup (pe_ix ix_list (pe_ix ix_list (pv 1) (pv 5) (fun _ _ => rfl)) (pv 9) (fun _ _ => rfl)) pe_int (fun _ _ => rfl)) pa_nil))) pa_nil))) pa_nil)))))) (pss_cons (ps_set (i := 8) sc67.nd rfl (.inr rfl) (pe_c C66 hr (by decide) (by rfl) (pa_cons (pv 1) (pa_cons (pe_ix ix_list (pv 2) (pv 5) (fun _ _ => rfl)) pa_nil))))
    (pss_one (ps_set (i := 7) sc67.nd rfl (.inl rfl) (pe_c C60 hr (by decide) (by rfl) (pa_cons (pe_lc (own := [("_law_n", 10)]) (g := (gName 10)) (tt := tYes) rfl sc67.nd (pi_range1 (by rfl) T.b_range (pa_cons (pe_callB call_len_seq (by rfl) T.b_len bt_len (pa_cons (pv 8) pa_nil)) pa_nil)) (blkOk_by (own := [("_law_n", 10)]) (N := n67) (sc := defScope s67) (by decide +kernel)) (fun _ _ _ _ _ => (pg_name (i := 10) sc67.nd rfl (.inl rfl))) (fun _ _ _ _ _ => pts_nil) (fun _ _ _ _ _ => (pe_c C61 hr (by decide) (by rfl) (pa_cons (pe_ix ix_list (pv 8) (pv 10) (fun _ _ => rfl)) (pa_cons (pe_ix ix_tup (pe_ix ix_list (pv 0) (pe_ix ix_list (pe_ix ix_list (pv 2) (pv 5) (fun _ _ => rfl)) (pv 10) (fun _ _ => rfl)) (fun _ _ => rfl)) pe_int (fun _ _ => rfl)) pa_nil))))) pa_nil))))))
    (pss_one (ps_expr (pe_bm PySem.F.plainAttrs_list PySem.F.slot_list_append PySem.F.type_list_append mt_append (pv 4) (pa_cons (pe_op op_cat (pv 6) (pe_lst (pa_cons (pv 7) pa_nil))) pa_nil))))))))
    (pss_one (ps_ret (pe_c C63 hr (by decide) (by rfl) (pa_cons (pv 4) pa_nil)))))))))
theorem cal67 {P : Program} {w : World} {K : PySem.W.Frag} {mg : Str → Option Value} {base : Heap} (T : Txt K mg) (C60 : Cal P w K mg base 2 "_law_and" (sp60 K) []) (C61 : Cal P w K mg base 2 "_law_by" (sp61 K) []) (C63 : Cal P w K mg base 3 "_law_cleared" (sp63 K) []) (C64 : Cal P w K mg base 3 "_law_flow" (sp64 K) []) (C65 : Cal P w K mg base 1 "_law_settling" (sp65 K) []) (C66 : Cal P w K mg base 4 "_law_weights" (sp66 K) [])
    (h : ∀ (vs : List V) (H : Hp) (Q : VK) (E : XK), sp67 K vs H Q E → t67 K { nx := fun _ H' => Q .non H', rt := Q } (start n67 vs) H) (len : ∀ vs H Q E, sp67 K vs H Q E → vs.length = 1) : Cal P w K mg base 5 "_law_long" (sp67 K) [] :=
  Tx.cal T.d67 sc67 len fun cdv A outer f s H vs Q E hr hs => ⟨t67 K, der67 T hr C60 C61 C63 C64 C65 C66, h vs H Q E hs⟩

/-! _law_order -/
abbrev n68 : List Str := ["_law_one", "_law_other", "_law_left", "_law_right"]
theorem sc68 : FnScope n68 ["_law_one", "_law_other"] (defScope s68) := ⟨rfl, rfl, rfl, by decide +kernel, rfl, by decide +kernel, by decide +kernel⟩
def t68 (K : PySem.W.Frag) : TS :=
    (tSeq (tPar 2 3 (tCons (tOp rMulI (tOp (rIxT K) (tVar 0) (tC (.int 0))) (tOp (rIxT K) (tVar 1) (tC (.int 1)))) (tCons (tOp rMulI (tOp (rIxT K) (tVar 1) (tC (.int 0))) (tOp (rIxT K) (tVar 0) (tC (.int 1)))) tNil)))
    (tRet (tOp rSubI (tCB rInt1 (tCons (tOp rGtI (tVar 2) (tVar 3)) tNil)) (tCB rInt1 (tCons (tOp rLtI (tVar 2) (tVar 3)) tNil)))))
theorem der68 {P : Program} {w : World} {K : PySem.W.Frag} {mg : Str → Option Value} {base : Heap} {f : Addr} {cdv : Value} {A : Around} {outer : List Env} {s : Shared} {H : Hp} {E : XK} {qual : Str} (T : Txt K mg) (hr : Room 0 (A.deeper (envOfC qual (defScope s68) s.heap.objs.size f cdv))) :
    PSs (cxOf CX0 P w K mg base n68 qual (defScope s68) f cdv A outer s H E).nox (defBody s68) (t68 K) :=
    (pss_cons (ps_par (i := 2) (j := 3) rfl sc68.nd rfl rfl (by decide) rfl rfl (pa_cons (pe_op op_mulW (pe_ix ix_tup (pv 0) pe_int (fun _ _ => rfl)) (pe_ix ix_tup (pv 1) pe_int (fun _ _ => rfl))) (pa_cons (pe_op op_mulW (pe_ix ix_tup (pv 1) pe_int (fun _ _ => rfl)) (pe_ix ix_tup (pv 0) pe_int (fun _ _ => rfl))) pa_nil)) (by rfl))
    (pss_one (ps_ret (pe_op op_sub (pe_callTy call_int1 (by rfl) T.b_int bt_int (pa_cons (pe_cmpR op_gt (pv 2) (pv 3) (nomark _)) pa_nil)) (pe_callTy call_int1 (by rfl) T.b_int bt_int (pa_cons (pe_cmpR op_lt (pv 2) (pv 3) (nomark _)) pa_nil))))))
theorem cal68 {P : Program} {w : World} {K : PySem.W.Frag} {mg : Str → Option Value} {base : Heap} (T : Txt K mg)
    (h : ∀ (vs : List V) (H : Hp) (Q : VK) (E : XK), sp68 K vs H Q E → t68 K { nx := fun _ H' => Q .non H', rt := Q } (start n68 vs) H) (len : ∀ vs H Q E, sp68 K vs H Q E → vs.length = 2) : Cal P w K mg base 1 "_law_order" (sp68 K) [] :=
  Tx.cal T.d68 sc68 len fun cdv A outer f s H vs Q E hr hs => ⟨t68 K, der68 T hr, h vs H Q E hs⟩

/-! _law_round -/
abbrev n69 : List Str := ["_law_game", "_law_replies", "_law_many", "_law_parts", "_law_found", "_law_n", "_law_after", "_law_gain_here", "_law_kind", "_law_ends", "_law_chance", "_law_x"]
theorem sc69 : FnScope n69 ["_law_game", "_law_replies"] (defScope s69) := ⟨rfl, rfl, rfl, by decide +kernel, rfl, by decide +kernel, by decide +kernel⟩
def t69 (K : PySem.W.Frag) : TS :=
    (tSeq (tPar 2 3 (tCons (tCB (rLenQ K) (tCons (tVar 0) tNil)) (tCons (tCB (rLenQ K) (tCons (tVar 1) tNil)) tNil)))
    (tSeq (tAsg (tLst tNil) (gName 4))
    (tSeq (tFor (iRng1 (tCons (tVar 3) tNil)) (gName 5)
      (tSeq (tAsg (tOp rMulI (tVar 2) (tOp rModI (tCB rInt1 (tCons (tOp rAddI (tVar 5) (tC (.int 1))) tNil)) (tVar 3))) (gName 6))
    (tFor (iList K (tCall (sp51 K) [] E0 (tCons (tVar 0) (tCons (tLst (tCons (tOp (rIxL K) (tVar 1) (tVar 5)) tNil)) tNil)))) (gTup K 3 (gCons (gName 7) (gCons (gName 8) (gCons (gName 9) gNil))))
      (tDrop (tBM K "list" rAppend (tVar 4) (tCons (tTup (tCons (tVar 7) (tCons (tVar 8) (tCons (tLc (iList K (tVar 9)) (gTup K 2 (gCons (gName 10) (gCons (gName 11) gNil))) tYes (tTup (tCons (tVar 10) (tCons (tOp rAddI (tVar 6) (tVar 11)) tNil))) [10, 11]) tNil)))) tNil))))))
    (tRet (tVar 4)))))
theorem der69 {P : Program} {w : World} {K : PySem.W.Frag} {mg : Str → Option Value} {base : Heap} {f : Addr} {cdv : Value} {A : Around} {outer : List Env} {s : Shared} {H : Hp} {E : XK} {qual : Str} (T : Txt K mg) (hr : Room 1 (A.deeper (envOfC qual (defScope s69) s.heap.objs.size f cdv))) (C51 : Cal P w K mg base 1 "_law_played" (sp51 K) []) :
    PSs (cxOf CX0 P w K mg base n69 qual (defScope s69) f cdv A outer s H E).nox (defBody s69) (t69 K) :=
    (pss_cons (ps_par (i := 2) (j := 3) rfl sc69.nd rfl rfl (by decide) rfl rfl (pa_cons (pe_callB call_len_seq (by rfl) T.b_len bt_len (pa_cons (pv 0) pa_nil)) (pa_cons (pe_callB call_len_seq (by rfl) T.b_len bt_len (pa_cons (pv 1) pa_nil)) pa_nil)) (by rfl))
    (pss_cons (ps_set (i := 4) sc69.nd rfl (.inl rfl) (pe_lst pa_nil))
    (pss_cons (ps_for PassesOwn.never rfl (pi_range1 (by rfl) T.b_range (pa_cons (pv 3) pa_nil)) (pg_name (i := 5) sc69.nd rfl (.inl rfl))
      (pss_cons (ps_set (i := 6) sc69.nd rfl (.inr rfl) (pe_op op_mulW (pv 2) (pe_op op_mod (pe_callTy call_int1 (by rfl) T.b_int bt_int (pa_cons (pe_op op_add (pv 5) pe_int) pa_nil)) (pv 3))))
    (pss_one (ps_for PassesOwn.never rfl (pi_list (pe_c C51 hr (by decide) (by rfl) (pa_cons (pv 0) (pa_cons (pe_lst (pa_cons (pe_ix ix_list (pv 1) (pv 5) (fun _ _ => rfl)) pa_nil)) pa_nil)))) (pg_tup rfl (pgs_cons (pg_name (i := 7) sc69.nd rfl (.inl rfl)) (pgs_cons (pg_name (i := 8) sc69.nd rfl (.inl rfl)) (pgs_cons (pg_name (i := 9) sc69.nd rfl (.inl rfl)) pgs_nil))))
      (pss_one (ps_expr (pe_bm PySem.F.plainAttrs_list PySem.F.slot_list_append PySem.F.type_list_append mt_append (pv 4) (pa_cons (pe_tup (pa_cons (pv 7) (pa_cons (pv 8) (pa_cons (pe_lc (own := [("_law_chance", 10), ("_law_x", 11)]) (g := (gTup K 2 (gCons (gName 10) (gCons (gName 11) gNil)))) (tt := tYes) rfl sc69.nd (pi_list (pv 9)) (blkOk_by (own := [("_law_chance", 10), ("_law_x", 11)]) (N := n69) (sc := defScope s69) (by decide +kernel)) (fun _ _ _ _ _ => (pg_tup rfl (pgs_cons (pg_name (i := 10) sc69.nd rfl (.inl rfl)) (pgs_cons (pg_name (i := 11) sc69.nd rfl (.inl rfl)) pgs_nil)))) (fun _ _ _ _ _ => pts_nil) (fun _ _ _ _ _ => (pe_tup (pa_cons (pv 10) (pa_cons (pe_op op_add (pv 6) (pv 11)) pa_nil))))) pa_nil)))) pa_nil))))))))
    (pss_one (ps_ret (pv 4))))))
theorem cal69 {P : Program} {w : World} {K : PySem.W.Frag} {mg : Str → Option Value} {base : Heap} (T : Txt K mg) (C51 : Cal P w K mg base 1 "_law_played" (sp51 K) [])
    (h : ∀ (vs : List V) (H : Hp) (Q : VK) (E : XK), sp69 K vs H Q E → t69 K { nx := fun _ H' => Q .non H', rt := Q } (start n69 vs) H) (len : ∀ vs H Q E, sp69 K vs H Q E → vs.length = 2) : Cal P w K mg base 2 "_law_round" (sp69 K) [] :=
  Tx.cal T.d69 sc69 len fun cdv A outer f s H vs Q E hr hs => ⟨t69 K, der69 T hr C51, h vs H Q E hs⟩

/-! _law_extreme -/
abbrev n70 : List Str := ["_law_lists", "_law_way", "_law_found", "_law_row", "_law_old", "_law_new"]
theorem sc70 : FnScope n70 ["_law_lists", "_law_way"] (defScope s70) := ⟨rfl, rfl, rfl, by decide +kernel, rfl, by decide +kernel, by decide +kernel⟩
def t70 (K : PySem.W.Frag) : TS :=
    (tSeq (tAsg (tOp (rIxL K) (tVar 0) (tC (.int 0))) (gName 2))
    (tSeq (tFor (iList K (tVar 0)) (gName 3)
      (tAsg (tLc (iZip K (tCons (tVar 2) (tCons (tVar 3) tNil))) (gTup K 2 (gCons (gName 4) (gCons (gName 5) gNil))) tYes (tOp (rIxL K) (tLst (tCons (tVar 4) (tCons (tVar 5) tNil))) (tCB rInt1 (tCons (tOp rEq (tCall (sp68 K) [] E0 (tCons (tVar 5) (tCons (tVar 4) tNil))) (tVar 1)) tNil))) [4, 5]) (gName 2)))
    (tRet (tVar 2))))
theorem der70 {P : Program} {w : World} {K : PySem.W.Frag} {mg : Str → Option Value} {base : Heap} {f : Addr} {cdv : Value} {A : Around} {outer : List Env} {s : Shared} {H : Hp} {E : XK} {qual : Str} (T : Txt K mg) (hr : Room 1 (A.deeper (envOfC qual (defScope s70) s.heap.objs.size f cdv))) (C68 : Cal P w K mg base 1 "_law_order" (sp68 K) []) :
    PSs (cxOf CX0 P w K mg base n70 qual (defScope s70) f cdv A outer s H E).nox (defBody s70) (t70 K) :=
    (pss_cons (ps_set (i := 2) sc70.nd rfl (.inl rfl) (pe_ix ix_list (pv 0) pe_int (fun _ _ => rfl)))
    (pss_cons (ps_for PassesOwn.never rfl (pi_list (pv 0)) (pg_name (i := 3) sc70.nd rfl (.inl rfl))
      (pss_one (ps_setLc (i := 2) (own := [("_law_old", 4), ("_law_new", 5)]) (g := (gTup K 2 (gCons (gName 4) (gCons (gName 5) gNil)))) (tt := tYes) rfl sc70.nd rfl rfl (sw_true rfl rfl rfl (by decide +kernel)) (pi_zip (by rfl) T.b_zip (pa_cons (pv 2) (pa_cons (pv 3) pa_nil))) (blkOk_by (own := [("_law_old", 4), ("_law_new", 5)]) (N := n70) (sc := defScope s70) (by decide +kernel)) (fun _ _ _ _ _ => (pg_tup rfl (pgs_cons (pg_name (i := 4) sc70.nd rfl (.inl rfl)) (pgs_cons (pg_name (i := 5) sc70.nd rfl (.inl rfl)) pgs_nil)))) (fun _ _ _ _ _ => pts_nil) (fun _ _ _ _ _ => (pe_ix ix_list (pe_lst (pa_cons (pv 4) (pa_cons (pv 5) pa_nil))) (pe_callTy call_int1 (by rfl) T.b_int bt_int (pa_cons (pe_cmpR op_eq (pe_c C68 hr (by decide) (by rfl) (pa_cons (pv 5) (pa_cons (pv 4) pa_nil))) (pv 1) (nomark _)) pa_nil)) (fun _ _ => rfl))))))
    (pss_one (ps_ret (pv 2)))))
theorem cal70 {P : Program} {w : World} {K : PySem.W.Frag} {mg : Str → Option Value} {base : Heap} (T : Txt K mg) (C68 : Cal P w K mg base 1 "_law_order" (sp68 K) [])
    (h : ∀ (vs : List V) (H : Hp) (Q : VK) (E : XK), sp70 K vs H Q E → t70 K { nx := fun _ H' => Q .non H', rt := Q } (start n70 vs) H) (len : ∀ vs H Q E, sp70 K vs H Q E → vs.length = 2) : Cal P w K mg base 2 "_law_extreme" (sp70 K) [] :=
  Tx.cal T.d70 sc70 len fun cdv A outer f s H vs Q E hr hs => ⟨t70 K, der70 T hr C68, h vs H Q E hs⟩

/-! _law_plans -/
abbrev n71 : List Str := ["_law_game", "_law_side", "_law_found", "_law_place", "_law_longer", "_law_plan_here", "_law_branch"]
theorem sc71 : FnScope n71 ["_law_game", "_law_side"] (defScope s71) := ⟨rfl, rfl, rfl, by decide +kernel, rfl, by decide +kernel, by decide +kernel⟩
def t71 (K : PySem.W.Frag) : TS :=
    (tSeq (tAsg (tLst (tCons (tLst tNil) tNil)) (gName 2))
    (tSeq (tFor (iList K (tVar 0)) (gName 3)
      (tSeq (tAsg (tLst tNil) (gName 4))
    (tSeq (tFor (iList K (tVar 2)) (gName 5)
      (tIfS (tTest (tOp rEq (tOp (rIxT K) (tVar 3) (tC (.int 1))) (tVar 1))) (tAsg (tOp rCat (tVar 4) (tLc (iRng1 (tCons (tCB (rLenQ K) (tCons (tOp (rIxT K) (tVar 3) (tC (.int 2))) tNil)) tNil)) (gName 6) tYes (tOp rCat (tVar 5) (tLst (tCons (tVar 6) tNil))) [6])) (gName 4)) (tDrop (tBM K "list" rAppend (tVar 4) (tCons (tOp rCat (tVar 5) (tLst (tCons (tC .non) tNil))) tNil)))))
    (tAsg (tVar 4) (gName 2)))))
    (tRet (tVar 2))))
theorem der71 {P : Program} {w : World} {K : PySem.W.Frag} {mg : Str → Option Value} {base : Heap} {f : Addr} {cdv : Value} {A : Around} {outer : List Env} {s : Shared} {H : Hp} {E : XK} {qual : Str} (T : Txt K mg) (hr : Room 0 (A.deeper (envOfC qual (defScope s71) s.heap.objs.size f cdv))) :
    PSs (cxOf CX0 P w K mg base n71 qual (defScope s71) f cdv A outer s H E).nox (defBody s71) (t71 K) :=
    (pss_cons (ps_set (i := 2) sc71.nd rfl (.inl rfl) (pe_lst (pa_cons (pe_lst pa_nil) pa_nil)))
    (pss_cons (ps_for PassesOwn.never rfl (pi_list (pv 0)) (pg_name (i := 3) sc71.nd rfl (.inl rfl))
      (pss_cons (ps_set (i := 4) sc71.nd rfl (.inl rfl) (pe_lst pa_nil))
    (pss_cons (ps_for PassesOwn.never rfl (pi_list (pv 2)) (pg_name (i := 5) sc71.nd rfl (.inr rfl))
      (pss_one (ps_if (pt_cmpR op_eq (pe_ix ix_tup (pv 3) pe_int (fun _ _ => rfl)) (pv 1) (nomark _)) (pss_one (ps_set (i := 4) sc71.nd rfl (.inl rfl) (pe_op op_cat (pv 4) (pe_lc (own := [("_law_branch", 6)]) (g := (gName 6)) (tt := tYes) rfl sc71.nd (pi_range1 (by rfl) T.b_range (pa_cons (pe_callB call_len_seq (by rfl) T.b_len bt_len (pa_cons (pe_ix ix_tup (pv 3) pe_int (fun _ _ => rfl)) pa_nil)) pa_nil)) (blkOk_by (own := [("_law_branch", 6)]) (N := n71) (sc := defScope s71) (by decide +kernel)) (fun _ _ _ _ _ => (pg_name (i := 6) sc71.nd rfl (.inl rfl))) (fun _ _ _ _ _ => pts_nil) (fun _ _ _ _ _ => (pe_op op_cat (pv 5) (pe_lst (pa_cons (pv 6) pa_nil)))))))) (pss_one (ps_expr (pe_bm PySem.F.plainAttrs_list PySem.F.slot_list_append PySem.F.type_list_append mt_append (pv 4) (pa_cons (pe_op op_cat (pv 5) (pe_lst (pa_cons pe_non pa_nil))) pa_nil)))))))
    (pss_one (ps_set (i := 2) sc71.nd rfl (.inl rfl) (pv 4))))))
    (pss_one (ps_ret (pv 2)))))
theorem cal71 {P : Program} {w : World} {K : PySem.W.Frag} {mg : Str → Option Value} {base : Heap} (T : Txt K mg)
    (h : ∀ (vs : List V) (H : Hp) (Q : VK) (E : XK), sp71 K vs H Q E → t71 K { nx := fun _ H' => Q .non H', rt := Q } (start n71 vs) H) (len : ∀ vs H Q E, sp71 K vs H Q E → vs.length = 2) : Cal P w K mg base 1 "_law_plans" (sp71 K) [] :=
  Tx.cal T.d71 sc71 len fun cdv A outer f s H vs Q E hr hs => ⟨t71 K, der71 T hr, h vs H Q E hs⟩

/-! _law_low_of -/
abbrev n72 : List Str := ["_law_game", "_law_ours", "_law_reply"]
theorem sc72 : FnScope n72 ["_law_game", "_law_ours"] (defScope s72) := ⟨rfl, rfl, rfl, by decide +kernel, rfl, by decide +kernel, by decide +kernel⟩
def t72 (K : PySem.W.Frag) : TS :=
    (tRet (tCall (sp70 K) [] E0 (tCons (tLc (iList K (tCall (sp71 K) [] E0 (tCons (tVar 0) (tCons (tC (.str "theirs")) tNil)))) (gName 2) tYes (tCall (sp67 K) [] E0 (tCons (tCall (sp51 K) [] E0 (tCons (tVar 0) (tCons (tLst (tCons (tVar 1) (tCons (tVar 2) tNil))) tNil))) tNil)) [2]) (tCons (tUn rNegI (tC (.int 1))) tNil))))
theorem der72 {P : Program} {w : World} {K : PySem.W.Frag} {mg : Str → Option Value} {base : Heap} {f : Addr} {cdv : Value} {A : Around} {outer : List Env} {s : Shared} {H : Hp} {E : XK} {qual : Str} (T : Txt K mg) (hr : Room 5 (A.deeper (envOfC qual (defScope s72) s.heap.objs.size f cdv))) (C51 : Cal P w K mg base 1 "_law_played" (sp51 K) []) (C67 : Cal P w K mg base 5 "_law_long" (sp67 K) []) (C70 : Cal P w K mg base 2 "_law_extreme" (sp70 K) []) (C71 : Cal P w K mg base 1 "_law_plans" (sp71 K) []) :
    PSs (cxOf CX0 P w K mg base n72 qual (defScope s72) f cdv A outer s H E).nox (defBody s72) (t72 K) :=
    (pss_one (ps_ret (pe_c C70 hr (by decide) (by rfl) (pa_cons (pe_lc (own := [("_law_reply", 2)]) (g := (gName 2)) (tt := tYes) rfl sc72.nd (pi_list (pe_c C71 hr (by decide) (by rfl) (pa_cons (pv 0) (pa_cons pe_str pa_nil)))) (blkOk_by (own := [("_law_reply", 2)]) (N := n72) (sc := defScope s72) (by decide +kernel)) (fun _ _ _ _ _ => (pg_name (i := 2) sc72.nd rfl (.inl rfl))) (fun _ _ _ _ _ => pts_nil) (fun _ _ _ _ _ => (pe_c C67 hr (by decide) (by rfl) (pa_cons (pe_c C51 hr (by decide) (by rfl) (pa_cons (pv 0) (pa_cons (pe_lst (pa_cons (pv 1) (pa_cons (pv 2) pa_nil))) pa_nil))) pa_nil)))) (pa_cons (pe_un un_neg pe_int) pa_nil)))))
theorem cal72 {P : Program} {w : World} {K : PySem.W.Frag} {mg : Str → Option Value} {base : Heap} (T : Txt K mg) (C51 : Cal P w K mg base 1 "_law_played" (sp51 K) []) (C67 : Cal P w K mg base 5 "_law_long" (sp67 K) []) (C70 : Cal P w K mg base 2 "_law_extreme" (sp70 K) []) (C71 : Cal P w K mg base 1 "_law_plans" (sp71 K) [])
    (h : ∀ (vs : List V) (H : Hp) (Q : VK) (E : XK), sp72 K vs H Q E → t72 K { nx := fun _ H' => Q .non H', rt := Q } (start n72 vs) H) (len : ∀ vs H Q E, sp72 K vs H Q E → vs.length = 2) : Cal P w K mg base 6 "_law_low_of" (sp72 K) [] :=
  Tx.cal T.d72 sc72 len fun cdv A outer f s H vs Q E hr hs => ⟨t72 K, der72 T hr C51 C67 C70 C71, h vs H Q E hs⟩

/-! _law_high_of -/
abbrev n73 : List Str := ["_law_game", "_law_theirs", "_law_reply"]
theorem sc73 : FnScope n73 ["_law_game", "_law_theirs"] (defScope s73) := ⟨rfl, rfl, rfl, by decide +kernel, rfl, by decide +kernel, by decide +kernel⟩
def t73 (K : PySem.W.Frag) : TS :=
    (tRet (tCall (sp70 K) [] E0 (tCons (tLc (iList K (tCall (sp71 K) [] E0 (tCons (tVar 0) (tCons (tC (.str "ours")) tNil)))) (gName 2) tYes (tCall (sp67 K) [] E0 (tCons (tCall (sp51 K) [] E0 (tCons (tVar 0) (tCons (tLst (tCons (tVar 1) (tCons (tVar 2) tNil))) tNil))) tNil)) [2]) (tCons (tC (.int 1)) tNil))))
theorem der73 {P : Program} {w : World} {K : PySem.W.Frag} {mg : Str → Option Value} {base : Heap} {f : Addr} {cdv : Value} {A : Around} {outer : List Env} {s : Shared} {H : Hp} {E : XK} {qual : Str} (T : Txt K mg) (hr : Room 5 (A.deeper (envOfC qual (defScope s73) s.heap.objs.size f cdv))) (C51 : Cal P w K mg base 1 "_law_played" (sp51 K) []) (C67 : Cal P w K mg base 5 "_law_long" (sp67 K) []) (C70 : Cal P w K mg base 2 "_law_extreme" (sp70 K) []) (C71 : Cal P w K mg base 1 "_law_plans" (sp71 K) []) :
    PSs (cxOf CX0 P w K mg base n73 qual (defScope s73) f cdv A outer s H E).nox (defBody s73) (t73 K) :=
    (pss_one (ps_ret (pe_c C70 hr (by decide) (by rfl) (pa_cons (pe_lc (own := [("_law_reply", 2)]) (g := (gName 2)) (tt := tYes) rfl sc73.nd (pi_list (pe_c C71 hr (by decide) (by rfl) (pa_cons (pv 0) (pa_cons pe_str pa_nil)))) (blkOk_by (own := [("_law_reply", 2)]) (N := n73) (sc := defScope s73) (by decide +kernel)) (fun _ _ _ _ _ => (pg_name (i := 2) sc73.nd rfl (.inl rfl))) (fun _ _ _ _ _ => pts_nil) (fun _ _ _ _ _ => (pe_c C67 hr (by decide) (by rfl) (pa_cons (pe_c C51 hr (by decide) (by rfl) (pa_cons (pv 0) (pa_cons (pe_lst (pa_cons (pv 1) (pa_cons (pv 2) pa_nil))) pa_nil))) pa_nil)))) (pa_cons pe_int pa_nil)))))
theorem cal73 {P : Program} {w : World} {K : PySem.W.Frag} {mg : Str → Option Value} {base : Heap} (T : Txt K mg) (C51 : Cal P w K mg base 1 "_law_played" (sp51 K) []) (C67 : Cal P w K mg base 5 "_law_long" (sp67 K) []) (C70 : Cal P w K mg base 2 "_law_extreme" (sp70 K) []) (C71 : Cal P w K mg base 1 "_law_plans" (sp71 K) [])
    (h : ∀ (vs : List V) (H : Hp) (Q : VK) (E : XK), sp73 K vs H Q E → t73 K { nx := fun _ H' => Q .non H', rt := Q } (start n73 vs) H) (len : ∀ vs H Q E, sp73 K vs H Q E → vs.length = 2) : Cal P w K mg base 6 "_law_high_of" (sp73 K) [] :=
  Tx.cal T.d73 sc73 len fun cdv A outer f s H vs Q E hr hs => ⟨t73 K, der73 T hr C51 C67 C70 C71, h vs H Q E hs⟩

/-! law -/
abbrev n74 : List Str := ["_law_script", "_law_pool_here", "_law_game", "_law_ours", "_law_theirs", "_law_least", "_law_leads", "_law_low", "_law_most", "_law_high", "_law_left", "_law_right", "_law_turn", "_law_parts", "_law_replies", "_law_long_here", "_law_n", "_law_k"]
theorem sc74 : FnScope n74 ["_law_script"] (defScope s74) := ⟨rfl, rfl, rfl, by decide +kernel, rfl, by decide +kernel, by decide +kernel⟩
def t74 (K : PySem.W.Frag) : TS :=
    (tSeq (tAsg (tCall (sp53 K) [] E0 (tCons (tVar 0) tNil)) (gName 1))
    (tSeq (tAsg (tCall (sp58 K) [] E0 (tCons (tVar 1) (tCons (tC (.int 4)) (tCons (tC (.int 12)) tNil)))) (gName 2))
    (tSeq (tPar 3 4 (tCons (tCall (sp59 K) [] E0 (tCons (tVar 1) (tCons (tVar 2) (tCons (tC (.str "ours")) tNil)))) (tCons (tCall (sp59 K) [] E0 (tCons (tVar 1) (tCons (tVar 2) (tCons (tC (.str "theirs")) tNil)))) tNil)))
    (tSeq (tAsg (tCall (sp48 K) [] E0 (tCons (tVar 2) (tCons (tVar 3) tNil))) (gTup K 2 (gCons (gTup K 2 (gCons (gName 5) (gCons (gName 6) gNil))) (gCons (gName 7) gNil))))
    (tSeq (tAsg (tCall (sp49 K) [] E0 (tCons (tVar 2) (tCons (tVar 4) tNil))) (gTup K 2 (gCons (gTup K 2 (gCons (gName 8) (gCons (gName 6) gNil))) (gCons (gName 9) gNil))))
    (tSeq (tIfS (tOr (tTest (tOp (rNeD K) (tVar 5) (tCall (sp72 K) [] E0 (tCons (tVar 2) (tCons (tVar 3) tNil))))) (tTest (tOp (rNeD K) (tVar 8) (tCall (sp73 K) [] E0 (tCons (tVar 2) (tCons (tVar 4) tNil)))))) (tRet (tC (.bl false))) tNext)
    (tSeq (tAsg (tTup (tCons (tCall (sp51 K) [] E0 (tCons (tVar 2) (tCons (tLst (tCons (tVar 3) tNil)) tNil))) (tCons (tCall (sp51 K) [] E0 (tCons (tVar 2) (tCons (tLst (tCons (tVar 4) tNil)) tNil))) tNil))) (gTup K 2 (gCons (gName 10) (gCons (gName 11) gNil))))
    (tSeq (tIfS (tOr (tTest (tOp (rNeD K) (tCall (sp67 K) [] E0 (tCons (tCall (sp51 K) [] E0 (tCons (tVar 10) (tCons (tLst (tCons (tVar 7) tNil)) tNil))) tNil)) (tVar 5))) (tTest (tOp (rNeD K) (tCall (sp67 K) [] E0 (tCons (tCall (sp51 K) [] E0 (tCons (tVar 11) (tCons (tLst (tCons (tVar 9) tNil)) tNil))) tNil)) (tVar 8)))) (tRet (tC (.bl false))) tNext)
    (tSeq (tFor (iRng1 (tCons (tC (.int 2)) tNil)) (gName 12)
      (tSeq (tAsg (tOp rAddI (tC (.int 2)) (tCall (sp54 K) [] E0 (tCons (tVar 1) (tCons (tC (.int 2)) tNil)))) (gName 13))
    (tSeq (tAsg (tOp rCat (tLst (tCons (tVar 7) tNil)) (tLc (iRng1 (tCons (tOp rSubI (tVar 13) (tC (.int 1))) tNil)) (gName 16) tYes (tCall (sp59 K) [] E0 (tCons (tVar 1) (tCons (tVar 10) (tCons (tC (.str "theirs")) tNil)))) [16])) (gName 14))
    (tSeq (tAsg (tCall (sp67 K) [] E0 (tCons (tCall (sp69 K) [] E0 (tCons (tVar 10) (tCons (tVar 14) tNil))) tNil)) (gName 15))
    (tSeq (tIfS (tB (tCB (rAny K) (tCons (tLc (iRng1 (tCons (tCB (rLenQ K) (tCons (tVar 2) tNil)) tNil)) (gName 17) tYes (tOp rLtI (tCall (sp68 K) [] E0 (tCons (tOp (rIxL K) (tVar 15) (tVar 17)) (tCons (tOp (rIxL K) (tVar 5) (tVar 17)) tNil))) (tC (.int 0))) [17]) tNil))) (tRet (tC (.bl false))) tNext)
    (tSeq (tAsg (tOp rCat (tLst (tCons (tVar 9) tNil)) (tLc (iRng1 (tCons (tOp rSubI (tVar 13) (tC (.int 1))) tNil)) (gName 16) tYes (tCall (sp59 K) [] E0 (tCons (tVar 1) (tCons (tVar 11) (tCons (tC (.str "ours")) tNil)))) [16])) (gName 14))
    (tSeq (tAsg (tCall (sp67 K) [] E0 (tCons (tCall (sp69 K) [] E0 (tCons (tVar 11) (tCons (tVar 14) tNil))) tNil)) (gName 15))
    (tIfS (tB (tCB (rAny K) (tCons (tLc (iRng1 (tCons (tCB (rLenQ K) (tCons (tVar 2) tNil)) tNil)) (gName 17) tYes (tOp rGtI (tCall (sp68 K) [] E0 (tCons (tOp (rIxL K) (tVar 15) (tVar 17)) (tCons (tOp (rIxL K) (tVar 8) (tVar 17)) tNil))) (tC (.int 0))) [17]) tNil))) (tRet (tC (.bl false))) tNext))))))))
    (tRet (tC (.bl true))))))))))))
theorem der74 {P : Program} {w : World} {K : PySem.W.Frag} {mg : Str → Option Value} {base : Heap} {f : Addr} {cdv : Value} {A : Around} {outer : List Env} {s : Shared} {H : Hp} {E : XK} {qual : Str} (T : Txt K mg) (hr : Room 10 (A.deeper (envOfC qual (defScope s74) s.heap.objs.size f cdv))) (C48 : Cal P w K mg base 10 "least_against" (sp48 K) []) (C49 : Cal P w K mg base 10 "greatest_against" (sp49 K) []) (C51 : Cal P w K mg base 1 "_law_played" (sp51 K) []) (C53 : Cal P w K mg base 2 "_law_stream" (sp53 K) []) (C54 : Cal P w K mg base 1 "_law_pick" (sp54 K) []) (C58 : Cal P w K mg base 3 "_law_field" (sp58 K) []) (C59 : Cal P w K mg base 2 "_law_plan" (sp59 K) []) (C67 : Cal P w K mg base 5 "_law_long" (sp67 K) []) (C68 : Cal P w K mg base 1 "_law_order" (sp68 K) []) (C69 : Cal P w K mg base 2 "_law_round" (sp69 K) []) (C72 : Cal P w K mg base 6 "_law_low_of" (sp72 K) []) (C73 : Cal P w K mg base 6 "_law_high_of" (sp73 K) []) :
    PSs (cxOf CX0 P w K mg base n74 qual (defScope s74) f cdv A outer s H E).nox (defBody s74) (t74 K) :=
    (pss_cons (ps_set (i := 1) sc74.nd rfl (.inr rfl) (pe_c C53 hr (by decide) (by rfl) (pa_cons (pv 0) pa_nil)))
    (pss_cons (ps_set (i := 2) sc74.nd rfl (.inl rfl) (pe_c C58 hr (by decide) (by rfl) (pa_cons (pv 1) (pa_cons pe_int (pa_cons pe_int pa_nil)))))
    (pss_cons (ps_par (i := 3) (j := 4) rfl sc74.nd rfl rfl (by decide) rfl rfl (pa_cons (pe_c C59 hr (by decide) (by rfl) (pa_cons (pv 1) (pa_cons (pv 2) (pa_cons pe_str pa_nil)))) (pa_cons (pe_c C59 hr (by decide) (by rfl) (pa_cons (pv 1) (pa_cons (pv 2) (pa_cons pe_str pa_nil)))) pa_nil)) (by rfl))
    (pss_cons (ps_asg (pe_c C48 hr (by decide) (by rfl) (pa_cons (pv 2) (pa_cons (pv 3) pa_nil))) (pg_tup rfl (pgs_cons (pg_tup rfl (pgs_cons (pg_name (i := 5) sc74.nd rfl (.inr rfl)) (pgs_cons (pg_name (i := 6) sc74.nd rfl (.inl rfl)) pgs_nil))) (pgs_cons (pg_name (i := 7) sc74.nd rfl (.inl rfl)) pgs_nil))))
    (pss_cons (ps_asg (pe_c C49 hr (by decide) (by rfl) (pa_cons (pv 2) (pa_cons (pv 4) pa_nil))) (pg_tup rfl (pgs_cons (pg_tup rfl (pgs_cons (pg_name (i := 8) sc74.nd rfl (.inr rfl)) (pgs_cons (pg_name (i := 6) sc74.nd rfl (.inl rfl)) pgs_nil))) (pgs_cons (pg_name (i := 9) sc74.nd rfl (.inl rfl)) pgs_nil))))
    (pss_cons (ps_if (PW.pt (pw_or (pt_cmpR (op_neD hr.units) (pv 5) (pe_c C72 hr (by decide) (by rfl) (pa_cons (pv 2) (pa_cons (pv 3) pa_nil))) (nomark _)) (pw_or1 (pt_cmpR (op_neD hr.units) (pv 8) (pe_c C73 hr (by decide) (by rfl) (pa_cons (pv 2) (pa_cons (pv 4) pa_nil))) (nomark _))))) (pss_one (ps_ret pe_bl)) pss_nil)
    (pss_cons (ps_asg (pe_tup (pa_cons (pe_c C51 hr (by decide) (by rfl) (pa_cons (pv 2) (pa_cons (pe_lst (pa_cons (pv 3) pa_nil)) pa_nil))) (pa_cons (pe_c C51 hr (by decide) (by rfl) (pa_cons (pv 2) (pa_cons (pe_lst (pa_cons (pv 4) pa_nil)) pa_nil))) pa_nil))) (pg_tup rfl (pgs_cons (pg_name (i := 10) sc74.nd rfl (.inr rfl)) (pgs_cons (pg_name (i := 11) sc74.nd rfl (.inr rfl)) pgs_nil))))
    (pss_cons (ps_if (PW.pt (pw_or (pt_cmpR (op_neD hr.units) (pe_c C67 hr (by decide) (by rfl) (pa_cons (pe_c C51 hr (by decide) (by rfl) (pa_cons (pv 10) (pa_cons (pe_lst (pa_cons (pv 7) pa_nil)) pa_nil))) pa_nil)) (pv 5) (nomark _)) (pw_or1 (pt_cmpR (op_neD hr.units) (pe_c C67 hr (by decide) (by rfl) (pa_cons (pe_c C51 hr (by decide) (by rfl) (pa_cons (pv 11) (pa_cons (pe_lst (pa_cons (pv 9) pa_nil)) pa_nil))) pa_nil)) (pv 8) (nomark _))))) (pss_one (ps_ret pe_bl)) pss_nil)
    (pss_cons (ps_for PassesOwn.never rfl (pi_range1 (by rfl) T.b_range (pa_cons pe_int pa_nil)) (pg_name (i := 12) sc74.nd rfl (.inl rfl))
      (pss_cons (ps_set (i := 13) sc74.nd rfl (.inl rfl) (pe_op op_add pe_int (pe_c C54 hr (by decide) (by rfl) (pa_cons (pv 1) (pa_cons pe_int pa_nil)))))
    (pss_cons (ps_set (i := 14) sc74.nd rfl (.inl rfl) (pe_op op_cat (pe_lst (pa_cons (pv 7) pa_nil)) (pe_lc (own := [("_law_n", 16)]) (g := (gName 16)) (tt := tYes) rfl sc74.nd (pi_range1 (by rfl) T.b_range (pa_cons (pe_op op_sub (pv 13) pe_int) pa_nil)) (blkOk_by (own := [("_law_n", 16)]) (N := n74) (sc := defScope s74) (by decide +kernel)) (fun _ _ _ _ _ => (pg_name (i := 16) sc74.nd rfl (.inl rfl))) (fun _ _ _ _ _ => pts_nil) (fun _ _ _ _ _ => (pe_c C59 hr (by decide) (by rfl) (pa_cons (pv 1) (pa_cons (pv 10) (pa_cons pe_str pa_nil))))))))
    (pss_cons (ps_set (i := 15) sc74.nd rfl (.inr rfl) (pe_c C67 hr (by decide) (by rfl) (pa_cons (pe_c C69 hr (by decide) (by rfl) (pa_cons (pv 10) (pa_cons (pv 14) pa_nil))) pa_nil)))
    (pss_cons (ps_if (pt_val (pe_callB (cr_any rfl) (by rfl) T.b_any bt_any (pa_cons (pe_lc (own := [("_law_k", 17)]) (g := (gName 17)) (tt := tYes) rfl sc74.nd (pi_range1 (by rfl) T.b_range (pa_cons (pe_callB call_len_seq (by rfl) T.b_len bt_len (pa_cons (pv 2) pa_nil)) pa_nil)) (blkOk_by (own := [("_law_k", 17)]) (N := n74) (sc := defScope s74) (by decide +kernel)) (fun _ _ _ _ _ => (pg_name (i := 17) sc74.nd rfl (.inl rfl))) (fun _ _ _ _ _ => pts_nil) (fun _ _ _ _ _ => (pe_cmpR op_lt (pe_c C68 hr (by decide) (by rfl) (pa_cons (pe_ix ix_list (pv 15) (pv 17) (fun _ _ => rfl)) (pa_cons (pe_ix ix_list (pv 5) (pv 17) (fun _ _ => rfl)) pa_nil))) pe_int (nomark _)))) pa_nil))) (pss_one (ps_ret pe_bl)) pss_nil)
    (pss_cons (ps_set (i := 14) sc74.nd rfl (.inl rfl) (pe_op op_cat (pe_lst (pa_cons (pv 9) pa_nil)) (pe_lc (own := [("_law_n", 16)]) (g := (gName 16)) (tt := tYes) rfl sc74.nd (pi_range1 (by rfl) T.b_range (pa_cons (pe_op op_sub (pv 13) pe_int) pa_nil)) (blkOk_by (own := [("_law_n", 16)]) (N := n74) (sc := defScope s74) (by decide +kernel)) (fun _ _ _ _ _ => (pg_name (i := 16) sc74.nd rfl (.inl rfl))) (fun _ _ _ _ _ => pts_nil) (fun _ _ _ _ _ => (pe_c C59 hr (by decide) (by rfl) (pa_cons (pv 1) (pa_cons (pv 11) (pa_cons pe_str pa_nil))))))))
    (pss_cons (ps_set (i := 15) sc74.nd rfl (.inr rfl) (pe_c C67 hr (by decide) (by rfl) (pa_cons (pe_c C69 hr (by decide) (by rfl) (pa_cons (pv 11) (pa_cons (pv 14) pa_nil))) pa_nil)))
    (pss_one (ps_if (pt_val (pe_callB (cr_any rfl) (by rfl) T.b_any bt_any (pa_cons (pe_lc (own := [("_law_k", 17)]) (g := (gName 17)) (tt := tYes) rfl sc74.nd (pi_range1 (by rfl) T.b_range (pa_cons (pe_callB call_len_seq (by rfl) T.b_len bt_len (pa_cons (pv 2) pa_nil)) pa_nil)) (blkOk_by (own := [("_law_k", 17)]) (N := n74) (sc := defScope s74) (by decide +kernel)) (fun _ _ _ _ _ => (pg_name (i := 17) sc74.nd rfl (.inl rfl))) (fun _ _ _ _ _ => pts_nil) (fun _ _ _ _ _ => (pe_cmpR op_gt (pe_c C68 hr (by decide) (by rfl) (pa_cons (pe_ix ix_list (pv 15) (pv 17) (fun _ _ => rfl)) (pa_cons (pe_ix ix_list (pv 8) (pv 17) (fun _ _ => rfl)) pa_nil))) pe_int (nomark _)))) pa_nil))) (pss_one (ps_ret pe_bl)) pss_nil)))))))))
    (pss_one (ps_ret pe_bl)))))))))))
theorem cal74 {P : Program} {w : World} {K : PySem.W.Frag} {mg : Str → Option Value} {base : Heap} (T : Txt K mg) (C48 : Cal P w K mg base 10 "least_against" (sp48 K) []) (C49 : Cal P w K mg base 10 "greatest_against" (sp49 K) []) (C51 : Cal P w K mg base 1 "_law_played" (sp51 K) []) (C53 : Cal P w K mg base 2 "_law_stream" (sp53 K) []) (C54 : Cal P w K mg base 1 "_law_pick" (sp54 K) []) (C58 : Cal P w K mg base 3 "_law_field" (sp58 K) []) (C59 : Cal P w K mg base 2 "_law_plan" (sp59 K) []) (C67 : Cal P w K mg base 5 "_law_long" (sp67 K) []) (C68 : Cal P w K mg base 1 "_law_order" (sp68 K) []) (C69 : Cal P w K mg base 2 "_law_round" (sp69 K) []) (C72 : Cal P w K mg base 6 "_law_low_of" (sp72 K) []) (C73 : Cal P w K mg base 6 "_law_high_of" (sp73 K) [])
    (h : ∀ (vs : List V) (H : Hp) (Q : VK) (E : XK), sp74 K vs H Q E → t74 K { nx := fun _ H' => Q .non H', rt := Q } (start n74 vs) H) (len : ∀ vs H Q E, sp74 K vs H Q E → vs.length = 1) : Cal P w K mg base 11 "law" (sp74 K) [] :=
  Tx.cal T.d74 sc74 len fun cdv A outer f s H vs Q E hr hs => ⟨t74 K, der74 T hr C48 C49 C51 C53 C54 C58 C59 C67 C68 C69 C72 C73, h vs H Q E hs⟩

end Mh
end
section
set_option Elab.async false
set_option linter.all false
set_option maxRecDepth 100000
set_option maxHeartbeats 4000000
set_option exponentiation.threshold 20000
/-! the law's sums: the readings -/
namespace Mh
open PySem PySem.Spec PyProof.Rows L2
open C8 (Cal pe_c)
open Evl (ixN_nat)
theorem cut_sum {x y : Int} {i j : Nat} (h1 : x.natAbs < 2 ^ i) (h2 : y.natAbs < 2 ^ j) (hi : i ≤ 8980) (hj : j ≤ 8980) : (x + y).natAbs < 2 ^ 8990 ∧ (x - y).natAbs < 2 ^ 8990 := by
  have a := Nat.lt_of_lt_of_le h1 (Nat.pow_le_pow_right (show 0 < 2 by decide) hi)
  have b := Nat.lt_of_lt_of_le h2 (Nat.pow_le_pow_right (show 0 < 2 by decide) hj)
  have e : (2:Nat) ^ 8990 = 2 ^ 8980 * 1024 := by rw [show 8990 = 8980 + 10 by omega, Nat.pow_add]
  have hp := Nat.two_pow_pos 8980
  rw [e]
  generalize (2:Nat) ^ 8980 = Z at *
  constructor <;> omega
theorem cut_up {n i : Nat} (h : n < 2 ^ i) (hi : i ≤ 8980) : n < 2 ^ 8990 := Nat.lt_of_lt_of_le h (Nat.pow_le_pow_right (by decide) (by omega))
section
variable {K : PySem.W.Frag}
theorem h61 (vs : List V) (H : Hp) (Q : VK) (E : XK) (h : sp61 K vs H Q E) : t61 K { nx := fun _ H' => Q .non H', rt := Q } (start n61 vs) H := by
  obtain ⟨a, b, i, j, x, y, Hs, rfl, hx, hy, za, zb, hij, st, q⟩ := h
  obtain ⟨pa, rfl, sa⟩ := is_q (hx.up st)
  obtain ⟨pb, rfl, sb⟩ := is_q (hy.up st)
  refine ⟨_, rfl, _, _, 0, _, rfl, rfl, sa, rfl, _, rfl, _, _, 0, _, rfl, rfl, sb, rfl, _, _, rfl, rfl, mulw za.n zb.n (by omega), ?_⟩
  refine ⟨_, rfl, _, _, 1, _, rfl, rfl, sa, rfl, _, rfl, _, _, 1, _, rfl, rfl, sb, rfl, _, _, rfl, rfl, mulw za.d zb.d (by omega), ?_⟩
  refine ⟨_, _, Hs, rfl, Int.mul_ne_zero (den_ne a) (den_ne b), cut_up (natAbs_mul_lt za.n zb.n) hij, cut_up (natAbs_mul_lt za.d zb.d) hij, st, fun v Hs' H' e hv => ?_⟩
  rw [quot_mul] at hv
  exact q v Hs' H' e hv
theorem h62 (vs : List V) (H : Hp) (Q : VK) (E : XK) (h : sp62 K vs H Q E) : t62 K { nx := fun _ H' => Q .non H', rt := Q } (start n62 vs) H := by
  obtain ⟨a, b, i, j, x, y, Hs, rfl, hx, hy, za, zb, hij, st, q⟩ := h
  obtain ⟨pa, rfl, sa⟩ := is_q (hx.up st)
  obtain ⟨pb, rfl, sb⟩ := is_q (hy.up st)
  refine ⟨_, rfl, _, _, 0, _, rfl, rfl, sa, rfl, _, rfl, _, _, 1, _, rfl, rfl, sb, rfl, _, _, rfl, rfl, mulw za.n zb.d (by omega), ?_⟩
  refine ⟨_, rfl, _, _, 0, _, rfl, rfl, sb, rfl, _, rfl, _, _, 1, _, rfl, rfl, sa, rfl, _, _, rfl, rfl, mulw zb.n za.d (by omega), _, _, rfl, rfl, ?_⟩
  refine ⟨_, rfl, _, _, 1, _, rfl, rfl, sa, rfl, _, rfl, _, _, 1, _, rfl, rfl, sb, rfl, _, _, rfl, rfl, mulw za.d zb.d (by omega), ?_⟩
  refine ⟨_, _, Hs, rfl, Int.mul_ne_zero (den_ne a) (den_ne b), (cut_sum (natAbs_mul_lt za.n zb.d) (natAbs_mul_lt zb.n za.d) hij (by omega)).2, cut_up (natAbs_mul_lt za.d zb.d) hij, st, fun v Hs' H' e hv => ?_⟩
  rw [quot_sub] at hv
  exact q v Hs' H' e hv
theorem h60 (vs : List V) (H : Hp) (Q : VK) (E : XK) (h : sp60 K vs H Q E) : t60 K { nx := fun _ H' => Q .non H', rt := Q } (start n60 vs) H := by
  obtain ⟨qs, k, x, Hs, rfl, hx, hlen, hk, hz, hs, st, q⟩ := h
  obtain ⟨a, xs, rfl, ha, hxs⟩ := hx.list
  have hl : xs.length = qs.length := by rw [hxs.len, List.length_map]
  refine ⟨by show 2 ≤ sizeLine; decide, fun p0 hp0 => ?_⟩
  have e0 : Ext0 Hs H Hs (upd H p0 (.tup [.int 0, .int 1])) := (Ext.refl st).newM hp0
  refine ⟨p0, _, rfl, SqT.of upd_same, rfl, _, _, rfl, _, _, rfl, rfl, ?_⟩
  refine ⟨_, rfl, a, rfl, ⟨xs, SqL.of (e0.t _ _ ha)⟩, ?_⟩
  refine for_it (walk_list (xs := xs)) (fun i σ H' => ∃ (Hs' : Hp) (y3 y4 : Option V), σ = [some (.ref a), some (.int (sumq (qs.take i)).num), some (.int ((sumq (qs.take i)).den : Int)), y3, y4] ∧ Ext0 Hs H Hs' H')
    ⟨Hs, _, _, rfl, e0⟩ (fun i σ H' _ ⟨Hs', _, _, _, e⟩ => SqL.of (e.t _ _ (e.s _ _ ha))) ?_ ?_
  · rintro i x σ H1 H' hi ⟨Hs', y3, y4, rfl, e1⟩ ⟨rfl, hx⟩
    obtain ⟨d, hd, hxd⟩ := hxs.get' hx
    obtain ⟨b, eb, rfl⟩ := map_get hd
    obtain ⟨pb, rfl, hpb⟩ := is_q hxd
    have hbm := List.mem_of_getElem? eb
    have zb := hz b hbm
    have za := hs i (by omega)
    obtain ⟨s, hs1⟩ : ∃ s, s = sumq (qs.take i) := ⟨_, rfl⟩
    rw [← hs1] at za ⊢
    refine ⟨pb, _, rfl, sqt_up e1.t (sqt_up e1.s hpb), rfl, _, _, rfl, _, _, rfl, rfl, ?_⟩
    refine ⟨_, rfl, _, rfl, _, _, rfl, rfl, mulw za.n zb.d (by omega), _, rfl, _, rfl, _, _, rfl, rfl, mulw zb.n za.d (by omega), _, _, rfl, rfl, _, rfl, _, rfl, _, _, rfl, rfl, mulw za.d zb.d (by omega), ?_⟩
    refine ⟨_, _, Hs', rfl, Int.mul_ne_zero (den_ne s) (den_ne b), (cut_sum (natAbs_mul_lt za.n zb.d) (natAbs_mul_lt zb.n za.d) (by omega) (by omega)).1, cut_up (natAbs_mul_lt za.d zb.d) (by omega), e1.t, fun v Hs2 H2 e2 hv => ?_⟩
    rw [quot_add] at hv
    obtain ⟨pv, rfl, hpv⟩ := is_q (hv.up e2.t)
    refine ⟨pv, _, rfl, hpv, rfl, _, _, rfl, _, _, rfl, rfl, ?_⟩
    refine ⟨Hs2, some (.int b.num), some (.int (b.den : Int)), ?_, e1.trans e2⟩
    rw [take_snoc eb, sumq_snoc, ← hs1]
    rfl
  · rintro σ H1 ⟨Hs', y3, y4, rfl, e1⟩
    rw [hl, List.take_length]
    refine ⟨_, rfl, _, rfl, by show 2 ≤ sizeLine; decide, fun p hp => ?_⟩
    exact q _ _ _ (e1.new hp) (.tup (SqT.of upd_same) (.cons (.int _) (.cons (.int _) .nil)))
theorem h68 (vs : List V) (H : Hp) (Q : VK) (E : XK) (h : sp68 K vs H Q E) : t68 K { nx := fun _ H' => Q .non H', rt := Q } (start n68 vs) H := by
  obtain ⟨a, b, i, j, x, y, rfl, hx, hy, za, zb, hij, q⟩ := h
  obtain ⟨pa, rfl, sa⟩ := is_q hx
  obtain ⟨pb, rfl, sb⟩ := is_q hy
  refine ⟨_, rfl, _, _, 0, _, rfl, rfl, sa, rfl, _, rfl, _, _, 1, _, rfl, rfl, sb, rfl, _, _, rfl, rfl, mulw za.n zb.d (by omega), ?_⟩
  refine ⟨_, rfl, _, _, 0, _, rfl, rfl, sb, rfl, _, rfl, _, _, 1, _, rfl, rfl, sa, rfl, _, _, rfl, rfl, mulw zb.n za.d (by omega), _, _, rfl, ?_⟩
  refine ⟨_, rfl, _, rfl, _, _, rfl, rfl, .inr ⟨_, rfl, ?_⟩⟩
  refine ⟨_, rfl, _, rfl, _, _, rfl, rfl, .inr ⟨_, rfl, ?_⟩⟩
  refine ⟨_, _, rfl, rfl, ?_⟩
  have e1 : decide (b.num * (a.den : Int) < a.num * (b.den : Int)) = decide (b < a) := by rw [Bool.eq_iff_iff, decide_eq_true_iff, decide_eq_true_iff]; exact lt_iff' b a
  have e2 : decide (a.num * (b.den : Int) < b.num * (a.den : Int)) = decide (a < b) := by rw [Bool.eq_iff_iff, decide_eq_true_iff, decide_eq_true_iff]; exact lt_iff' a b
  rw [e1, e2]
  have e3 : (if decide (b < a) = true then (1:Int) else 0) - (if decide (a < b) = true then 1 else 0) = cmpq a b := by
    unfold cmpq
    by_cases c1 : a < b
    · have c2 : ¬ b < a := by grind
      rw [decide_eq_true c1, decide_eq_false c2, if_pos c1]; rfl
    · by_cases c2 : b < a
      · rw [decide_eq_false c1, decide_eq_true c2, if_neg c1, if_pos c2]; rfl
      · rw [decide_eq_false c1, decide_eq_false c2, if_neg c1, if_neg c2]; rfl
  rw [← e3] at q
  exact q
end
end Mh
end
section
set_option Elab.async false
set_option linter.all false
set_option maxRecDepth 100000
set_option maxHeartbeats 4000000
set_option exponentiation.threshold 20000
/-! the law's elimination: the reading -/
namespace Mh
open PySem PySem.Spec PyProof.Rows L2
open C8 (Cal pe_c)
open Evl (ixN_nat)
theorem inv_num {q : Rat} (h : q ≠ 0) : ((q.den : Int) : Rat) / ((q.num : Int) : Rat) = 1 / q := by
  have h1 := num_den' q
  have h2 : ((q.num : Int) : Rat) ≠ 0 := by
    have : q.num ≠ 0 := fun e => h (Rat.num_eq_zero.mp e)
    exact_mod_cast this
  have h3 : ((q.den : Int) : Rat) ≠ 0 := by
    have := den_ne q
    exact_mod_cast this
  rw [← h1]
  grind
section
variable {K : PySem.W.Frag}
theorem h63 (vs : List V) (H : Hp) (Q : VK) (E : XK) (h : sp63 K vs H Q E) : t63 K { nx := fun _ H' => Q .non H', rt := Q } (start n63 vs) H := by
  obtain ⟨m, M0, x, Hs, rfl, hm1, hm, hx, inj, sma, st, q⟩ := h
  obtain ⟨a, xs, rfl, ha, hxs⟩ := hx.list
  have lx : xs.length = m := hxs.flen
  refine ⟨_, rfl, a, rfl, ⟨xs, SqL.of (st _ _ ha)⟩, fun l hl => ?_⟩
  refine lc_map (K := K) (n := xs.length) (walk_list (xs := xs)) st (fun H' s => SqL.of (s _ _ ha)) hl (fun i => vd (m + 1) (M0 i)) (by omega) ?_ ?_
  · rintro i v Hs2 H2 H2' C hi e2 d0 ⟨rfl, hv⟩ kk
    obtain ⟨_, iv⟩ := hxs.fget' hv
    obtain ⟨b, zs, rfl, hb, hzs⟩ := is_vd iv
    refine ⟨rfl, _, rfl, b, zs, rfl, .inl (SqL.of (e2.t _ _ (e2.s _ _ hb))), fun u hu => ?_⟩
    exact kk _ _ _ ((Ext.refl e2.t).new hu) (.lst upd_same ((hzs.up e2.s).up (same_new (e2.t.free hu))))
  intro Hs1 H1 ys e1 l0 l1 hys
  rw [lx] at hys
  have hys : IsA K Hs1 ys (fl m fun i => vd (m + 1) (M0 i)) := hys
  obtain ⟨v0, ev0, iv0⟩ := hys.fget (i := 0) (by omega)
  obtain ⟨b0, zs0, rfl, hb0, hzs0⟩ := is_vd iv0
  have lz0 := hzs0.flen
  refine ⟨_, rfl, l, ys, _, _, rfl, rfl, SqL.of l1, atI_nat (j := 0) ev0, b0, zs0, rfl, .inl (SqL.of (e1.t _ _ hb0)), _, _, rfl, rfl, ?_⟩
  have emz : ((zs0.length : Nat) : Int) - 1 = (m : Int) := by omega
  refine ⟨Nat.zero_le _, fun d hd => ?_⟩
  have nld : l ≠ d := ne_of_none l1 hd
  have hdH : H d = none := e1.free hd
  have e2 := e1.newM (o := .lst []) hd
  refine ⟨_, rfl, _, rfl, by omega, by omega, ?_⟩
  have en : (((zs0.length : Nat) : Int) - 1).toNat = m := by omega
  rw [en]
  refine for_it walk_rng0 (fun c σ H' => ∃ (Hs' : Hp) (ys : List V) (S : List Nat) (M : Nat → Row) (y3 y4 y5 y6 y7 y8 y9 y10 : Option V), σ = [some (.ref l), some (.int (((zs0.length : Nat) : Int) - 1)), some (.ref d), y3, y4, y5, y6, y7, y8, y9, y10] ∧ Ext0 Hs H Hs' H' ∧ Hs' l = none ∧ H' l = some (.lst ys) ∧ Hs' d = none ∧ H' d = some (.lst (vi S)) ∧
      S.length = c ∧ GJ m (m + 1) M0 S M ∧ IsA K Hs' ys (fl m fun i => vd (m + 1) (M i)))
    ⟨Hs1, ys, [], M0, _, _, _, _, _, _, _, _, rfl, e2, l0, by rw [upd_ne nld]; exact l1, e1.t.free hd, upd_same, rfl, GJ.init _ _ _, hys⟩
    (fun _ _ _ _ _ => trivial) ?_ ?_
  · rintro c x σ H2 H2' hc ⟨Hs2, ys, S, M, y3, y4, y5, y6, y7, y8, y9, y10, rfl, e3, k0, k1, d0, d1, lS, g, hys⟩ ⟨rfl, rfl⟩
    have lys : ys.length = m := hys.flen
    have szM := sma _ _ g
    obtain ⟨r0, hr0, rn0, rp0⟩ := g.pivot inj (by rw [lS]; exact hc)
    rw [lS] at rp0
    -- the search
    refine ⟨_, rfl, l, ys, rfl, .inl (SqL.of k1), _, rfl, by omega, by omega, ?_⟩
    have en2 : ((ys.length : Nat) : Int).toNat = m := by omega
    rw [en2]
    refine for_it walk_rng0 (fun k σ H' => H' = H2' ∧ ∃ (at_ : Option Nat) (y5 : Option V), σ = [some (.ref l), some (.int (((zs0.length : Nat) : Int) - 1)), some (.ref d), some (.int (c : Nat)), some (match at_ with | none => V.non | some r => .int (r : Int)), y5, y6, y7, y8, y9, y10] ∧ (at_ = none → ∀ k', k' < k → k' ∈ S ∨ M k' c = 0) ∧ (∀ r, at_ = some r → r < m ∧ r ∉ S ∧ M r c ≠ 0))
      ⟨rfl, none, _, rfl, fun _ k' hk' => absurd hk' (by omega), fun r z => by cases z⟩ (fun _ _ _ _ _ => trivial) ?_ ?_
    · rintro k x σ H3 H3' hk ⟨rfl, at_, y5, rfl, hno, hyes⟩ ⟨rfl, rfl⟩
      refine ⟨_, rfl, _, rfl, ?_⟩
      cases at_ with
      | some r =>
        refine iteF ?_
        refine iteF ?_
        exact ⟨rfl, some r, _, rfl, (fun z => by cases z), hyes⟩
      | none =>
        refine iteT ?_
        refine ⟨_, rfl, _, rfl, d, vi S, rfl, .inl (SqL.of d1), rfl, vi_flat _, _, rfl, ?_⟩
        rw [vi_in]
        by_cases hkS : k ∈ S
        · rw [decide_eq_true hkS]
          refine iteF ?_
          refine iteF ?_
          refine ⟨rfl, none, _, rfl, fun _ k' hk' => ?_, fun r z => by cases z⟩
          by_cases ck : k' = k
          · subst ck; exact .inl hkS
          · exact hno rfl k' (by omega)
        · rw [decide_eq_false hkS]
          refine iteT ?_
          obtain ⟨v, ev, iv⟩ := hys.fget hk
          obtain ⟨b, zs, rfl, hb, hzs⟩ := is_vd iv
          obtain ⟨u, eu, iu⟩ := hzs.fget (i := c) (by omega)
          obtain ⟨pu, rfl, hpu⟩ := is_q (iu.up e3.t)
          refine ⟨_, rfl, _, rfl, l, ys, _, _, rfl, rfl, SqL.of k1, atI_nat ev, _, rfl, b, zs, _, _, rfl, rfl, SqL.of (e3.t _ _ hb), atI_nat eu, pu, _, 0, _, rfl, rfl, hpu, rfl, rfl, _, rfl, ?_⟩
          by_cases hz : M k c = 0
          · rw [decide_eq_true (show V.int (M k c).num = V.int 0 by rw [hz]; rfl)]
            refine iteF ?_
            refine ⟨rfl, none, _, rfl, fun _ k' hk' => ?_, fun r z => by cases z⟩
            by_cases ck : k' = k
            · subst ck; exact .inr hz
            · exact hno rfl k' (by omega)
          · rw [decide_eq_false (show ¬ V.int (M k c).num = V.int 0 from fun z => hz (Rat.num_eq_zero.mp (V.int.inj z)))]
            refine iteT ?_
            exact ⟨_, rfl, rfl, some k, _, rfl, (fun z => by cases z), fun r z => by cases z; exact ⟨hk, hkS, hz⟩⟩
    · rintro σ H3 ⟨rfl, at_, y5, rfl, hno, hyes⟩
      refine ⟨_, rfl, _, rfl, ?_⟩
      cases at_ with
      | none =>
        exfalso
        rcases hno rfl r0 hr0 with z | z
        · exact rn0 z
        · exact rp0 z
      | some r =>
        refine iteF ?_
        obtain ⟨rm, rnS, rp⟩ := hyes r rfl
        have g' := g.step rm rnS (by rw [lS]; exact rp)
        rw [lS] at g'
        have szP := sma _ _ g'
        refine ⟨_, rfl, .inl ⟨rfl, _, .inl (.inl d1)⟩, _, rfl, d, vi S, _, rfl, rfl, d1, big_lt (by rw [vi_len]; omega), ?_⟩
        have e4 := e3.mut (o := .lst (vi S ++ [.int (r : Int)])) (.inl hdH) d0
        have k4 : (upd H3 d (.lst (vi S ++ [.int (r : Int)]))) l = some (.lst ys) := by rw [upd_ne nld]; exact k1
        have d4 : (upd H3 d (.lst (vi S ++ [.int (r : Int)]))) d = some (.lst (vi (S ++ [r]))) := by rw [upd_same]; simp [vi]
        generalize hH4 : upd H3 d (.lst (vi S ++ [.int (r : Int)])) = H4 at e4 k4 d4
        obtain ⟨vr, evr, ivr⟩ := hys.fget rm
        obtain ⟨br, zr', rfl, hbr, hzr⟩ := is_vd ivr
        obtain ⟨u, eu, iu⟩ := hzr.fget (i := c) (by omega)
        obtain ⟨pu, rfl, hpu⟩ := is_q (iu.up e4.t)
        have hb4 := e4.t _ _ hbr
        refine ⟨_, rfl, _, rfl, l, ys, _, _, rfl, rfl, SqL.of k4, atI_nat evr, _, rfl, br, zr', _, _, rfl, rfl, SqL.of hb4, atI_nat eu, pu, _, 1, _, rfl, rfl, hpu, rfl, ?_⟩
        refine ⟨_, rfl, _, rfl, l, ys, _, _, rfl, rfl, SqL.of k4, atI_nat evr, _, rfl, br, zr', _, _, rfl, rfl, SqL.of hb4, atI_nat eu, pu, _, 0, _, rfl, rfl, hpu, rfl, ?_⟩
        have szr := szM r rm c (by omega)
        have hnum : (M r c).num ≠ 0 := fun z => rp (Rat.num_eq_zero.mp z)
        refine ⟨_, _, Hs2, rfl, hnum, cut_up szr.d (by decide), cut_up szr.n (by decide), e4.t, fun w Hs5 H5 e5 hw => ?_⟩
        rw [inv_num rp] at hw
        obtain ⟨k5, k6⟩ := e5.own (fun z => z) k4 k0
        obtain ⟨d5, d6⟩ := e5.own (fun z => z) d4 d0
        have szB : Sz 2900 (1 / M r c) := szr.inv rp
        have hb5 := e5.s _ _ hbr
        refine ⟨_, rfl, _, rfl, l, ys, _, _, rfl, rfl, SqL.of k6, atI_nat evr, br, rfl, ⟨zr', SqL.of (e5.t _ _ hb5)⟩, fun D2 hD2 => ?_⟩
        refine lc_map (K := K) (Hs := Hs5) (n := zr'.length) (walk_list (xs := zr')) e5.t (fun H' s => SqL.of (s _ _ hb5)) hD2 (fun k => qd (piv M r c r k)) (by rw [hzr.flen]; omega) ?_ ?_
        · rintro k x Hs6 H6 H6' C hk e6 dd ⟨rfl, hx⟩ kk
          obtain ⟨hk2, ix⟩ := hzr.fget' hx
          refine ⟨rfl, _, rfl, _, rfl, M r k, 1 / M r c, 2900, 2900, x, w, Hs6, rfl, (ix.up e5.s).up e6.s, hw.up e6.s, szM r rm k hk2, szB, by decide, e6.t, fun w4 Hs7 H7 e7 hw4 => kk w4 Hs7 H7 e7 ?_⟩
          have : piv M r c r k = M r k * (1 / M r c) := by unfold piv; rw [if_pos rfl]; grind
          rw [this]
          exact hw4
        · intro Hs6 H6 ws2 e6 D20 D21 hw6
          rw [hzr.flen] at hw6
          obtain ⟨k7, k8⟩ := e6.own (fun z => z) k6 k5
          obtain ⟨d7, d8⟩ := e6.own (fun z => z) d6 d5
          have nD2l : l ≠ D2 := ne_of_none k6 hD2
          have nD2d : d ≠ D2 := ne_of_none d6 hD2
          refine ⟨_, rfl, _, rfl, l, ys, _, r, rfl, rfl, k8, ixN_nat (by omega), ?_⟩
          have e7 : Ext0 Hs H (upd Hs6 D2 (.lst ws2)) (upd H6 l (.lst (ys.set r (.ref D2)))) :=
            (((e4.trans e5).trans e6).frz (e4.free (e5.free hD2)) D20 D21).mut (.inl hl) (by rw [upd_ne nD2l]; exact k7)
          have s7 : Same Hs2 (upd Hs6 D2 (.lst ws2)) := (e5.s.trans e6.s).trans (same_new D20)
          have hZ : IsA K (upd Hs6 D2 (.lst ws2)) (ys.set r (.ref D2)) (fl m fun i => vd (m + 1) (if i < 0 ∨ i = r then piv M r c i else M i)) := by
            refine ((hys.up s7).fset r (.lst upd_same (hw6.up (same_new D20)))).fcongr fun i hi => ?_
            show (if i = r then vd (m + 1) (piv M r c r) else _) = _
            by_cases z : i = r
            · rw [if_pos z, if_pos (.inr z), z]
            · rw [if_neg z, if_neg (by omega)]
          have lZ := hZ.flen
          refine ⟨_, rfl, l, _, rfl, .inl (SqL.of upd_same), _, rfl, by omega, by omega, ?_⟩
          have en3 : (((ys.set r (V.ref D2)).length : Nat) : Int).toNat = m := by omega
          rw [en3]
          refine for_it walk_rng0 (fun k σ H' => ∃ (Hs' : Hp) (zs : List V) (y5 y7 y8 y9 y10 : Option V), σ = [some (.ref l), some (.int (((zs0.length : Nat) : Int) - 1)), some (.ref d), some (.int (c : Nat)), some (.int (r : Int)), y5, some w, y7, y8, y9, y10] ∧ Ext0 Hs H Hs' H' ∧ Hs' l = none ∧ H' l = some (.lst zs) ∧ Hs' d = none ∧ H' d = some (.lst (vi (S ++ [r]))) ∧
              IsA K Hs' zs (fl m fun i => vd (m + 1) (if i < k ∨ i = r then piv M r c i else M i)))
            ⟨_, _, _, _, _, _, _, rfl, e7, by rw [upd_ne nD2l]; exact k7, upd_same, by rw [upd_ne nD2d]; exact d7, by rw [upd_ne nld.symm]; exact d8, hZ⟩ (fun _ _ _ _ _ => trivial) ?_ ?_
          · rintro k x σ H7 H7' hk ⟨Hs7, zs, y5, y7, y8, y9, y10, rfl, e8, m0, m1, q0, q1, hzs⟩ ⟨rfl, rfl⟩
            have lzs := hzs.flen
            have keep : k = r ∨ (k ≠ r ∧ M k c = 0) → IsA K Hs7 zs (fl m fun i => vd (m + 1) (if i < k + 1 ∨ i = r then piv M r c i else M i)) := fun hz => hzs.fcongr fun i hi => by
              by_cases z1 : i < k ∨ i = r
              · rw [if_pos z1, if_pos (by omega)]
              · rw [if_neg z1]
                by_cases z2 : i = k
                · rw [if_pos (by omega)]
                  rcases hz with z3 | ⟨z3, z4⟩
                  · omega
                  · subst z2
                    congr 1
                    funext jj
                    unfold piv
                    rw [if_neg z3, z4]; grind
                · rw [if_neg (by omega)]
            obtain ⟨vk, evk, ivk⟩ := hzs.fget hk
            obtain ⟨bk, zk', rfl, hbk, hzk⟩ := is_vd ivk
            obtain ⟨uk, euk, iuk⟩ := hzk.fget (i := c) (by omega)
            obtain ⟨pk, rfl, hpk⟩ := is_q (iuk.up e8.t)
            refine ⟨_, rfl, _, rfl, l, zs, _, _, rfl, rfl, SqL.of m1, atI_nat evk, _, rfl, bk, zk', _, _, rfl, rfl, SqL.of (e8.t _ _ hbk), atI_nat euk, ?_⟩
            refine ⟨_, rfl, _, rfl, rfl, _, rfl, ?_⟩
            by_cases hkr : k = r
            · rw [decide_eq_true (show V.int ((k : Nat) : Int) = V.int ((r : Nat) : Int) by rw [hkr])]
              refine iteF ?_
              refine iteF ?_
              exact ⟨Hs7, zs, _, _, _, _, _, rfl, e8, m0, m1, q0, q1, keep (.inl hkr)⟩
            · rw [decide_eq_false (show ¬ V.int ((k : Nat) : Int) = V.int ((r : Nat) : Int) from fun z => hkr (by have := V.int.inj z; omega))]
              refine iteT ?_
              rw [if_neg (show ¬ (k < k ∨ k = r) by omega)] at hzk iuk hpk
              refine ⟨_, rfl, pk, _, 0, _, rfl, rfl, hpk, rfl, rfl, _, rfl, ?_⟩
              by_cases hz : M k c = 0
              · rw [decide_eq_true (show V.int (M k c).num = V.int 0 by rw [hz]; rfl)]
                refine iteF ?_
                exact ⟨Hs7, zs, _, _, _, _, _, rfl, e8, m0, m1, q0, q1, keep (.inr ⟨hkr, hz⟩)⟩
              · rw [decide_eq_false (show ¬ V.int (M k c).num = V.int 0 from fun z => hz (Rat.num_eq_zero.mp (V.int.inj z)))]
                refine iteT ?_
                obtain ⟨vc, evc, ivc⟩ := hzs.fget rm
                rw [if_pos (.inr rfl)] at ivc
                obtain ⟨bc, zc, rfl, hbc, hzc⟩ := is_vd ivc
                refine ⟨_, rfl, _, _, rfl, rfl, _, rfl, by omega, by omega, fun D3 hD3 => ?_⟩
                have en4 : (((zs0.length : Nat) : Int) - 1 + 1).toNat = m + 1 := by omega
                rw [en4]
                have e8' := e8
                refine lc_map (K := K) (Hs := Hs7) (n := m + 1) walk_rng0 e8.t (fun _ _ => trivial) hD3 (fun jj => qd (M k jj - M k c * piv M r c r jj)) (by omega) ?_ ?_
                · rintro jj x Hs8 H8 H8' C hjj e9 dd ⟨rfl, rfl⟩ kk
                  obtain ⟨m2, m3⟩ := e9.own (fun z => z) m1 m0
                  obtain ⟨u1, eu1, iu1⟩ := hzk.fget hjj
                  obtain ⟨u2, eu2, iu2⟩ := hzc.fget hjj
                  refine ⟨rfl, _, rfl, _, rfl, l, zs, _, _, rfl, rfl, SqL.of m3, atI_nat evk, _, rfl, bk, zk', _, u1, rfl, rfl, SqL.of (e9.t _ _ (e9.s _ _ hbk)), atI_nat eu1, ?_⟩
                  refine ⟨_, rfl, _, rfl, _, rfl, l, zs, _, _, rfl, rfl, SqL.of m3, atI_nat evc, _, rfl, bc, zc, _, u2, rfl, rfl, SqL.of (e9.t _ _ (e9.s _ _ hbc)), atI_nat eu2, ?_⟩
                  refine ⟨M k c, piv M r c r jj, 2900, 2900, _, u2, Hs8, rfl, iuk.up e9.s, iu2.up e9.s, szM k hk c (by omega), szP r rm jj hjj, by decide, e9.t, fun w5 Hs9 H9 e10 hw5 => ?_⟩
                  exact ⟨M k jj, M k c * piv M r c r jj, 2900, 5800, u1, w5, Hs9, rfl, (iu1.up e9.s).up e10.s, hw5, szM k hk jj hjj, (szM k hk c (by omega)).mul (szP r rm jj hjj), by decide, e10.t, fun w6 Hs10 H10 e11 hw6 => kk w6 Hs10 H10 (e10.trans e11) hw6⟩
                · intro Hs8 H8 ws8 e9 D30 D31 hw8
                  obtain ⟨n0, n1⟩ := e9.own (fun z => z) m1 m0
                  obtain ⟨q2, q3⟩ := e9.own (fun z => z) q1 q0
                  have nD3l : l ≠ D3 := ne_of_none m1 hD3
                  have nD3d : d ≠ D3 := ne_of_none q1 hD3
                  refine ⟨_, rfl, _, rfl, l, zs, _, k, rfl, rfl, n1, ixN_nat (by omega), ?_⟩
                  have n2 : (upd Hs8 D3 (.lst ws8)) l = none := by rw [upd_ne nD3l]; exact n0
                  refine ⟨upd Hs8 D3 (.lst ws8), zs.set k (.ref D3), _, _, _, _, _, rfl, ((e8.trans e9).frz (e8.free hD3) D30 D31).mut (.inl hl) n2, n2, upd_same, by rw [upd_ne nD3d]; exact q2, by rw [upd_ne nld.symm]; exact q3, ?_⟩
                  refine (((hzs.up e9.s).up (same_new D30)).fset k (.lst upd_same (hw8.up (same_new D30)))).fcongr fun i hi => ?_
                  by_cases z1 : i = k
                  · rw [if_pos z1, if_pos (by omega), z1]
                    show vd (m + 1) _ = _
                    congr 1
                    funext jj
                    unfold piv
                    rw [if_pos rfl, if_neg hkr]
                  · rw [if_neg z1]
                    by_cases z2 : i < k ∨ i = r
                    · rw [if_pos z2, if_pos (by omega)]
                    · rw [if_neg z2, if_neg (by omega)]
          · rintro σ H7 ⟨Hs7, zs, y5, y7, y8, y9, y10, rfl, e8, m0, m1, q0, q1, hzs⟩
            exact ⟨Hs7, zs, S ++ [r], piv M r c, _, _, _, _, _, _, _, _, rfl, e8, m0, m1, q0, q1, by rw [List.length_append, lS]; rfl, g', hzs.fcongr fun i hi => by rw [if_pos (.inl hi)]⟩
  · rintro σ H2 ⟨Hs2, ys, S, M, y3, y4, y5, y6, y7, y8, y9, y10, rfl, e3, k0, k1, d0, d1, lS, g, hys⟩
    have e4 := (e3.frz hl k0 k1).frz hdH (by rw [upd_ne nld.symm]; exact d0) d1
    have hd4 : (upd (upd Hs2 l (.lst ys)) d (.lst (vi S))) d = some (.lst (vi S)) := upd_same
    have hl4 : (upd (upd Hs2 l (.lst ys)) d (.lst (vi S))) l = some (.lst ys) := by rw [upd_ne nld]; exact upd_same
    have s4 : Same Hs2 (upd (upd Hs2 l (.lst ys)) d (.lst (vi S))) := (same_new k0).trans (same_new (by rw [upd_ne nld.symm]; exact d0))
    refine ⟨_, rfl, d, rfl, ⟨vi S, SqL.of d1⟩, fun D hD => ?_⟩
    refine lc_map (K := K) (n := (vi S).length) (walk_list (xs := vi S)) e4.t (fun H' s => SqL.of (s _ _ hd4)) hD (fun k => qd (M (S.getD k 0) m)) (by rw [vi_len]; omega) ?_ ?_
    · rintro k v Hs5 H5 H5' C hk e5 dd ⟨rfl, hv⟩ kk
      obtain ⟨r, er, rfl⟩ := vi_get hv
      have gr : S.getD k 0 = r := by simp [List.getD, er]
      have rm : r < m := g.lt r (List.mem_of_getElem? er)
      obtain ⟨v1, ev1, iv1⟩ := hys.fget rm
      obtain ⟨b, zs, rfl, hb, hzs⟩ := is_vd iv1
      obtain ⟨u, eu, iu⟩ := hzs.fget (i := m) (by omega)
      have s5 := s4.trans e5.s
      refine ⟨rfl, _, rfl, _, rfl, l, ys, _, _, rfl, rfl, SqL.of (e5.t _ _ (e5.s _ _ hl4)), atI_nat ev1, _, rfl, b, zs, _, u, rfl, rfl, SqL.of (e5.t _ _ (s5 _ _ hb)), by rw [emz]; exact atI_nat eu, ?_⟩
      refine kk _ _ _ (Ext.refl e5.t) ?_
      rw [gr]
      exact iu.up s5
    · intro Hs5 H5 ws e5 dd0 dd1 hw
      rw [vi_len, lS] at hw
      exact q _ _ _ (fun k => M (S.getD k 0) m) ((e4.trans e5).frz (e4.free hD) dd0 dd1) ⟨S, M, g, lS, fun a ha => rfl⟩ (.lst upd_same (hw.up (same_new dd0)))
end
end Mh
end
section
set_option Elab.async false
set_option linter.all false
set_option maxRecDepth 100000
set_option maxHeartbeats 4000000
set_option exponentiation.threshold 20000
/-! the law's flow: the reading -/
namespace Mh
open PySem PySem.Spec PyProof.Rows L2
open C8 (Cal pe_c)
open Evl (ixN_nat)
theorem sz_two {a b : Rat} {k : Nat} (ha : Sz k a) (hab : Sz k (a + b)) (hk : 0 < k) : ∀ i, i ≤ [a, b].length → Sz k (sumq ([a, b].take i)) := by
  intro i hi
  have hi : i ≤ 2 := hi
  have : i = 0 ∨ i = 1 ∨ i = 2 := by omega
  rcases this with rfl | rfl | rfl
  · exact Sz.zero hk
  · show Sz k (a + 0); rw [Rat.add_zero]; exact ha
  · show Sz k (a + (b + 0)); rw [Rat.add_zero]; exact hab
theorem sumq_two (a b : Rat) : sumq [a, b] = a + b := by show a + (b + 0) = a + b; grind
section
variable {K : PySem.W.Frag}
theorem h64 (vs : List V) (H : Hp) (Q : VK) (E : XK) (h : sp64 K vs H Q E) : t64 K { nx := fun _ H' => Q .non H', rt := Q } (start n64 vs) H := by
  obtain ⟨n, C, x, Hs, rfl, hC, hn, hx, st, q⟩ := h
  obtain ⟨a, xs, rfl, ha, hxs⟩ := is_gd hx
  have lx : xs.length = n := by rw [hxs.flen, hC.len]
  refine ⟨Nat.zero_le _, fun l hl => ?_⟩
  have e0 : Ext0 Hs H Hs (upd H l (.lst [])) := (Ext.refl st).newM hl
  refine ⟨_, rfl, a, rfl, ⟨xs, SqL.of (e0.t _ _ ha)⟩, ?_⟩
  refine for_it (walk_list (xs := xs)) (fun i τ H' => ∃ (Hs' : Hp) (ys : List V) (y2 y3 y4 y5 y6 y7 y8 : Option V), τ = [some (.ref a), some (.ref l), y2, y3, y4, y5, y6, y7, y8] ∧ Ext0 Hs H Hs' H' ∧ Hs' l = none ∧ H' l = some (.lst ys) ∧ IsA K Hs' ys (fl i fun x => vd n (Pm C x)))
    ⟨Hs, [], _, _, _, _, _, _, _, rfl, e0, st.free hl, upd_same, .nil⟩ (fun i τ H' _ ⟨Hs', _, _, _, _, _, _, _, _, _, e, _⟩ => SqL.of (e.t _ _ (e.s _ _ ha))) ?_ ?_
  · rintro i v τ H1 H1' hi ⟨Hs1, ys, y2, y3, y4, y5, y6, y7, y8, rfl, e1, l0, l1, iys⟩ ⟨rfl, hv⟩
    obtain ⟨hi2, ix⟩ := hxs.fget' hv
    rw [hC.len] at hi2
    have lys := iys.flen
    have hP := hC.at hi2
    obtain ⟨c, gq, bb, bs, rfl, hc, ig, hbs, ibs⟩ := is_pd ix
    rw [hP.dr] at ibs
    have lbs : bs.length = (pl C i).bs.length := by rw [ibs.len, List.length_map]
    have ha1 := e1.s _ _ ha
    refine ⟨c, _, rfl, sqt_up e1.t (sqt_up e1.s hc), rfl, _, _, rfl, _, _, rfl, _, _, rfl, rfl, ?_⟩
    refine ⟨_, rfl, a, rfl, ⟨xs, SqL.of (e1.t _ _ ha1)⟩, fun p hp => ?_⟩
    refine lc_map (K := K) (Hs := Hs1) (n := xs.length) (walk_list (xs := xs)) e1.t (fun H' s => SqL.of (s _ _ ha1)) hp (fun _ => qd 0) (by omega) ?_ ?_
    · rintro j v Hs2 H2 H2' C' hj e2 d0 ⟨rfl, hv2⟩ kk
      refine ⟨rfl, by show 2 ≤ sizeLine; decide, fun u hu => ?_⟩
      exact kk _ _ _ ((Ext.refl e2.t).new hu) (.tup (SqT.of upd_same) (.cons (.int 0) (.cons (.int 1) .nil)))
    intro Hs2 H2 ws e2 p0 p1 hws
    rw [lx] at hws
    obtain ⟨l2, l3⟩ := e2.own (fun z => z) l1 l0
    have npl : l ≠ p := ne_of_none l1 hp
    have hpH : H p = none := e1.free hp
    have e3 := e1.trans e2
    have hbs2 := e3.s _ _ hbs
    refine ⟨_, rfl, bb, rfl, ⟨bs, SqL.of (e3.t _ _ hbs2)⟩, ?_⟩
    refine for_it (walk_list (xs := bs)) (fun k σ H' => ∃ (Hs' : Hp) (zs : List V) (y6 y7 : Option V), σ = [some (.ref a), some (.ref l), some gq, some (.str (pl C i).k.s), some (.ref bb), some (.ref p), y6, y7, y8] ∧ Same Hs1 Hs' ∧ Ext0 Hs H Hs' H' ∧ Hs' l = none ∧ H' l = some (.lst ys) ∧ Hs' p = none ∧ H' p = some (.lst zs) ∧ IsA K Hs' zs (fl n fun j => qd (wt ((pl C i).bs.take k) j)))
      ⟨Hs2, ws, _, _, rfl, e2.s, e3, l2, l3, p0, p1, hws⟩ (fun k σ H' _ ⟨Hs', _, _, _, _, _, e, _⟩ => SqL.of (e.t _ _ (e.s _ _ hbs))) ?_ ?_
    · rintro k v σ H4 H4' hk ⟨Hs4, zs, y6, y7, rfl, s4, e4, l4, l5, p2, p3, hzs⟩ ⟨rfl, hv4⟩
      obtain ⟨dd, hdd, iy⟩ := ibs.get' hv4
      obtain ⟨br, ebr, rfl⟩ := map_get hdd
      obtain ⟨pp, v1, v2, rfl, hpp, i1, i2⟩ := (show Is K Hs v (.tuple [qd br.1, .int (br.2 : Int)]) from iy).pair
      cases i2.int'
      have hbm : br ∈ (pl C i).bs := List.mem_of_getElem? ebr
      have hbn := hP.t br hbm
      obtain ⟨u, eu, iu⟩ := hzs.fget hbn
      refine ⟨pp, _, rfl, sqt_up e4.t (sqt_up e4.s hpp), rfl, v1, _, rfl, _, _, rfl, rfl, ?_⟩
      refine ⟨_, rfl, _, rfl, p, zs, _, u, rfl, rfl, SqL.of p3, atI_nat eu, v1, rfl, by show 2 ≤ sizeLine; decide, fun w hw => ?_⟩
      have npw : p ≠ w := ne_of_none p3 hw
      have nlw : l ≠ w := ne_of_none l5 hw
      have e5 := e4.new (o := .lst [u, v1]) hw
      have sn := same_new (o := .lst [u, v1]) (e4.t.free hw)
      have z1 : Sz 10 (wt ((pl C i).bs.take k) br.2) := (hP.frac ((List.filter_sublist.trans (List.take_sublist _ _)).map _)).2.2
      have ew : wt ((pl C i).bs.take (k + 1)) br.2 = wt ((pl C i).bs.take k) br.2 + br.1 := by rw [take_snoc ebr, wt_snoc, if_pos rfl]
      have z2 : Sz 10 (wt ((pl C i).bs.take k) br.2 + br.1) := by rw [← ew]; exact (hP.frac ((List.filter_sublist.trans (List.take_sublist _ _)).map _)).2.2
      refine ⟨[wt ((pl C i).bs.take k) br.2, br.1], 10, _, _, rfl, .lst upd_same (.cons (iu.up sn) (.cons ((i1.up e4.s).up sn) .nil)), by show 2 ≤ 1000; decide, by decide, fun q hq => ?_, sz_two z1 z2 (by decide), e5.t, fun v7 Hs7 H7 e7 hv7 => ?_⟩
      · rcases List.mem_cons.mp hq with z | z
        · rw [z]; exact z1
        · cases List.mem_singleton.mp z; exact (hP.one_sz hbm).2
      · rw [sumq_two, ← ew] at hv7
        obtain ⟨p4, p5⟩ := e7.own (fun z => z) (show (upd H4' w (.lst [u, v1])) p = some (.lst zs) by rw [upd_ne npw]; exact p3) (by rw [upd_ne npw]; exact p2)
        obtain ⟨l6, l7⟩ := e7.own (fun z => z) (show (upd H4' w (.lst [u, v1])) l = some (.lst ys) by rw [upd_ne nlw]; exact l5) (by rw [upd_ne nlw]; exact l4)
        have lzs := hzs.flen
        refine ⟨_, rfl, _, rfl, p, zs, _, br.2, rfl, rfl, p5, ixN_nat (by omega), ?_⟩
        refine ⟨Hs7, _, _, _, rfl, (s4.trans sn).trans e7.s, (e5.trans e7).mut (.inl hpH) p4, l6, by rw [upd_ne npl]; exact l7, p4, upd_same, ?_⟩
        refine (((hzs.up sn).up e7.s).fset br.2 hv7).fcongr fun j hj => ?_
        by_cases cj : j = br.2
        · rw [if_pos cj, cj]
        · rw [if_neg cj, take_snoc ebr, wt_snoc, if_neg (show ¬ br.2 = j from fun z => cj z.symm), Rat.add_zero]
    · rintro σ H4 ⟨Hs4, zs, y6, y7, rfl, s4, e4, l4, l5, p2, p3, hzs⟩
      rw [List.take_of_length_le (Nat.le_of_eq lbs.symm)] at hzs
      refine ⟨_, rfl, .inl ⟨rfl, _, .inl (.inl l5)⟩, _, rfl, l, ys, _, rfl, rfl, l5, big_lt (by omega), ?_⟩
      have e5 := e4.frz hpH p2 p3
      have l6 : (upd Hs4 p (.lst zs)) l = none := by rw [upd_ne npl]; exact l4
      refine ⟨_, _, _, _, _, _, _, _, _, rfl, e5.mut (.inl hl) l6, l6, upd_same, ?_⟩
      rw [fl_snoc]
      exact ((iys.up s4).up (same_new p2)).append (.cons (.lst upd_same (hzs.up (same_new p2))) .nil)
  · rintro τ H1 ⟨Hs1, ys, y2, y3, y4, y5, y6, y7, y8, rfl, e1, l0, l1, iys⟩
    rw [lx] at iys
    exact ⟨_, rfl, q _ _ _ (e1.frz hl l0 l1) (.lst upd_same (iys.up (same_new l0)))⟩
end
end Mh
end
section
set_option Elab.async false
set_option linter.all false
set_option maxRecDepth 100000
set_option maxHeartbeats 4000000
set_option exponentiation.threshold 20000
/-! the law's settling: the reading -/
namespace Mh
open PySem PySem.Spec PyProof.Rows L2
open C8 (Cal pe_c)
open Evl (ixN_nat)
def fwS (A : Nat → Nat → Bool) (t : Nat) : Nat → Nat → Bool := fun k x => A k x || (A k t && A t x)
structure FwI (n : Nat) (P : Mat) (t : Nat) (A : Nat → Nat → Bool) : Prop where
  refl : ∀ k, k < n → A k k = true
  one : ∀ k x, k < n → x < n → 0 < P k x → A k x = true
  sound : ∀ k x, k < n → x < n → A k x = true → Rc n P k x
  tr : ∀ m, m < t → m < n → ∀ k x, k < n → x < n → A k m = true → A m x = true → A k x = true
theorem FwI.step {n : Nat} {P : Mat} {t : Nat} {A : Nat → Nat → Bool} (h : FwI n P t A) (ht : t < n) : FwI n P (t + 1) (fwS A t) := by
  have iff : ∀ k x, fwS A t k x = true ↔ A k x = true ∨ (A k t = true ∧ A t x = true) := fun k x => by
    unfold fwS; rw [Bool.or_eq_true, Bool.and_eq_true]
  refine ⟨fun k hk => (iff k k).mpr (.inl (h.refl k hk)), fun k x hk hx hp => (iff k x).mpr (.inl (h.one k x hk hx hp)), fun k x hk hx ha => ?_, fun m hm hmn k x hk hx h1 h2 => ?_⟩
  · rcases (iff k x).mp ha with z | ⟨z1, z2⟩
    · exact h.sound k x hk hx z
    · exact (h.sound k t hk ht z1).trans (h.sound t x ht hx z2)
  · by_cases c : m = t
    · subst c
      rw [iff] at h1 h2
      refine (iff k x).mpr (.inr ⟨?_, ?_⟩)
      · rcases h1 with z | ⟨z, _⟩ <;> exact z
      · rcases h2 with z | ⟨_, z⟩ <;> exact z
    · have hm' : m < t := by omega
      refine (iff k x).mpr ?_
      rcases (iff k m).mp h1 with a | ⟨a1, a2⟩
      · rcases (iff m x).mp h2 with b | ⟨b1, b2⟩
        · exact .inl (h.tr m hm' hmn k x hk hx a b)
        · exact .inr ⟨h.tr m hm' hmn k t hk ht a b1, b2⟩
      · rcases (iff m x).mp h2 with b | ⟨b1, b2⟩
        · exact .inr ⟨a1, h.tr m hm' hmn t x ht hx a2 b⟩
        · exact .inr ⟨a1, b2⟩
theorem FwI.done {n : Nat} {P : Mat} {A : Nat → Nat → Bool} (h : FwI n P n A) {k x : Nat} (hk : k < n) (hx : x < n) : A k x = true ↔ Rc n P k x := by
  refine ⟨h.sound k x hk hx, fun hr => ?_⟩
  clear hx
  induction hr with
  | refl => exact h.refl k hk
  | @step y z hy hz hp ih =>
    have hyn := hy.lt hk
    exact h.tr y hyn hyn k z hk hz ih (h.one y z hyn hz hp)
theorem fw_zero {n : Nat} {P : Mat} : FwI n P 0 (fun k x => decide (k = x) || decide (0 < P k x)) := by
  refine ⟨fun k _ => by simp, fun k x _ _ hp => by rw [decide_eq_true hp, Bool.or_true], fun k x hk hx ha => ?_, fun m hm => absurd hm (by omega)⟩
  rw [Bool.or_eq_true, decide_eq_true_iff, decide_eq_true_iff] at ha
  rcases ha with z | z
  · subst z; exact .refl _
  · exact .one hx z
theorem num_pos_iff (q : Rat) : 0 < q.num ↔ 0 < q := by
  have h := lt_iff' 0 q
  have e1 : (0 : Rat).num = 0 := rfl
  have e2 : ((0 : Rat).den : Int) = 1 := rfl
  rw [e1, e2, Int.zero_mul, Int.mul_one] at h
  exact h
def brow (n : Nat) (A : Nat → Nat → Bool) (k : Nat) : PyData := .list (fl n fun x => .bool (A k x))
section
variable {K : PySem.W.Frag}
open Classical in
theorem h65 (vs : List V) (H : Hp) (Q : VK) (E : XK) (h : sp65 K vs H Q E) : t65 K { nx := fun _ H' => Q .non H', rt := Q } (start n65 vs) H := by
  obtain ⟨n, P, x, Hs, rfl, hn, hx, st, q⟩ := h
  obtain ⟨a, xs, rfl, ha, hxs⟩ := hx.list
  have lx : xs.length = n := hxs.flen
  refine ⟨_, rfl, a, xs, rfl, .inl (SqL.of (st _ _ ha)), ?_⟩
  rw [lx]
  refine ⟨Nat.zero_le _, fun l hl => ?_⟩
  have e0 : Ext0 Hs H Hs (upd H l (.lst [])) := (Ext.refl st).newM hl
  have en : ((n : Nat) : Int).toNat = n := by omega
  refine ⟨_, rfl, _, rfl, by omega, by omega, ?_⟩
  rw [en]
  refine for_it walk_rng0 (fun i τ H' => ∃ (Hs' : Hp) (ys : List V) (y3 y4 y5 y6 y7 : Option V), τ = [some (.ref a), some (.int (n : Int)), some (.ref l), y3, y4, y5, y6, y7] ∧ Ext0 Hs H Hs' H' ∧ Hs' l = none ∧ H' l = some (.lst ys) ∧ IsA K Hs' ys (fl i fun k => brow n (fun k x => decide (k = x) || decide (0 < P k x)) k))
    ⟨Hs, [], _, _, _, _, _, rfl, e0, st.free hl, upd_same, .nil⟩ (fun _ _ _ _ _ => trivial) ?_ ?_
  · rintro i x τ H1 H1' hi ⟨Hs1, ys, y3, y4, y5, y6, y7, rfl, e1, l0, l1, iys⟩ ⟨rfl, rfl⟩
    have lys := iys.flen
    refine ⟨_, rfl, .inl ⟨rfl, _, .inl (.inl l1)⟩, _, rfl, _, rfl, by omega, by omega, fun D hD => ?_⟩
    rw [en]
    refine lc_map (K := K) (Hs := Hs1) (n := n) walk_rng0 e1.t (fun _ _ => trivial) hD (fun x => .bool (decide (i = x) || decide (0 < P i x))) (by omega) ?_ ?_
    · rintro j x Hs2 H2 H2' C hj e2 d0 ⟨rfl, rfl⟩ kk
      refine ⟨rfl, _, rfl, _, rfl, rfl, _, rfl, ?_⟩
      by_cases c : i = j
      · rw [decide_eq_true (show V.int ((i : Nat) : Int) = V.int ((j : Nat) : Int) by rw [c])]
        refine iteT ?_
        refine kk _ Hs2 _ (Ext.refl e2.t) ?_
        rw [decide_eq_true c, Bool.true_or]; exact .bl _
      · rw [decide_eq_false (show ¬ V.int ((i : Nat) : Int) = V.int ((j : Nat) : Int) from fun z => c (by have := V.int.inj z; omega))]
        refine iteF ?_
        obtain ⟨v, ev, iv⟩ := hxs.fget hi
        obtain ⟨b, zs, rfl, hb, hzs⟩ := is_vd iv
        obtain ⟨u, eu, iu⟩ := hzs.fget hj
        obtain ⟨pu, rfl, hpu⟩ := is_q iu
        have s2 := e1.s.trans e2.s
        refine ⟨_, rfl, _, rfl, a, xs, _, _, rfl, rfl, SqL.of (e2.t _ _ (s2 _ _ ha)), atI_nat ev, _, rfl, b, zs, _, _, rfl, rfl, SqL.of (e2.t _ _ (s2 _ _ hb)), atI_nat eu, pu, _, 0, _, rfl, rfl, sqt_up e2.t (sqt_up s2 hpu), rfl, _, _, rfl, rfl, ?_⟩
        refine kk _ Hs2 _ (Ext.refl e2.t) ?_
        have : decide ((0 : Int) < (P i j).num) = (decide (i = j) || decide (0 < P i j)) := by
          rw [decide_eq_false c, Bool.false_or]
          exact decide_eq_decide.mpr (num_pos_iff _)
        rw [← this]; exact .bl _
    · intro Hs2 H2 ws e2 d0 d1 hws
      obtain ⟨l2, l3⟩ := e2.own (fun z => z) l1 l0
      have nlD : l ≠ D := ne_of_none l1 hD
      refine ⟨l, ys, _, rfl, rfl, l3, big_lt (by omega), ?_⟩
      have e3 := (e1.trans e2).frz (e1.free hD) d0 d1
      have l4 : (upd Hs2 D (.lst ws)) l = none := by rw [upd_ne nlD]; exact l2
      refine ⟨_, _, _, _, _, _, _, rfl, e3.mut (.inl hl) l4, l4, upd_same, ?_⟩
      rw [fl_snoc]
      exact ((iys.up e2.s).up (same_new d0)).append (.cons (.lst upd_same (hws.up (same_new d0))) .nil)
  · rintro τ H1 ⟨Hs1, ys, y3, y4, y5, y6, y7, rfl, e1, l0, l1, iys⟩
    refine ⟨_, rfl, _, rfl, by omega, by omega, ?_⟩
    rw [en]
    refine for_it walk_rng0 (fun t τ H' => ∃ (Hs' : Hp) (ys : List V) (A : Nat → Nat → Bool) (y3 y4 y7 : Option V), τ = [some (.ref a), some (.int (n : Int)), some (.ref l), y3, y4, y5, y6, y7] ∧ Ext0 Hs H Hs' H' ∧ Hs' l = none ∧ H' l = some (.lst ys) ∧ IsA K Hs' ys (fl n fun k => brow n A k) ∧ FwI n P t A)
      ⟨Hs1, ys, _, _, _, _, rfl, e1, l0, l1, iys, fw_zero⟩ (fun _ _ _ _ _ => trivial) ?_ ?_
    · rintro t x τ H2 H2' ht ⟨Hs2, ys, A, y3, y4, y7, rfl, e2, l2, l3, iys, hA⟩ ⟨rfl, rfl⟩
      refine ⟨_, rfl, _, rfl, by omega, by omega, ?_⟩
      rw [en]
      refine for_it walk_rng0 (fun k τ H' => ∃ (Hs' : Hp) (ys : List V) (y3 y7 : Option V), τ = [some (.ref a), some (.int (n : Int)), some (.ref l), y3, some (.int (t : Nat)), y5, y6, y7] ∧ Ext0 Hs H Hs' H' ∧ Hs' l = none ∧ H' l = some (.lst ys) ∧ IsA K Hs' ys (fl n fun i => if i < k then brow n (fwS A t) i else brow n A i))
        ⟨Hs2, ys, _, _, rfl, e2, l2, l3, iys.fcongr fun i _ => by rw [if_neg (Nat.not_lt_zero i)]⟩ (fun _ _ _ _ _ => trivial) ?_ ?_
      · rintro k x τ H3 H3' hk ⟨Hs3, ys, y3, y7, rfl, e3, l4, l5, iys⟩ ⟨rfl, rfl⟩
        have lys := iys.flen
        obtain ⟨v, ev, iv⟩ := iys.fget hk
        rw [if_neg (Nat.lt_irrefl k)] at iv
        obtain ⟨b, zs, rfl, hb, hzs⟩ := (show Is K Hs3 v (.list (fl n fun x => .bool (A k x))) from iv).list
        obtain ⟨u, eu, iu⟩ := hzs.fget ht
        cases iu.bl'
        refine ⟨_, rfl, _, rfl, l, ys, _, _, rfl, rfl, SqL.of l5, atI_nat ev, _, rfl, b, zs, _, _, rfl, rfl, SqL.of (e3.t _ _ hb), atI_nat eu, _, rfl, ?_⟩
        cases hkt : A k t with
        | false =>
          refine iteF ?_
          refine ⟨Hs3, ys, _, _, rfl, e3, l4, l5, iys.fcongr fun i hi => ?_⟩
          by_cases c1 : i < k
          · rw [if_pos c1, if_pos (show i < k + 1 by omega)]
          · by_cases c2 : i = k
            · subst c2
              rw [if_neg c1, if_pos (Nat.lt_succ_self i)]
              unfold brow fwS
              rw [hkt]
              congr 1
              exact fl_congr fun x _ => by rw [Bool.false_and, Bool.or_false]
            · rw [if_neg c1, if_neg (show ¬ i < k + 1 by omega)]
        | true =>
          refine iteT ?_
          obtain ⟨vt, evt, ivt⟩ := iys.fget ht
          have ivt2 : Is K Hs3 vt (brow n A t) := by
            by_cases c1 : t < k
            · rw [if_pos c1] at ivt
              have : brow n (fwS A t) t = brow n A t := by
                unfold brow fwS
                congr 1
                exact fl_congr fun x _ => by rw [hA.refl t ht, Bool.true_and, Bool.or_self]
              rw [this] at ivt; exact ivt
            · rw [if_neg c1] at ivt; exact ivt
          obtain ⟨bt, zt, rfl, hbt, hzt⟩ := (show Is K Hs3 vt (.list (fl n fun x => .bool (A t x))) from ivt2).list
          refine ⟨_, rfl, _, rfl, by omega, by omega, fun D hD => ?_⟩
          rw [en]
          refine lc_map (K := K) (Hs := Hs3) (n := n) walk_rng0 e3.t (fun _ _ => trivial) hD (fun x => .bool (fwS A t k x)) (by omega) ?_ ?_
          · rintro j x Hs4 H4 H4' C hj e4 d0 ⟨rfl, rfl⟩ kk
            obtain ⟨l6, l7⟩ := e4.own (fun z => z) l5 l4
            obtain ⟨u1, eu1, iu1⟩ := hzs.fget hj
            obtain ⟨u2, eu2, iu2⟩ := hzt.fget hj
            cases iu1.bl'
            cases iu2.bl'
            refine ⟨rfl, _, rfl, _, rfl, l, ys, _, _, rfl, rfl, SqL.of l7, atI_nat ev, _, rfl, b, zs, _, _, rfl, rfl, SqL.of (e4.t _ _ (e4.s _ _ hb)), atI_nat eu1, _, rfl, ?_⟩
            have ef : fwS A t k j = (A k j || A t j) := by unfold fwS; rw [hkt, Bool.true_and]
            rw [ef] at kk
            cases hkj : A k j with
            | true =>
              refine iteT ?_
              refine kk _ Hs4 _ (Ext.refl e4.t) ?_
              rw [hkj, Bool.true_or]; exact .bl _
            | false =>
              refine iteF ?_
              refine ⟨_, rfl, _, rfl, l, ys, _, _, rfl, rfl, SqL.of l7, atI_nat evt, _, rfl, bt, zt, _, _, rfl, rfl, SqL.of (e4.t _ _ (e4.s _ _ hbt)), atI_nat eu2, ?_⟩
              refine kk _ Hs4 _ (Ext.refl e4.t) ?_
              rw [hkj, Bool.false_or]; exact .bl _
          · intro Hs4 H4 ws e4 d0 d1 hws
            obtain ⟨l6, l7⟩ := e4.own (fun z => z) l5 l4
            have nlD : l ≠ D := ne_of_none l5 hD
            refine ⟨_, rfl, _, rfl, l, ys, _, k, rfl, rfl, l7, ixN_nat (by omega), ?_⟩
            have e5 := (e3.trans e4).frz (e3.free hD) d0 d1
            have l8 : (upd Hs4 D (.lst ws)) l = none := by rw [upd_ne nlD]; exact l6
            refine ⟨_, _, _, _, rfl, e5.mut (.inl hl) l8, l8, upd_same, ?_⟩
            refine (((iys.up e4.s).up (same_new d0)).fset k (.lst upd_same (hws.up (same_new d0)))).fcongr fun i hi => ?_
            by_cases c2 : i = k
            · subst c2
              rw [if_pos rfl, if_pos (Nat.lt_succ_self i)]
              rfl
            · rw [if_neg c2]
              by_cases c1 : i < k
              · rw [if_pos c1, if_pos (show i < k + 1 by omega)]
              · rw [if_neg c1, if_neg (show ¬ i < k + 1 by omega)]
      · rintro τ H3 ⟨Hs3, ys, y3, y7, rfl, e3, l4, l5, iys⟩
        exact ⟨Hs3, ys, fwS A t, _, _, _, rfl, e3, l4, l5, iys.fcongr fun i hi => by rw [if_pos hi], hA.step ht⟩
    · rintro τ H2 ⟨Hs2, ys, A, y3, y4, y7, rfl, e2, l2, l3, iys, hA⟩
      have lys := iys.flen
      have e3 := e2.frz hl l2 l3
      have s3 := same_new (o := .lst ys) l2
      have hl3 : (upd Hs2 l (.lst ys)) l = some (.lst ys) := upd_same
      have iys3 := iys.up s3
      generalize hHs3 : upd Hs2 l (.lst ys) = Hs3 at e3 hl3 iys3
      have get : ∀ k, k < n → ∃ b zs, ys[k]? = some (.ref b) ∧ Hs3 b = some (.lst zs) ∧ ∀ x, x < n → zs[x]? = some (.bl (A k x)) := fun k hk => by
        obtain ⟨v, ev, iv⟩ := iys3.fget hk
        obtain ⟨b, zs, rfl, hb, hzs⟩ := (show Is K Hs3 v (.list (fl n fun x => .bool (A k x))) from iv).list
        refine ⟨b, zs, ev, hb, fun x hx => ?_⟩
        obtain ⟨u, eu, iu⟩ := hzs.fget hx
        cases iu.bl'
        exact eu
      refine ⟨Nat.zero_le _, fun f hf => ?_⟩
      have hfH : H f = none := e3.free hf
      have e4 := e3.newM (o := .lst []) hf
      refine ⟨_, rfl, _, rfl, by omega, by omega, ?_⟩
      rw [en]
      refine for_it walk_rng0 (fun i τ H' => ∃ (Hs' : Hp) (fs : List V) (y3 y6 y7 : Option V), τ = [some (.ref a), some (.int (n : Int)), some (.ref l), y3, y4, some (.ref f), y6, y7] ∧ Same Hs3 Hs' ∧ Ext0 Hs H Hs' H' ∧ Hs' f = none ∧ H' f = some (.lst fs) ∧ IsA K Hs' fs (fl i (roomD n P)))
        ⟨Hs3, [], _, _, _, rfl, Same.refl _, e4, e3.t.free hf, upd_same, .nil⟩ (fun _ _ _ _ _ => trivial) ?_ ?_
      · rintro i x τ H5 H5' hi ⟨Hs5, fs, y3, y6, y7, rfl, s5, e5, f0, f1, ifs⟩ ⟨rfl, rfl⟩
        have lfs := ifs.flen
        obtain ⟨b, zs, eb, hb, hzs⟩ := get i hi
        have hl5 := s5 _ _ hl3
        have hb5 := s5 _ _ hb
        refine ⟨_, rfl, _, rfl, by omega, by omega, fun D hD => ?_⟩
        rw [en]
        refine lc_go (K := K) (Hs := Hs5) (n := n) walk_rng0 e5.t (fun _ _ => trivial) hD (fun x => if Rc n P i x then some (.int (x : Int)) else none) (by omega) ?_ ?_
        · rintro j x Hs6 H6 H6' C' N hj e6 d0 ⟨rfl, rfl⟩ k1 k2
          refine ⟨rfl, _, rfl, _, rfl, l, ys, _, _, rfl, rfl, SqL.of (e6.t _ _ (e6.s _ _ hl5)), atI_nat eb, _, rfl, b, zs, _, _, rfl, rfl, SqL.of (e6.t _ _ (e6.s _ _ hb5)), atI_nat (hzs j hj), _, rfl, ?_⟩
          have hiff := hA.done hi hj
          cases hAj : A i j with
          | true => exact iteT ⟨_, rfl, k1 _ Hs6 _ (.int (j : Int)) (if_pos (hiff.mp hAj)) (Ext.refl e6.t) (.int _)⟩
          | false => exact iteF (k2 Hs6 _ (if_neg (fun z => by rw [hiff.mpr z] at hAj; cases hAj)) (Ext.refl e6.t))
        intro Hs6 H6 ws e6 d0 d1 hws
        rw [fmap_filter (fun x => Rc n P i x) (fun x : Nat => PyData.int (x : Int))] at hws
        obtain ⟨f2, f3⟩ := e6.own (fun z => z) f1 f0
        have nfD : f ≠ D := ne_of_none f1 hD
        have e7 := (e5.trans e6).frz (e5.free hD) d0 d1
        have s7 : Same Hs3 (upd Hs6 D (.lst ws)) := (s5.trans e6.s).trans (same_new d0)
        have iR : Is K (upd Hs6 D (.lst ws)) (.ref D) (il (reachL n P i)) := .lst upd_same (hws.up (same_new d0))
        have f4 : (upd Hs6 D (.lst ws)) f = none := by rw [upd_ne nfD]; exact f2
        have ifs7 := (ifs.up e6.s).up (same_new (o := .lst ws) d0)
        generalize hHs7 : upd Hs6 D (.lst ws) = Hs7 at e7 s7 iR f4 ifs7
        obtain ⟨DD, hDe, hDD⟩ := is_il iR
        cases hDe
        have hl7 := s7 _ _ hl3
        refine ⟨_, rfl, D, rfl, ⟨_, SqL.of (e7.t _ _ hDD)⟩, fun D2 hD2 => ?_⟩
        refine lc_map (K := K) (Hs := Hs7) (n := (reachL n P i).length) (by have := walk_list (K := K) (a := D) (xs := vi (reachL n P i)); rw [vi_len] at this; exact this) e7.t (fun H' s => SqL.of (s _ _ hDD)) hD2 (fun j => .bool (A ((reachL n P i).getD j 0) i)) (by have := reachL_len (n := n) (P := P) (x := i); omega) ?_ ?_
        · rintro j y Hs8 H8 H8' C' hj e8 d30 ⟨rfl, hy⟩ kk
          obtain ⟨o, eo, rfl⟩ := vi_get hy
          have ho : o < n := (mem_reachL.mp (List.mem_of_getElem? eo)).1
          obtain ⟨bo, zo, ebo, hbo, hzo⟩ := get o ho
          refine ⟨rfl, _, rfl, _, rfl, l, ys, _, _, rfl, rfl, SqL.of (e8.t _ _ (e8.s _ _ hl7)), atI_nat ebo, _, rfl, bo, zo, _, _, rfl, rfl, SqL.of (e8.t _ _ (e8.s _ _ (s7 _ _ hbo))), atI_nat (hzo i hi), ?_⟩
          refine kk _ Hs8 _ (Ext.refl e8.t) ?_
          have : (reachL n P i).getD j 0 = o := by simp [List.getD, eo]
          rw [this]
          exact .bl _
        · intro Hs8 H8 ws8 e8 d30 d31 hw8
          obtain ⟨f5, f6⟩ := e8.own (fun z => z) (show H6 f = some (.lst fs) from f3) f4
          have ebs := hw8.fbls
          refine ⟨D2, _, rfl, SqL.of (by rw [← ebs]; exact d31), _, rfl, ?_⟩
          rw [all_range]
          have hiff : (∀ j, j < (reachL n P i).length → A ((reachL n P i).getD j 0) i = true) ↔ Recu n P i := by
            constructor
            · intro hh y hy
              have hyn := hy.lt hi
              have hym : y ∈ reachL n P i := mem_reachL.mpr ⟨hyn, hy⟩
              obtain ⟨j, hj, ej⟩ := List.getElem_of_mem hym
              have h3 := hh j hj
              have : (reachL n P i).getD j 0 = y := by simp [List.getD, hj, ej]
              rw [this] at h3
              exact (hA.done hyn hi).mp h3
            · intro hr j hj
              obtain ⟨m1, m2⟩ := mem_reachL.mp (Mh.getD_mem hj)
              exact (hA.done m1 hi).mpr (hr _ m2)
          have e9 := e7.trans e8
          by_cases hR : Recu n P i
          · rw [decide_eq_true (hiff.mpr hR)]
            refine iteT ?_
            refine ⟨_, rfl, .inl ⟨rfl, _, .inl (.inl f6)⟩, _, rfl, f, fs, _, rfl, rfl, f6, big_lt (by omega), ?_⟩
            refine ⟨Hs8, _, _, _, _, rfl, s7.trans e8.s, e9.mut (.inl hfH) f5, f5, upd_same, ?_⟩
            rw [fl_snoc]
            refine (ifs7.up e8.s).append (.cons ?_ .nil)
            unfold roomD
            rw [if_pos hR]
            exact iR.up e8.s
          · rw [decide_eq_false (fun z => hR (hiff.mp z))]
            refine iteF ?_
            refine ⟨_, rfl, .inl ⟨rfl, _, .inl (.inl f6)⟩, f, fs, _, rfl, rfl, f6, big_lt (by omega), ?_⟩
            refine ⟨Hs8, _, _, _, _, rfl, s7.trans e8.s, e9.mut (.inl hfH) f5, f5, upd_same, ?_⟩
            rw [fl_snoc]
            refine (ifs7.up e8.s).append (.cons ?_ .nil)
            unfold roomD
            rw [if_neg hR]
            exact .non
      · rintro τ H5 ⟨Hs5, fs, y3, y6, y7, rfl, s5, e5, f0, f1, ifs⟩
        exact ⟨_, rfl, q _ _ _ (e5.frz hfH f0 f1) (.lst upd_same (ifs.up (same_new f0)))⟩
end
end Mh
end
section
set_option Elab.async false
set_option linter.all false
set_option maxRecDepth 100000
set_option maxHeartbeats 4000000
set_option exponentiation.threshold 20000
/-! the law's weights: the reading -/
namespace Mh
open PySem PySem.Spec PyProof.Rows L2
open C8 (Cal pe_c)
open Evl (ixN_nat)
theorem fl_drop (n : Nat) (f : Nat → PyData) : (fl (n + 1) f).drop 1 = fl n fun r => f (r + 1) := by
  unfold fl
  rw [List.range_succ_eq_map, List.map_cons, List.map_map]
  rfl
def wRow (m : Nat) (P : Mat) (r : Nat) : Row := fun j => if j < m then P j r - (if j = r then 1 else 0) else 0
def wM (m : Nat) (P : Mat) : Nat → Row := fun r => if r + 1 < m then wRow m P (r + 1) else fun _ => 1
theorem wM_sys {m : Nat} {P : Mat} (hm : 0 < m) : StatSys m P (wM m P) := by
  refine ⟨fun i hi => ?_, ⟨m - 1, by omega, fun j _ => ?_⟩, fun k k1 k2 => ⟨k - 1, by omega, fun j hj => ?_, ?_⟩⟩
  · by_cases c : i + 1 < m
    · refine .inr ⟨i + 1, by omega, c, fun j hj => ?_, ?_⟩
      · unfold wM wRow; rw [if_pos c, if_pos hj]
      · unfold wM wRow; rw [if_pos c, if_neg (by omega)]
    · refine .inl fun j _ => ?_
      unfold wM; rw [if_neg c]
  · unfold wM; rw [if_neg (by omega)]
  · unfold wM wRow; rw [if_pos (by omega), if_pos hj, show k - 1 + 1 = k by omega]
  · unfold wM wRow; rw [if_pos (by omega), if_neg (by omega)]
section
variable {K : PySem.W.Frag}
theorem h66 (vs : List V) (H : Hp) (Q : VK) (E : XK) (h : sp66 K vs H Q E) : t66 K { nx := fun _ H' => Q .non H', rt := Q } (start n66 vs) H := by
  obtain ⟨n, C, R, x, y, Hs, rfl, hC, hn, hR, hne, hx, hy, st, q⟩ := h
  obtain ⟨a, xs, rfl, ha, hxs⟩ := hx.list
  obtain ⟨r, rfl, hr⟩ := is_il hy
  obtain ⟨m, hm⟩ : ∃ m, m = R.length := ⟨_, rfl⟩
  have lvi : (vi R).length = m := by rw [vi_len, hm]
  have hm12 : m ≤ n := by rw [hm]; exact nd_len n R hR.nd hR.lt
  have hm0 : 0 < m := by rw [hm]; exact List.length_pos_iff.mpr hne
  have fval : ∀ x y, x < n → y < n → Sz 10 (Pm C x y) ∧ Sz 10 (Pm C x y + -1) := fun x y hx hy => by
    obtain ⟨S, s0, s1, s2⟩ := (hC.at hx).den
    have p0 := hC.stoch.nn x hx y hy
    have p1 := hC.stoch.le_one hx hy
    have i1 : IsI (Pm C x y * (S : Rat)) := wt_int s2 y
    refine ⟨frac_sz s0 s1 i1 (ab_le (by grind) (by grind)), frac_sz s0 s1 ?_ (ab_le (by grind) (by grind))⟩
    rw [Rat.add_mul]
    exact i1.add ((IsI.one.neg).mul (IsI.nat _))
  refine ⟨Nat.zero_le _, fun l hl => ?_⟩
  have e0 : Ext0 Hs H Hs (upd H l (.lst [])) := (Ext.refl st).newM hl
  refine ⟨_, rfl, r, rfl, ⟨vi R, SqL.of (e0.t _ _ hr)⟩, ?_⟩
  refine for_it (walk_list (xs := vi R)) (fun i τ H' => ∃ (Hs' : Hp) (ys : List V) (y3 y4 y5 : Option V), τ = [some (.ref a), some (.ref r), some (.ref l), y3, y4, y5] ∧ Ext0 Hs H Hs' H' ∧ Hs' l = none ∧ H' l = some (.lst ys) ∧ IsA K Hs' ys (fl i fun k => vd (m + 1) (wRow m (sub (Pm C) R) k)))
    ⟨Hs, [], _, _, _, rfl, e0, st.free hl, upd_same, .nil⟩ (fun i τ H' _ ⟨Hs', _, _, _, _, _, e, _⟩ => SqL.of (e.t _ _ (e.s _ _ hr))) ?_ ?_
  · rintro i v τ H1 H1' hi ⟨Hs1, ys, y3, y4, y5, rfl, e1, l0, l1, iys⟩ ⟨rfl, hv⟩
    obtain ⟨z, ez, rfl⟩ := vi_get hv
    rw [lvi] at hi
    have lys := iys.flen
    have zmem : z ∈ R := List.mem_of_getElem? ez
    have zn := hR.lt z zmem
    have getz : R.getD i 0 = z := by simp [List.getD, ez]
    refine ⟨Nat.zero_le _, fun p hp => ?_⟩
    have npl : l ≠ p := ne_of_none l1 hp
    have hpH : H p = none := e1.free hp
    have e2 := e1.newM (o := .lst []) hp
    refine ⟨_, rfl, r, rfl, ⟨vi R, SqL.of (e2.t _ _ (e1.s _ _ hr))⟩, ?_⟩
    refine for_it (walk_list (xs := vi R)) (fun j τ H' => ∃ (Hs' : Hp) (zs : List V) (y5 : Option V), τ = [some (.ref a), some (.ref r), some (.ref l), some (.int (z : Int)), some (.ref p), y5] ∧ Same Hs1 Hs' ∧ Ext0 Hs H Hs' H' ∧ Hs' l = none ∧ H' l = some (.lst ys) ∧ Hs' p = none ∧ H' p = some (.lst zs) ∧ IsA K Hs' zs (fl j fun c => qd (wRow m (sub (Pm C) R) i c)))
      ⟨Hs1, [], _, rfl, Same.refl _, e2, l0, by rw [upd_ne npl]; exact l1, e1.t.free hp, upd_same, .nil⟩ (fun j τ H' _ ⟨Hs', _, _, _, _, e, _⟩ => SqL.of (e.t _ _ (e.s _ _ hr))) ?_ ?_
    · rintro j v τ H3 H3' hj ⟨Hs3, zs, y5, rfl, s3, e3, l2, l3, p2, p3, izs⟩ ⟨rfl, hv⟩
      obtain ⟨o, eo, rfl⟩ := vi_get hv
      rw [lvi] at hj
      have lzs := izs.flen
      have geto : R.getD j 0 = o := by simp [List.getD, eo]
      have on := hR.lt o (List.mem_of_getElem? eo)
      obtain ⟨vo, evo, ivo⟩ := hxs.fget on
      obtain ⟨bo, os, rfl, hbo, hos⟩ := is_vd ivo
      obtain ⟨u, eu, iu⟩ := hos.fget zn
      refine ⟨_, rfl, .inl ⟨rfl, _, .inl (.inl p3)⟩, ?_⟩
      refine ⟨_, rfl, _, rfl, a, xs, _, _, rfl, rfl, SqL.of (e3.t _ _ (e3.s _ _ ha)), atI_nat evo, _, rfl, bo, os, _, u, rfl, rfl, SqL.of (e3.t _ _ (e3.s _ _ hbo)), atI_nat eu, ?_⟩
      have hwr : wRow m (sub (Pm C) R) i j = Pm C o z + -(if j = i then 1 else 0) := by
        unfold wRow sub
        rw [if_pos hj, geto, getz, Rat.sub_eq_add_neg]
      refine ⟨_, rfl, _, rfl, rfl, .inr ⟨_, rfl, ?_⟩⟩
      have fin : ∀ (b : Bool), b = decide (j = i) → ∀ w, H3' w = none → ∀ w2, (upd H3' w (.tup [.int (-(if b = true then 1 else 0)), .int 1])) w2 = none →
          (tCall (sp60 K) [] E0 (fun (_ : L2.St) (H : Hp) (Q : List V → Hp → Prop) => Q [.ref w2] H)) [some (.ref a), some (.ref r), some (.ref l), some (.int (z : Int)), some (.ref p), some (.int (o : Int))] (upd (upd H3' w (.tup [.int (-(if b = true then 1 else 0)), .int 1])) w2 (.lst [u, .ref w])) fun v H' =>
            ∃ (ll : Addr) (xs2 : List V) (x2 : V), V.ref p = .ref ll ∧ [v] = [x2] ∧ H' ll = some (.lst xs2) ∧ xs2.length < sizeLine ∧ ∃ (Hs' : Hp) (zs : List V) (y5 : Option V), ([some (.ref a), some (.ref r), some (.ref l), some (.int (z : Int)), some (.ref p), some (.int (o : Int))] : L2.St) = [some (.ref a), some (.ref r), some (.ref l), some (.int (z : Int)), some (.ref p), y5] ∧ Same Hs1 Hs' ∧ Ext0 Hs H Hs' (upd H' ll (.lst (xs2 ++ [x2]))) ∧ Hs' l = none ∧ (upd H' ll (.lst (xs2 ++ [x2]))) l = some (.lst ys) ∧ Hs' p = none ∧ (upd H' ll (.lst (xs2 ++ [x2]))) p = some (.lst zs) ∧ IsA K Hs' zs (fl (j + 1) fun c => qd (wRow m (sub (Pm C) R) i c)) := by
        intro b hb w hw w2 hw2
        have npw : p ≠ w := ne_of_none p3 hw
        have nlw : l ≠ w := ne_of_none l3 hw
        have npw2 : p ≠ w2 := ne_of_none (by rw [upd_ne npw]; exact p3) hw2
        have nlw2 : l ≠ w2 := ne_of_none (by rw [upd_ne nlw]; exact l3) hw2
        have nww : w ≠ w2 := ne_of_none upd_same hw2
        have e5 := (e3.new (o := .tup [.int (-(if b = true then 1 else 0)), .int 1]) hw).new (o := .lst [u, .ref w]) hw2
        have s5 : Same Hs3 (upd (upd Hs3 w (.tup [.int (-(if b = true then 1 else 0)), .int 1])) w2 (.lst [u, .ref w])) := (same_new (e3.t.free hw)).trans (same_new ((e3.new (o := .tup [.int (-(if b = true then 1 else 0)), .int 1]) hw).t.free hw2))
        have id1 : Is K (upd (upd Hs3 w (.tup [.int (-(if b = true then 1 else 0)), .int 1])) w2 (.lst [u, .ref w])) (.ref w) (qd (-(if j = i then 1 else 0))) := by
          refine .tup (SqT.of (by rw [upd_ne nww]; exact upd_same)) ?_
          by_cases c : j = i
          · rw [hb, decide_eq_true c, if_pos c]; exact .cons (.int _) (.cons (.int _) .nil)
          · rw [hb, decide_eq_false c, if_neg c]; exact .cons (.int _) (.cons (.int _) .nil)
        obtain ⟨z1, z2⟩ := fval o z on zn
        have z3 : Sz 10 (Pm C o z + -(if j = i then 1 else 0)) := by
          by_cases c : j = i
          · rw [if_pos c]; exact z2
          · rw [if_neg c]
            have : Pm C o z + -0 = Pm C o z := by grind
            rw [this]; exact z1
        have z4 : Sz 10 (-(if j = i then (1 : Rat) else 0)) := by
          by_cases c : j = i
          · rw [if_pos c]; exact (Sz.one (by decide)).neg
          · rw [if_neg c]; exact (Sz.zero (by decide)).neg
        refine ⟨[Pm C o z, -(if j = i then 1 else 0)], 10, _, _, rfl, .lst upd_same (.cons (((iu.up e3.s)).up s5) (.cons id1 .nil)), by show 2 ≤ 1000; decide, by decide, fun q hq => ?_, sz_two z1 z3 (by decide), e5.t, fun v7 Hs7 H7 e7 hv7 => ?_⟩
        · rcases List.mem_cons.mp hq with zz | zz
          · rw [zz]; exact z1
          · cases List.mem_singleton.mp zz; exact z4
        · rw [sumq_two, ← hwr] at hv7
          obtain ⟨p4, p5⟩ := e7.own (fun z => z) (show _ = some (HO.lst zs) by rw [upd_ne npw2, upd_ne npw]; exact p3) (by rw [upd_ne npw2, upd_ne npw]; exact p2)
          obtain ⟨l6, l7⟩ := e7.own (fun z => z) (show _ = some (HO.lst ys) by rw [upd_ne nlw2, upd_ne nlw]; exact l3) (by rw [upd_ne nlw2, upd_ne nlw]; exact l2)
          refine ⟨p, zs, _, rfl, rfl, p5, big_lt (by omega), Hs7, _, _, rfl, (s3.trans s5).trans e7.s, (e5.trans e7).mut (.inl hpH) p4, l6, by rw [upd_ne npl]; exact l7, p4, upd_same, ?_⟩
          rw [fl_snoc]
          exact (((izs.up s5).up e7.s)).append (.cons hv7 .nil)
      have hbb : decide (V.int ((z : Nat) : Int) = V.int ((o : Nat) : Int)) = decide (j = i) := by
        rw [decide_eq_decide]
        constructor
        · intro w
          have : o = z := by have := V.int.inj w; omega
          rw [← geto, ← getz] at this
          exact (nd_iff.mp hR.nd) j i (by omega) (by omega) this
        · intro w
          subst w
          rw [← getz, ← geto]
      refine ⟨_, rfl, by show 2 ≤ sizeLine; decide, fun w hw => ?_⟩
      refine ⟨by show 2 ≤ sizeLine; decide, fun w2 hw2 => ?_⟩
      exact fin _ hbb w hw w2 hw2
    · rintro τ H3 ⟨Hs3, zs, y5, rfl, s3, e3, l2, l3, p2, p3, izs⟩
      rw [lvi] at izs
      have lzs := izs.flen
      refine ⟨_, rfl, .inl ⟨rfl, _, .inl (.inl l3)⟩, _, rfl, by show 2 ≤ sizeLine; decide, fun w hw => ?_⟩
      refine ⟨by show 1 ≤ sizeLine; decide, fun w2 hw2 => ?_⟩
      have npw : p ≠ w := ne_of_none p3 hw
      have nlw : l ≠ w := ne_of_none l3 hw
      have npw2 : p ≠ w2 := ne_of_none (by rw [upd_ne npw]; exact p3) hw2
      have nlw2 : l ≠ w2 := ne_of_none (by rw [upd_ne nlw]; exact l3) hw2
      have e4 := (e3.new (o := .tup [.int 0, .int 1]) hw).newM (o := .lst [.ref w]) hw2
      have nww : w ≠ w2 := ne_of_none upd_same hw2
      refine ⟨p, w2, zs, _, rfl, rfl, by rw [upd_ne npw2, upd_ne npw]; exact p3, upd_same, bl_sl (by show zs.length + 1 ≤ 100000; omega), fun u hu => ?_⟩
      have nlu : l ≠ u := ne_of_none (by rw [upd_ne nlw2, upd_ne nlw]; exact l3) hu
      have e5 := e4.new (o := .lst (zs ++ [.ref w])) hu
      have sA := same_new (o := .tup [.int 0, .int 1]) (e3.t.free hw)
      have sB := same_new (o := .lst (zs ++ [.ref w])) (e4.t.free hu)
      have nwu : w ≠ u := ne_of_none (by rw [upd_ne nww]; exact upd_same) hu
      have l6 : (upd (upd Hs3 w (.tup [.int 0, .int 1])) u (.lst (zs ++ [.ref w]))) l = none := by rw [upd_ne nlu, upd_ne nlw]; exact l2
      refine ⟨l, ys, _, rfl, rfl, by rw [upd_ne nlu, upd_ne nlw2, upd_ne nlw]; exact l3, big_lt (by omega), ?_⟩
      refine ⟨_, _, _, _, _, rfl, e5.mut (.inl hl) l6, l6, upd_same, ?_⟩
      rw [fl_snoc]
      refine (((iys.up s3).up sA).up sB).append (.cons (.lst upd_same ?_) .nil)
      rw [fl_snoc]
      refine ((izs.up sA).up sB).append (.cons ?_ .nil)
      have : wRow m (sub (Pm C) R) i m = 0 := by unfold wRow; rw [if_neg (Nat.lt_irrefl m)]
      rw [this]
      exact .tup (SqT.of (by rw [upd_ne nwu]; exact upd_same)) (.cons (.int 0) (.cons (.int 1) .nil))
  · rintro τ H1 ⟨Hs1, ys, y3, y4, y5, rfl, e1, l0, l1, iys⟩
    rw [lvi] at iys
    have lys := iys.flen
    refine ⟨_, rfl, .inl ⟨rfl, _, .inl (.inl l1)⟩, _, rfl, r, rfl, ⟨vi R, SqL.of (e1.t _ _ (e1.s _ _ hr))⟩, fun D hD => ?_⟩
    refine lc_map (K := K) (Hs := Hs1) (n := (vi R).length) (walk_list (xs := vi R)) e1.t (fun H' s => SqL.of (s _ _ (e1.s _ _ hr))) hD (fun _ => qd 1) (by omega) ?_ ?_
    · rintro j v Hs2 H2 H2' C' hj e2 d0 ⟨rfl, hv2⟩ kk
      refine ⟨rfl, by show 2 ≤ sizeLine; decide, fun u hu => ?_⟩
      exact kk _ _ _ ((Ext.refl e2.t).new hu) (.tup (SqT.of upd_same) (.cons (.int 1) (.cons (.int 1) .nil)))
    intro Hs2 H2 ws e2 d0 d1 hws
    rw [lvi] at hws
    have lws := hws.flen
    obtain ⟨l2, l3⟩ := e2.own (fun z => z) l1 l0
    have nlD : l ≠ D := ne_of_none l1 hD
    have e3 := e1.trans e2
    refine ⟨by show 2 ≤ sizeLine; decide, fun w hw => ?_⟩
    refine ⟨by show 1 ≤ sizeLine; decide, fun w2 hw2 => ?_⟩
    have nDw : D ≠ w := ne_of_none d1 hw
    have nlw : l ≠ w := ne_of_none l3 hw
    have nDw2 : D ≠ w2 := ne_of_none (by rw [upd_ne nDw]; exact d1) hw2
    have nlw2 : l ≠ w2 := ne_of_none (by rw [upd_ne nlw]; exact l3) hw2
    have nww : w ≠ w2 := ne_of_none upd_same hw2
    have e4 := (e3.new (o := .tup [.int 1, .int 1]) hw).newM (o := .lst [.ref w]) hw2
    refine ⟨D, w2, ws, _, rfl, rfl, by rw [upd_ne nDw2, upd_ne nDw]; exact d1, upd_same, bl_sl (by show ws.length + 1 ≤ 100000; omega), fun u hu => ?_⟩
    have nlu : l ≠ u := ne_of_none (by rw [upd_ne nlw2, upd_ne nlw]; exact l3) hu
    have nwu : w ≠ u := ne_of_none (by rw [upd_ne nww]; exact upd_same) hu
    have e5 := e4.new (o := .lst (ws ++ [.ref w])) hu
    have sA := same_new (o := .tup [.int 1, .int 1]) (e3.t.free hw)
    have sB := same_new (o := .lst (ws ++ [.ref w])) (e4.t.free hu)
    have l6 : (upd (upd Hs2 w (.tup [.int 1, .int 1])) u (.lst (ws ++ [.ref w]))) l = none := by rw [upd_ne nlu, upd_ne nlw]; exact l2
    refine ⟨l, ys, _, rfl, rfl, by rw [upd_ne nlu, upd_ne nlw2, upd_ne nlw]; exact l3, big_lt (by omega), ?_⟩
    have e6 := e5.mut (o := .lst (ys ++ [V.ref u])) (.inl hl) l6
    have iall : IsA K (upd (upd Hs2 w (.tup [.int 1, .int 1])) u (.lst (ws ++ [.ref w]))) (ys ++ [V.ref u]) (fl (m + 1) fun k => vd (m + 1) (if k < m then wRow m (sub (Pm C) R) k else fun _ => 1)) := by
      rw [fl_snoc, if_neg (Nat.lt_irrefl m), fl_congr (g := fun k => vd (m + 1) (wRow m (sub (Pm C) R) k)) fun k hk => by rw [if_pos hk]]
      refine (((iys.up e2.s).up sA).up sB).append (.cons (.lst upd_same ?_) .nil)
      rw [fl_snoc]
      exact ((hws.up sA).up sB).append (.cons (.tup (SqT.of (by rw [upd_ne nwu]; exact upd_same)) (.cons (.int 1) (.cons (.int 1) .nil))) .nil)
    refine ⟨_, rfl, _, rfl, l, _, rfl, SqL.of upd_same, fun s hs => ?_⟩
    rw [cutV_one]
    have e7 := e6.new (o := .lst ((ys ++ [V.ref u]).drop 1)) hs
    have sC := same_new (o := .lst ((ys ++ [V.ref u]).drop 1)) (e6.t.free hs)
    have hsys := wM_sys (P := sub (Pm C) R) hm0
    have hS : Stoch m (sub (Pm C) R) := by rw [hm]; exact hR.stoch hC.stoch
    have hI : Irr m (sub (Pm C) R) := by rw [hm]; exact hR.irr
    obtain ⟨γ, hγ⟩ : ∃ γ : Nat → Nat, ∀ j, j < m → 0 < γ j ∧ γ j ≤ 360 ∧ ∀ k, k < m → IsI (sub (Pm C) R j k * (γ j : Rat)) := by
      obtain ⟨s, hs⟩ := hC.dens
      exact ⟨fun j => s (R.getD j 0), fun j hj => by
        have hjn := hR.lt _ (getD_mem (l := R) (i := j) (by omega))
        obtain ⟨a, b, c⟩ := hs _ hjn
        exact ⟨a, b, fun k hk => c _ (hR.lt _ (getD_mem (l := R) (i := k) (by omega)))⟩⟩
    have hscl := hsys.scl hS hγ
    have hsm : ∀ m : Nat, m ≤ 12 → Wn m 360 1 360 < 2 ^ 2900 ∧ Wd m 360 1 360 < 2 ^ 2900 := by decide +kernel
    have idr : IsA K (upd (upd (upd Hs2 w (.tup [.int 1, .int 1])) u (.lst (ws ++ [.ref w]))) s (.lst ((ys ++ [V.ref u]).drop 1))) ((ys ++ [V.ref u]).drop 1) (fl m fun k => vd (m + 1) (wM m (sub (Pm C) R) k)) := by
      have := (iall.up sC).drop 1
      rw [fl_drop] at this
      exact this.fcongr fun k hk => rfl
    refine ⟨m, wM m (sub (Pm C) R), _, _, rfl, by omega, by omega, .lst upd_same idr, hsys.inj hS hI, hscl.small (hsm m (by omega)).1 (hsm m (by omega)).2, e7.t, fun v Hs3 H3 y e8 hA hv => ?_⟩
    have hsol := hsys.ans hA.solves
    obtain ⟨N, n0, n1, n2⟩ := hA.den hscl
    refine q v Hs3 H3 y (e7.trans e8) ⟨by rw [← hm]; exact hsol.1, fun i i1 i2 => by rw [← hm] at i2 ⊢; exact hsol.2 i i1 i2, N, by omega, Nat.le_trans n1 (pw_le hm12 (by decide)), fun j hj => ?_⟩ (by rw [← hm]; exact hv)
    have := (n2 j (by omega)).1
    rw [if_neg (by omega), Nat.mul_one] at this
    exact this
end
end Mh
end
section
set_option linter.unusedVariables false
set_option exponentiation.threshold 20000
/-! the law's long gains: plain -/
namespace Mh
section
variable {n : Nat} {P : Mat} {r c : Nat → Rat}
theorem Shares.uniq {R : List Nat} {ν ν' : Nat → Rat} (h : Shares n P R ν) (h' : Shares n P R ν') (S : Stoch n P) (Kl : Klass n P R) : ∀ j, j < R.length → ν j = ν' j := by
  intro j hj
  have := stat_inj (Kl.stoch S) Kl.irr (ν := fun j => ν j - ν' j) (fun i i1 i2 => by
    have e : sm R.length (fun j => (ν j - ν' j) * sub P R j i) = sm R.length (fun j => ν j * sub P R j i) - sm R.length (fun j => ν' j * sub P R j i) := by
      rw [← sm_sub]; exact sm_congr fun j _ => by grind
    rw [e, h.st i i1 i2, h'.st i i1 i2]) (by rw [sm_sub, h.one, h'.one]; grind) j hj
  grind
def DueOk (n : Nat) (P : Mat) (r : Nat → Rat) (k : Nat) (q : Rat) : Prop := ∃ ν, Shares n P (reachL n P k) ν ∧ q = sm (reachL n P k).length fun j => ν j * r ((reachL n P k).getD j 0)
open Classical in
noncomputable def lM (n : Nat) (P : Mat) (c : Nat → Rat) : Nat → Row := fun k j => if j < n then (if k = j then 1 else 0) - (if Recu n P k then 0 else P k j) else (if Recu n P k then c k else 0)
open Classical in
theorem lM_eval {k : Nat} (hk : k < n) (v : Nat → Rat) : sm n (fun j => lM n P c k j * v j) = v k - (if Recu n P k then 0 else mn n P v k) := by
  have e1 : sm n (fun j => lM n P c k j * v j) = sm n (fun j => (if j = k then v k else 0) - (if Recu n P k then 0 else P k j * v j)) := sm_congr fun j hj => by
    unfold lM
    rw [if_pos hj]
    by_cases q : j = k
    · subst q
      rw [if_pos rfl, if_pos rfl]
      split <;> grind
    · rw [if_neg (fun z => q z.symm), if_neg q]
      split <;> grind
  rw [e1, sm_sub, sm_single (j := k) hk (fun j _ q => by rw [if_neg q]), if_pos rfl]
  by_cases q : Recu n P k
  · rw [if_pos q, sm_zero n fun j _ => by rw [if_pos q]]
  · rw [if_neg q]
    unfold mn
    congr 1
    exact sm_congr fun j _ => by rw [if_neg q]
open Classical in
theorem lM_inj (S : Stoch n P) : Inj n (lM n P c) := by
  have go : ∀ v : Nat → Rat, (∀ i, i < n → sm n (fun j => lM n P c i j * v j) = 0) → ∀ j, j < n → v j ≤ 0 := fun v hv j hj =>
    S.maxp (v := v) (c := 0) (B := fun z => Recu n P z) (fun z hz hn => by
      have h1 := hv z hz
      rw [lM_eval hz, if_neg hn] at h1
      grind) (fun z hz hb => by
      have h1 := hv z hz
      rw [lM_eval hz, if_pos hb] at h1
      grind) (fun x hx => by
      obtain ⟨y, _, h1, h2⟩ := ex_recu n P x hx
      exact ⟨y, h2, h1⟩) j hj
  intro v hv j hj
  have h1 := go v hv j hj
  have h2 := go (fun j => - v j) (fun i hi => by
    have : sm n (fun j => lM n P c i j * - v j) = - sm n (fun j => lM n P c i j * v j) := by
      rw [← sm_neg]; exact sm_congr fun j _ => by grind
    rw [this, hv i hi]; grind) j hj
  grind
open Classical in
theorem lM_long (S : Stoch n P) (hc : ∀ k, k < n → Recu n P k → DueOk n P r k (c k)) {y : Nat → Rat} (hy : ∀ i, i < n → sm n (fun j => lM n P c i j * y j) = lM n P c i n) : Long n P r y := by
  have hlast : ∀ k, lM n P c k n = if Recu n P k then c k else 0 := fun k => by unfold lM; rw [if_neg (Nat.lt_irrefl n)]
  have hrec : ∀ k, k < n → Recu n P k → y k = c k := fun k hk hr => by
    have := hy k hk
    rw [lM_eval hk, hlast, if_pos hr, if_pos hr] at this
    grind
  have htr : ∀ k, k < n → ¬ Recu n P k → y k = mn n P y k := fun k hk hr => by
    have := hy k hk
    rw [lM_eval hk, hlast, if_neg hr, if_neg hr] at this
    grind
  refine ⟨fun k hk => ?_, fun k hk hr => ?_⟩
  · by_cases hr : Recu n P k
    · have Kl := reach_room hk hr
      have hkm : k ∈ reachL n P k := mem_reachL.mpr ⟨hk, .refl k⟩
      have hconst : ∀ z ∈ reachL n P k, y z = y k := fun z hz => by
        obtain ⟨zn, hkz⟩ := mem_reachL.mp hz
        have hrz := hr.of hkz
        have hR : reachL n P z = reachL n P k := rising_eq reachL_lt reachL_lt fun w => by
          rw [mem_reachL, mem_reachL]
          exact ⟨fun ⟨a, b⟩ => ⟨a, hkz.trans b⟩, fun ⟨a, b⟩ => ⟨a, (hr z hkz).trans b⟩⟩
        obtain ⟨ν, h1, h2⟩ := hc k hk hr
        obtain ⟨ν', h3, h4⟩ := hc z zn hrz
        rw [hR] at h3 h4
        rw [hrec z zn hrz, hrec k hk hr, h2, h4]
        exact sm_congr fun j hj => by rw [h1.uniq h3 S Kl j hj]
      rw [Kl.mean S hkm]
      have e : sm (reachL n P k).length (fun j => P k ((reachL n P k).getD j 0) * y ((reachL n P k).getD j 0)) = sm (reachL n P k).length (fun j => P k ((reachL n P k).getD j 0) * y k) := sm_congr fun j hj => by rw [hconst _ (getD_mem hj)]
      rw [e, sm_mulr]
      have h3 := Kl.mean S hkm (fun _ => 1)
      rw [S.mn_const _ hk] at h3
      have e2 : sm (reachL n P k).length (fun j => P k ((reachL n P k).getD j 0)) = 1 := by
        rw [h3]; exact sm_congr fun j _ => by grind
      rw [e2, Rat.one_mul]
    · exact htr k hk hr
  · obtain ⟨ν, h1, h2⟩ := hc k hk hr
    have Kl := reach_room hk hr
    have hkm : k ∈ reachL n P k := mem_reachL.mpr ⟨hk, .refl k⟩
    refine ⟨_, Kl.dist S h1.st h1.one hkm, ?_⟩
    rw [Kl.dist_sum, hrec k hk hr, h2]
open Classical in
theorem lM_scl (S : Stoch n P) {s : Nat → Nat} (hs : ∀ x, x < n → 0 < s x ∧ s x ≤ 360 ∧ ∀ y, y < n → IsI (P x y * (s x : Rat))) {D : Nat} (hD : 0 < D) (hc : ∀ k, k < n → IsI (c k * (D : Rat)) ∧ ab (c k) ≤ ((1000 : Nat) : Rat)) :
    Scl n (lM n P c) s (fun j => if j < n then 1 else D) 360 (360 * 1000 * D) 360 1 D := by
  have h1 : ((1 : Nat) : Rat) = 1 := rfl
  have hv : ∀ i, i < n → ∀ j, j < n → IsI ((s i : Rat) * lM n P c i j) ∧ ab (lM n P c i j) ≤ 1 := fun i hi j hj => by
    obtain ⟨s0, s1, s2⟩ := hs i hi
    have p0 := S.nn i hi j hj
    have p1 := S.le_one hi hj
    unfold lM
    rw [if_pos hj]
    constructor
    · rw [show ∀ a b c : Rat, a * (b - c) = a * b - a * c from fun a b c => by grind]
      refine IsI.sub ?_ ?_
      · split
        · rw [Rat.mul_one]; exact IsI.nat _
        · rw [Rat.mul_zero]; exact IsI.zero
      · split
        · rw [Rat.mul_zero]; exact IsI.zero
        · rw [Rat.mul_comm]; exact s2 j hj
    · split <;> split <;> exact ab_le (by grind) (by grind)
  have hl : ∀ i, i < n → IsI ((s i : Rat) * lM n P c i n * (D : Rat)) ∧ ab (lM n P c i n) ≤ ((1000 : Nat) : Rat) := fun i hi => by
    obtain ⟨i1, i2⟩ := hc i hi
    unfold lM
    rw [if_neg (Nat.lt_irrefl n)]
    by_cases q : Recu n P i
    · rw [if_pos q, Rat.mul_assoc]; exact ⟨(IsI.nat _).mul i1, i2⟩
    · rw [if_neg q, Rat.mul_zero, Rat.zero_mul, ab_zero]; exact ⟨IsI.zero, cast_nn _⟩
  refine ⟨fun i hi => ⟨(hs i hi).1, (hs i hi).2.1⟩, fun j hj => ?_, fun j hj => ?_, fun i hi j hj => ?_, fun i hi j hj => ?_, fun i hi => ?_, by decide, ?_⟩
  · show 0 < (if j < n then 1 else D) ∧ (if j < n then 1 else D) ≤ D
    split <;> omega
  · show (if j < n then 1 else D) ≤ 1
    rw [if_pos hj]; exact Nat.le_refl _
  · show IsI ((s i : Rat) * lM n P c i j * (((if j < n then 1 else D) : Nat) : Rat))
    by_cases q : j < n
    · rw [if_pos q, h1, Rat.mul_one]; exact (hv i hi j q).1
    · have : j = n := by omega
      rw [if_neg q, this]; exact (hl i hi).1
  · show ab ((s i : Rat) * lM n P c i j * (((if j < n then 1 else D) : Nat) : Rat)) ≤ ((360 : Nat) : Rat)
    rw [if_pos hj, h1, Rat.mul_one, ab_mul, ab_of_nonneg (cast_nn _)]
    have a2 := mul_le2 (cast_le (hs i hi).2.1) (hv i hi j hj).2 (cast_nn _) (ab_nonneg _)
    rw [Rat.mul_one] at a2
    exact a2
  · show ab ((s i : Rat) * lM n P c i n * (((if n < n then 1 else D) : Nat) : Rat)) ≤ ((360 * 1000 * D : Nat) : Rat)
    rw [if_neg (Nat.lt_irrefl n), ab_mul, ab_mul, ab_of_nonneg (cast_nn _), ab_of_nonneg (cast_nn D), Rat.natCast_mul (360 * 1000), Rat.natCast_mul 360]
    refine Rat.mul_le_mul_of_nonneg_right ?_ (cast_nn _)
    exact mul_le2 (cast_le (hs i hi).2.1) (hl i hi).2 (cast_nn _) (ab_nonneg _)
  · exact Nat.mul_pos (by decide) hD
theorem lM_small (S : Stoch n P) (hn : n ≤ 12) {s : Nat → Nat} (hs : ∀ x, x < n → 0 < s x ∧ s x ≤ 360 ∧ ∀ y, y < n → IsI (P x y * (s x : Rat))) {D : Nat} (hD : 0 < D) (hD2 : D ≤ 2 ^ 1900) (hc : ∀ k, k < n → IsI (c k * (D : Rat)) ∧ ab (c k) ≤ ((1000 : Nat) : Rat)) : Small n (lM n P c) := by
  have hscl := lM_scl S hs hD hc
  have hN : ∀ m : Nat, m ≤ 12 → (m + 1) ^ (m + 1) * 360 ^ m * (360 * 1000) < 2 ^ 200 := by decide +kernel
  have hN2 : ∀ m : Nat, m ≤ 12 → (m + 1) ^ (m + 1) * 360 ^ m * 360 < 2 ^ 200 := by decide +kernel
  have go : ∀ A : Nat, A < 2 ^ 200 → A * D < 2 ^ 2900 := fun A hA => by
    have h1 : A * D ≤ 2 ^ 200 * 2 ^ 1900 := Nat.mul_le_mul (Nat.le_of_lt hA) hD2
    rw [← Nat.pow_add] at h1
    exact Nat.lt_of_le_of_lt h1 (Nat.pow_lt_pow_right (by decide) (by decide))
  refine hscl.small ?_ ?_
  · unfold Wn
    rw [Nat.mul_one, ← Nat.mul_assoc]
    exact go _ (hN n hn)
  · unfold Wd
    exact go _ (hN2 n hn)
theorem nb12 {n : Nat} (h : n ≤ 12) : NB n ≤ 2 ^ 151 := by
  have : ∀ n : Nat, n ≤ 12 → NB n ≤ 2 ^ 151 := by unfold NB; decide +kernel
  exact this n h
end
end Mh
end
section
set_option Elab.async false
set_option linter.all false
set_option maxRecDepth 100000
set_option maxHeartbeats 4000000
set_option exponentiation.threshold 20000
/-! the law's long gains: the reading -/
namespace Mh
open PySem PySem.Spec PyProof.Rows L2
open C8 (Cal pe_c)
open Evl (ixN_nat)
theorem is_not_non {K : PySem.W.Frag} {H : Hp} {v : V} {ns : List Nat} (h : Is K H v (il ns)) : v ≠ .non := by
  obtain ⟨a, rfl, _⟩ := is_il h
  exact fun z => by cases z
section
variable {K : PySem.W.Frag}
open Classical in
theorem lM_row (n : Nat) (P : Mat) (c : Nat → Rat) (k : Nat) (w : PyData) (hw : w = qd (if Recu n P k then c k else 0)) : fl (n + 1) (fun j => qd (lM n P c k j)) = fl n (fun j => qd ((if k = j then 1 else 0) - (if Recu n P k then 0 else P k j))) ++ [w] := by
  rw [fl_snoc]
  congr 1
  · exact fl_congr fun j hj => by unfold lM; rw [if_pos hj]
  · unfold lM; rw [if_neg (Nat.lt_irrefl n), hw]
open Classical in
theorem h67 (vs : List V) (H : Hp) (Q : VK) (E : XK) (h : sp67 K vs H Q E) : t67 K { nx := fun _ H' => Q .non H', rt := Q } (start n67 vs) H := by
  obtain ⟨n, C, x, Hs, rfl, hC, hn1, hn, hx, st, q⟩ := h
  obtain ⟨a, xs, rfl, ha, hxs⟩ := is_gd hx
  have lx : xs.length = n := by rw [hxs.flen, hC.len]
  have hS := hC.stoch
  obtain ⟨s, hs⟩ := hC.dens
  have en : ((n : Nat) : Int).toNat = n := by omega
  refine ⟨_, rfl, n, C, _, Hs, rfl, hC, hn, hx, st, fun vf Hs1 H1 e1 hvf => ?_⟩
  obtain ⟨bf, fs, rfl, hbf, ifs⟩ := hvf.list
  refine ⟨_, rfl, n, Pm C, _, Hs1, rfl, hn, hvf, e1.t, fun vr Hs2 H2 e2 hvr => ?_⟩
  obtain ⟨br, rs, rfl, hbr, irs⟩ := hvr.list
  have e12 := e1.trans e2
  refine ⟨_, rfl, a, xs, rfl, .inl (SqL.of (e12.t _ _ (e12.s _ _ ha))), ?_⟩
  rw [lx]
  refine ⟨Nat.zero_le _, fun l hl => ?_⟩
  have hlH : H l = none := e12.free hl
  have e3 := e12.newM (o := .lst []) hl
  refine ⟨_, rfl, _, rfl, by omega, by omega, ?_⟩
  rw [en]
  have hf2 := e2.s _ _ hbf
  refine for_it walk_rng0 (fun i τ H' => ∃ (Hs' : Hp) (ys : List V) (c : Nat → Rat) (D2 : Nat) (y5 y6 y7 y8 y9 y10 : Option V), τ = [some (.ref a), some (.ref bf), some (.ref br), some (.int (n : Int)), some (.ref l), y5, y6, y7, y8, y9, y10] ∧ Same Hs2 Hs' ∧ Ext0 Hs H Hs' H' ∧ Hs' l = none ∧ H' l = some (.lst ys) ∧ IsA K Hs' ys (fl i fun k => vd (n + 1) (lM n (Pm C) c k)) ∧
      0 < D2 ∧ D2 ≤ (2 ^ 151) ^ i ∧ ∀ k, k < i → (Recu n (Pm C) k → DueOk n (Pm C) (gm C) k (c k)) ∧ IsI (c k * ((27720 * D2 : Nat) : Rat)) ∧ ab (c k) ≤ ((1000 : Nat) : Rat))
    ⟨Hs2, [], fun _ => 0, 1, _, _, _, _, _, _, rfl, Same.refl _, e3, e12.t.free hl, upd_same, .nil, by decide, by simp, fun k hk => absurd hk (by omega)⟩ (fun _ _ _ _ _ => trivial) ?_ ?_
  · rintro i x τ H3 H3' hi ⟨Hs3, ys, c, D2, y5, y6, y7, y8, y9, y10, rfl, s3, e3, l0, l1, iys, d0, d1, hc⟩ ⟨rfl, rfl⟩
    have lys := iys.flen
    refine ⟨_, rfl, _, rfl, by omega, by omega, fun D hD => ?_⟩
    rw [en]
    refine lc_map (K := K) (Hs := Hs3) (n := n) walk_rng0 e3.t (fun _ _ => trivial) hD (fun j => qd (if i = j then 1 else 0)) (by omega) ?_ ?_
    · rintro j x Hs4 H4 H4' C' hj e4 dd ⟨rfl, rfl⟩ kk
      refine ⟨rfl, _, rfl, _, rfl, rfl, .inr ⟨_, rfl, by show 2 ≤ sizeLine; decide, fun u hu => ?_⟩⟩
      refine kk _ _ _ ((Ext.refl e4.t).new hu) (.tup (SqT.of upd_same) ?_)
      by_cases cj : i = j
      · rw [decide_eq_true (show V.int ((i : Nat) : Int) = V.int ((j : Nat) : Int) by rw [cj]), if_pos cj]
        exact .cons (.int 1) (.cons (.int 1) .nil)
      · rw [decide_eq_false (show ¬ V.int ((i : Nat) : Int) = V.int ((j : Nat) : Int) from fun z => cj (by have := V.int.inj z; omega)), if_neg cj]
        exact .cons (.int 0) (.cons (.int 1) .nil)
    intro Hs4 H4 ws e4 dd0 dd1 hws
    obtain ⟨l2, l3⟩ := e4.own (fun z => z) l1 l0
    have nlD : l ≠ D := ne_of_none l1 hD
    have e5 := (e3.trans e4).frz (e3.free hD) dd0 dd1
    have s5 : Same Hs3 (upd Hs4 D (.lst ws)) := e4.s.trans (same_new dd0)
    have iD : IsA K (upd Hs4 D (.lst ws)) ws (fl n fun j => qd (if i = j then 1 else 0)) := hws.up (same_new dd0)
    have hDD : (upd Hs4 D (.lst ws)) D = some (.lst ws) := upd_same
    have l4 : (upd Hs4 D (.lst ws)) l = none := by rw [upd_ne nlD]; exact l2
    generalize hHs5 : upd Hs4 D (.lst ws) = Hs5 at e5 s5 iD hDD l4
    refine ⟨by show 2 ≤ sizeLine; decide, fun u hu => ?_⟩
    have nlu : l ≠ u := ne_of_none l3 hu
    have e6 := e5.new (o := .tup [.int 0, .int 1]) hu
    have su := same_new (o := .tup [.int 0, .int 1]) (e5.t.free hu)
    have i0 : Is K (upd Hs5 u (.tup [.int 0, .int 1])) (.ref u) (qd 0) := .tup (SqT.of upd_same) (.cons (.int 0) (.cons (.int 1) .nil))
    have l5 : (upd Hs5 u (.tup [.int 0, .int 1])) l = none := by rw [upd_ne nlu]; exact l4
    have l6 : (upd H4 u (.tup [.int 0, .int 1])) l = some (.lst ys) := by rw [upd_ne nlu]; exact l3
    have hD6 := su _ _ hDD
    have iD6 := iD.up su
    have s6 : Same Hs2 (upd Hs5 u (.tup [.int 0, .int 1])) := (s3.trans s5).trans su
    have s36 : Same Hs3 (upd Hs5 u (.tup [.int 0, .int 1])) := s5.trans su
    generalize hHs6 : upd Hs5 u (.tup [.int 0, .int 1]) = Hs6 at e6 i0 l5 hD6 iD6 s6 s36
    generalize hH6 : upd H4 u (.tup [.int 0, .int 1]) = H6 at e6 l6
    obtain ⟨vroom, evr, ivr⟩ := irs.fget hi
    have hbr6 := s6 _ _ hbr
    -- what ends the turn
    have app : ∀ (Hs7 H7 : Hp) (E2 : Addr) (es : List V) (w : V) (ck : Rat) (N : Nat) (y8 : Option V), Ext0 Hs H Hs7 H7 → Same Hs6 Hs7 → Hs7 l = none → H7 l = some (.lst ys) → Hs7 E2 = some (.lst es) → IsA K Hs7 es (fl n fun j => qd ((if i = j then 1 else 0) - (if Recu n (Pm C) i then 0 else Pm C i j))) → Is K Hs7 w (qd (if Recu n (Pm C) i then ck else 0)) → 0 < N → N ≤ 2 ^ 151 → (Recu n (Pm C) i → DueOk n (Pm C) (gm C) i ck) → IsI (ck * ((27720 * N : Nat) : Rat)) → ab ck ≤ ((1000 : Nat) : Rat) →
        (tDrop (tBM K "list" rAppend (tVar 4) (tCons (tOp rCat (tVar 6) (tLst (tCons (tVar 7) tNil))) tNil))) { nx := fun τ H' => ∃ (Hs' : Hp) (ys : List V) (c : Nat → Rat) (D2 : Nat) (y5 y6 y7 y8 y9 y10 : Option V), τ = [some (.ref a), some (.ref bf), some (.ref br), some (.int (n : Int)), some (.ref l), y5, y6, y7, y8, y9, y10] ∧ Same Hs2 Hs' ∧ Ext0 Hs H Hs' H' ∧ Hs' l = none ∧ H' l = some (.lst ys) ∧ IsA K Hs' ys (fl (i + 1) fun k => vd (n + 1) (lM n (Pm C) c k)) ∧
      0 < D2 ∧ D2 ≤ (2 ^ 151) ^ (i + 1) ∧ ∀ k, k < i + 1 → (Recu n (Pm C) k → DueOk n (Pm C) (gm C) k (c k)) ∧ IsI (c k * ((27720 * D2 : Nat) : Rat)) ∧ ab (c k) ≤ ((1000 : Nat) : Rat), rt := Q } [some (.ref a), some (.ref bf), some (.ref br), some (.int (n : Int)), some (.ref l), some (.int (i : Nat)), some (.ref E2), some w, y8, y9, y10] H7 := by
      intro Hs7 H7 E2 es w ck N y8 e7 s7 k0 k1 hE ies iw n0 n1 hdue hck1 hck2
      refine ⟨_, rfl, .inl ⟨rfl, _, .inl (.inl k1)⟩, _, rfl, _, rfl, by show 1 ≤ sizeLine; decide, fun b hb => ?_⟩
      have nlb : l ≠ b := ne_of_none k1 hb
      have les := ies.flen
      have e8 := e7.newM (o := .lst [w]) hb
      refine ⟨E2, b, es, _, rfl, rfl, e8.t _ _ hE, upd_same, bl_sl (by show es.length + 1 ≤ 100000; omega), fun z hz => ?_⟩
      have nlz : l ≠ z := ne_of_none (by rw [upd_ne nlb]; exact k1) hz
      have e9 := e8.new (o := .lst (es ++ [w])) hz
      have sz := same_new (o := .lst (es ++ [w])) (e8.t.free hz)
      have k2 : (upd Hs7 z (.lst (es ++ [w]))) l = none := by rw [upd_ne nlz]; exact k0
      refine ⟨l, ys, _, rfl, rfl, by rw [upd_ne nlz, upd_ne nlb]; exact k1, big_lt (by omega), ?_⟩
      obtain ⟨c', hci, hcn⟩ : ∃ c' : Nat → Rat, c' i = ck ∧ ∀ k, k ≠ i → c' k = c k := ⟨fun k => if k = i then ck else c k, if_pos rfl, fun k hk => if_neg hk⟩
      refine ⟨_, _, c', D2 * N, _, _, _, _, _, _, rfl, (s6.trans s7).trans sz, e9.mut (.inl hlH) k2, k2, upd_same, ?_, Nat.mul_pos d0 n0, ?_, fun k hk => ?_⟩
      · rw [fl_snoc]
        have sA : Same Hs3 (upd Hs7 z (.lst (es ++ [w]))) := (s36.trans s7).trans sz
        refine IsA.append ((iys.up sA).fcongr fun k hk => ?_) (.cons (.lst upd_same ?_) .nil)
        · congr 1
          funext j
          unfold lM
          rw [hcn k (by omega)]
        · rw [lM_row n (Pm C) c' i (qd (if Recu n (Pm C) i then ck else 0)) (by rw [hci])]
          exact (ies.up sz).append (.cons (iw.up sz) .nil)
      · rw [Nat.pow_succ]; exact Nat.mul_le_mul d1 n1
      · by_cases ci : k = i
        · subst ci
          rw [hci]
          refine ⟨hdue, ?_, hck2⟩
          have := hck1.natmul D2
          rw [show 27720 * N * D2 = 27720 * (D2 * N) by rw [Nat.mul_assoc, Nat.mul_comm N]] at this
          exact this
        · rw [hcn k ci]
          obtain ⟨a1, a2, a3⟩ := hc k (by omega)
          refine ⟨a1, ?_, a3⟩
          have := a2.natmul N
          rw [Nat.mul_assoc] at this
          exact this
    refine ⟨_, rfl, _, rfl, br, rs, _, vroom, rfl, rfl, SqL.of (e6.t _ _ hbr6), atI_nat evr, _, rfl, ?_⟩
    by_cases hR : Recu n (Pm C) i
    · have ivr2 : Is K Hs2 vroom (il (reachL n (Pm C) i)) := by unfold roomD at ivr; rw [if_pos hR] at ivr; exact ivr
      rw [decide_eq_false (is_not_non ivr2)]
      refine iteF ?_
      have Kl := reach_room hi hR
      have hne : reachL n (Pm C) i ≠ [] := fun z => by
        have := mem_reachL.mpr ⟨hi, Rc.refl (n := n) (P := Pm C) i⟩
        rw [z] at this; cases this
      obtain ⟨R, hRe⟩ : ∃ R, R = reachL n (Pm C) i := ⟨_, rfl⟩
      rw [← hRe] at Kl hne ivr2
      have lR : R.length ≤ n := nd_len n R Kl.nd Kl.lt
      obtain ⟨rr, rfl, hrr⟩ := is_il ivr2
      have hrr6 := s6 _ _ hrr
      refine ⟨_, rfl, _, rfl, _, rfl, br, rs, _, _, rfl, rfl, SqL.of (e6.t _ _ hbr6), atI_nat evr, n, C, R, _, _, Hs6, rfl, hC, hn, Kl, hne, (hvf.up e2.s).up s6, ivr2.up s6, e6.t, fun vw Hs7 H7 ν e7 hSh hvw => ?_⟩
      obtain ⟨bw, nus, rfl, hbw, inu⟩ := is_vd hvw
      obtain ⟨l7, l8⟩ := e7.own (fun z => z) l6 l5
      have e8 := e6.trans e7
      have lnu := inu.flen
      have hf : ∀ c, c < R.length → IsI (gm C (R.getD c 0) * ((27720 : Nat) : Rat)) ∧ ab (gm C (R.getD c 0)) ≤ ((1000 : Nat) : Rat) := fun c hc => ⟨(gm_dn hC).i _ (Kl.lt _ (getD_mem hc)), (gm_dn hC).b _ (Kl.lt _ (getD_mem hc))⟩
      obtain ⟨N, n0, n1, n2, n3, n4⟩ := hSh.sum hS Kl (by decide : 0 < 27720) hf
      have hN : N ≤ 2 ^ 151 := Nat.le_trans n1 (nb12 hn)
      have hDN : 27720 * N ≤ 2 ^ 166 := by
        have := p2mul (show 27720 ≤ 2 ^ 15 by decide) hN
        exact this
      refine ⟨_, rfl, bw, nus, rfl, .inl (SqL.of (e7.t _ _ hbw)), _, rfl, by omega, by omega, fun D3 hD3 => ?_⟩
      have en2 : ((nus.length : Nat) : Int).toNat = R.length := by omega
      rw [en2]
      refine lc_map (K := K) (Hs := Hs7) (n := R.length) walk_rng0 e7.t (fun _ _ => trivial) hD3 (fun j => qd (ν j * gm C (R.getD j 0))) (by omega) ?_ ?_
      · rintro j x Hs8 H8 H8' C' hj e9 dd ⟨rfl, rfl⟩ kk
        obtain ⟨v1, ev1, iv1⟩ := inu.fget hj
        have evR : (vi R)[j]? = some (.int ((R.getD j 0 : Nat) : Int)) := vi_at (range_get R 0 hj)
        have on := Kl.lt _ (getD_mem hj)
        obtain ⟨uu, eu, iu⟩ := hxs.fget (i := R.getD j 0) (by rw [hC.len]; exact on)
        obtain ⟨cp, g, bb, bs, rfl, hcp, ig, hbs, ibs⟩ := is_pd iu
        have e10 := e8.trans e9
        have s78 := e7.s.trans e9.s
        refine ⟨rfl, _, rfl, _, rfl, bw, nus, _, v1, rfl, rfl, SqL.of (e9.t _ _ (e9.s _ _ hbw)), atI_nat ev1, ?_⟩
        refine ⟨_, rfl, _, rfl, _, rfl, br, rs, _, _, rfl, rfl, SqL.of (e9.t _ _ (s78 _ _ hbr6)), atI_nat evr, _, rfl, rr, vi R, _, _, rfl, rfl, SqL.of (e9.t _ _ (s78 _ _ hrr6)), atI_nat evR, a, xs, _, _, rfl, rfl, SqL.of (e10.t _ _ (e10.s _ _ ha)), atI_nat eu, cp, _, 0, g, rfl, rfl, sqt_up e10.t (sqt_up e10.s hcp), rfl, ?_⟩
        refine ⟨ν j, gm C (R.getD j 0), 153, 28, v1, g, Hs8, rfl, iv1.up e9.s, ig.up e10.s, ?_, (gm_dn hC).szp (a := 15) (b := 12) (by decide) (by decide) on, by decide, e9.t, fun w Hs9 H9 e11 hw => kk w Hs9 H9 e11 hw⟩
        have h0 := hSh.pos hS Kl j hj
        exact sz_pow (K := 1) (a := 151) (b := 1) (n2 j hj) (by rw [ab_of_nonneg (by grind)]; exact hSh.le_one hS Kl hj) n0 hN (by decide)
      · intro Hs8 H8 ws8 e9 q0 q1 hw8
        obtain ⟨l9, l10⟩ := e9.own (fun z => z) l8 l7
        have e10 := (e8.trans e9).frz (e8.free hD3) q0 q1
        have nlD3 : l ≠ D3 := ne_of_none l8 hD3
        have sq := same_new (o := .lst ws8) q0
        refine ⟨(List.range R.length).map fun j => ν j * gm C (R.getD j 0), 177, _, upd Hs8 D3 (.lst ws8), rfl, .lst upd_same (by rw [List.map_map]; exact hw8.up sq), by simp; omega, by decide, fun q hq => ?_, fun c hc => ?_, e10.t, fun w Hs9 H9 e11 hw => ?_⟩
        · obtain ⟨c, hc, rfl⟩ := List.mem_map.mp hq
          have hc := List.mem_range.mp hc
          exact sz_pow (a := 166) (b := 10) (n3 c hc).1 (n3 c hc).2 (Nat.mul_pos (by decide) n0) hDN (by decide)
        · rw [List.length_map, List.length_range] at hc
          rw [take_range_map _ hc, sumq_range]
          exact sz_pow (a := 166) (b := 10) (n4 c hc).1 (n4 c hc).2 (Nat.mul_pos (by decide) n0) hDN (by decide)
        · rw [sumq_range] at hw
          obtain ⟨l11, l12⟩ := e11.own (fun z => z) l10 (by rw [upd_ne nlD3]; exact l9)
          have s9 : Same Hs6 Hs9 := ((e7.s.trans e9.s).trans sq).trans e11.s
          refine app Hs9 H9 D ws w (sm R.length fun j => ν j * gm C (R.getD j 0)) N _ (e10.trans e11) s9 l11 l12 (s9 _ _ hD6) ((iD6.up s9).fcongr fun j _ => ?_) (by rw [if_pos hR]; exact hw) n0 hN (fun _ => ⟨ν, by rw [← hRe]; exact hSh, by rw [← hRe]⟩) (n4 R.length (Nat.le_refl _)).1 (n4 R.length (Nat.le_refl _)).2
          rw [if_pos hR]
          congr 1
          grind
    · have ivr2 : Is K Hs2 vroom .none := by unfold roomD at ivr; rw [if_neg hR] at ivr; exact ivr
      cases ivr2.non'
      refine iteT ?_
      refine ⟨_, rfl, _, rfl, by omega, by omega, fun D3 hD3 => ?_⟩
      rw [en]
      obtain ⟨vfi, evf, ivf⟩ := ifs.fget hi
      obtain ⟨bfi, fis, rfl, hbfi, ifi⟩ := is_vd ivf
      have s16 : Same Hs1 Hs6 := e2.s.trans s6
      refine lc_map (K := K) (Hs := Hs6) (n := n) walk_rng0 e6.t (fun _ _ => trivial) hD3 (fun j => qd ((if i = j then 1 else 0) - Pm C i j)) (by omega) ?_ ?_
      · rintro j x Hs8 H8 H8' C' hj e9 dd ⟨rfl, rfl⟩ kk
        obtain ⟨v1, ev1, iv1⟩ := iD6.fget hj
        obtain ⟨v2, ev2, iv2⟩ := ifi.fget hj
        obtain ⟨p2, rfl, hp2⟩ := is_q iv2
        have s18 := s16.trans e9.s
        have hp2' := sqt_up e9.t (sqt_up s18 hp2)
        refine ⟨rfl, _, rfl, _, rfl, D, ws, _, v1, rfl, rfl, SqL.of (e9.t _ _ (e9.s _ _ hD6)), atI_nat ev1, ?_⟩
        refine ⟨_, rfl, _, rfl, bf, fs, _, _, rfl, rfl, SqL.of (e9.t _ _ (s18 _ _ hbf)), atI_nat evf, _, rfl, bfi, fis, _, _, rfl, rfl, SqL.of (e9.t _ _ (s18 _ _ hbfi)), atI_nat ev2, p2, _, 0, _, rfl, rfl, hp2', rfl, _, rfl, ?_⟩
        refine ⟨_, rfl, _, rfl, bf, fs, _, _, rfl, rfl, SqL.of (e9.t _ _ (s18 _ _ hbf)), atI_nat evf, _, rfl, bfi, fis, _, _, rfl, rfl, SqL.of (e9.t _ _ (s18 _ _ hbfi)), atI_nat ev2, p2, _, 1, _, rfl, rfl, hp2', rfl, by show 2 ≤ sizeLine; decide, fun w hw => ?_⟩
        refine ⟨by show 2 ≤ sizeLine; decide, fun w2 hw2 => ?_⟩
        have nww : w ≠ w2 := ne_of_none upd_same hw2
        have e11 := ((Ext.refl e9.t : Ext0 Hs8 _ Hs8 _).new (o := .tup [.int (-(Pm C i j).num), .int ((Pm C i j).den : Int)]) hw).new (o := .lst [v1, .ref w]) hw2
        have s11 : Same Hs8 (upd (upd Hs8 w (.tup [.int (-(Pm C i j).num), .int ((Pm C i j).den : Int)])) w2 (.lst [v1, .ref w])) := (same_new (e9.t.free hw)).trans (same_new (((Ext.refl e9.t : Ext0 Hs8 _ Hs8 _).new (o := .tup [.int (-(Pm C i j).num), .int ((Pm C i j).den : Int)]) hw).t.free hw2))
        have ineg : Is K (upd (upd Hs8 w (.tup [.int (-(Pm C i j).num), .int ((Pm C i j).den : Int)])) w2 (.lst [v1, .ref w])) (.ref w) (qd (-(Pm C i j))) :=
          .tup (SqT.of (by rw [upd_ne nww]; exact upd_same)) (.cons (.int _) (.cons (.int _) .nil))
        obtain ⟨s0, s1, s2⟩ := hs i hi
        have p0 := hS.nn i hi j hj
        have p1 := hS.le_one hi hj
        have z1 : Sz 10 (if i = j then (1 : Rat) else 0) := by split; exact Sz.one (by decide); exact Sz.zero (by decide)
        have z2 : Sz 10 (-(Pm C i j)) := (frac_sz s0 s1 (s2 j hj) (ab_le (by grind) (by grind))).neg
        have z3 : Sz 10 ((if i = j then (1 : Rat) else 0) + -(Pm C i j)) := by
          refine frac_sz s0 s1 ?_ ?_
          · rw [Rat.add_mul, Rat.neg_mul]
            refine IsI.add ?_ (s2 j hj).neg
            split
            · rw [Rat.one_mul]; exact IsI.nat _
            · rw [Rat.zero_mul]; exact IsI.zero
          · split <;> exact ab_le (by grind) (by grind)
        refine ⟨[if i = j then 1 else 0, -(Pm C i j)], 10, _, _, rfl, .lst upd_same (.cons ((iv1.up e9.s).up s11) (.cons ineg .nil)), by show 2 ≤ 1000; decide, by decide, fun q hq => ?_, sz_two z1 z3 (by decide), e11.t, fun v7 Hs12 H12 e12 hv7 => kk v7 Hs12 H12 (e11.trans e12) ?_⟩
        · rcases List.mem_cons.mp hq with zz | zz
          · rw [zz]; exact z1
          · cases List.mem_singleton.mp zz; exact z2
        · rw [sumq_two, ← Rat.sub_eq_add_neg] at hv7
          exact hv7
      · intro Hs8 H8 ws8 e9 q0 q1 hw8
        obtain ⟨l9, l10⟩ := e9.own (fun z => z) l6 l5
        have e10 := (e6.trans e9).frz (e6.free hD3) q0 q1
        have nlD3 : l ≠ D3 := ne_of_none l6 hD3
        have sq := same_new (o := .lst ws8) q0
        refine app (upd Hs8 D3 (.lst ws8)) H8 D3 ws8 (.ref u) 0 1 _ e10 (e9.s.trans sq) (by rw [upd_ne nlD3]; exact l9) l10 upd_same ((hw8.up sq : IsA K _ ws8 (fl n fun j => qd ((if i = j then 1 else 0) - Pm C i j))).fcongr fun j _ => by rw [if_neg hR]) (by rw [if_neg hR]; exact (i0.up e9.s).up sq) (by decide) (by decide +kernel) (fun z => absurd z hR) (by rw [Rat.zero_mul]; exact IsI.zero) (by rw [ab_zero]; exact cast_nn _)
  · rintro τ H3 ⟨Hs3, ys, c, D2, y5, y6, y7, y8, y9, y10, rfl, s3, e3, l0, l1, iys, d0, d1, hc⟩
    have e4 := e3.frz hlH l0 l1
    have hD0 : 0 < 27720 * D2 := Nat.mul_pos (by decide) d0
    have hD2 : 27720 * D2 ≤ 2 ^ 1900 := by
      have h1 : D2 ≤ 2 ^ 1812 := by
        refine Nat.le_trans d1 ?_
        rw [← Nat.pow_mul]
        exact Nat.pow_le_pow_right (by decide) (by omega)
      have h2 := p2mul (show 27720 ≤ 2 ^ 15 by decide) h1
      exact Nat.le_trans h2 (Nat.pow_le_pow_right (by decide) (by decide))
    have hsm := lM_small hS hn hs hD0 hD2 fun k hk => (hc k hk).2
    refine ⟨_, rfl, n, lM n (Pm C) c, _, _, rfl, hn1, by omega, .lst upd_same (iys.up (same_new l0)), lM_inj hS, hsm, e4.t, fun v Hs5 H5 y e5 hA hv => ?_⟩
    refine q v Hs5 H5 y (e4.trans e5) (lM_long hS (fun k hk hr => (hc k hk).1 hr) hA.solves) (fun k hk => ?_) hv
    obtain ⟨S, M, g, hSl, hy⟩ := hA
    rw [hy k hk]
    exact hsm S M g _ (g.lt _ (getD_mem (by omega))) n (by omega)
end
end Mh
end
section
set_option Elab.async false
set_option linter.all false
set_option maxRecDepth 100000
set_option maxHeartbeats 4000000
set_option exponentiation.threshold 20000
/-! extremes and plans: the readings -/
namespace Mh
open PySem PySem.Spec PyProof.Rows L2
open C8 (Cal pe_c)
open Evl (ixN_nat)
section
variable {K : PySem.W.Frag}
theorem h70 (vs : List V) (H : Hp) (Q : VK) (E : XK) (h : sp70 K vs H Q E) : t70 K { nx := fun _ H' => Q .non H', rt := Q } (start n70 vs) H := by
  obtain ⟨n, L, way, x, Hs, rfl, hway, hn, hne, hsz, hx, st, q⟩ := h
  obtain ⟨a, xs, rfl, ha, hxs⟩ := hx.list
  have lxs : xs.length = L.length := by rw [hxs.len, List.length_map]
  obtain ⟨g0, L', hL⟩ := List.exists_cons_of_ne_nil hne
  obtain ⟨v0, ev0, iv0⟩ := hxs.get (show (L.map fun g => vd n g)[0]? = some (vd n g0) by rw [hL]; rfl)
  have g0L : g0 ∈ L := by rw [hL]; simp
  refine ⟨_, rfl, a, xs, _, _, rfl, rfl, SqL.of (st _ _ ha), atI_nat (j := 0) ev0, ?_⟩
  refine ⟨_, rfl, a, rfl, ⟨xs, SqL.of (st _ _ ha)⟩, ?_⟩
  refine for_it (walk_list (xs := xs)) (fun i τ H' => ∃ (Hs' : Hp) (v : V) (f : Nat → Rat) (y3 y4 y5 : Option V), τ = [some (.ref a), some (.int way), some v, y3, y4, y5] ∧ Ext0 Hs H Hs' H' ∧ Is K Hs' v (vd n f) ∧ (∀ x, x < n → ∃ g ∈ L, f x = g x) ∧ ∀ x, x < n → ∀ g ∈ L.take i, (way : Rat) * g x ≤ (way : Rat) * f x)
    ⟨Hs, v0, g0, _, _, _, rfl, Ext.refl st, iv0, fun x _ => ⟨g0, g0L, rfl⟩, fun x _ g hg => by rw [List.take_zero] at hg; cases hg⟩ (fun i τ H' _ ⟨Hs', _, _, _, _, _, _, e, _⟩ => SqL.of (e.t _ _ (e.s _ _ ha))) ?_ ?_
  · rintro i x τ H1 H1' hi ⟨Hs1, v, f, y3, y4, y5, rfl, e1, iv, hat, hle⟩ ⟨rfl, hx1⟩
    obtain ⟨dd, hdd, ix⟩ := hxs.get' hx1
    obtain ⟨g, eg, rfl⟩ := map_get hdd
    have hgL : g ∈ L := List.mem_of_getElem? eg
    obtain ⟨b, zs, rfl, hb, hzs⟩ := is_vd iv
    obtain ⟨c, ws, rfl, hc, hws⟩ := is_vd ix
    have hc1 := e1.s _ _ hc
    have fsz : ∀ x, x < n → Sz 2900 (f x) := fun x hx => by
      obtain ⟨g', hg', e⟩ := hat x hx
      rw [e]; exact hsz g' hg' x hx
    refine ⟨_, rfl, _, rfl, b, c, zs, ws, rfl, SqL.of (e1.t _ _ hb), SqL.of (e1.t _ _ hc1), fun D hD => ?_⟩
    refine lc_map (K := K) (Hs := Hs1) (walk_zip (xs := zs) (ys := ws) (n := n) (by rw [hzs.flen, hws.flen]; simp)) e1.t (fun H' s => ⟨SqL.of (s _ _ hb), SqL.of (s _ _ hc1)⟩) hD (fun j => qd (if (way : Rat) * f j < (way : Rat) * g j then g j else f j)) (by omega) ?_ ?_
    · rintro j v Hs2 H2 H2' C' hj e2 d0 ⟨T', vx, vy, rfl, hT, rfl, ex, ey⟩ kk
      obtain ⟨_, jx⟩ := hzs.fget' ex
      obtain ⟨_, jy⟩ := hws.fget' ey
      have e3 : Ext0 Hs2 H2 Hs2 (upd H2 T' (.tup [vx, vy])) := (Ext.refl e2.t).newM hT
      refine ⟨T', _, rfl, SqT.of upd_same, rfl, vx, [vy], rfl, vy, [], rfl, rfl, rfl, ?_⟩
      refine ⟨vx, rfl, vy, rfl, by show 2 ≤ sizeLine; decide, fun d hd => ?_⟩
      have e4 := e3.newM (o := .lst [vx, vy]) hd
      have jy2 := (jy.up e1.s).up e2.s
      refine ⟨vy, rfl, vx, rfl, g j, f j, 2900, 2900, vy, vx, rfl, jy2.up e4.t, (jx.up e2.s).up e4.t, hsz g hgL j hj, fsz j hj, by decide, ?_⟩
      refine ⟨_, rfl, rfl, .inr ⟨_, rfl, ?_⟩⟩
      by_cases cw : cmpq (g j) (f j) = way
      · rw [decide_eq_true (show V.int (cmpq (g j) (f j)) = V.int way by rw [cw])]
        have hlt := (cmp_way2 hway).mp cw
        refine ⟨d, _, _, vy, rfl, rfl, SqL.of upd_same, rfl, ?_⟩
        refine kk _ Hs2 _ e4 ?_
        rw [if_pos hlt]; exact jy2
      · rw [decide_eq_false (show ¬ V.int (cmpq (g j) (f j)) = V.int way from fun z => cw (V.int.inj z))]
        have hlt := fun z => cw ((cmp_way2 hway).mpr z)
        refine ⟨d, _, _, vx, rfl, rfl, SqL.of upd_same, rfl, ?_⟩
        refine kk _ Hs2 _ e4 ?_
        rw [if_neg hlt]; exact jx.up e2.s
    · intro Hs2 H2 ws2 e2 d0 d1 hw2
      refine ⟨_, _, fun j => if (way : Rat) * f j < (way : Rat) * g j then g j else f j, _, _, _, rfl, (e1.trans e2).frz (e1.free hD) d0 d1, .lst upd_same (hw2.up (same_new d0)), fun x hx => ?_, fun x hx g' hg' => ?_⟩
      · by_cases c : (way : Rat) * f x < (way : Rat) * g x
        · exact ⟨g, hgL, if_pos c⟩
        · obtain ⟨g', h1, h2⟩ := hat x hx
          exact ⟨g', h1, by rw [← h2]; exact if_neg c⟩
      · show (way : Rat) * g' x ≤ (way : Rat) * (if (way : Rat) * f x < (way : Rat) * g x then g x else f x)
        rw [take_snoc eg] at hg'
        have h3 : (way : Rat) * g' x ≤ (way : Rat) * f x ∨ g' = g := by
          rcases List.mem_append.mp hg' with z | z
          · exact .inl (hle x hx g' z)
          · exact .inr (List.mem_singleton.mp z)
        by_cases c : (way : Rat) * f x < (way : Rat) * g x
        · rw [if_pos c]
          rcases h3 with z | z
          · grind
          · rw [z]; exact Rat.le_refl
        · rw [if_neg c]
          rcases h3 with z | z
          · exact z
          · rw [z]; grind
  · rintro τ H1 ⟨Hs1, v, f, y3, y4, y5, rfl, e1, iv, hat, hle⟩
    rw [lxs, List.take_of_length_le (Nat.le_refl _)] at hle
    exact ⟨v, rfl, q v Hs1 H1 f e1 ⟨hat, hle⟩ iv⟩
/-- a plan of the first places -/
structure PlanP (s : Kd) (G : List Pl) (i : Nat) (σ : List (Option Nat)) : Prop where
  len : σ.length = i
  at_ : ∀ x, x < i → (pl G x).k = s → ∃ b, σ[x]? = some (some b) ∧ b < (pl G x).bs.length
  no : ∀ x, x < i → (pl G x).k ≠ s → σ[x]? = some none
theorem PlanP.snoc {s : Kd} {G : List Pl} {i : Nat} {σ : List (Option Nat)} {o : Option Nat} : PlanP s G (i + 1) (σ ++ [o]) ↔ PlanP s G i σ ∧ ((pl G i).k = s → ∃ b, o = some b ∧ b < (pl G i).bs.length) ∧ ((pl G i).k ≠ s → o = none) := by
  constructor
  · intro h
    have hl : σ.length = i := by have := h.len; rw [List.length_append] at this; simpa using this
    have e1 : ∀ x, x < i → (σ ++ [o])[x]? = σ[x]? := fun x hx => List.getElem?_append_left (by omega)
    have e2 : (σ ++ [o])[i]? = some o := by rw [List.getElem?_append_right (by omega), hl]; simp
    refine ⟨⟨hl, fun x hx hk => ?_, fun x hx hk => ?_⟩, fun hk => ?_, fun hk => ?_⟩
    · obtain ⟨b, h1, h2⟩ := h.at_ x (by omega) hk
      exact ⟨b, by rw [← e1 x hx]; exact h1, h2⟩
    · rw [← e1 x hx]; exact h.no x (by omega) hk
    · obtain ⟨b, h1, h2⟩ := h.at_ i (by omega) hk
      rw [e2] at h1
      exact ⟨b, Option.some.inj h1, h2⟩
    · have := h.no i (by omega) hk
      rw [e2] at this
      exact Option.some.inj this
  · rintro ⟨h, h1, h2⟩
    have hl := h.len
    have e1 : ∀ x, x < i → (σ ++ [o])[x]? = σ[x]? := fun x hx => List.getElem?_append_left (by omega)
    have e2 : (σ ++ [o])[i]? = some o := by rw [List.getElem?_append_right (by omega), hl]; simp
    refine ⟨by simp [hl], fun x hx hk => ?_, fun x hx hk => ?_⟩
    · by_cases c : x = i
      · subst c
        obtain ⟨b, h3, h4⟩ := h1 hk
        exact ⟨b, by rw [e2, h3], h4⟩
      · rw [e1 x (by omega)]; exact h.at_ x (by omega) hk
    · by_cases c : x = i
      · subst c; rw [e2, h2 hk]
      · rw [e1 x (by omega)]; exact h.no x (by omega) hk
end
end Mh
end
section
set_option Elab.async false
set_option linter.all false
set_option maxRecDepth 100000
set_option maxHeartbeats 4000000
set_option exponentiation.threshold 20000
/-! all plans: the reading -/
namespace Mh
open PySem PySem.Spec PyProof.Rows L2
open C8 (Cal pe_c)
open Evl (ixN_nat)
def nxt (s : Kd) (G : List Pl) (i : Nat) (ρ : List (Option Nat)) : List (List (Option Nat)) := if (pl G i).k = s then (List.range (pl G i).bs.length).map fun b => ρ ++ [some b] else [ρ ++ [none]]
theorem mem_nxt {s : Kd} {G : List Pl} {i : Nat} {ρ σ : List (Option Nat)} : σ ∈ nxt s G i ρ ↔ ∃ o, σ = ρ ++ [o] ∧ ((pl G i).k = s → ∃ b, o = some b ∧ b < (pl G i).bs.length) ∧ ((pl G i).k ≠ s → o = none) := by
  unfold nxt
  by_cases hk : (pl G i).k = s
  · rw [if_pos hk]
    constructor
    · intro h
      obtain ⟨b, hb, rfl⟩ := List.mem_map.mp h
      exact ⟨some b, rfl, fun _ => ⟨b, rfl, List.mem_range.mp hb⟩, fun z => absurd hk z⟩
    · rintro ⟨o, rfl, h1, _⟩
      obtain ⟨b, rfl, hb⟩ := h1 hk
      exact List.mem_map.mpr ⟨b, List.mem_range.mpr hb, rfl⟩
  · rw [if_neg hk]
    constructor
    · intro h
      exact ⟨none, List.mem_singleton.mp h, fun z => absurd z hk, fun _ => rfl⟩
    · rintro ⟨o, rfl, _, h2⟩
      rw [h2 hk]
      exact List.mem_singleton.mpr rfl
theorem nxt_len {n : Nat} {G : List Pl} (hG : GmOk n G) (s : Kd) {i : Nat} (hi : i < n) (ρ : List (Option Nat)) : (nxt s G i ρ).length ≤ 6 := by
  unfold nxt
  split
  · rw [List.length_map, List.length_range]; exact (hG.at hi).br
  · simp
theorem flat_len {α β : Type} (f : α → List β) {c : Nat} (h : ∀ a, (f a).length ≤ c) : ∀ l : List α, (l.flatMap f).length ≤ c * l.length
  | [] => by simp
  | a :: l => by
    rw [List.flatMap_cons, List.length_append, List.length_cons, Nat.mul_succ]
    have := flat_len f h l
    have := h a
    omega
theorem plans_step {s : Kd} {G : List Pl} {i : Nat} {L : List (List (Option Nat))} (h : ∀ σ, σ ∈ L ↔ PlanP s G i σ) (σ : List (Option Nat)) : σ ∈ L.flatMap (nxt s G i) ↔ PlanP s G (i + 1) σ := by
  rw [List.mem_flatMap]
  constructor
  · rintro ⟨ρ, hρ, hσ⟩
    obtain ⟨o, rfl, h1, h2⟩ := mem_nxt.mp hσ
    exact PlanP.snoc.mpr ⟨(h ρ).mp hρ, h1, h2⟩
  · intro hσ
    have hl := hσ.len
    have hne : σ ≠ [] := fun z => by rw [z] at hl; simp at hl
    have e := List.dropLast_concat_getLast hne
    rw [← e] at hσ ⊢
    obtain ⟨h0, h1, h2⟩ := PlanP.snoc.mp hσ
    exact ⟨_, (h _).mpr h0, mem_nxt.mpr ⟨_, rfl, h1, h2⟩⟩
section
variable {K : PySem.W.Frag}
theorem h71 (vs : List V) (H : Hp) (Q : VK) (E : XK) (h : sp71 K vs H Q E) : t71 K { nx := fun _ H' => Q .non H', rt := Q } (start n71 vs) H := by
  obtain ⟨n, G, s, x, Hs, rfl, hG, hn, hs, hx, st, q⟩ := h
  obtain ⟨a, xs, rfl, ha, hxs⟩ := is_gd hx
  have lx : xs.length = n := by rw [hxs.flen, hG.len]
  refine ⟨Nat.zero_le _, fun p0 hp0 => ?_⟩
  have e0 : Ext0 Hs H (upd Hs p0 (.lst [])) (upd H p0 (.lst [])) := (Ext.refl st).new hp0
  refine ⟨by show 1 ≤ sizeLine; decide, fun f0 hf0 => ?_⟩
  have e1 := e0.new (o := .lst [.ref p0]) hf0
  have n01 : p0 ≠ f0 := ne_of_none upd_same hf0
  have i0 : Is K (upd (upd Hs p0 (.lst [])) f0 (.lst [.ref p0])) (.ref f0) (.list (([[]] : List (List (Option Nat))).map sd)) := .lst upd_same (.cons (.lst (by rw [upd_ne n01]; exact upd_same) .nil) .nil)
  refine ⟨_, rfl, a, rfl, ⟨xs, SqL.of (e1.t _ _ (e1.s _ _ ha))⟩, ?_⟩
  refine for_it (walk_list (xs := xs)) (fun i τ H' => ∃ (Hs' : Hp) (f : V) (L : List (List (Option Nat))) (y3 y4 y5 y6 : Option V), τ = [some (.ref a), some (.str s.s), some f, y3, y4, y5, y6] ∧ Ext0 Hs H Hs' H' ∧ Is K Hs' f (.list (L.map sd)) ∧ L.length ≤ 6 ^ i ∧ ∀ σ, σ ∈ L ↔ PlanP s G i σ)
    ⟨_, _, [[]], _, _, _, _, rfl, e1, i0, by simp, fun σ => ⟨fun hh => by cases List.mem_singleton.mp hh; exact ⟨rfl, fun x hx => absurd hx (by omega), fun x hx => absurd hx (by omega)⟩, fun hh => by rw [List.eq_nil_of_length_eq_zero hh.len]; simp⟩⟩ (fun i τ H' _ ⟨Hs', _, _, _, _, _, _, _, e, _⟩ => SqL.of (e.t _ _ (e.s _ _ ha))) ?_ ?_
  · rintro i v τ H1 H1' hi ⟨Hs1, f, L, y3, y4, y5, y6, rfl, e2, iff_, lL, hmem⟩ ⟨rfl, hv⟩
    obtain ⟨hi2, ix⟩ := hxs.fget' hv
    rw [hG.len] at hi2
    obtain ⟨c, gq, bb, bs, rfl, hc, ig, hbs, ibs⟩ := is_pd ix
    have lbs : bs.length = (pl G i).bs.length := by rw [ibs.len, List.length_map]
    have hbr := (hG.at hi2).br
    have l1296 : L.length ≤ 6 ^ 3 := Nat.le_trans lL (Nat.pow_le_pow_right (by decide) (by omega))
    obtain ⟨fa, fs, rfl, hfa, hfs⟩ := iff_.list
    have lfs : fs.length = L.length := by rw [hfs.len, List.length_map]
    refine ⟨Nat.zero_le _, fun l hl => ?_⟩
    have e3 := e2.newM (o := .lst []) hl
    refine ⟨_, rfl, fa, rfl, ⟨fs, SqL.of (e3.t _ _ hfa)⟩, ?_⟩
    refine for_it (walk_list (xs := fs)) (fun j τ H' => ∃ (Hs' : Hp) (l : Addr) (zs : List V) (y5 y6 : Option V), τ = [some (.ref a), some (.str s.s), some (.ref fa), some (.ref c), some (.ref l), y5, y6] ∧ Same Hs1 Hs' ∧ Ext0 Hs H Hs' H' ∧ H l = none ∧ Hs' l = none ∧ H' l = some (.lst zs) ∧ IsA K Hs' zs (((L.take j).flatMap (nxt s G i)).map sd))
      ⟨Hs1, l, [], _, _, rfl, Same.refl _, e3, e2.free hl, e2.t.free hl, upd_same, .nil⟩ (fun j τ H' _ ⟨Hs', _, _, _, _, _, s1, e, _⟩ => SqL.of (e.t _ _ (s1 _ _ hfa))) ?_ ?_
    · rintro j v τ H3 H3' hj ⟨Hs3, l, zs, y5, y6, rfl, s3, e4, l0, l1, l2, izs⟩ ⟨rfl, hv3⟩
      obtain ⟨dd, hdd, iv⟩ := hfs.get' hv3
      obtain ⟨ρ, eρ, rfl⟩ := map_get hdd
      obtain ⟨pr, us, rfl, hpr, ius⟩ := (show Is K Hs1 v (.list (ρ.map od)) from iv).list
      have hρl : ρ.length = i := ((hmem ρ).mp (List.mem_of_getElem? eρ)).len
      have lus : us.length = i := by rw [ius.len, List.length_map, hρl]
      have hpr3 := s3 _ _ hpr
      have hc3 := sqt_up e4.t (sqt_up e4.s hc)
      have lzs : zs.length ≤ 6 * 216 := by
        have h1 := izs.len
        rw [List.length_map] at h1
        have h2 := flat_len (nxt s G i) (fun a => nxt_len hG s hi2 a) (L.take j)
        have h3 : (L.take j).length ≤ L.length := by rw [List.length_take]; exact Nat.min_le_right _ _
        have h4 : L.length ≤ 216 := l1296
        omega
      have etk : (L.take (j + 1)).flatMap (nxt s G i) = (L.take j).flatMap (nxt s G i) ++ nxt s G i ρ := by
        rw [take_snoc eρ, List.flatMap_append]; simp
      refine ⟨_, rfl, c, _, 1, _, rfl, rfl, hc3, rfl, _, rfl, rfl, _, rfl, ?_⟩
      rw [kd_eq]
      by_cases hk : (pl G i).k = s
      · rw [decide_eq_true hk]
        refine iteT ?_
        refine ⟨_, rfl, _, rfl, c, _, 2, _, rfl, rfl, hc3, rfl, bb, bs, rfl, .inl (SqL.of (e4.t _ _ (e4.s _ _ hbs))), _, rfl, by omega, by omega, fun D hD => ?_⟩
        have en : ((bs.length : Nat) : Int).toNat = (pl G i).bs.length := by omega
        rw [en]
        refine lc_map (K := K) (Hs := Hs3) (n := (pl G i).bs.length) walk_rng0 e4.t (fun _ _ => trivial) hD (fun b => sd (ρ ++ [some b])) (by omega) ?_ ?_
        · rintro b x Hs4 H4 H4' C' hb e5 d0 ⟨rfl, rfl⟩ kk
          refine ⟨rfl, _, rfl, _, rfl, by show 1 ≤ sizeLine; decide, fun d hd => ?_⟩
          have e6 := (Ext.refl e5.t : Ext0 Hs4 _ Hs4 _).newM (o := .lst [.int (b : Nat)]) hd
          refine ⟨pr, d, us, _, rfl, rfl, e6.t _ _ (e5.s _ _ hpr3), upd_same, bl_sl (by show us.length + 1 ≤ 100000; omega), fun u hu => ?_⟩
          have su := same_new (o := .lst (us ++ [.int (b : Nat)])) (e6.t.free hu)
          refine kk _ _ _ (e6.new hu) (.lst upd_same ?_)
          rw [List.map_append]
          exact (((ius.up s3).up e5.s).up su).append (.cons (.int ((b : Nat) : Int)) .nil)
        · intro Hs4 H4 ws e5 d0 d1 hws
          have lws := hws.len
          rw [List.length_map, List.length_range] at lws
          obtain ⟨l3, l4⟩ := e5.own (fun z => z) l2 l1
          have e6 := e4.trans e5
          refine ⟨l, D, zs, ws, rfl, rfl, l4, d1, bl_sl (by omega), fun u hu => ?_⟩
          refine ⟨Hs4, u, _, _, _, rfl, s3.trans e5.s, e6.newM hu, e6.free hu, e6.t.free hu, upd_same, ?_⟩
          rw [etk, List.map_append]
          refine (izs.up e5.s).append ?_
          unfold nxt
          rw [if_pos hk, List.map_map]
          exact hws
      · rw [decide_eq_false hk]
        refine iteF ?_
        refine ⟨_, rfl, .inl ⟨rfl, _, .inl (.inl l2)⟩, _, rfl, by show 1 ≤ sizeLine; decide, fun d hd => ?_⟩
        have nld : l ≠ d := ne_of_none l2 hd
        have e6 := e4.newM (o := .lst [.non]) hd
        refine ⟨pr, d, us, _, rfl, rfl, e6.t _ _ hpr3, upd_same, bl_sl (by show us.length + 1 ≤ 100000; omega), fun u hu => ?_⟩
        have nlu : l ≠ u := ne_of_none (by rw [upd_ne nld]; exact l2) hu
        have e7 := e6.new (o := .lst (us ++ [.non])) hu
        have su := same_new (o := .lst (us ++ [.non])) (e6.t.free hu)
        have l5 : (upd Hs3 u (.lst (us ++ [.non]))) l = none := by rw [upd_ne nlu]; exact l1
        refine ⟨l, zs, _, rfl, rfl, by rw [upd_ne nlu, upd_ne nld]; exact l2, big_lt (by omega), ?_⟩
        refine ⟨_, l, _, _, _, rfl, s3.trans su, e7.mut (.inl l0) l5, l0, l5, upd_same, ?_⟩
        rw [etk, List.map_append]
        refine (izs.up su).append ?_
        unfold nxt
        rw [if_neg hk]
        refine .cons (.lst upd_same ?_) .nil
        rw [List.map_append]
        exact ((ius.up s3).up su).append (.cons .non .nil)
    · rintro τ H3 ⟨Hs3, l, zs, y5, y6, rfl, s3, e4, l0, l1, l2, izs⟩
      rw [lfs, List.take_of_length_le (Nat.le_refl _)] at izs
      refine ⟨_, rfl, ?_⟩
      refine ⟨_, _, L.flatMap (nxt s G i), _, _, _, _, rfl, e4.frz l0 l1 l2, .lst upd_same (izs.up (same_new l1)), ?_, plans_step hmem⟩
      have := flat_len (nxt s G i) (fun a => nxt_len hG s hi2 a) L
      rw [Nat.pow_succ, Nat.mul_comm]
      exact Nat.le_trans this (Nat.mul_le_mul_left _ lL)
  · rintro τ H1 ⟨Hs1, f, L, y3, y4, y5, y6, rfl, e2, iff_, lL, hmem⟩
    rw [lx] at lL hmem
    have l4 : L.length ≤ 6 ^ 4 := Nat.le_trans lL (Nat.pow_le_pow_right (by decide) hn)
    refine ⟨_, rfl, q _ _ _ L e2 (Nat.le_trans l4 (by decide)) (fun σ => ?_) iff_⟩
    rw [hmem]
    exact ⟨fun h => ⟨by rw [h.len, hG.len], fun x hx hk => h.at_ x (by rw [← hG.len]; exact hx) hk, fun x hx hk => h.no x (by rw [← hG.len]; exact hx) hk⟩, fun h => ⟨by rw [h.len, hG.len], fun x hx hk => h.at_ x (by rw [hG.len]; exact hx) hk, fun x hx hk => h.no x (by rw [hG.len]; exact hx) hk⟩⟩
end
end Mh
end
section
set_option Elab.async false
set_option linter.all false
set_option maxRecDepth 100000
set_option maxHeartbeats 4000000
set_option exponentiation.threshold 20000
/-! replies that go round: the reading -/
namespace Mh
open PySem PySem.Spec PyProof.Rows L2
open C8 (Cal pe_c)
open Evl (ixN_nat)
theorem playB_one (ρ : List (Option Nat)) (x : Nat) : playB [ρ] x = ρ.getD x none := by
  unfold playB
  rw [List.filterMap_cons]
  cases ρ.getD x none <;> rfl
theorem playG_len (G : List Pl) (ps : List (List (Option Nat))) : (playG G ps).length = G.length := by simp [playG]
theorem pl_playG (G : List Pl) (ps : List (List (Option Nat))) {x : Nat} (hx : x < G.length) : pl (playG G ps) x = playP G ps x := by simp [pl, playG, List.getD, hx]
theorem played_draw {n : Nat} {G : List Pl} {s : Kd} {ρ : List (Option Nat)} (hG : GmOk n G) (h1 : ∀ x, x < n → (pl G x).k = .draw ∨ (pl G x).k = s) (hs : s ≠ .draw) (hρ : StOk s G ρ) {x : Nat} (hx : x < n) : PlOk n (playP G [ρ] x) := by
  unfold playP
  by_cases hk : (pl G x).k = .draw
  · rw [if_pos hk]; exact (hG.at hx).dr hk
  · rw [if_neg hk, playB_one]
    have hk2 : (pl G x).k = s := (h1 x hx).resolve_left hk
    obtain ⟨b, eb, hb⟩ := hρ.at_ x (by rw [hG.len]; exact hx) hk2
    have : ρ.getD x none = some b := by simp [List.getD, eb]
    rw [this]
    exact one_ok (hG.at hx) (tg_lt hG hx hb)
section
variable {K : PySem.W.Frag}
theorem h69 (vs : List V) (H : Hp) (Q : VK) (E : XK) (h : sp69 K vs H Q E) : t69 K { nx := fun _ H' => Q .non H', rt := Q } (start n69 vs) H := by
  obtain ⟨n, p, G, ρs, s, x, y, Hs, rfl, hG, hn1, hn, hlρ, hp1, hp3, hs, hone, hρ, hx, hy, st, q⟩ := h
  obtain ⟨a, xs, rfl, ha, hxs⟩ := is_gd hx
  obtain ⟨b, us, rfl, hb, hus⟩ := hy.list
  have lx : xs.length = n := by rw [hxs.flen, hG.len]
  have lus : us.length = p := by rw [hus.len, List.length_map, hlρ]
  refine ⟨_, rfl, a, xs, rfl, .inl (SqL.of (st _ _ ha)), _, rfl, b, us, rfl, .inl (SqL.of (st _ _ hb)), _, _, rfl, ?_⟩
  rw [lx, lus]
  refine ⟨Nat.zero_le _, fun l hl => ?_⟩
  have e0 : Ext0 Hs H Hs (upd H l (.lst [])) := (Ext.refl st).newM hl
  refine ⟨_, rfl, _, rfl, by omega, by omega, ?_⟩
  have en : ((p : Nat) : Int).toNat = p := by omega
  rw [en]
  refine for_it walk_rng0 (fun i τ H' => ∃ (Hs' : Hp) (ys : List V) (y5 y6 y7 y8 y9 y10 y11 : Option V), τ = [some (.ref a), some (.ref b), some (.int (n : Int)), some (.int (p : Int)), some (.ref l), y5, y6, y7, y8, y9, y10, y11] ∧ Ext0 Hs H Hs' H' ∧ Hs' l = none ∧ H' l = some (.lst ys) ∧ IsA K Hs' ys (fl (i * n) fun z => pd (rndP n p G ρs z)))
    ⟨Hs, [], _, _, _, _, _, _, _, rfl, e0, st.free hl, upd_same, by rw [Nat.zero_mul]; exact .nil⟩ (fun _ _ _ _ _ => trivial) ?_ ?_
  · rintro i x τ H1 H1' hi ⟨Hs1, ys, y5, y6, y7, y8, y9, y10, y11, rfl, e1, l0, l1, iys⟩ ⟨rfl, rfl⟩
    have emod : ((i : Int) + 1) % (p : Int) = (((i + 1) % p : Nat) : Int) := rfl
    have hmod : (i + 1) % p < p := Nat.mod_lt _ (by omega)
    refine ⟨_, rfl, _, rfl, _, _, rfl, rfl, .inl ⟨_, rfl, ?_⟩⟩
    refine ⟨_, rfl, _, _, rfl, rfl, (show (0:Int) < (p : Int) by omega), _, _, rfl, rfl, mulw (a := 4) (b := 4) (by omega) (by rw [emod]; omega) (by decide), ?_⟩
    obtain ⟨ρ, eρ⟩ : ∃ ρ, ρs[i]? = some ρ := ⟨_, List.getElem?_eq_getElem (by omega)⟩
    have hρi := hρ ρ (List.mem_of_getElem? eρ)
    have gρ : ρs.getD i [] = ρ := by simp [List.getD, eρ]
    obtain ⟨w, ew, iw⟩ := hus.get (show (ρs.map sd)[i]? = some (sd ρ) by rw [List.getElem?_map, eρ]; rfl)
    refine ⟨_, rfl, _, rfl, _, rfl, b, us, _, w, rfl, rfl, SqL.of (e1.t _ _ (e1.s _ _ hb)), atI_nat ew, by show 1 ≤ sizeLine; decide, fun d hd => ?_⟩
    have e2 := e1.new (o := .lst [w]) hd
    have sd1 := same_new (o := .lst [w]) (e1.t.free hd)
    have nld : l ≠ d := ne_of_none l1 hd
    refine ⟨n, G, [ρ], _, _, _, rfl, hG.len, by omega, by show 1 ≤ 100; decide, hx.up e2.s, .lst upd_same (.cons ((iw.up e1.s).up sd1) .nil), fun σ hσ => by cases List.mem_singleton.mp hσ; rw [hρi.len, hG.len], fun x hx b' hb' hk => ?_, e2.t, fun v Hs3 H3 e3 hv => ?_⟩
    · rw [playB_one] at hb'
      have hk2 := (hone x hx).resolve_left hk
      obtain ⟨b2, eb2, hb2⟩ := hρi.at_ x (by rw [hG.len]; exact hx) hk2
      have : ρ.getD x none = some b2 := by simp [List.getD, eb2]
      rw [this] at hb'
      cases hb'
      exact hb2
    obtain ⟨pa, ps, rfl, hpa, hps⟩ := is_gd hv
    have lps : ps.length = n := by rw [hps.flen, playG_len, hG.len]
    obtain ⟨l2, l3⟩ := e3.own (fun z => z) (show (upd H1' d (.lst [w])) l = some (.lst ys) by rw [upd_ne nld]; exact l1) (by rw [upd_ne nld]; exact l0)
    have e4 := e2.trans e3
    have s14 : Same Hs1 Hs3 := sd1.trans e3.s
    refine ⟨pa, rfl, ⟨ps, SqL.of (e3.t _ _ hpa)⟩, ?_⟩
    refine for_it (walk_list (xs := ps)) (fun j τ H' => ∃ (Hs' : Hp) (ys : List V) (y7 y8 y9 y10 y11 : Option V), τ = [some (.ref a), some (.ref b), some (.int (n : Int)), some (.int (p : Int)), some (.ref l), some (.int (i : Nat)), some (.int ((n : Int) * (((i : Int) + 1) % (p : Int)))), y7, y8, y9, y10, y11] ∧ Same Hs3 Hs' ∧ Ext0 Hs H Hs' H' ∧ Hs' l = none ∧ H' l = some (.lst ys) ∧ IsA K Hs' ys (fl (i * n + j) fun z => pd (rndP n p G ρs z)))
      ⟨Hs3, ys, _, _, _, _, _, rfl, Same.refl _, e4, l2, l3, iys.up s14⟩ (fun j τ H' _ ⟨Hs', _, _, _, _, _, _, _, s1, e, _⟩ => SqL.of (e.t _ _ (s1 _ _ hpa))) ?_ ?_
    · rintro j v τ H5 H5' hj ⟨Hs5, ys, y7, y8, y9, y10, y11, rfl, s5, e5, l4, l5, iys⟩ ⟨rfl, hv⟩
      rw [lps] at hj
      obtain ⟨_, ix⟩ := hps.fget' hv
      rw [pl_playG G [ρ] (by rw [hG.len]; exact hj)] at ix
      have hPO := played_draw hG hone hs hρi hj
      obtain ⟨q', hq'⟩ : ∃ q', q' = playP G [ρ] j := ⟨_, rfl⟩
      rw [← hq'] at ix hPO
      obtain ⟨c, gq, bb, bs, rfl, hc, ig, hbs, ibs⟩ := is_pd ix
      rw [hPO.dr] at ibs hc
      have lbs : bs.length = q'.bs.length := by rw [ibs.len, List.length_map]
      have hbr := hPO.br
      have lys := iys.flen
      have hc5 := sqt_up e5.t (sqt_up s5 hc)
      have hbs5 := s5 _ _ hbs
      refine ⟨c, _, rfl, hc5, rfl, _, _, rfl, _, _, rfl, _, _, rfl, rfl, ?_⟩
      refine ⟨_, rfl, .inl ⟨rfl, _, .inl (.inl l5)⟩, _, rfl, _, rfl, _, rfl, bb, rfl, ⟨bs, SqL.of (e5.t _ _ hbs5)⟩, fun D hD => ?_⟩
      refine lc_map (K := K) (Hs := Hs5) (n := bs.length) (walk_list (xs := bs)) e5.t (fun H' s => SqL.of (s _ _ hbs5)) hD (fun k => (fun b : Rat × Nat => bd .draw (b.1, n * ((i + 1) % p) + b.2)) (q'.bs.getD k (0, 0))) (by omega) ?_ ?_
      · rintro k v Hs6 H6 H6' C' hk e6 d0 ⟨rfl, hv6⟩ kk
        obtain ⟨dd, hdd, iy⟩ := ibs.get' hv6
        obtain ⟨br, ebr, rfl⟩ := map_get hdd
        obtain ⟨pp, v1, v2, rfl, hpp, i1, i2⟩ := (show Is K Hs3 v (.tuple [qd br.1, .int (br.2 : Int)]) from iy).pair
        cases i2.int'
        have egt : q'.bs.getD k (0, 0) = br := by simp [List.getD, ebr]
        rw [egt] at kk
        refine ⟨pp, _, rfl, sqt_up e6.t (sqt_up e6.s (sqt_up s5 hpp)), rfl, v1, _, rfl, _, _, rfl, rfl, rfl, ?_⟩
        refine ⟨v1, rfl, _, rfl, _, rfl, _, _, rfl, rfl, by show 2 ≤ sizeLine; decide, fun u hu => ?_⟩
        have su := same_new (o := .tup [v1, .int ((n : Int) * (((i : Int) + 1) % (p : Int)) + (br.2 : Int))]) (e6.t.free hu)
        refine kk _ _ _ ((Ext.refl e6.t).new hu) (.tup (SqT.of upd_same) (.cons (((i1.up s5).up e6.s).up su) (.cons ?_ .nil)))
        have : (n : Int) * (((i : Int) + 1) % (p : Int)) + (br.2 : Int) = ((n * ((i + 1) % p) + br.2 : Nat) : Int) := by rw [emod, Int.natCast_add, Int.natCast_mul]
        show Is K _ (.int ((n : Int) * (((i : Int) + 1) % (p : Int)) + (br.2 : Int))) (.int ((n * ((i + 1) % p) + br.2 : Nat) : Int))
        rw [← this]
        exact .int _
      · intro Hs6 H6 ws e6 d0 d1 hws
        rw [lbs, range_map q'.bs (fun b : Rat × Nat => bd .draw (b.1, n * ((i + 1) % p) + b.2)) (0, 0)] at hws
        obtain ⟨l6, l7⟩ := e6.own (fun z => z) l5 l4
        have nlD : l ≠ D := ne_of_none l5 hD
        have e7 := (e5.trans e6).frz (e5.free hD) d0 d1
        have sD := same_new (o := .lst ws) d0
        refine ⟨by show 3 ≤ sizeLine; decide, fun u hu => ?_⟩
        have nlu : l ≠ u := ne_of_none l7 hu
        have su := same_new (o := .tup [gq, .str Kd.draw.s, .ref D]) (e7.t.free hu)
        have e8 := e7.new (o := .tup [gq, .str Kd.draw.s, .ref D]) hu
        have l8 : (upd (upd Hs6 D (.lst ws)) u (.tup [gq, .str Kd.draw.s, .ref D])) l = none := by rw [upd_ne nlu, upd_ne nlD]; exact l6
        have nDu : D ≠ u := ne_of_none d1 hu
        refine ⟨l, ys, _, rfl, rfl, by rw [upd_ne nlu]; exact l7, big_lt (by have : i * n ≤ 3 * 4 := Nat.mul_le_mul (by omega) hn
                                                                             omega), ?_⟩
        refine ⟨_, _, _, _, _, _, _, rfl, ((s5.trans e6.s).trans sD).trans su, e8.mut (.inl hl) l8, l8, upd_same, ?_⟩
        rw [← Nat.add_assoc, fl_snoc]
        refine (((iys.up e6.s).up sD).up su).append (.cons ?_ .nil)
        have hz1 : (i * n + j) / n = i := by rw [Nat.mul_comm, Nat.mul_add_div (by omega), Nat.div_eq_of_lt hj, Nat.add_zero]
        have hz2 : (i * n + j) % n = j := by rw [Nat.mul_comm, Nat.mul_add_mod, Nat.mod_eq_of_lt hj]
        have hr : rndP n p G ρs (i * n + j) = ⟨q'.g, .draw, q'.bs.map fun b => (b.1, n * ((i + 1) % p) + b.2)⟩ := by
          unfold rndP
          rw [hz1, hz2, gρ, ← hq']
          show (⟨q'.g, q'.k, q'.bs.map fun b => (b.1, n * ((i + 1) % p) + b.2)⟩ : Pl) = _
          rw [hPO.dr]
        rw [hr]
        refine .tup (SqT.of upd_same) (.cons ((((ig.up s5).up e6.s).up sD).up su) (.cons (.str _) (.cons (.lst (by rw [upd_ne nDu]; exact upd_same) ?_) .nil)))
        rw [List.map_map]
        exact (hws.up sD).up su
    · rintro τ H5 ⟨Hs5, ys, y7, y8, y9, y10, y11, rfl, s5, e5, l4, l5, iys⟩
      rw [lps, ← Nat.succ_mul] at iys
      exact ⟨Hs5, ys, _, _, _, _, _, _, _, rfl, e5, l4, l5, iys⟩
  · rintro τ H1 ⟨Hs1, ys, y5, y6, y7, y8, y9, y10, y11, rfl, e1, l0, l1, iys⟩
    refine ⟨_, rfl, ?_⟩
    refine q _ _ _ (e1.frz hl l0 l1) (.lst upd_same ?_)
    have eL : (rnd n p G ρs).length = p * n := by simp [rnd]
    rw [eL]
    refine (iys.up (same_new l0)).fcongr fun z hz => ?_
    have : pl (rnd n p G ρs) z = rndP n p G ρs z := by simp [pl, rnd, List.getD, hz]
    rw [this]
end
end Mh
end
section
set_option Elab.async false
set_option linter.all false
set_option maxRecDepth 100000
set_option maxHeartbeats 4000000
set_option exponentiation.threshold 20000
/-! the least and the greatest of all replies: the readings -/
namespace Mh
open PySem PySem.Spec PyProof.Rows L2
open C8 (Cal pe_c)
open Evl (ixN_nat)
section
variable {K : PySem.W.Frag} {J : It} {n : Nat} {G : Hp → Prop} {Y : Nat → Hp → V → Hp → Prop} {g : TG} {te : TE} {vs : List Nat} {σ : L2.St} {Hs H1 : Hp} {D : Addr} {Qd : Hp → Prop}
/-- a comprehension of things that are told as they come -/
theorem lc_ex (w : Walk J n G Y) (st : Same Hs H1) (fG : ∀ H, Same Hs H → G H) (hD : H1 D = none) (P : Nat → PyData → Prop) (hn : n ≤ 100000)
    (hs : ∀ (i : Nat) (x : V) (Hs' H H' : Hp) (C : VK), i < n → Ext0 Hs H1 Hs' H → Y i H x H' → (∀ y Hs4 H4 d, Ext0 Hs' H Hs4 H4 → Is K Hs4 y d → P i d → C y H4) →
      g x (wipe σ vs) H' fun σ2 H2 => wipe σ2 vs = wipe σ vs ∧ te σ2 H2 C)
    (hd : ∀ Hs' H' ys ds, Ext0 Hs H1 Hs' H' → Hs' D = none → H' D = some (.lst ys) → IsA K Hs' ys ds → ds.length = n → (∀ j d, ds[j]? = some d → P j d) → Qd H') :
    ∃ W : Nat → Nat → Hp → Prop, (∃ m, W 0 m (upd H1 D (.lst []))) ∧ ∀ i m H, W i m H →
      (J.stop i H ∧ Qd H) ∨ (J.go i H ∧ ∃ Nx : Hp → Prop, (∀ H', Nx H' → ∃ m', m' < m ∧ W (i + 1) m' H') ∧ ∀ x H', J.yld i H x H' → g x (wipe σ vs) H' fun σ2 H2 => wipe σ2 vs = wipe σ vs ∧ tYes σ2 H2 fun b H3 =>
        if b = true then te σ2 H3 fun y H4 => ∃ acc, H4 D = some (.lst acc) ∧ acc.length < sizeLine ∧ Nx (upd H4 D (.lst (acc ++ [y]))) else Nx H3) := by
  refine lc_it (Qd := Qd) w (fun i H => ∃ Hs' acc ds, Ext0 Hs H1 Hs' H ∧ Hs' D = none ∧ H D = some (.lst acc) ∧ IsA K Hs' acc ds ∧ ds.length = i ∧ ∀ j d, ds[j]? = some d → P j d)
    ⟨Hs, [], [], (Ext.refl st).newM hD, st.free hD, upd_same, .nil, rfl, fun j d h => by simp at h⟩ (fun i H _ ⟨Hs', acc, ds, e, _⟩ => fG H (e.s.trans e.t)) (fun i x H H' hi ⟨Hs', acc, ds, e, d0, d1, ha, hl, hP⟩ y => ?_) (fun H ⟨Hs', acc, ds, e, d0, d1, ha, hl, hP⟩ => hd Hs' H acc ds e d0 d1 ha hl hP)
  refine hs i x Hs' H H' _ hi e y fun v Hs4 H4 d e4 hv hPd => ?_
  obtain ⟨f0, f1⟩ := e4.own (fun z => z) d1 d0
  have l1 := ha.len
  refine ⟨acc, f1, big_lt (by omega), Hs4, acc ++ [v], ds ++ [d], (e.trans e4).mut (.inl hD) f0, f0, upd_same, (ha.up e4.s).append (.cons hv .nil), by rw [List.length_append, hl]; rfl, fun j d' h => ?_⟩
  by_cases c : j < ds.length
  · rw [List.getElem?_append_left c] at h
    exact hP j d' h
  · rw [List.getElem?_append_right (by omega)] at h
    have hj : j - ds.length = 0 := by
      have := (List.getElem?_eq_some_iff.mp h).1
      simp at this
      omega
    rw [hj] at h
    cases h
    have : j = i := by omega
    rw [this]; exact hPd
end
theorem list_of_pl {A B : List Pl} (hl : A.length = B.length) (h : ∀ x, x < A.length → pl A x = pl B x) : A = B := by
  apply List.ext_getElem hl
  intro x h1 h2
  have := h x h1
  simpa [pl, List.getD, h1, h2] using this
theorem playB_two (σ τ : List (Option Nat)) (x : Nat) : playB [σ, τ] x = match σ.getD x none with | some b => some b | none => τ.getD x none := by
  unfold playB
  rw [List.filterMap_cons]
  cases σ.getD x none with
  | some b => rfl
  | none =>
    show ((List.filterMap (fun σ => σ.getD x none) [τ])).head? = _
    exact playB_one τ x
theorem getD_of {σ : List (Option Nat)} {x : Nat} {o : Option Nat} (h : σ[x]? = some o) : σ.getD x none = o := by simp [List.getD, h]
section
variable {n : Nat} {G : List Pl} {σ τ : List (Option Nat)}
theorem play_two (hG : GmOk n G) {s t : Kd} (hs : s ≠ .draw) (ht : t ≠ .draw) (hst : s ≠ t) (hσ : StOk s G σ) (hτ : StOk t G τ) {x : Nat} (hx : x < n) : ((pl G x).k = s → playB [σ, τ] x = some (told σ x)) ∧ ((pl G x).k = t → playB [σ, τ] x = some (told τ x)) ∧ ∀ b, playB [σ, τ] x = some b → (pl G x).k ≠ .draw → b < (pl G x).bs.length := by
  have hxG : x < G.length := by rw [hG.len]; exact hx
  have a1 : (pl G x).k = s → playB [σ, τ] x = some (told σ x) := fun hk => by
    obtain ⟨b, eb, _⟩ := hσ.at_ x hxG hk
    rw [playB_two, getD_of eb, told_of eb]
  have a2 : (pl G x).k = t → playB [σ, τ] x = some (told τ x) := fun hk => by
    obtain ⟨b, eb, _⟩ := hτ.at_ x hxG hk
    have := hσ.no x hxG (fun z => hst (z.symm.trans hk))
    rw [playB_two, getD_of this, told_of eb]
    exact getD_of eb
  refine ⟨a1, a2, fun b hb hk => ?_⟩
  by_cases h1 : (pl G x).k = s
  · rw [a1 h1] at hb; cases hb; exact hσ.told_lt hxG h1
  · by_cases h2 : (pl G x).k = t
    · rw [a2 h2] at hb; cases hb; exact hτ.told_lt hxG h2
    · exfalso
      revert hk h1 h2 hs ht hst
      cases (pl G x).k <;> cases s <;> cases t <;> simp
theorem play_ot (hG : GmOk n G) (hσ : StOk .ours G σ) (hτ : StOk .theirs G τ) : playG G [σ, τ] = both G σ τ := by
  refine list_of_pl (by rw [playG_len, both_len]) fun x hx => ?_
  rw [playG_len] at hx
  have hxn : x < n := by rw [← hG.len]; exact hx
  obtain ⟨a1, a2, _⟩ := play_two hG (by decide) (by decide) (by decide) hσ hτ hxn
  rw [pl_playG G _ hx]
  unfold playP
  cases hk : (pl G x).k with
  | draw => rw [if_pos rfl, pl_both_draw hx hk]
  | ours => rw [if_neg (by decide), a1 hk, pl_both_ours hx hk]
  | theirs => rw [if_neg (by decide), a2 hk, pl_both_theirs hx hk]
theorem play_to (hG : GmOk n G) (hσ : StOk .ours G σ) (hτ : StOk .theirs G τ) : playG G [τ, σ] = both G σ τ := by
  refine list_of_pl (by rw [playG_len, both_len]) fun x hx => ?_
  rw [playG_len] at hx
  have hxn : x < n := by rw [← hG.len]; exact hx
  obtain ⟨a1, a2, _⟩ := play_two hG (by decide) (by decide) (by decide) hτ hσ hxn
  rw [pl_playG G _ hx]
  unfold playP
  cases hk : (pl G x).k with
  | draw => rw [if_pos rfl, pl_both_draw hx hk]
  | ours => rw [if_neg (by decide), a2 hk, pl_both_ours hx hk]
  | theirs => rw [if_neg (by decide), a1 hk, pl_both_theirs hx hk]
end
/-- the functions told one by one -/
theorem fam_of {m n : Nat} {ds : List PyData} {R : Nat → (Nat → Rat) → Prop} (hl : ds.length = m) (h : ∀ j d, ds[j]? = some d → ∃ g, d = vd n g ∧ R j g) : ∃ F : Nat → Nat → Rat, ds = ((List.range m).map F).map (fun g => vd n g) ∧ ∀ j, j < m → R j (F j) := by
  have : ∀ j, ∃ g, j < m → ds[j]? = some (vd n g) ∧ R j g := fun j => by
    by_cases hj : j < m
    · obtain ⟨g, e, r⟩ := h j _ (List.getElem?_eq_getElem (by omega))
      exact ⟨g, fun _ => ⟨by rw [List.getElem?_eq_getElem (by omega), e], r⟩⟩
    · exact ⟨fun _ => 0, fun z => absurd z hj⟩
  obtain ⟨F, hF⟩ := Classical.skolem.mp this
  refine ⟨F, ?_, fun j hj => (hF j hj).2⟩
  apply List.ext_getElem?
  intro j
  by_cases hj : j < m
  · rw [(hF j hj).1, List.getElem?_map, List.getElem?_map, List.getElem?_range hj]; rfl
  · rw [List.getElem?_eq_none (by omega), List.getElem?_eq_none (by simp; omega)]
section
variable {K : PySem.W.Frag}
theorem h72 (vs : List V) (H : Hp) (Q : VK) (E : XK) (h : sp72 K vs H Q E) : t72 K { nx := fun _ H' => Q .non H', rt := Q } (start n72 vs) H := by
  obtain ⟨n, G, σ, x, y, Hs, rfl, hG, hn1, hn, hσ, hx, hy, st, q⟩ := h
  refine ⟨_, rfl, n, G, .theirs, _, Hs, rfl, hG, hn, by decide, hx, st, fun v Hs1 H1 L e1 hLl hmem hv => ?_⟩
  obtain ⟨a, xs, rfl, ha, hxs⟩ := hv.list
  have lxs : xs.length = L.length := by rw [hxs.len, List.length_map]
  refine ⟨a, rfl, ⟨xs, SqL.of (e1.t _ _ ha)⟩, fun D hD => ?_⟩
  refine lc_ex (K := K) (Hs := Hs1) (n := xs.length) (walk_list (xs := xs)) e1.t (fun H' s => SqL.of (s _ _ ha)) hD (fun j d => ∃ g, d = vd n g ∧ (Long n (Pm (both G σ (L.getD j []))) (gm G) g ∧ ∀ x, x < n → Sz 2900 (g x))) (by omega) ?_ ?_
  · rintro j v Hs2 H2 H2' C hj e2 ⟨rfl, hv2⟩ kk
    obtain ⟨dd, hdd, iv⟩ := hxs.get' hv2
    obtain ⟨τ, eτ, rfl⟩ := map_get hdd
    have gτ : L.getD j [] = τ := by simp [List.getD, eτ]
    have hτ := (hmem τ).mp (List.mem_of_getElem? eτ)
    rw [gτ] at kk
    have e12 := e1.trans e2
    refine ⟨rfl, _, rfl, _, rfl, _, rfl, by show 2 ≤ sizeLine; decide, fun d hd => ?_⟩
    have e3 := (Ext.refl e2.t : Ext0 Hs2 _ Hs2 _).new (o := .lst [y, v]) hd
    have sd1 := same_new (o := .lst [y, v]) (e2.t.free hd)
    refine ⟨n, G, [σ, τ], _, _, _, rfl, hG.len, by omega, by show 2 ≤ 100; decide, (hx.up e12.s).up sd1, .lst upd_same (.cons ((hy.up e12.s).up sd1) (.cons ((iv.up e2.s).up sd1) .nil)), fun ρ hρ => ?_, fun x hx b hb hk => (play_two hG (by decide) (by decide) (by decide) hσ hτ hx).2.2 b hb hk, e3.t, fun vc Hs4 H4 e4 hvc => ?_⟩
    · rcases List.mem_cons.mp hρ with z | z
      · rw [z, hσ.len, hG.len]
      · cases List.mem_singleton.mp z; rw [hτ.len, hG.len]
    · rw [play_ot hG hσ hτ] at hvc
      refine ⟨n, both G σ τ, vc, Hs4, rfl, both_ok hG hσ hτ, hn1, by omega, hvc, e4.t, fun vg Hs5 H5 g e5 hL hsz hvg => ?_⟩
      rw [gm_both] at hL
      exact kk vg Hs5 H5 (vd n g) ((e3.trans e4).trans e5) hvg ⟨g, rfl, hL, hsz⟩
  · intro Hs2 H2 ws ds e2 d0 d1 hws hdl hP
    obtain ⟨F, rfl, hF⟩ := fam_of hdl hP
    have e3 := (e1.trans e2).frz (e1.free hD) d0 d1
    have hLne : L ≠ [] := fun z => by
      have := (hmem (firstS .theirs G)).mpr (firstS_ok hG .theirs)
      rw [z] at this; cases this
    have hL0 : 0 < L.length := List.length_pos_iff.mpr hLne
    refine ⟨_, rfl, n, (List.range xs.length).map F, -1, _, _, rfl, .inr rfl, by omega, fun z => ?_, fun g hg x hx => ?_, .lst upd_same (hws.up (same_new d0)), e3.t, fun v Hs4 H4 f e4 hf hv => q v Hs4 H4 f (e3.trans e4) (fun x hx => ?_) hv⟩
    · have := congrArg List.length z
      rw [List.length_map, List.length_range, List.length_nil] at this
      omega
    · obtain ⟨j, hj, rfl⟩ := List.mem_map.mp hg
      exact (hF j (List.mem_range.mp hj)).2 x hx
    · constructor
      · obtain ⟨g, hg, e⟩ := hf.at_ x hx
        obtain ⟨j, hj, rfl⟩ := List.mem_map.mp hg
        have hj := List.mem_range.mp hj
        exact ⟨L.getD j [], F j, (hmem _).mp (List.mem_of_getElem? (range_get L [] (by omega))), (hF j hj).1, e⟩
      · intro τ hτ
        obtain ⟨j, hj, ej⟩ := List.getElem_of_mem ((hmem τ).mpr hτ)
        have gj : L.getD j [] = τ := by simp [List.getD, hj, ej]
        have h1 := (hF j (by omega)).1
        rw [gj] at h1
        have h2 := hf.le x hx (F j) (List.mem_map.mpr ⟨j, List.mem_range.mpr (by omega), rfl⟩)
        have e2 : ((-1 : Int) : Rat) = -1 := rfl
        rw [e2] at h2
        exact ⟨F j, h1, by grind⟩
theorem h73 (vs : List V) (H : Hp) (Q : VK) (E : XK) (h : sp73 K vs H Q E) : t73 K { nx := fun _ H' => Q .non H', rt := Q } (start n73 vs) H := by
  obtain ⟨n, G, τ, x, y, Hs, rfl, hG, hn1, hn, hτ, hx, hy, st, q⟩ := h
  refine ⟨_, rfl, n, G, .ours, _, Hs, rfl, hG, hn, by decide, hx, st, fun v Hs1 H1 L e1 hLl hmem hv => ?_⟩
  obtain ⟨a, xs, rfl, ha, hxs⟩ := hv.list
  have lxs : xs.length = L.length := by rw [hxs.len, List.length_map]
  refine ⟨a, rfl, ⟨xs, SqL.of (e1.t _ _ ha)⟩, fun D hD => ?_⟩
  refine lc_ex (K := K) (Hs := Hs1) (n := xs.length) (walk_list (xs := xs)) e1.t (fun H' s => SqL.of (s _ _ ha)) hD (fun j d => ∃ g, d = vd n g ∧ (Long n (Pm (both G (L.getD j []) τ)) (gm G) g ∧ ∀ x, x < n → Sz 2900 (g x))) (by omega) ?_ ?_
  · rintro j v Hs2 H2 H2' C hj e2 ⟨rfl, hv2⟩ kk
    obtain ⟨dd, hdd, iv⟩ := hxs.get' hv2
    obtain ⟨σ, eσ, rfl⟩ := map_get hdd
    have gσ : L.getD j [] = σ := by simp [List.getD, eσ]
    have hσ := (hmem σ).mp (List.mem_of_getElem? eσ)
    rw [gσ] at kk
    have e12 := e1.trans e2
    refine ⟨rfl, _, rfl, _, rfl, _, rfl, by show 2 ≤ sizeLine; decide, fun d hd => ?_⟩
    have e3 := (Ext.refl e2.t : Ext0 Hs2 _ Hs2 _).new (o := .lst [y, v]) hd
    have sd1 := same_new (o := .lst [y, v]) (e2.t.free hd)
    refine ⟨n, G, [τ, σ], _, _, _, rfl, hG.len, by omega, by show 2 ≤ 100; decide, (hx.up e12.s).up sd1, .lst upd_same (.cons ((hy.up e12.s).up sd1) (.cons ((iv.up e2.s).up sd1) .nil)), fun ρ hρ => ?_, fun x hx b hb hk => (play_two hG (by decide) (by decide) (by decide) hτ hσ hx).2.2 b hb hk, e3.t, fun vc Hs4 H4 e4 hvc => ?_⟩
    · rcases List.mem_cons.mp hρ with z | z
      · rw [z, hτ.len, hG.len]
      · cases List.mem_singleton.mp z; rw [hσ.len, hG.len]
    · rw [play_to hG hσ hτ] at hvc
      refine ⟨n, both G σ τ, vc, Hs4, rfl, both_ok hG hσ hτ, hn1, by omega, hvc, e4.t, fun vg Hs5 H5 g e5 hL hsz hvg => ?_⟩
      rw [gm_both] at hL
      exact kk vg Hs5 H5 (vd n g) ((e3.trans e4).trans e5) hvg ⟨g, rfl, hL, hsz⟩
  · intro Hs2 H2 ws ds e2 d0 d1 hws hdl hP
    obtain ⟨F, rfl, hF⟩ := fam_of hdl hP
    have e3 := (e1.trans e2).frz (e1.free hD) d0 d1
    have hLne : L ≠ [] := fun z => by
      have := (hmem (firstS .ours G)).mpr (firstS_ok hG .ours)
      rw [z] at this; cases this
    have hL0 : 0 < L.length := List.length_pos_iff.mpr hLne
    refine ⟨n, (List.range xs.length).map F, 1, _, _, rfl, .inl rfl, by omega, fun z => ?_, fun g hg x hx => ?_, .lst upd_same (hws.up (same_new d0)), e3.t, fun v Hs4 H4 f e4 hf hv => q v Hs4 H4 f (e3.trans e4) (fun x hx => ?_) hv⟩
    · have := congrArg List.length z
      rw [List.length_map, List.length_range, List.length_nil] at this
      omega
    · obtain ⟨j, hj, rfl⟩ := List.mem_map.mp hg
      exact (hF j (List.mem_range.mp hj)).2 x hx
    · constructor
      · obtain ⟨g, hg, e⟩ := hf.at_ x hx
        obtain ⟨j, hj, rfl⟩ := List.mem_map.mp hg
        have hj := List.mem_range.mp hj
        exact ⟨L.getD j [], F j, (hmem _).mp (List.mem_of_getElem? (range_get L [] (by omega))), (hF j hj).1, e⟩
      · intro σ hσ
        obtain ⟨j, hj, ej⟩ := List.getElem_of_mem ((hmem σ).mpr hσ)
        have gj : L.getD j [] = σ := by simp [List.getD, hj, ej]
        have h1 := (hF j (by omega)).1
        rw [gj] at h1
        have h2 := hf.le x hx (F j) (List.mem_map.mpr ⟨j, List.mem_range.mpr (by omega), rfl⟩)
        have e2 : ((1 : Int) : Rat) = 1 := rfl
        rw [e2] at h2
        exact ⟨F j, h1, by grind⟩
end
end Mh
end
section
set_option linter.unusedVariables false
set_option exponentiation.threshold 20000
/-! replies that go round: plain -/
namespace Mh
section
variable {n p : Nat} {G : List Pl} {s : Kd} {ρs : List (List (Option Nat))}
theorem rnd_len : (rnd n p G ρs).length = p * n := by simp [rnd]
theorem pl_rnd {z : Nat} (hz : z < p * n) : pl (rnd n p G ρs) z = rndP n p G ρs z := by simp [pl, rnd, List.getD, hz]
structure RndOk (n p : Nat) (G : List Pl) (s : Kd) (ρs : List (List (Option Nat))) : Prop where
  hG : GmOk n G
  n1 : 1 ≤ n
  p1 : 1 ≤ p
  len : ρs.length = p
  sn : s ≠ .draw
  one : ∀ x, x < n → (pl G x).k = .draw ∨ (pl G x).k = s
  ρ : ∀ ρ ∈ ρs, StOk s G ρ
theorem RndOk.at (h : RndOk n p G s ρs) {z : Nat} (hz : z < p * n) : z / n < p ∧ z % n < n ∧ StOk s G (ρs.getD (z / n) []) ∧ PlOk n (playP G [ρs.getD (z / n) []] (z % n)) := by
  have h1 : z / n < p := (Nat.div_lt_iff_lt_mul (by have := h.n1; omega)).mpr hz
  have h2 : z % n < n := Nat.mod_lt _ (by have := h.n1; omega)
  have h3 := h.ρ _ (List.mem_of_getElem? (range_get ρs [] (by rw [h.len]; exact h1)))
  exact ⟨h1, h2, h3, played_draw h.hG h.one h.sn h3 h2⟩
theorem RndOk.ch (h : RndOk n p G s ρs) : ChOk (p * n) (rnd n p G ρs) := by
  refine ⟨rnd_len, fun q hq => ?_⟩
  obtain ⟨z, hz, ez⟩ := List.getElem_of_mem hq
  have e : q = pl (rnd n p G ρs) z := by rw [← ez]; simp [pl, List.getD, hz]
  rw [rnd_len] at hz
  rw [e, pl_rnd hz]
  obtain ⟨h1, h2, h3, h4⟩ := h.at hz
  show PlOk (p * n) ⟨(playP G [ρs.getD (z / n) []] (z % n)).g, (playP G [ρs.getD (z / n) []] (z % n)).k, (playP G [ρs.getD (z / n) []] (z % n)).bs.map fun b => (b.1, n * ((z / n + 1) % p) + b.2)⟩
  generalize playP G [ρs.getD (z / n) []] (z % n) = q at h4
  refine ⟨h4.dr, fun b hb => ?_, fun b hb => ?_, ?_, ?_, h4.gi, h4.gb, h4.gd, by show (q.bs.map _).length ≤ 6; rw [List.length_map]; exact h4.br⟩
  · obtain ⟨c, hc, rfl⟩ := List.mem_map.mp hb
    have a1 := h4.t c hc
    have a2 : (z / n + 1) % p < p := Nat.mod_lt _ (by have := h.p1; omega)
    have a3 : n * ((z / n + 1) % p + 1) ≤ n * p := Nat.mul_le_mul_left _ a2
    rw [Nat.mul_add, Nat.mul_one] at a3
    rw [Nat.mul_comm p n]
    show n * ((z / n + 1) % p) + c.2 < n * p
    omega
  · obtain ⟨c, hc, rfl⟩ := List.mem_map.mp hb
    exact h4.pos c hc
  · rw [List.map_map]; exact h4.one
  · obtain ⟨S, s0, s1, s2⟩ := h4.den
    refine ⟨S, s0, s1, fun b hb => ?_⟩
    obtain ⟨c, hc, rfl⟩ := List.mem_map.mp hb
    exact s2 c hc
theorem RndOk.mean (h : RndOk n p G s ρs) {z : Nat} (hz : z < p * n) (u : Nat → Rat) : mn (p * n) (Pm (rnd n p G ρs)) (fun w => u (w % n)) z = mnb (playP G [ρs.getD (z / n) []] (z % n)) u := by
  rw [mn_mnb h.ch hz, pl_rnd hz]
  obtain ⟨h1, h2, h3, h4⟩ := h.at hz
  show sumq (((playP G [ρs.getD (z / n) []] (z % n)).bs.map fun b => (b.1, n * ((z / n + 1) % p) + b.2)).map fun b => b.1 * u (b.2 % n)) = _
  generalize playP G [ρs.getD (z / n) []] (z % n) = q at h4
  rw [List.map_map]
  unfold mnb
  congr 1
  refine List.map_congr_left fun b hb => ?_
  show b.1 * u ((n * ((z / n + 1) % p) + b.2) % n) = b.1 * u b.2
  rw [Nat.mul_add_mod, Nat.mod_eq_of_lt (h4.t b hb)]
theorem playP_g {ρ : List (Option Nat)} {x : Nat} : (playP G [ρ] x).g = (pl G x).g := by
  unfold playP
  split
  · rfl
  · split <;> rfl
theorem RndOk.gm (h : RndOk n p G s ρs) {z : Nat} (hz : z < p * n) : Mh.gm (rnd n p G ρs) z = (pl G (z % n)).g := by
  unfold Mh.gm
  rw [pl_rnd hz]
  exact playP_g
/-- a place with a reply put in -/
theorem play_mean {ρ : List (Option Nat)} (hG : GmOk n G) (hρ : StOk s G ρ) (hone : ∀ x, x < n → (pl G x).k = .draw ∨ (pl G x).k = s) {x : Nat} (hx : x < n) (hk : (pl G x).k ≠ .draw) : ∃ b ∈ (pl G x).bs, ∀ u, mnb (playP G [ρ] x) u = u b.2 := by
  have hk2 := (hone x hx).resolve_left hk
  obtain ⟨b, eb, hb⟩ := hρ.at_ x (by rw [hG.len]; exact hx) hk2
  refine ⟨(pl G x).bs[b], List.getElem_mem hb, fun u => ?_⟩
  unfold playP
  rw [if_neg hk, playB_one, getD_of eb]
  show mnb ⟨(pl G x).g, .draw, [(1, tg G x b)]⟩ u = _
  rw [mnb_one]
  congr 1
  simp [tg, List.getD, hb]
theorem low_round (h : RndOk n p G .theirs ρs) {σ τ : List (Option Nat)} {g k : Nat → Rat} (fa : FA n G σ τ g k) {ĝ : Nat → Rat} (L : Long (p * n) (Pm (rnd n p G ρs)) (Mh.gm (rnd n p G ρs)) ĝ) {x : Nat} (hx : x < n) : g x ≤ ĝ x := by
  have key : ∀ z, z < p * n → g (z % n) ≤ mnb (playP G [ρs.getD (z / n) []] (z % n)) g ∧ g (z % n) + k (z % n) ≤ (pl G (z % n)).g + mnb (playP G [ρs.getD (z / n) []] (z % n)) k := fun z hz => by
    obtain ⟨h1, h2, h3, h4⟩ := h.at hz
    by_cases hk : (pl G (z % n)).k = .draw
    · have e : playP G [ρs.getD (z / n) []] (z % n) = pl G (z % n) := by unfold playP; rw [if_pos hk]
      obtain ⟨a, b⟩ := fa.draw _ h2 hk
      rw [e]
      exact ⟨by rw [← a]; exact Rat.le_refl, by rw [b]; exact Rat.le_refl⟩
    · obtain ⟨b, hb, hm⟩ := play_mean h.hG h3 h.one h2 hk
      rw [hm, hm]
      exact fa.low _ h2 ((h.one _ h2).resolve_left hk) b hb
  have hl : Lower (p * n) (Pm (rnd n p G ρs)) (Mh.gm (rnd n p G ρs)) (fun w => g (w % n)) (fun w => k (w % n)) := by
    refine ⟨fun z hz => ?_, fun z hz => ?_⟩
    · rw [h.mean hz]; exact (key z hz).1
    · rw [h.mean hz, h.gm hz]; exact (key z hz).2
  have hxN : x < p * n := Nat.lt_of_lt_of_le hx (Nat.le_mul_of_pos_left _ h.p1)
  have := hl.le h.ch.stoch L x hxN
  rw [Nat.mod_eq_of_lt hx] at this
  exact this
theorem upp_round (h : RndOk n p G .ours ρs) {σ τ : List (Option Nat)} {g k : Nat → Rat} (fa : FA n G σ τ g k) {ĝ : Nat → Rat} (L : Long (p * n) (Pm (rnd n p G ρs)) (Mh.gm (rnd n p G ρs)) ĝ) {x : Nat} (hx : x < n) : ĝ x ≤ g x := by
  have key : ∀ z, z < p * n → mnb (playP G [ρs.getD (z / n) []] (z % n)) g ≤ g (z % n) ∧ (pl G (z % n)).g + mnb (playP G [ρs.getD (z / n) []] (z % n)) k ≤ g (z % n) + k (z % n) := fun z hz => by
    obtain ⟨h1, h2, h3, h4⟩ := h.at hz
    by_cases hk : (pl G (z % n)).k = .draw
    · have e : playP G [ρs.getD (z / n) []] (z % n) = pl G (z % n) := by unfold playP; rw [if_pos hk]
      obtain ⟨a, b⟩ := fa.draw _ h2 hk
      rw [e]
      exact ⟨by rw [← a]; exact Rat.le_refl, by rw [b]; exact Rat.le_refl⟩
    · obtain ⟨b, hb, hm⟩ := play_mean h.hG h3 h.one h2 hk
      rw [hm, hm]
      exact fa.upp _ h2 ((h.one _ h2).resolve_left hk) b hb
  have hl : Upper (p * n) (Pm (rnd n p G ρs)) (Mh.gm (rnd n p G ρs)) (fun w => g (w % n)) (fun w => k (w % n)) := by
    refine ⟨fun z hz => ?_, fun z hz => ?_⟩
    · rw [h.mean hz]; exact (key z hz).1
    · rw [h.mean hz, h.gm hz]; exact (key z hz).2
  have hxN : x < p * n := Nat.lt_of_lt_of_le hx (Nat.le_mul_of_pos_left _ h.p1)
  have := hl.ge h.ch.stoch L x hxN
  rw [Nat.mod_eq_of_lt hx] at this
  exact this
end
end Mh
end
section
set_option linter.unusedVariables false
set_option exponentiation.threshold 20000
/-! what the law compares: plain -/
namespace Mh
section
variable {n : Nat} {G : List Pl} {σ τ : List (Option Nat)}
theorem putIn_none {s : Kd} (h : ∀ x, x < G.length → (pl G x).k ≠ s) : putIn s σ G = G :=
  list_of_pl (putIn_len s σ G) fun x hx => by
    rw [putIn_len] at hx
    rw [pl_putIn _ _ _ hx]
    unfold putP
    rw [if_neg (h x hx)]
theorem putIn_gm (s : Kd) : gm (putIn s σ G) = gm G := by
  funext x
  unfold gm
  by_cases hx : x < G.length
  · rw [pl_putIn _ _ _ hx]; unfold putP; split <;> rfl
  · rw [pl_out (by rw [putIn_len]; omega), pl_out (by omega)]
theorem st_putIn' {s t : Kd} (hst : s ≠ t) (ht : t ≠ .draw) (hτ : StOk t (putIn s σ G) τ) : StOk t G τ := by
  have key : ∀ x, x < G.length → ((pl (putIn s σ G) x).k = t ↔ (pl G x).k = t) ∧ ((pl G x).k = t → pl (putIn s σ G) x = pl G x) := fun x hx => by
    rw [pl_putIn _ _ _ hx]
    unfold putP
    by_cases hk : (pl G x).k = s
    · rw [if_pos hk]
      exact ⟨⟨fun z => absurd z.symm ht, fun z => absurd (hk.symm.trans z) hst⟩, fun z => absurd (hk.symm.trans z) hst⟩
    · rw [if_neg hk]
      exact ⟨Iff.rfl, fun _ => rfl⟩
  refine ⟨by have := hτ.len; rw [putIn_len] at this; exact this, fun x hx hk => ?_, fun x hx hk => ?_⟩
  · obtain ⟨k1, k2⟩ := key x hx
    obtain ⟨b, e, hb⟩ := hτ.at_ x (by rw [putIn_len]; exact hx) (k1.mpr hk)
    exact ⟨b, e, by rw [k2 hk] at hb; exact hb⟩
  · obtain ⟨k1, k2⟩ := key x hx
    exact hτ.no x (by rw [putIn_len]; exact hx) fun z => hk (k1.mp z)
/-- with ours put in, both are what they were -/
theorem both_left (σ' : List (Option Nat)) : both (putIn .ours σ G) σ' τ = both G σ τ := by
  unfold both
  rw [putIn_none (s := .ours) (σ := σ') fun x hx => putIn_one (by decide) (by rw [putIn_len] at hx; exact hx)]
theorem both_right (hG : GmOk n G) (hσ : StOk .ours G σ) (hτ : StOk .theirs G τ) (τ' : List (Option Nat)) : both (putIn .theirs τ G) σ τ' = both G σ τ := by
  have h1 := putIn_ok hG hτ
  have h2 : StOk .ours (putIn .theirs τ G) σ := st_putIn (by decide) hσ (by decide)
  refine list_of_pl (by rw [both_len, both_len, putIn_len]) fun x hx => ?_
  rw [both_len, putIn_len] at hx
  have hp : pl (putIn .theirs τ G) x = if (pl G x).k = .theirs then ⟨(pl G x).g, .draw, [(1, tg G x (told τ x))]⟩ else pl G x := by
    rw [pl_putIn _ _ _ hx]; rfl
  have hx2 : x < (putIn .theirs τ G).length := by rw [putIn_len]; exact hx
  cases hk : (pl G x).k with
  | draw =>
    rw [hk, if_neg (by decide)] at hp
    rw [pl_both_draw hx2 (by rw [hp]; exact hk), hp, pl_both_draw hx hk]
  | ours =>
    rw [hk, if_neg (by decide)] at hp
    rw [pl_both_ours hx2 (by rw [hp]; exact hk), pl_both_ours hx hk]
    unfold tg
    rw [hp]
  | theirs =>
    rw [hk, if_pos rfl] at hp
    rw [pl_both_draw hx2 (by rw [hp]), hp, pl_both_theirs hx hk]
theorem play_ours (hG : GmOk n G) (hσ : StOk .ours G σ) : playG G [σ] = putIn .ours σ G := by
  refine list_of_pl (by rw [playG_len, putIn_len]) fun x hx => ?_
  rw [playG_len] at hx
  rw [pl_playG _ _ hx, pl_putIn _ _ _ hx]
  unfold playP putP
  rw [playB_one]
  cases hk : (pl G x).k with
  | draw => rw [if_pos rfl, if_neg (by decide)]
  | ours =>
    obtain ⟨b, eb, _⟩ := hσ.at_ x hx hk
    rw [if_neg (by decide), if_pos rfl, getD_of eb]; rfl
  | theirs =>
    rw [if_neg (by decide), if_neg (by decide), getD_of (hσ.no x hx (by rw [hk]; decide))]
theorem play_theirs (hG : GmOk n G) (hτ : StOk .theirs G τ) : playG G [τ] = putIn .theirs τ G := by
  refine list_of_pl (by rw [playG_len, putIn_len]) fun x hx => ?_
  rw [playG_len] at hx
  rw [pl_playG _ _ hx, pl_putIn _ _ _ hx]
  unfold playP putP
  rw [playB_one]
  cases hk : (pl G x).k with
  | draw => rw [if_pos rfl, if_neg (by decide)]
  | theirs =>
    obtain ⟨b, eb, _⟩ := hτ.at_ x hx hk
    rw [if_neg (by decide), if_pos rfl, getD_of eb]; rfl
  | ours =>
    rw [if_neg (by decide), if_neg (by decide), getD_of (hτ.no x hx (by rw [hk]; decide))]
theorem fa_low {g k : Nat → Rat} (hG : GmOk n G) (hno : ∀ x, x < n → (pl G x).k ≠ .ours) (fa : FA n G σ τ g k) {ρ : List (Option Nat)} (hρ : StOk .theirs G ρ) {g0 : Nat → Rat} (L : Long n (Pm (both G σ ρ)) (gm G) g0) {x : Nat} (hx : x < n) : g x ≤ g0 x := by
  have hC := both_ok hG fa.so hρ
  refine (Lower.mk (fun z hz => ?_) (fun z hz => ?_) : Lower n (Pm (both G σ ρ)) (gm G) g k).le hC.stoch L x hx
  · cases hk : (pl G z).k with
    | draw => rw [mn_draw hG fa.so hρ hz hk, ← (fa.draw z hz hk).1]; exact Rat.le_refl
    | ours => exact absurd hk (hno z hz)
    | theirs =>
      rw [mn_theirs hG fa.so hρ hz hk]
      have hb := hρ.told_lt (by rw [hG.len]; exact hz) hk
      have e : tg G z (told ρ z) = ((pl G z).bs[told ρ z]).2 := by simp [tg, List.getD, hb]
      rw [e]
      exact (fa.low z hz hk _ (List.getElem_mem hb)).1
  · cases hk : (pl G z).k with
    | draw => rw [mn_draw hG fa.so hρ hz hk, (fa.draw z hz hk).2]; exact Rat.le_refl
    | ours => exact absurd hk (hno z hz)
    | theirs =>
      rw [mn_theirs hG fa.so hρ hz hk]
      have hb := hρ.told_lt (by rw [hG.len]; exact hz) hk
      have e : tg G z (told ρ z) = ((pl G z).bs[told ρ z]).2 := by simp [tg, List.getD, hb]
      rw [e]
      exact (fa.low z hz hk _ (List.getElem_mem hb)).2
theorem fa_upp {g k : Nat → Rat} (hG : GmOk n G) (hno : ∀ x, x < n → (pl G x).k ≠ .theirs) (fa : FA n G σ τ g k) {ρ : List (Option Nat)} (hρ : StOk .ours G ρ) {g0 : Nat → Rat} (L : Long n (Pm (both G ρ τ)) (gm G) g0) {x : Nat} (hx : x < n) : g0 x ≤ g x := by
  have hC := both_ok hG hρ fa.st
  refine (Upper.mk (fun z hz => ?_) (fun z hz => ?_) : Upper n (Pm (both G ρ τ)) (gm G) g k).ge hC.stoch L x hx
  · cases hk : (pl G z).k with
    | draw => rw [mn_draw hG hρ fa.st hz hk, ← (fa.draw z hz hk).1]; exact Rat.le_refl
    | theirs => exact absurd hk (hno z hz)
    | ours =>
      rw [mn_ours hG hρ fa.st hz hk]
      have hb := hρ.told_lt (by rw [hG.len]; exact hz) hk
      have e : tg G z (told ρ z) = ((pl G z).bs[told ρ z]).2 := by simp [tg, List.getD, hb]
      rw [e]
      exact (fa.upp z hz hk _ (List.getElem_mem hb)).1
  · cases hk : (pl G z).k with
    | draw => rw [mn_draw hG hρ fa.st hz hk, (fa.draw z hz hk).2]; exact Rat.le_refl
    | theirs => exact absurd hk (hno z hz)
    | ours =>
      rw [mn_ours hG hρ fa.st hz hk]
      have hb := hρ.told_lt (by rw [hG.len]; exact hz) hk
      have e : tg G z (told ρ z) = ((pl G z).bs[told ρ z]).2 := by simp [tg, List.getD, hb]
      rw [e]
      exact (fa.upp z hz hk _ (List.getElem_mem hb)).2
end
end Mh
end
section
set_option Elab.async false
set_option linter.all false
set_option maxRecDepth 100000
set_option maxHeartbeats 4000000
set_option exponentiation.threshold 20000
/-! one turn of the law's rounds -/
namespace Mh
open PySem PySem.Spec PyProof.Rows L2
open C8 (Cal pe_c)
open Evl (ixN_nat)
theorem any_range (n : Nat) (g : Nat → Bool) (h : ∀ j, j < n → g j = false) : ((List.range n).map g).any id = false := by
  rw [List.any_eq_false]
  intro b hb
  obtain ⟨j, hj, rfl⟩ := List.mem_map.mp hb
  have := h j (List.mem_range.mp hj)
  simp [this]
section
variable {K : PySem.W.Frag}
def fragW (K : PySem.W.Frag) (i7 i10 i5 : Nat) (s : Str) (cmp : R2) : TS → TS := fun rest =>
  (tSeq (tAsg (tOp rCat (tLst (tCons (tVar i7) tNil)) (tLc (iRng1 (tCons (tOp rSubI (tVar 13) (tC (.int 1))) tNil)) (gName 16) tYes (tCall (sp59 K) [] E0 (tCons (tVar 1) (tCons (tVar i10) (tCons (tC (.str s)) tNil)))) [16])) (gName 14))
    (tSeq (tAsg (tCall (sp67 K) [] E0 (tCons (tCall (sp69 K) [] E0 (tCons (tVar i10) (tCons (tVar 14) tNil))) tNil)) (gName 15))
    (tSeq (tIfS (tB (tCB (rAny K) (tCons (tLc (iRng1 (tCons (tCB (rLenQ K) (tCons (tVar 2) tNil)) tNil)) (gName 17) tYes (tOp cmp (tCall (sp68 K) [] E0 (tCons (tOp (rIxL K) (tVar 15) (tVar 17)) (tCons (tOp (rIxL K) (tVar i5) (tVar 17)) tNil))) (tC (.int 0))) [17]) tNil))) (tRet (tC (.bl false))) tNext) rest)))
theorem low_turn {a p : Addr} {vG vo vt vleast vld vlow vmost vhigh vl vr : V} {n parts : Nat} {GG G : List Pl} {g : Nat → Rat} {τ : List (Option Nat)} {Hs H : Hp} {y12 y14 y15 y16 y17 : Option V} {rest : TS} {D : Ends}
    (n1 : 1 ≤ n) (n4 : n ≤ 4) (hGG : GG.length = n) (hG : GmOk n G) (hone : ∀ x, x < n → (pl G x).k = .draw ∨ (pl G x).k = .theirs) (hτ : StOk .theirs G τ) (hp2 : 2 ≤ parts) (hp3 : parts ≤ 3)
    (hlow : ∀ ρs, RndOk n parts G .theirs ρs → ∀ ĝ, Long (parts * n) (Pm (rnd n parts G ρs)) (gm (rnd n parts G ρs)) ĝ → ∀ x, x < n → g x ≤ ĝ x) (gsz : ∀ x, x < n → Sz 321 (g x))
    (ivG : Is K Hs vG (gd GG)) (ivl : Is K Hs vl (gd G)) (ivlow : Is K Hs vlow (sd τ)) (ivleast : Is K Hs vleast (vd n g)) (st : Same Hs H) (hp0 : Hs p = none) (hpool : PoolOk H p)
    (hrest : ∀ Hs' H' y14 y15 y16 y17, Same Hs Hs' → Same Hs' H' → Hs' p = none → PoolOk H' p → rest D [some (.ref a), some (.ref p), some vG, some vo, some vt, some vleast, some vld, some vlow, some vmost, some vhigh, some vl, some vr, y12, some (.int (2 + ((parts : Int) - 2))), y14, y15, y16, y17] H') :
    fragW K 7 10 5 "theirs" rLtI rest D [some (.ref a), some (.ref p), some vG, some vo, some vt, some vleast, some vld, some vlow, some vmost, some vhigh, some vl, some vr, y12, some (.int (2 + ((parts : Int) - 2))), y14, y15, y16, y17] H := by
  refine ⟨_, rfl, by show 1 ≤ sizeLine; decide, fun d hd => ?_⟩
  have npd : p ≠ d := hpool.ne hd
  have e1 : Ext (Mp p) Hs H Hs (upd H d (.lst [vlow])) := (Ext.refl st).newM hd
  refine ⟨_, rfl, _, _, rfl, rfl, _, rfl, by omega, by omega, fun D1 hD1 => ?_⟩
  have en : ((2 : Int) + ((parts : Int) - 2) - 1).toNat = parts - 1 := by omega
  rw [en]
  have npD : p ≠ D1 := (hpool.keep hd).ne hD1
  have ndD : d ≠ D1 := ne_of_none upd_same hD1
  refine lc_pool (K := K) (p := p) (Hs := Hs) (n := parts - 1) walk_rng0 e1.t (fun _ _ => trivial) hD1 hp0 (hpool.keep hd) (fun _ dd => ∃ ρ, dd = sd ρ ∧ StOk .theirs G ρ) (by omega) ?_ ?_
  · rintro j x Hs2 H2 H2' C hj e2 q0 q1 ⟨rfl, rfl⟩ kk
    refine ⟨rfl, _, rfl, _, rfl, n, G, .theirs, p, _, Hs2, rfl, hG, by omega, by decide, ivl.up e2.s, q1, q0, e2.t, fun v Hs3 H3 ρ e3 q2 q3 hρ hv => kk v Hs3 H3 (sd ρ) e3 q2 q3 hv ⟨ρ, rfl, hρ⟩⟩
  intro Hs2 H2 ws ds e2 q0 q1 D0 D2 hws hdl hP
  obtain ⟨ρs', rfl, hρs⟩ := ex_map hP
  rw [List.length_map] at hdl
  have lws : ws.length = parts - 1 := by rw [hws.len, List.length_map, hdl]
  obtain ⟨d0, d1⟩ := e2.own (fun z => npd z.symm) (show (upd H d (.lst [vlow])) d = _ from upd_same) (st.free hd)
  refine ⟨d, D1, _, ws, rfl, rfl, d1, D2, bl_sl (by show 1 + ws.length ≤ 100000; omega), fun u hu => ?_⟩
  have e3 := (e1.trans e2).new (o := .lst ([vlow] ++ ws)) hu
  have npu : p ≠ u := q1.ne hu
  have su := same_new (o := .lst ([vlow] ++ ws)) (e2.t.free hu)
  have iρ : Is K (upd Hs2 u (.lst ([vlow] ++ ws))) (.ref u) (.list ((τ :: ρs').map sd)) := .lst upd_same (.cons ((ivlow.up e2.s).up su) (hws.up su))
  have q0' : (upd Hs2 u (.lst ([vlow] ++ ws))) p = none := by rw [upd_ne npu]; exact q0
  have q1' := q1.keep (o := .lst ([vlow] ++ ws)) hu
  have hr : RndOk n parts G .theirs (τ :: ρs') := ⟨hG, n1, by omega, by rw [List.length_cons, hdl]; omega, by decide, hone, fun ρ hρ => by
    rcases List.mem_cons.mp hρ with z | z
    · rw [z]; exact hτ
    · exact hρs ρ z⟩
  have ivl3 := ivl.up e3.s
  have ivG3 := ivG.up e3.s
  have ivle3 := ivleast.up e3.s
  have s3 := e3.s
  generalize hHs3 : upd Hs2 u (.lst ([vlow] ++ ws)) = Hs3 at e3 iρ q0' ivl3 ivG3 ivle3 s3
  refine ⟨_, rfl, _, rfl, n, parts, G, τ :: ρs', .theirs, _, _, Hs3, rfl, hG, n1, n4, hr.len, hr.p1, hp3, by decide, hone, hr.ρ, ivl3, iρ, e3.t, fun vc Hs4 H4 e4 hvc => ?_⟩
  have hN : parts * n ≤ 3 * 4 := Nat.mul_le_mul hp3 n4
  have hN1 : 1 ≤ parts * n := Nat.mul_pos (by omega) n1
  refine ⟨parts * n, rnd n parts G (τ :: ρs'), vc, Hs4, rfl, hr.ch, hN1, by omega, hvc, e4.t, fun vĝ Hs5 H5 ĝ e5 hL hsz hvĝ => ?_⟩
  have hle := hlow _ hr ĝ hL
  obtain ⟨q3, q2⟩ := q1'.ext (e4.trans e5) q0'
  have s5 := e4.s.trans e5.s
  obtain ⟨b1, zs1, rfl, hb1, hz1⟩ := is_vd hvĝ
  obtain ⟨b2, zs2, rfl, hb2, hz2⟩ := is_vd (ivle3.up s5)
  obtain ⟨b3, zs3, rfl, hb3, hz3⟩ := is_gd (ivG3.up s5)
  have lz3 : zs3.length = n := by rw [hz3.flen, hGG]
  refine ⟨_, rfl, b3, zs3, rfl, .inl (SqL.of (e5.t _ _ hb3)), _, rfl, by omega, by omega, fun D3 hD3 => ?_⟩
  have en3 : ((zs3.length : Nat) : Int).toNat = n := by omega
  rw [en3]
  refine lc_map (K := K) (Hs := Hs5) (n := n) walk_rng0 e5.t (fun _ _ => trivial) hD3 (fun j => .bool (decide (cmpq (ĝ j) (g j) < 0))) (by omega) ?_ ?_
  · rintro j x Hs6 H6 H6' C hj e6 dd ⟨rfl, rfl⟩ kk
    have hjN : j < parts * n := Nat.lt_of_lt_of_le hj (Nat.le_mul_of_pos_left _ (by omega))
    obtain ⟨u1, eu1, iu1⟩ := hz1.fget hjN
    obtain ⟨u2, eu2, iu2⟩ := hz2.fget hj
    refine ⟨rfl, _, rfl, _, rfl, b1, zs1, _, u1, rfl, rfl, SqL.of (e6.t _ _ (e6.s _ _ hb1)), atI_nat eu1, ?_⟩
    refine ⟨_, rfl, _, rfl, b2, zs2, _, u2, rfl, rfl, SqL.of (e6.t _ _ (e6.s _ _ hb2)), atI_nat eu2, ?_⟩
    refine ⟨ĝ j, g j, 2900, 321, u1, u2, rfl, (iu1.up e6.s).up e6.t, (iu2.up e6.s).up e6.t, hsz j hjN, gsz j hj, by decide, ?_⟩
    exact ⟨_, _, rfl, rfl, kk _ Hs6 _ (Ext.refl e6.t) (.bl _)⟩
  · intro Hs6 H6 ws6 e6 dd0 dd1 hw6
    have ebs := hw6.fbls
    obtain ⟨q5, q4⟩ := q3.ext e6 q2
    refine ⟨D3, _, rfl, SqL.of (by rw [← ebs]; exact dd1), _, rfl, ?_⟩
    rw [any_range _ _ fun j hj => decide_eq_false (by
      have := hle j hj
      unfold cmpq
      rw [if_neg (by grind)]
      split <;> decide)]
    refine iteF ?_
    exact hrest Hs6 H6 _ _ _ _ ((s3.trans s5).trans e6.s) e6.t q4 q5
theorem high_turn {a p : Addr} {vG vo vt vleast vld vlow vmost vhigh vl vr : V} {n parts : Nat} {GG G : List Pl} {g : Nat → Rat} {τ : List (Option Nat)} {Hs H : Hp} {y12 y14 y15 y16 y17 : Option V} {rest : TS} {D : Ends}
    (n1 : 1 ≤ n) (n4 : n ≤ 4) (hGG : GG.length = n) (hG : GmOk n G) (hone : ∀ x, x < n → (pl G x).k = .draw ∨ (pl G x).k = .ours) (hτ : StOk .ours G τ) (hp2 : 2 ≤ parts) (hp3 : parts ≤ 3)
    (hlow : ∀ ρs, RndOk n parts G .ours ρs → ∀ ĝ, Long (parts * n) (Pm (rnd n parts G ρs)) (gm (rnd n parts G ρs)) ĝ → ∀ x, x < n → ĝ x ≤ g x) (gsz : ∀ x, x < n → Sz 321 (g x))
    (ivG : Is K Hs vG (gd GG)) (ivl : Is K Hs vr (gd G)) (ivlow : Is K Hs vhigh (sd τ)) (ivleast : Is K Hs vmost (vd n g)) (st : Same Hs H) (hp0 : Hs p = none) (hpool : PoolOk H p)
    (hrest : ∀ Hs' H' y14 y15 y16 y17, Same Hs Hs' → Same Hs' H' → Hs' p = none → PoolOk H' p → rest D [some (.ref a), some (.ref p), some vG, some vo, some vt, some vleast, some vld, some vlow, some vmost, some vhigh, some vl, some vr, y12, some (.int (2 + ((parts : Int) - 2))), y14, y15, y16, y17] H') :
    fragW K 9 11 8 "ours" rGtI rest D [some (.ref a), some (.ref p), some vG, some vo, some vt, some vleast, some vld, some vlow, some vmost, some vhigh, some vl, some vr, y12, some (.int (2 + ((parts : Int) - 2))), y14, y15, y16, y17] H := by
  refine ⟨_, rfl, by show 1 ≤ sizeLine; decide, fun d hd => ?_⟩
  have npd : p ≠ d := hpool.ne hd
  have e1 : Ext (Mp p) Hs H Hs (upd H d (.lst [vhigh])) := (Ext.refl st).newM hd
  refine ⟨_, rfl, _, _, rfl, rfl, _, rfl, by omega, by omega, fun D1 hD1 => ?_⟩
  have en : ((2 : Int) + ((parts : Int) - 2) - 1).toNat = parts - 1 := by omega
  rw [en]
  have npD : p ≠ D1 := (hpool.keep hd).ne hD1
  have ndD : d ≠ D1 := ne_of_none upd_same hD1
  refine lc_pool (K := K) (p := p) (Hs := Hs) (n := parts - 1) walk_rng0 e1.t (fun _ _ => trivial) hD1 hp0 (hpool.keep hd) (fun _ dd => ∃ ρ, dd = sd ρ ∧ StOk .ours G ρ) (by omega) ?_ ?_
  · rintro j x Hs2 H2 H2' C hj e2 q0 q1 ⟨rfl, rfl⟩ kk
    refine ⟨rfl, _, rfl, _, rfl, n, G, .ours, p, _, Hs2, rfl, hG, by omega, by decide, ivl.up e2.s, q1, q0, e2.t, fun v Hs3 H3 ρ e3 q2 q3 hρ hv => kk v Hs3 H3 (sd ρ) e3 q2 q3 hv ⟨ρ, rfl, hρ⟩⟩
  intro Hs2 H2 ws ds e2 q0 q1 D0 D2 hws hdl hP
  obtain ⟨ρs', rfl, hρs⟩ := ex_map hP
  rw [List.length_map] at hdl
  have lws : ws.length = parts - 1 := by rw [hws.len, List.length_map, hdl]
  obtain ⟨d0, d1⟩ := e2.own (fun z => npd z.symm) (show (upd H d (.lst [vhigh])) d = _ from upd_same) (st.free hd)
  refine ⟨d, D1, _, ws, rfl, rfl, d1, D2, bl_sl (by show 1 + ws.length ≤ 100000; omega), fun u hu => ?_⟩
  have e3 := (e1.trans e2).new (o := .lst ([vhigh] ++ ws)) hu
  have npu : p ≠ u := q1.ne hu
  have su := same_new (o := .lst ([vhigh] ++ ws)) (e2.t.free hu)
  have iρ : Is K (upd Hs2 u (.lst ([vhigh] ++ ws))) (.ref u) (.list ((τ :: ρs').map sd)) := .lst upd_same (.cons ((ivlow.up e2.s).up su) (hws.up su))
  have q0' : (upd Hs2 u (.lst ([vhigh] ++ ws))) p = none := by rw [upd_ne npu]; exact q0
  have q1' := q1.keep (o := .lst ([vhigh] ++ ws)) hu
  have hr : RndOk n parts G .ours (τ :: ρs') := ⟨hG, n1, by omega, by rw [List.length_cons, hdl]; omega, by decide, hone, fun ρ hρ => by
    rcases List.mem_cons.mp hρ with z | z
    · rw [z]; exact hτ
    · exact hρs ρ z⟩
  have ivl3 := ivl.up e3.s
  have ivG3 := ivG.up e3.s
  have ivle3 := ivleast.up e3.s
  have s3 := e3.s
  generalize hHs3 : upd Hs2 u (.lst ([vhigh] ++ ws)) = Hs3 at e3 iρ q0' ivl3 ivG3 ivle3 s3
  refine ⟨_, rfl, _, rfl, n, parts, G, τ :: ρs', .ours, _, _, Hs3, rfl, hG, n1, n4, hr.len, hr.p1, hp3, by decide, hone, hr.ρ, ivl3, iρ, e3.t, fun vc Hs4 H4 e4 hvc => ?_⟩
  have hN : parts * n ≤ 3 * 4 := Nat.mul_le_mul hp3 n4
  have hN1 : 1 ≤ parts * n := Nat.mul_pos (by omega) n1
  refine ⟨parts * n, rnd n parts G (τ :: ρs'), vc, Hs4, rfl, hr.ch, hN1, by omega, hvc, e4.t, fun vĝ Hs5 H5 ĝ e5 hL hsz hvĝ => ?_⟩
  have hle := hlow _ hr ĝ hL
  obtain ⟨q3, q2⟩ := q1'.ext (e4.trans e5) q0'
  have s5 := e4.s.trans e5.s
  obtain ⟨b1, zs1, rfl, hb1, hz1⟩ := is_vd hvĝ
  obtain ⟨b2, zs2, rfl, hb2, hz2⟩ := is_vd (ivle3.up s5)
  obtain ⟨b3, zs3, rfl, hb3, hz3⟩ := is_gd (ivG3.up s5)
  have lz3 : zs3.length = n := by rw [hz3.flen, hGG]
  refine ⟨_, rfl, b3, zs3, rfl, .inl (SqL.of (e5.t _ _ hb3)), _, rfl, by omega, by omega, fun D3 hD3 => ?_⟩
  have en3 : ((zs3.length : Nat) : Int).toNat = n := by omega
  rw [en3]
  refine lc_map (K := K) (Hs := Hs5) (n := n) walk_rng0 e5.t (fun _ _ => trivial) hD3 (fun j => .bool (decide (0 < cmpq (ĝ j) (g j)))) (by omega) ?_ ?_
  · rintro j x Hs6 H6 H6' C hj e6 dd ⟨rfl, rfl⟩ kk
    have hjN : j < parts * n := Nat.lt_of_lt_of_le hj (Nat.le_mul_of_pos_left _ (by omega))
    obtain ⟨u1, eu1, iu1⟩ := hz1.fget hjN
    obtain ⟨u2, eu2, iu2⟩ := hz2.fget hj
    refine ⟨rfl, _, rfl, _, rfl, b1, zs1, _, u1, rfl, rfl, SqL.of (e6.t _ _ (e6.s _ _ hb1)), atI_nat eu1, ?_⟩
    refine ⟨_, rfl, _, rfl, b2, zs2, _, u2, rfl, rfl, SqL.of (e6.t _ _ (e6.s _ _ hb2)), atI_nat eu2, ?_⟩
    refine ⟨ĝ j, g j, 2900, 321, u1, u2, rfl, (iu1.up e6.s).up e6.t, (iu2.up e6.s).up e6.t, hsz j hjN, gsz j hj, by decide, ?_⟩
    exact ⟨_, _, rfl, rfl, kk _ Hs6 _ (Ext.refl e6.t) (.bl _)⟩
  · intro Hs6 H6 ws6 e6 dd0 dd1 hw6
    have ebs := hw6.fbls
    obtain ⟨q5, q4⟩ := q3.ext e6 q2
    refine ⟨D3, _, rfl, SqL.of (by rw [← ebs]; exact dd1), _, rfl, ?_⟩
    rw [any_range _ _ fun j hj => decide_eq_false (by
      have := hle j hj
      rw [cmp_pos]
      grind)]
    refine iteF ?_
    exact hrest Hs6 H6 _ _ _ _ ((s3.trans s5).trans e6.s) e6.t q4 q5
end
end Mh
end
section
set_option Elab.async false
set_option linter.all false
set_option maxRecDepth 100000
set_option maxHeartbeats 4000000
set_option exponentiation.threshold 20000
/-! the law: the reading -/
namespace Mh
open PySem PySem.Spec PyProof.Rows L2
open C8 (Cal pe_c)
open Evl (ixN_nat)
theorem shaped_vd (n : Nat) (f : Nat → Rat) : SeqAt.shaped (vd n f) = true := shaped_list fun d hd => by
  obtain ⟨j, _, rfl⟩ := List.mem_map.mp hd
  exact ⟨rfl, by show max 0 (max 0 0) + 1 ≤ 9; decide⟩
theorem eqv_vd {n : Nat} {f g : Nat → Rat} (h : ∀ x, x < n → f x = g x) : PyData.eqv (vd n f) (vd n g) = true := by
  have e : vd n f = vd n g := by unfold vd; rw [fl_congr fun j hj => by rw [h j hj]]
  rw [e]
  unfold vd fl
  generalize List.range n = l
  induction l with
  | nil => rfl
  | cons a l ih =>
    show (PyData.eqv (qd (g a)) (qd (g a)) && PyData.eqv (.list (l.map fun j => qd (g j))) (.list (l.map fun j => qd (g j)))) = true
    rw [eqv_qd, ih]; simp
section
variable {K : PySem.W.Frag}
/-- what stands when the law goes on -/
theorem rne_vd {H : Hp} {x y : V} {n : Nat} {f g : Nat → Rat} {Q : VK} (hx : Is K H x (vd n f)) (hy : Is K H y (vd n g)) (e : ∀ x, x < n → f x = g x) (q : Q (.bl false) H) : rNeD K x y H Q :=
  ⟨_, _, hx.dp, hy.dp, shaped_vd n f, shaped_vd n g, by rw [eqv_vd e]; exact q⟩
theorem h74 (vs : List V) (H : Hp) (Q : VK) (E : XK) (h : sp74 K vs H Q E) : t74 K { nx := fun _ H' => Q .non H', rt := Q } (start n74 vs) H := by
  obtain ⟨ns, a, Hs, rfl, ha, hl, st, q⟩ := h
  refine ⟨_, rfl, ns, a, Hs, rfl, ha, hl, st, fun p Hs1 H1 e1 hpH hp0 hp1 => ?_⟩
  refine ⟨_, rfl, p, Hs1, rfl, hp1, hp0, e1.t, fun vG Hs2 H2 n G e2 q0 q1 n1 n4 hG hvG => ?_⟩
  refine ⟨_, rfl, _, rfl, n, G, .ours, p, _, Hs2, rfl, hG, by omega, by decide, hvG, q1, q0, e2.t, fun vo Hs3 H3 σ e3 q2 q3 hσ hvo => ?_⟩
  refine ⟨_, rfl, _, rfl, n, G, .theirs, p, _, Hs3, rfl, hG, by omega, by decide, hvG.up e3.s, q3, q2, e3.t, fun vt Hs4 H4 τ e4 q4 q5 hτ hvt => ?_⟩
  refine ⟨_, _, rfl, ?_⟩
  have s24 := e3.s.trans e4.s
  refine ⟨_, rfl, _, rfl, n, G, σ, _, _, Hs4, rfl, hG, n4, hσ, hvG.up s24, hvo.up e4.s, e4.t, fun v5 Hs5 H5 σ1 τ1 g1 k1 e5 fa1 ro1 hv5 => ?_⟩
  obtain ⟨p5, w1, vlow, rfl, hp5, iw1, ivlow⟩ := hv5.pair
  obtain ⟨p6, vleast, vld, rfl, hp6, ivleast, ivld⟩ := iw1.pair
  refine ⟨p5, _, rfl, sqt_up e5.t hp5, rfl, _, _, rfl, p6, _, rfl, sqt_up e5.t hp6, rfl, _, _, rfl, _, _, rfl, rfl, _, _, rfl, rfl, ?_⟩
  obtain ⟨q7, q6⟩ := q5.ext e5 q4
  have s25 := s24.trans e5.s
  refine ⟨_, rfl, _, rfl, n, G, τ, _, _, Hs5, rfl, hG, n4, hτ, hvG.up s25, hvt.up e5.s, e5.t, fun v6 Hs6 H6 σ2 τ2 g2 k2 e6 fa2 ro2 hv6 => ?_⟩
  obtain ⟨p7, w2, vhigh, rfl, hp7, iw2, ivhigh⟩ := hv6.pair
  obtain ⟨p8, vmost, vld2, rfl, hp8, ivmost, ivld2⟩ := iw2.pair
  refine ⟨p7, _, rfl, sqt_up e6.t hp7, rfl, _, _, rfl, p8, _, rfl, sqt_up e6.t hp8, rfl, _, _, rfl, _, _, rfl, rfl, _, _, rfl, rfl, ?_⟩
  obtain ⟨q9, q8⟩ := q7.ext e6 q6
  have s26 := s25.trans e6.s
  -- what is told of the two
  have hGl := putIn_ok hG hσ
  have hGr := putIn_ok hG hτ
  have nol : ∀ x, x < n → (pl (putIn .ours σ G) x).k ≠ .ours := fun x hx => putIn_one (by decide) (by rw [hG.len]; exact hx)
  have nor : ∀ x, x < n → (pl (putIn .theirs τ G) x).k ≠ .theirs := fun x hx => putIn_one (by decide) (by rw [hG.len]; exact hx)
  have hτ1 : StOk .theirs G τ1 := st_putIn' (by decide) (by decide) fa1.st
  have hσ2 : StOk .ours G σ2 := st_putIn' (by decide) (by decide) fa2.so
  have L1 : Long n (Pm (both G σ τ1)) (gm G) g1 := by have := fa1.long; rw [both_left, putIn_gm] at this; exact this
  have L2' : Long n (Pm (both G σ2 τ)) (gm G) g2 := by have := fa2.long; rw [both_right hG hσ2 hτ, putIn_gm] at this; exact this
  have U1 : ∀ g', Long n (Pm (both G σ τ1)) (gm G) g' → ∀ x, x < n → g1 x = g' x := fun g' hL => fa1.uq g' (by rw [both_left, putIn_gm]; exact hL)
  have U2 : ∀ g', Long n (Pm (both G σ2 τ)) (gm G) g' → ∀ x, x < n → g2 x = g' x := fun g' hL => fa2.uq g' (by rw [both_right hG hσ2 hτ, putIn_gm]; exact hL)
  have A1 : ∀ ρ, StOk .theirs G ρ → ∀ g0, Long n (Pm (both G σ ρ)) (gm G) g0 → ∀ x, x < n → g1 x ≤ g0 x := fun ρ hρ g0 hL x hx =>
    fa_low hGl nol fa1 (st_putIn (by decide) hρ (by decide)) (by rw [both_left, putIn_gm]; exact hL) hx
  have A2 : ∀ ρ, StOk .ours G ρ → ∀ g0, Long n (Pm (both G ρ τ)) (gm G) g0 → ∀ x, x < n → g0 x ≤ g2 x := fun ρ hρ g0 hL x hx =>
    fa_upp hGr nor fa2 (st_putIn (by decide) hρ (by decide)) (by
      have : both (putIn .theirs τ G) ρ τ2 = both G ρ τ := both_right hG hρ hτ τ2
      rw [this, putIn_gm]; exact hL) hx
  have F1 : ∀ f : Nat → Rat, (∀ x, x < n → (∃ ρ g, StOk .theirs G ρ ∧ Long n (Pm (both G σ ρ)) (gm G) g ∧ f x = g x) ∧ ∀ ρ, StOk .theirs G ρ → ∃ g, Long n (Pm (both G σ ρ)) (gm G) g ∧ f x ≤ g x) → ∀ x, x < n → g1 x = f x := fun f hf x hx => by
    obtain ⟨⟨ρ, g0, h1, h2, h3⟩, h4⟩ := hf x hx
    obtain ⟨g3, h5, h6⟩ := h4 τ1 hτ1
    have := A1 ρ h1 g0 h2 x hx
    have := U1 g3 h5 x hx
    grind
  have F2 : ∀ f : Nat → Rat, (∀ x, x < n → (∃ ρ g, StOk .ours G ρ ∧ Long n (Pm (both G ρ τ)) (gm G) g ∧ f x = g x) ∧ ∀ ρ, StOk .ours G ρ → ∃ g, Long n (Pm (both G ρ τ)) (gm G) g ∧ g x ≤ f x) → ∀ x, x < n → g2 x = f x := fun f hf x hx => by
    obtain ⟨⟨ρ, g0, h1, h2, h3⟩, h4⟩ := hf x hx
    obtain ⟨g3, h5, h6⟩ := h4 σ2 hσ2
    have := A2 ρ h1 g0 h2 x hx
    have := U2 g3 h5 x hx
    grind
  have hvG6 := hvG.up s26
  refine ⟨_, rfl, _, rfl, _, rfl, n, G, σ, _, _, Hs6, rfl, hG, n1, n4, hσ, hvG6, (hvo.up (e4.s.trans e5.s)).up e6.s, e6.t, fun vf Hs7 H7 f e7 hf hvf => ?_⟩
  refine rne_vd (((ivleast.up e6.s).up e7.s).up e7.t) (hvf.up e7.t) (F1 f hf) ⟨_, rfl, iteF ?_⟩
  have s27 := s26.trans e7.s
  refine ⟨_, rfl, _, rfl, _, rfl, n, G, τ, _, _, Hs7, rfl, hG, n1, n4, hτ, hvG.up s27, ((hvt.up e5.s).up e6.s).up e7.s, e7.t, fun vf2 Hs8 H8 f2 e8 hf2 hvf2 => ?_⟩
  refine rne_vd (((ivmost.up e7.s).up e8.s).up e8.t) (hvf2.up e8.t) (F2 f2 hf2) ⟨_, rfl, iteF ?_⟩
  have s28 := s27.trans e8.s
  have obs : ∀ {s : Kd} {G' : List Pl} {ρ : List (Option Nat)}, GmOk n G' → s ≠ .draw → StOk s G' ρ → ∀ x, x < n → ∀ b, playB [ρ] x = some b → (pl G' x).k ≠ .draw → b < (pl G' x).bs.length := fun {s G' ρ} hG' hs hρ x hx b hb hk => by
    rw [playB_one] at hb
    by_cases h1 : (pl G' x).k = s
    · obtain ⟨b2, eb2, hb2⟩ := hρ.at_ x (by rw [hG'.len]; exact hx) h1
      rw [getD_of eb2] at hb
      cases hb; exact hb2
    · rw [getD_of (hρ.no x (by rw [hG'.len]; exact hx) h1)] at hb
      cases hb
  have hvo8 := (((hvo.up (e4.s.trans e5.s)).up e6.s).up e7.s).up e8.s
  have hvt8 := (((hvt.up e5.s).up e6.s).up e7.s).up e8.s
  refine ⟨_, rfl, _, rfl, by show 1 ≤ sizeLine; decide, fun d1 hd1 => ?_⟩
  have e9 := (Ext.refl e8.t : Ext0 Hs8 H8 Hs8 H8).new (o := .lst [vo]) hd1
  refine ⟨n, G, [σ], _, _, _, rfl, hG.len, by omega, by show 1 ≤ 100; decide, (hvG.up s28).up e9.s, .lst upd_same (.cons (hvo8.up e9.s) .nil), fun ρ hρ => by cases List.mem_singleton.mp hρ; rw [hσ.len, hG.len], obs hG (by decide) hσ, e9.t, fun vl Hs9 H9 e10 hvl => ?_⟩
  rw [play_ours hG hσ] at hvl
  have e11 := e9.trans e10
  refine ⟨_, rfl, _, rfl, by show 1 ≤ sizeLine; decide, fun d2 hd2 => ?_⟩
  have e12 := (Ext.refl e11.t : Ext0 Hs9 H9 Hs9 H9).new (o := .lst [vt]) hd2
  refine ⟨n, G, [τ], _, _, _, rfl, hG.len, by omega, by show 1 ≤ 100; decide, ((hvG.up s28).up e11.s).up e12.s, .lst upd_same (.cons ((hvt8.up e11.s).up e12.s) .nil), fun ρ hρ => by cases List.mem_singleton.mp hρ; rw [hτ.len, hG.len], obs hG (by decide) hτ, e12.t, fun vr Hs10 H10 e13 hvr => ?_⟩
  rw [play_theirs hG hτ] at hvr
  refine ⟨by show 2 ≤ sizeLine; decide, fun d3 hd3 => ?_⟩
  have e14 := ((e11.trans (e12.trans e13)).newM (o := .tup [vl, vr]) hd3)
  refine ⟨d3, _, rfl, SqT.of upd_same, rfl, vl, _, rfl, vr, _, rfl, rfl, ?_⟩
  have hvl10 := hvl.up (e12.s.trans e13.s)
  generalize hH11 : upd H10 d3 (.tup [vl, vr]) = H11 at e14
  have s6_10 : Same Hs6 Hs10 := (e7.s.trans e8.s).trans e14.s
  have ivlow10 := (ivlow.up e6.s).up s6_10
  have ivleast10 := (ivleast.up e6.s).up s6_10
  have ivhigh10 := ivhigh.up s6_10
  have ivmost10 := ivmost.up s6_10
  have ll : (putIn .ours σ G).length = n := hGl.len
  have lr : (putIn .theirs τ G).length = n := hGr.len
  refine ⟨_, rfl, _, rfl, by show 1 ≤ sizeLine; decide, fun d4 hd4 => ?_⟩
  have e15 := (Ext.refl e14.t : Ext0 Hs10 H11 Hs10 H11).new (o := .lst [vlow]) hd4
  refine ⟨n, putIn .ours σ G, [τ1], _, _, _, rfl, ll, by omega, by show 1 ≤ 100; decide, hvl10.up e15.s, .lst upd_same (.cons (ivlow10.up e15.s) .nil), fun ρ hρ => by cases List.mem_singleton.mp hρ; rw [fa1.st.len, ll], obs hGl (by decide) fa1.st, e15.t, fun vb Hs12 H12 e16 hvb => ?_⟩
  rw [play_theirs hGl fa1.st] at hvb
  refine ⟨n, both G σ τ1, vb, Hs12, rfl, both_ok hG hσ hτ1, n1, by omega, hvb, e16.t, fun vc Hs13 H13 g3 e17 hL3 hsz3 hvc => ?_⟩
  rw [gm_both] at hL3
  have e18 := e15.trans (e16.trans e17)
  refine ⟨_, rfl, rne_vd (hvc.up e17.t) ((ivleast10.up e18.s).up e18.t) (fun x hx => (U1 g3 hL3 x hx).symm) ⟨_, rfl, iteF ?_⟩⟩
  refine ⟨_, rfl, _, rfl, by show 1 ≤ sizeLine; decide, fun d5 hd5 => ?_⟩
  have e19 := (Ext.refl e18.t : Ext0 Hs13 H13 Hs13 H13).new (o := .lst [vhigh]) hd5
  have s10_13 := e18.s
  refine ⟨n, putIn .theirs τ G, [σ2], _, _, _, rfl, lr, by omega, by show 1 ≤ 100; decide, (hvr.up s10_13).up e19.s, .lst upd_same (.cons ((ivhigh10.up s10_13).up e19.s) .nil), fun ρ hρ => by cases List.mem_singleton.mp hρ; rw [fa2.so.len, lr], obs hGr (by decide) fa2.so, e19.t, fun vb2 Hs14 H14 e20 hvb2 => ?_⟩
  have eboth : putIn .ours σ2 (putIn .theirs τ G) = both G σ2 τ := by
    rw [← both_right hG hσ2 hτ τ2]
    unfold both
    exact (putIn_none (s := .theirs) (σ := τ2) fun x hx => by
      rw [putIn_len] at hx
      rw [pl_putIn _ _ _ hx]
      unfold putP
      split
      · exact fun z => by cases z
      · exact nor x (by rw [← lr]; exact hx)).symm
  rw [play_ours hGr fa2.so, eboth] at hvb2
  refine ⟨n, both G σ2 τ, vb2, Hs14, rfl, both_ok hG hσ2 hτ, n1, by omega, hvb2, e20.t, fun vc2 Hs15 H15 g4 e21 hL4 hsz4 hvc2 => ?_⟩
  rw [gm_both] at hL4
  have e22 := e19.trans (e20.trans e21)
  refine ⟨_, rfl, rne_vd (hvc2.up e21.t) (((ivmost10.up s10_13).up e22.s).up e22.t) (fun x hx => (U2 g4 hL4 x hx).symm) ⟨_, rfl, iteF ?_⟩⟩
  have s10_15 := s10_13.trans e22.s
  obtain ⟨r0a, r0b⟩ := q9.ext e7 q8
  obtain ⟨r1a, r1b⟩ := r0a.ext e8 r0b
  obtain ⟨r2a, r2b⟩ := r1a.ext e14 r1b
  obtain ⟨r3a, r3b⟩ := r2a.ext e18 r2b
  obtain ⟨r4a, r4b⟩ := r3a.ext e22 r3b
  have gsz1 : ∀ x, x < n → Sz 321 (g1 x) := fun x hx => ro1.gs hx
  have gsz2 : ∀ x, x < n → Sz 321 (g2 x) := fun x hx => ro2.gs hx
  have onel : ∀ x, x < n → (pl (putIn .ours σ G) x).k = .draw ∨ (pl (putIn .ours σ G) x).k = .theirs := fun x hx => by
    have := nol x hx
    cases hk : (pl (putIn .ours σ G) x).k with
    | draw => exact .inl rfl
    | ours => exact absurd hk this
    | theirs => exact .inr rfl
  have oner : ∀ x, x < n → (pl (putIn .theirs τ G) x).k = .draw ∨ (pl (putIn .theirs τ G) x).k = .ours := fun x hx => by
    have := nor x hx
    cases hk : (pl (putIn .theirs τ G) x).k with
    | draw => exact .inl rfl
    | ours => exact .inr rfl
    | theirs => exact absurd hk this
  refine ⟨_, rfl, by decide, by decide, ?_⟩
  have en2 : (2 : Int).toNat = 2 := rfl
  rw [en2]
  have ivG15 := (hvG6.up s6_10).up s10_15
  have ivl15 := hvl10.up s10_15
  have ivr15 := hvr.up s10_15
  have ivlow15 := ivlow10.up s10_15
  have ivhigh15 := ivhigh10.up s10_15
  have ivleast15 := ivleast10.up s10_15
  have ivmost15 := ivmost10.up s10_15
  refine for_it walk_rng0 (fun i τ' H' => ∃ (Hs' : Hp) (y12 y13 y14 y15 y16 y17 : Option V), τ' = [some (.ref a), some (.ref p), some vG, some vo, some vt, some vleast, some vld2, some vlow, some vmost, some vhigh, some vl, some vr, y12, y13, y14, y15, y16, y17] ∧ Same Hs15 Hs' ∧ Same Hs' H' ∧ Hs' p = none ∧ PoolOk H' p)
    ⟨Hs15, _, _, _, _, _, _, rfl, Same.refl _, e22.t, r4b, r4a⟩ (fun _ _ _ _ _ => trivial) ?_ ?_
  · rintro i x τ' H16 H16' hi ⟨Hs16, y12, y13, y14, y15, y16, y17, rfl, s16, t16, r5b, r5a⟩ ⟨rfl, rfl⟩
    refine ⟨_, rfl, p, 2, Hs16, rfl, by decide, r5a, r5b, t16, fun w Hs17 H17 e23 r6b r6a w0 w1 => ?_⟩
    obtain ⟨parts, hparts⟩ : ∃ parts : Nat, (parts : Int) - 2 = w := ⟨(w + 2).toNat, by omega⟩
    rw [← hparts]
    have s17 := s16.trans e23.s
    refine ⟨_, _, rfl, rfl, ?_⟩
    refine low_turn n1 n4 hG.len hGl onel fa1.st (by omega) (by omega) (fun ρs hr ĝ hL x hx => low_round hr fa1 hL hx) gsz1 (ivG15.up s17) (ivl15.up s17) (ivlow15.up s17) (ivleast15.up s17) e23.t r6b r6a fun Hs18 H18 y14 y15 y16 y17 s18 t18 r7b r7a => ?_
    have s1718 := s17.trans s18
    refine high_turn (rest := tNext) n1 n4 hG.len hGr oner fa2.so (by omega) (by omega) (fun ρs hr ĝ hL x hx => upp_round hr fa2 hL hx) gsz2 (ivG15.up s1718) (ivr15.up s1718) (ivhigh15.up s1718) (ivmost15.up s1718) t18 r7b r7a fun Hs19 H19 y14 y15 y16 y17 s19 t19 r8b r8a => ?_
    exact ⟨Hs19, _, _, _, _, _, _, rfl, s1718.trans s19, t19, r8b, r8a⟩
  · rintro τ' H16 ⟨Hs16, y12, y13, y14, y15, y16, y17, rfl, s16, t16, r5b, r5a⟩
    exact q _
end
end Mh
end
section
set_option Elab.async false
set_option linter.all false
set_option maxRecDepth 100000
set_option maxHeartbeats 4000000
/-! all defs of the text keep their promises -/
namespace Mh
open PySem PySem.Spec PyProof.Rows L2
open C8 (Cal)
section
variable {K : PySem.W.Frag}
theorem len4 (vs : List V) (H : Hp) (Q : VK) (E : XK) (h : sp4 K vs H Q E) : vs.length = 2 := by
  obtain ⟨_, _, _, e, _⟩ := h
  rw [e]; rfl
theorem len5 (vs : List V) (H : Hp) (Q : VK) (E : XK) (h : sp5 K vs H Q E) : vs.length = 2 := by
  obtain ⟨_, _, _, _, _, _, e, _⟩ := h
  rw [e]; rfl
theorem len6 (vs : List V) (H : Hp) (Q : VK) (E : XK) (h : sp6 K vs H Q E) : vs.length = 2 := by
  obtain ⟨_, _, _, _, _, _, _, e, _⟩ := h
  rw [e]; rfl
theorem len7 (vs : List V) (H : Hp) (Q : VK) (E : XK) (h : sp7 K vs H Q E) : vs.length = 2 := by
  obtain ⟨_, _, _, _, _, _, _, e, _⟩ := h
  rw [e]; rfl
theorem len8 (vs : List V) (H : Hp) (Q : VK) (E : XK) (h : sp8 K vs H Q E) : vs.length = 2 := by
  obtain ⟨_, _, _, _, _, _, _, e, _⟩ := h
  rw [e]; rfl
theorem len9 (vs : List V) (H : Hp) (Q : VK) (E : XK) (h : sp9 K vs H Q E) : vs.length = 2 := by
  obtain ⟨_, _, _, _, _, _, _, e, _⟩ := h
  rw [e]; rfl
theorem len10 (vs : List V) (H : Hp) (Q : VK) (E : XK) (h : sp10 K vs H Q E) : vs.length = 1 := by
  obtain ⟨_, _, _, _, e, _⟩ := h
  rw [e]; rfl
theorem len12 (vs : List V) (H : Hp) (Q : VK) (E : XK) (h : sp12 K vs H Q E) : vs.length = 2 := by
  obtain ⟨_, _, _, _, e, _⟩ := h
  rw [e]; rfl
theorem len13 (vs : List V) (H : Hp) (Q : VK) (E : XK) (h : sp13 K vs H Q E) : vs.length = 1 := by
  obtain ⟨_, _, _, e, _⟩ := h
  rw [e]; rfl
theorem len14 (vs : List V) (H : Hp) (Q : VK) (E : XK) (h : sp14 K vs H Q E) : vs.length = 3 := by
  obtain ⟨_, _, _, _, _, _, e, _⟩ := h
  rw [e]; rfl
theorem len16 (vs : List V) (H : Hp) (Q : VK) (E : XK) (h : sp16 K vs H Q E) : vs.length = 3 := by
  obtain ⟨_, _, _, _, _, _, _, e, _⟩ := h
  rw [e]; rfl
theorem len17 (vs : List V) (H : Hp) (Q : VK) (E : XK) (h : sp17 K vs H Q E) : vs.length = 1 := by
  obtain ⟨_, _, _, _, e, _⟩ := h
  rw [e]; rfl
theorem len19 (vs : List V) (H : Hp) (Q : VK) (E : XK) (h : sp19 K vs H Q E) : vs.length = 4 := by
  obtain ⟨_, _, _, _, _, _, _, _, _, _, _, _, _, e, _⟩ := h
  rw [e]; rfl
theorem len21 (vs : List V) (H : Hp) (Q : VK) (E : XK) (h : sp21 K vs H Q E) : vs.length = 2 := by
  obtain ⟨_, _, _, _, _, e, _⟩ := h
  rw [e]; rfl
theorem len22 (vs : List V) (H : Hp) (Q : VK) (E : XK) (h : sp22 K vs H Q E) : vs.length = 1 := by
  obtain ⟨_, _, _, _, e, _⟩ := h
  rw [e]; rfl
theorem len23 (vs : List V) (H : Hp) (Q : VK) (E : XK) (h : sp23 K vs H Q E) : vs.length = 2 := by
  obtain ⟨_, _, _, _, _, _, e, _⟩ := h
  rw [e]; rfl
theorem len24 (vs : List V) (H : Hp) (Q : VK) (E : XK) (h : sp24 K vs H Q E) : vs.length = 2 := by
  obtain ⟨_, _, _, _, _, _, _, _, _, e, _⟩ := h
  rw [e]; rfl
theorem len25 (vs : List V) (H : Hp) (Q : VK) (E : XK) (h : sp25 K vs H Q E) : vs.length = 3 := by
  obtain ⟨_, _, _, _, _, _, _, _, _, _, _, e, _⟩ := h
  rw [e]; rfl
theorem len26 (vs : List V) (H : Hp) (Q : VK) (E : XK) (h : sp26 K vs H Q E) : vs.length = 1 := by
  obtain ⟨_, _, _, _, e, _⟩ := h
  rw [e]; rfl
theorem len27 (vs : List V) (H : Hp) (Q : VK) (E : XK) (h : sp27 K vs H Q E) : vs.length = 1 := by
  obtain ⟨_, _, _, _, e, _⟩ := h
  rw [e]; rfl
theorem len29 (vs : List V) (H : Hp) (Q : VK) (E : XK) (h : sp29 K vs H Q E) : vs.length = 2 := by
  obtain ⟨_, _, _, _, _, _, _, _, _, _, e, _⟩ := h
  rw [e]; rfl
theorem len30 (vs : List V) (H : Hp) (Q : VK) (E : XK) (h : sp30 K vs H Q E) : vs.length = 4 := by
  obtain ⟨_, _, _, _, _, _, _, _, _, _, e, _⟩ := h
  rw [e]; rfl
theorem len31 (vs : List V) (H : Hp) (Q : VK) (E : XK) (h : sp31 K vs H Q E) : vs.length = 3 := by
  obtain ⟨_, _, _, _, _, _, _, _, e, _⟩ := h
  rw [e]; rfl
theorem len32 (vs : List V) (H : Hp) (Q : VK) (E : XK) (h : sp32 K vs H Q E) : vs.length = 4 := by
  obtain ⟨_, _, _, _, _, _, _, _, _, _, e, _⟩ := h
  rw [e]; rfl
theorem len33 (vs : List V) (H : Hp) (Q : VK) (E : XK) (h : sp33 K vs H Q E) : vs.length = 2 := by
  obtain ⟨_, _, _, _, e, _⟩ := h
  rw [e]; rfl
theorem len34 (vs : List V) (H : Hp) (Q : VK) (E : XK) (h : sp34 K vs H Q E) : vs.length = 2 := by
  obtain ⟨_, _, _, _, _, e, _⟩ := h
  rw [e]; rfl
theorem len35 (vs : List V) (H : Hp) (Q : VK) (E : XK) (h : sp35 K vs H Q E) : vs.length = 4 := by
  obtain ⟨_, _, _, _, _, _, _, _, _, _, _, e, _⟩ := h
  rw [e]; rfl
theorem len36 (vs : List V) (H : Hp) (Q : VK) (E : XK) (h : sp36 K vs H Q E) : vs.length = 3 := by
  obtain ⟨_, _, _, _, _, _, _, _, e, _⟩ := h
  rw [e]; rfl
theorem len39 (vs : List V) (H : Hp) (Q : VK) (E : XK) (h : sp39 K vs H Q E) : vs.length = 1 := by
  obtain ⟨_, _, _, _, _, _, e, _⟩ := h
  rw [e]; rfl
theorem len41 (vs : List V) (H : Hp) (Q : VK) (E : XK) (h : sp41 K vs H Q E) : vs.length = 2 := by
  obtain ⟨_, _, _, _, _, e, _⟩ := h
  rw [e]; rfl
theorem len42 (vs : List V) (H : Hp) (Q : VK) (E : XK) (h : sp42 K vs H Q E) : vs.length = 2 := by
  obtain ⟨_, _, _, _, e, _⟩ := h
  rw [e]; rfl
theorem len43 (vs : List V) (H : Hp) (Q : VK) (E : XK) (h : sp43 K vs H Q E) : vs.length = 4 := by
  obtain ⟨_, _, _, _, _, _, _, _, _, e, _⟩ := h
  rw [e]; rfl
theorem len44 (vs : List V) (H : Hp) (Q : VK) (E : XK) (h : sp44 K vs H Q E) : vs.length = 4 := by
  obtain ⟨_, _, _, _, _, _, _, _, _, e, _⟩ := h
  rw [e]; rfl
theorem len45 (vs : List V) (H : Hp) (Q : VK) (E : XK) (h : sp45 K vs H Q E) : vs.length = 4 := by
  obtain ⟨_, _, _, _, _, _, _, _, _, e, _⟩ := h
  rw [e]; rfl
theorem len46 (vs : List V) (H : Hp) (Q : VK) (E : XK) (h : sp46 K vs H Q E) : vs.length = 1 := by
  obtain ⟨_, _, _, _, e, _⟩ := h
  rw [e]; rfl
theorem len48 (vs : List V) (H : Hp) (Q : VK) (E : XK) (h : sp48 K vs H Q E) : vs.length = 2 := by
  obtain ⟨_, _, _, _, _, _, e, _⟩ := h
  rw [e]; rfl
theorem len49 (vs : List V) (H : Hp) (Q : VK) (E : XK) (h : sp49 K vs H Q E) : vs.length = 2 := by
  obtain ⟨_, _, _, _, _, _, e, _⟩ := h
  rw [e]; rfl
theorem len51 (vs : List V) (H : Hp) (Q : VK) (E : XK) (h : sp51 K vs H Q E) : vs.length = 2 := by
  obtain ⟨_, _, _, _, _, _, e, _⟩ := h
  rw [e]; rfl
theorem len52 (vs : List V) (H : Hp) (Q : VK) (E : XK) (h : sp52 K vs H Q E) : vs.length = 1 := by
  obtain ⟨_, _, _, e, _⟩ := h
  rw [e]; rfl
theorem len53 (vs : List V) (H : Hp) (Q : VK) (E : XK) (h : sp53 K vs H Q E) : vs.length = 1 := by
  obtain ⟨_, _, _, e, _⟩ := h
  rw [e]; rfl
theorem len54 (vs : List V) (H : Hp) (Q : VK) (E : XK) (h : sp54 K vs H Q E) : vs.length = 2 := by
  obtain ⟨_, _, _, e, _⟩ := h
  rw [e]; rfl
theorem len55 (vs : List V) (H : Hp) (Q : VK) (E : XK) (h : sp55 K vs H Q E) : vs.length = 2 := by
  obtain ⟨_, _, _, e, _⟩ := h
  rw [e]; rfl
theorem len56 (vs : List V) (H : Hp) (Q : VK) (E : XK) (h : sp56 K vs H Q E) : vs.length = 2 := by
  obtain ⟨_, _, _, e, _⟩ := h
  rw [e]; rfl
theorem len57 (vs : List V) (H : Hp) (Q : VK) (E : XK) (h : sp57 K vs H Q E) : vs.length = 1 := by
  obtain ⟨_, _, e, _⟩ := h
  rw [e]; rfl
theorem len58 (vs : List V) (H : Hp) (Q : VK) (E : XK) (h : sp58 K vs H Q E) : vs.length = 3 := by
  obtain ⟨_, _, e, _⟩ := h
  rw [e]; rfl
theorem len59 (vs : List V) (H : Hp) (Q : VK) (E : XK) (h : sp59 K vs H Q E) : vs.length = 3 := by
  obtain ⟨_, _, _, _, _, _, e, _⟩ := h
  rw [e]; rfl
theorem len60 (vs : List V) (H : Hp) (Q : VK) (E : XK) (h : sp60 K vs H Q E) : vs.length = 1 := by
  obtain ⟨_, _, _, _, e, _⟩ := h
  rw [e]; rfl
theorem len61 (vs : List V) (H : Hp) (Q : VK) (E : XK) (h : sp61 K vs H Q E) : vs.length = 2 := by
  obtain ⟨_, _, _, _, _, _, _, e, _⟩ := h
  rw [e]; rfl
theorem len62 (vs : List V) (H : Hp) (Q : VK) (E : XK) (h : sp62 K vs H Q E) : vs.length = 2 := by
  obtain ⟨_, _, _, _, _, _, _, e, _⟩ := h
  rw [e]; rfl
theorem len63 (vs : List V) (H : Hp) (Q : VK) (E : XK) (h : sp63 K vs H Q E) : vs.length = 1 := by
  obtain ⟨_, _, _, _, e, _⟩ := h
  rw [e]; rfl
theorem len64 (vs : List V) (H : Hp) (Q : VK) (E : XK) (h : sp64 K vs H Q E) : vs.length = 1 := by
  obtain ⟨_, _, _, _, e, _⟩ := h
  rw [e]; rfl
theorem len65 (vs : List V) (H : Hp) (Q : VK) (E : XK) (h : sp65 K vs H Q E) : vs.length = 1 := by
  obtain ⟨_, _, _, _, e, _⟩ := h
  rw [e]; rfl
theorem len66 (vs : List V) (H : Hp) (Q : VK) (E : XK) (h : sp66 K vs H Q E) : vs.length = 2 := by
  obtain ⟨_, _, _, _, _, _, e, _⟩ := h
  rw [e]; rfl
theorem len67 (vs : List V) (H : Hp) (Q : VK) (E : XK) (h : sp67 K vs H Q E) : vs.length = 1 := by
  obtain ⟨_, _, _, _, e, _⟩ := h
  rw [e]; rfl
theorem len68 (vs : List V) (H : Hp) (Q : VK) (E : XK) (h : sp68 K vs H Q E) : vs.length = 2 := by
  obtain ⟨_, _, _, _, _, _, e, _⟩ := h
  rw [e]; rfl
theorem len69 (vs : List V) (H : Hp) (Q : VK) (E : XK) (h : sp69 K vs H Q E) : vs.length = 2 := by
  obtain ⟨_, _, _, _, _, _, _, _, e, _⟩ := h
  rw [e]; rfl
theorem len70 (vs : List V) (H : Hp) (Q : VK) (E : XK) (h : sp70 K vs H Q E) : vs.length = 2 := by
  obtain ⟨_, _, _, _, _, e, _⟩ := h
  rw [e]; rfl
theorem len71 (vs : List V) (H : Hp) (Q : VK) (E : XK) (h : sp71 K vs H Q E) : vs.length = 2 := by
  obtain ⟨_, _, _, _, _, e, _⟩ := h
  rw [e]; rfl
theorem len72 (vs : List V) (H : Hp) (Q : VK) (E : XK) (h : sp72 K vs H Q E) : vs.length = 2 := by
  obtain ⟨_, _, _, _, _, _, e, _⟩ := h
  rw [e]; rfl
theorem len73 (vs : List V) (H : Hp) (Q : VK) (E : XK) (h : sp73 K vs H Q E) : vs.length = 2 := by
  obtain ⟨_, _, _, _, _, _, e, _⟩ := h
  rw [e]; rfl
theorem len74 (vs : List V) (H : Hp) (Q : VK) (E : XK) (h : sp74 K vs H Q E) : vs.length = 1 := by
  obtain ⟨_, _, _, e, _⟩ := h
  rw [e]; rfl
end
theorem law_fn {P : Program} {w : World} {K : PySem.W.Frag} {mg : Str → Option Value} {base : Heap} {f : Addr} {fd : FuncData} (T : Txt K mg) (F : Fun K "law" "law" s74 f fd) : FnOk P w K mg base CX0 11 f fd ["_law_script"] (sp74 K) := by
  have C4 : Cal P w K mg base 1 "number" (sp4 K) [] := cal4 T  h4 len4
  have C5 : Cal P w K mg base 1 "compare" (sp5 K) [] := cal5 T  h5 len5
  have C6 : Cal P w K mg base 2 "plus" (sp6 K) [] := cal6 T C4 h6 len6
  have C7 : Cal P w K mg base 2 "minus" (sp7 K) [] := cal7 T C4 h7 len7
  have C8 : Cal P w K mg base 2 "times" (sp8 K) [] := cal8 T C4 h8 len8
  have C9 : Cal P w K mg base 2 "divided" (sp9 K) [] := cal9 T C4 h9 len9
  have C10 : Cal P w K mg base 3 "total" (sp10 K) [] := cal10 T C6 (h10 T) len10
  have C12 : Cal P w K mg base 1 "targets" (sp12 K) [] := cal12 T  h12 len12
  have C13 : Cal P w K mg base 1 "copy_of" (sp13 K) [] := cal13 T  h13 len13
  have C14 : Cal P w K mg base 2 "with_strategy" (sp14 K) [] := cal14 T C13 (fun vs H Q E h => h14 vs H Q E h T) len14
  have C16 : Cal P w K mg base 3 "lessened" (sp16 K) [] := cal16 T C7 C8 h16 len16
  have C17 : Cal P w K mg base 4 "solved_equations" (sp17 K) [] := cal17 T C8 C9 C16 (h17 T) len17
  have C19 : Cal P w K mg base 5 "met" (sp19 K) [] := cal19 T C7 C8 C17 (fun vs H Q E h => h19 vs H Q E h T) len19
  have C21 : Cal P w K mg base 2 "reached" (sp21 K) [] := cal21 T C12 h21 len21
  have C22 : Cal P w K mg base 3 "closed_classes" (sp22 K) [] := cal22 T C21 h22 len22
  have C23 : Cal P w K mg base 5 "shares_in" (sp23 K) [] := cal23 T C6 C7 C10 C17 (fun vs H Q E h => h23 vs H Q E h T) len23
  have C24 : Cal P w K mg base 4 "weighed_by" (sp24 K) [] := cal24 T C8 C10 h24 len24
  have C25 : Cal P w K mg base 6 "with_rest" (sp25 K) [] := cal25 T C19 h25 len25
  have C26 : Cal P w K mg base 7 "long_gains" (sp26 K) [] := cal26 T C22 C23 C24 C25 (fun vs H Q E h => h26 vs H Q E h T) len26
  have C27 : Cal P w K mg base 8 "leads" (sp27 K) [] := cal27 T C7 C19 C22 C23 C24 C25 C26 (fun vs H Q E h => h27 vs H Q E h T) len27
  have C29 : Cal P w K mg base 4 "mean_of" (sp29 K) [] := cal29 T C8 C10 h29 len29
  have C30 : Cal P w K mg base 3 "slack_to" (sp30 K) [] := cal30 T C6 C7 h30 len30
  have C31 : Cal P w K mg base 5 "slack_at" (sp31 K) [] := cal31 T C29 C30 h31 len31
  have C32 : Cal P w K mg base 6 "bounding" (sp32 K) [] := cal32 T C31 h32 len32
  have C34 : Cal P w K mg base 3 "number_of" (sp34 K) [] := cal34 T C7 C9 (fun vs H Q E h => h34 vs H Q E h T) len34
  have C33 : Cal P w K mg base 4 "lift_for" (sp33 K) [] := cal33 T C5 C34 (fun vs H Q E h => h33 vs H Q E h T) len33
  have C35 : Cal P w K mg base 7 "lift_of" (sp35 K) [] := cal35 T C5 C32 C33 h35 len35
  have C36 : Cal P w K mg base 3 "lifted_leads" (sp36 K) [] := cal36 T C6 C8 h36 len36
  have C39 : Cal P w K mg base 2 "solved_finding" (sp39 K) [] := cal39 T C4 h39 len39
  have C41 : Cal P w K mg base 3 "worths" (sp41 K) [] := cal41 T C39 h41 len41
  have C42 : Cal P w K mg base 1 "first_strategy" (sp42 K) [] := cal42 T  h42 len42
  have C43 : Cal P w K mg base 2 "switched" (sp43 K) [] := cal43 T C5 h43 len43
  have C44 : Cal P w K mg base 4 "replied" (sp44 K) [] := cal44 T C14 C41 C43 h44 len44
  have C45 : Cal P w K mg base 5 "best_pair" (sp45 K) [] := cal45 T C43 C44 h45 len45
  have C46 : Cal P w K mg base 9 "found_answer" (sp46 K) [] := cal46 T C14 C26 C27 C35 C36 C42 C45 (fun vs H Q E h => h46 vs H Q E h T) len46
  have C48 : Cal P w K mg base 10 "least_against" (sp48 K) [] := cal48 T C14 C46 h48 len48
  have C49 : Cal P w K mg base 10 "greatest_against" (sp49 K) [] := cal49 T C14 C46 h49 len49
  have C51 : Cal P w K mg base 1 "_law_played" (sp51 K) [] := cal51 T  h51 len51
  have C52 : Cal P w K mg base 1 "_law_pool" (sp52 K) [] := cal52 T  h52 len52
  have C53 : Cal P w K mg base 2 "_law_stream" (sp53 K) [] := cal53 T C52 h53 len53
  have C54 : Cal P w K mg base 1 "_law_pick" (sp54 K) [] := cal54 T  h54 len54
  have C55 : Cal P w K mg base 1 "_law_cut" (sp55 K) [] := cal55 T  h55 len55
  have C56 : Cal P w K mg base 2 "_law_odds" (sp56 K) [] := cal56 T C54 C55 h56 len56
  have C57 : Cal P w K mg base 2 "_law_gain" (sp57 K) [] := cal57 T C54 C55 h57 len57
  have C58 : Cal P w K mg base 3 "_law_field" (sp58 K) [] := cal58 T C54 C56 C57 h58 len58
  have C59 : Cal P w K mg base 2 "_law_plan" (sp59 K) [] := cal59 T C54 h59 len59
  have C60 : Cal P w K mg base 2 "_law_and" (sp60 K) [] := cal60 T C55 h60 len60
  have C61 : Cal P w K mg base 2 "_law_by" (sp61 K) [] := cal61 T C55 h61 len61
  have C62 : Cal P w K mg base 2 "_law_less_by" (sp62 K) [] := cal62 T C55 h62 len62
  have C63 : Cal P w K mg base 3 "_law_cleared" (sp63 K) [] := cal63 T C55 C61 C62 h63 len63
  have C64 : Cal P w K mg base 3 "_law_flow" (sp64 K) [] := cal64 T C60 h64 len64
  have C65 : Cal P w K mg base 1 "_law_settling" (sp65 K) [] := cal65 T  h65 len65
  have C66 : Cal P w K mg base 4 "_law_weights" (sp66 K) [] := cal66 T C60 C63 h66 len66
  have C67 : Cal P w K mg base 5 "_law_long" (sp67 K) [] := cal67 T C60 C61 C63 C64 C65 C66 h67 len67
  have C68 : Cal P w K mg base 1 "_law_order" (sp68 K) [] := cal68 T  h68 len68
  have C69 : Cal P w K mg base 2 "_law_round" (sp69 K) [] := cal69 T C51 h69 len69
  have C70 : Cal P w K mg base 2 "_law_extreme" (sp70 K) [] := cal70 T C68 h70 len70
  have C71 : Cal P w K mg base 1 "_law_plans" (sp71 K) [] := cal71 T  h71 len71
  have C72 : Cal P w K mg base 6 "_law_low_of" (sp72 K) [] := cal72 T C51 C67 C70 C71 h72 len72
  have C73 : Cal P w K mg base 6 "_law_high_of" (sp73 K) [] := cal73 T C51 C67 C70 C71 h73 len73
  exact F.ok sc74 len74 fun cdv A outer s H vs Q E hr hs => ⟨t74 K, der74 T hr C48 C49 C51 C53 C54 C58 C59 C67 C68 C69 C72 C73, h74 vs H Q E hs⟩
end Mh
end
section
set_option Elab.async false
set_option linter.all false
set_option maxRecDepth 100000
set_option maxHeartbeats 0
/-! what the top leaves: the facts of the text -/
namespace Mh
open PySem PySem.Spec PyProof.Rows L2
theorem fun_of {K : PySem.W.Frag} {x : Str} {st : Stmt} {f : Addr} {fd : FuncData} (F : FunD K x x (defArgs st) (defBody st) (defScope st) [] [] f fd) : Fun K x x st f fd := by
  obtain ⟨⟨oc, od, dV, kV, doc, pm, an, cdv, ct, osl, e, lk, hcd, hD, hK⟩, kp⟩ := F
  rcases hD with ⟨_, rfl⟩ | ⟨h, _⟩
  · exact ⟨⟨oc, od, kV, doc, pm, an, cdv, ct, osl, e, lk, hcd⟩, kp⟩
  · exact absurd rfl h
section
variable {K : PySem.W.Frag} {h : Heap} {mg : Str → Option Value}
theorem tx_mk {g x : Str} {st : Stmt} {ps : List Str} (X : K.In h) (G : h.Ns mainGlobals mg) (F : ∃ fd, FunD K x x (defArgs st) (defBody st) (defScope st) [] [] (He.ga K g) fd) (c : (He.Fa.glo g).ok K = true)
    (b : ∀ (kV doc pm : Value) (an : Option Addr) (cdv ct : Value) (us : List Value), us.length = ps.length → bindArgs (PySem.W.fnOf x x (defArgs st) (defBody st) (defScope st) .none kV doc pm an cdv ct) ⟨us, []⟩ = pure (ps.zip us)) : Tx K mg g x st ps := by
  obtain ⟨fd, F⟩ := F
  exact ⟨_, fd, fun_of F, He.glo_ok X G c, F.bindsN b⟩
theorem txt (X : K.In h) (G : h.Ns mainGlobals mg) (e : obE K = vaE) : Txt K mg := by
  have c : He.SaysD fas fns K := congrArg (fun z : AlE => z.2) e
  have x : exB K = true := congrArg (fun z : AlE => z.1) e
  obtain ⟨x1, x⟩ := He.ba x
  obtain ⟨x2, x⟩ := He.ba x
  obtain ⟨x3, x⟩ := He.ba x
  obtain ⟨x4, x5⟩ := He.ba x
  exact {
    d4 := tx_mk X G (c.def_ 0 (d := dd4) rfl) (c.fact 0 (f := .glo "number") rfl) fun _ _ _ _ _ _ us hl => match us, hl with | [_, _], _ => rfl
    d5 := tx_mk X G (c.def_ 1 (d := dd5) rfl) (c.fact 1 (f := .glo "compare") rfl) fun _ _ _ _ _ _ us hl => match us, hl with | [_, _], _ => rfl
    d6 := tx_mk X G (c.def_ 2 (d := dd6) rfl) (c.fact 2 (f := .glo "plus") rfl) fun _ _ _ _ _ _ us hl => match us, hl with | [_, _], _ => rfl
    d7 := tx_mk X G (c.def_ 3 (d := dd7) rfl) (c.fact 3 (f := .glo "minus") rfl) fun _ _ _ _ _ _ us hl => match us, hl with | [_, _], _ => rfl
    d8 := tx_mk X G (c.def_ 4 (d := dd8) rfl) (c.fact 4 (f := .glo "times") rfl) fun _ _ _ _ _ _ us hl => match us, hl with | [_, _], _ => rfl
    d9 := tx_mk X G (c.def_ 5 (d := dd9) rfl) (c.fact 5 (f := .glo "divided") rfl) fun _ _ _ _ _ _ us hl => match us, hl with | [_, _], _ => rfl
    d10 := tx_mk X G (c.def_ 6 (d := dd10) rfl) (c.fact 6 (f := .glo "total") rfl) fun _ _ _ _ _ _ us hl => match us, hl with | [_], _ => rfl
    d12 := tx_mk X G (c.def_ 7 (d := dd12) rfl) (c.fact 7 (f := .glo "targets") rfl) fun _ _ _ _ _ _ us hl => match us, hl with | [_, _], _ => rfl
    d13 := tx_mk X G (c.def_ 8 (d := dd13) rfl) (c.fact 8 (f := .glo "copy_of") rfl) fun _ _ _ _ _ _ us hl => match us, hl with | [_], _ => rfl
    d14 := tx_mk X G (c.def_ 9 (d := dd14) rfl) (c.fact 9 (f := .glo "with_strategy") rfl) fun _ _ _ _ _ _ us hl => match us, hl with | [_, _, _], _ => rfl
    d16 := tx_mk X G (c.def_ 10 (d := dd16) rfl) (c.fact 10 (f := .glo "lessened") rfl) fun _ _ _ _ _ _ us hl => match us, hl with | [_, _, _], _ => rfl
    d17 := tx_mk X G (c.def_ 11 (d := dd17) rfl) (c.fact 11 (f := .glo "solved_equations") rfl) fun _ _ _ _ _ _ us hl => match us, hl with | [_], _ => rfl
    d19 := tx_mk X G (c.def_ 12 (d := dd19) rfl) (c.fact 12 (f := .glo "met") rfl) fun _ _ _ _ _ _ us hl => match us, hl with | [_, _, _, _], _ => rfl
    d21 := tx_mk X G (c.def_ 13 (d := dd21) rfl) (c.fact 13 (f := .glo "reached") rfl) fun _ _ _ _ _ _ us hl => match us, hl with | [_, _], _ => rfl
    d22 := tx_mk X G (c.def_ 14 (d := dd22) rfl) (c.fact 14 (f := .glo "closed_classes") rfl) fun _ _ _ _ _ _ us hl => match us, hl with | [_], _ => rfl
    d23 := tx_mk X G (c.def_ 15 (d := dd23) rfl) (c.fact 15 (f := .glo "shares_in") rfl) fun _ _ _ _ _ _ us hl => match us, hl with | [_, _], _ => rfl
    d24 := tx_mk X G (c.def_ 16 (d := dd24) rfl) (c.fact 16 (f := .glo "weighed_by") rfl) fun _ _ _ _ _ _ us hl => match us, hl with | [_, _], _ => rfl
    d25 := tx_mk X G (c.def_ 17 (d := dd25) rfl) (c.fact 17 (f := .glo "with_rest") rfl) fun _ _ _ _ _ _ us hl => match us, hl with | [_, _, _], _ => rfl
    d26 := tx_mk X G (c.def_ 18 (d := dd26) rfl) (c.fact 18 (f := .glo "long_gains") rfl) fun _ _ _ _ _ _ us hl => match us, hl with | [_], _ => rfl
    d27 := tx_mk X G (c.def_ 19 (d := dd27) rfl) (c.fact 19 (f := .glo "leads") rfl) fun _ _ _ _ _ _ us hl => match us, hl with | [_], _ => rfl
    d29 := tx_mk X G (c.def_ 20 (d := dd29) rfl) (c.fact 20 (f := .glo "mean_of") rfl) fun _ _ _ _ _ _ us hl => match us, hl with | [_, _], _ => rfl
    d30 := tx_mk X G (c.def_ 21 (d := dd30) rfl) (c.fact 21 (f := .glo "slack_to") rfl) fun _ _ _ _ _ _ us hl => match us, hl with | [_, _, _, _], _ => rfl
    d31 := tx_mk X G (c.def_ 22 (d := dd31) rfl) (c.fact 22 (f := .glo "slack_at") rfl) fun _ _ _ _ _ _ us hl => match us, hl with | [_, _, _], _ => rfl
    d32 := tx_mk X G (c.def_ 23 (d := dd32) rfl) (c.fact 23 (f := .glo "bounding") rfl) fun _ _ _ _ _ _ us hl => match us, hl with | [_, _, _, _], _ => rfl
    d33 := tx_mk X G (c.def_ 24 (d := dd33) rfl) (c.fact 24 (f := .glo "lift_for") rfl) fun _ _ _ _ _ _ us hl => match us, hl with | [_, _], _ => rfl
    d34 := tx_mk X G (c.def_ 25 (d := dd34) rfl) (c.fact 25 (f := .glo "number_of") rfl) fun _ _ _ _ _ _ us hl => match us, hl with | [_, _], _ => rfl
    d35 := tx_mk X G (c.def_ 26 (d := dd35) rfl) (c.fact 26 (f := .glo "lift_of") rfl) fun _ _ _ _ _ _ us hl => match us, hl with | [_, _, _, _], _ => rfl
    d36 := tx_mk X G (c.def_ 27 (d := dd36) rfl) (c.fact 27 (f := .glo "lifted_leads") rfl) fun _ _ _ _ _ _ us hl => match us, hl with | [_, _, _], _ => rfl
    d39 := tx_mk X G (c.def_ 28 (d := dd39) rfl) (c.fact 28 (f := .glo "solved_finding") rfl) fun _ _ _ _ _ _ us hl => match us, hl with | [_], _ => rfl
    d41 := tx_mk X G (c.def_ 29 (d := dd41) rfl) (c.fact 29 (f := .glo "worths") rfl) fun _ _ _ _ _ _ us hl => match us, hl with | [_, _], _ => rfl
    d42 := tx_mk X G (c.def_ 30 (d := dd42) rfl) (c.fact 30 (f := .glo "first_strategy") rfl) fun _ _ _ _ _ _ us hl => match us, hl with | [_, _], _ => rfl
    d43 := tx_mk X G (c.def_ 31 (d := dd43) rfl) (c.fact 31 (f := .glo "switched") rfl) fun _ _ _ _ _ _ us hl => match us, hl with | [_, _, _, _], _ => rfl
    d44 := tx_mk X G (c.def_ 32 (d := dd44) rfl) (c.fact 32 (f := .glo "replied") rfl) fun _ _ _ _ _ _ us hl => match us, hl with | [_, _, _, _], _ => rfl
    d45 := tx_mk X G (c.def_ 33 (d := dd45) rfl) (c.fact 33 (f := .glo "best_pair") rfl) fun _ _ _ _ _ _ us hl => match us, hl with | [_, _, _, _], _ => rfl
    d46 := tx_mk X G (c.def_ 34 (d := dd46) rfl) (c.fact 34 (f := .glo "found_answer") rfl) fun _ _ _ _ _ _ us hl => match us, hl with | [_], _ => rfl
    d48 := tx_mk X G (c.def_ 35 (d := dd48) rfl) (c.fact 35 (f := .glo "least_against") rfl) fun _ _ _ _ _ _ us hl => match us, hl with | [_, _], _ => rfl
    d49 := tx_mk X G (c.def_ 36 (d := dd49) rfl) (c.fact 36 (f := .glo "greatest_against") rfl) fun _ _ _ _ _ _ us hl => match us, hl with | [_, _], _ => rfl
    d51 := tx_mk X G (c.def_ 37 (d := dd51) rfl) (c.fact 37 (f := .glo "_law_played") rfl) fun _ _ _ _ _ _ us hl => match us, hl with | [_, _], _ => rfl
    d52 := tx_mk X G (c.def_ 38 (d := dd52) rfl) (c.fact 38 (f := .glo "_law_pool") rfl) fun _ _ _ _ _ _ us hl => match us, hl with | [_], _ => rfl
    d53 := tx_mk X G (c.def_ 39 (d := dd53) rfl) (c.fact 39 (f := .glo "_law_stream") rfl) fun _ _ _ _ _ _ us hl => match us, hl with | [_], _ => rfl
    d54 := tx_mk X G (c.def_ 40 (d := dd54) rfl) (c.fact 40 (f := .glo "_law_pick") rfl) fun _ _ _ _ _ _ us hl => match us, hl with | [_, _], _ => rfl
    d55 := tx_mk X G (c.def_ 41 (d := dd55) rfl) (c.fact 41 (f := .glo "_law_cut") rfl) fun _ _ _ _ _ _ us hl => match us, hl with | [_, _], _ => rfl
    d56 := tx_mk X G (c.def_ 42 (d := dd56) rfl) (c.fact 42 (f := .glo "_law_odds") rfl) fun _ _ _ _ _ _ us hl => match us, hl with | [_, _], _ => rfl
    d57 := tx_mk X G (c.def_ 43 (d := dd57) rfl) (c.fact 43 (f := .glo "_law_gain") rfl) fun _ _ _ _ _ _ us hl => match us, hl with | [_], _ => rfl
    d58 := tx_mk X G (c.def_ 44 (d := dd58) rfl) (c.fact 44 (f := .glo "_law_field") rfl) fun _ _ _ _ _ _ us hl => match us, hl with | [_, _, _], _ => rfl
    d59 := tx_mk X G (c.def_ 45 (d := dd59) rfl) (c.fact 45 (f := .glo "_law_plan") rfl) fun _ _ _ _ _ _ us hl => match us, hl with | [_, _, _], _ => rfl
    d60 := tx_mk X G (c.def_ 46 (d := dd60) rfl) (c.fact 46 (f := .glo "_law_and") rfl) fun _ _ _ _ _ _ us hl => match us, hl with | [_], _ => rfl
    d61 := tx_mk X G (c.def_ 47 (d := dd61) rfl) (c.fact 47 (f := .glo "_law_by") rfl) fun _ _ _ _ _ _ us hl => match us, hl with | [_, _], _ => rfl
    d62 := tx_mk X G (c.def_ 48 (d := dd62) rfl) (c.fact 48 (f := .glo "_law_less_by") rfl) fun _ _ _ _ _ _ us hl => match us, hl with | [_, _], _ => rfl
    d63 := tx_mk X G (c.def_ 49 (d := dd63) rfl) (c.fact 49 (f := .glo "_law_cleared") rfl) fun _ _ _ _ _ _ us hl => match us, hl with | [_], _ => rfl
    d64 := tx_mk X G (c.def_ 50 (d := dd64) rfl) (c.fact 50 (f := .glo "_law_flow") rfl) fun _ _ _ _ _ _ us hl => match us, hl with | [_], _ => rfl
    d65 := tx_mk X G (c.def_ 51 (d := dd65) rfl) (c.fact 51 (f := .glo "_law_settling") rfl) fun _ _ _ _ _ _ us hl => match us, hl with | [_], _ => rfl
    d66 := tx_mk X G (c.def_ 52 (d := dd66) rfl) (c.fact 52 (f := .glo "_law_weights") rfl) fun _ _ _ _ _ _ us hl => match us, hl with | [_, _], _ => rfl
    d67 := tx_mk X G (c.def_ 53 (d := dd67) rfl) (c.fact 53 (f := .glo "_law_long") rfl) fun _ _ _ _ _ _ us hl => match us, hl with | [_], _ => rfl
    d68 := tx_mk X G (c.def_ 54 (d := dd68) rfl) (c.fact 54 (f := .glo "_law_order") rfl) fun _ _ _ _ _ _ us hl => match us, hl with | [_, _], _ => rfl
    d69 := tx_mk X G (c.def_ 55 (d := dd69) rfl) (c.fact 55 (f := .glo "_law_round") rfl) fun _ _ _ _ _ _ us hl => match us, hl with | [_, _], _ => rfl
    d70 := tx_mk X G (c.def_ 56 (d := dd70) rfl) (c.fact 56 (f := .glo "_law_extreme") rfl) fun _ _ _ _ _ _ us hl => match us, hl with | [_, _], _ => rfl
    d71 := tx_mk X G (c.def_ 57 (d := dd71) rfl) (c.fact 57 (f := .glo "_law_plans") rfl) fun _ _ _ _ _ _ us hl => match us, hl with | [_, _], _ => rfl
    d72 := tx_mk X G (c.def_ 58 (d := dd72) rfl) (c.fact 58 (f := .glo "_law_low_of") rfl) fun _ _ _ _ _ _ us hl => match us, hl with | [_, _], _ => rfl
    d73 := tx_mk X G (c.def_ 59 (d := dd73) rfl) (c.fact 59 (f := .glo "_law_high_of") rfl) fun _ _ _ _ _ _ us hl => match us, hl with | [_, _], _ => rfl
    d74 := tx_mk X G (c.def_ 60 (d := dd74) rfl) (c.fact 60 (f := .glo "law") rfl) fun _ _ _ _ _ _ us hl => match us, hl with | [_], _ => rfl
    b_len := He.free_ok X G (c.fact 64 (f := .free "len") rfl)
    b_range := He.free_ok X G (c.fact 65 (f := .free "range") rfl)
    b_enumerate := He.free_ok X G (c.fact 66 (f := .free "enumerate") rfl)
    b_zip := He.free_ok X G (c.fact 67 (f := .free "zip") rfl)
    b_list := He.free_ok X G (c.fact 68 (f := .free "list") rfl)
    b_dict := He.free_ok X G (c.fact 69 (f := .free "dict") rfl)
    b_sorted := He.free_ok X G (c.fact 70 (f := .free "sorted") rfl)
    b_all := He.free_ok X G (c.fact 71 (f := .free "all") rfl)
    b_any := He.free_ok X G (c.fact 72 (f := .free "any") rfl)
    b_min := He.free_ok X G (c.fact 73 (f := .free "min") rfl)
    b_abs := He.free_ok X G (c.fact 74 (f := .free "abs") rfl)
    b_int := He.free_ok X G (c.fact 75 (f := .free "int") rfl)
    b_sum := He.free_ok X G (c.fact 76 (f := .free "sum") rfl)
    gcd := PySem.W.mg_of X G (He.eqO_ok x4)
    lcm := PySem.W.mg_of X G (He.eqO_ok x5)
    zero := ⟨He.glo_ok X G (c.fact 61 (f := .glo "NOUGHT_numbers") rfl), fun H => He.tupB_ok x1 H⟩
    one := ⟨He.glo_ok X G (c.fact 62 (f := .glo "ONE") rfl), fun H => He.tupB_ok x2 H⟩
    zerF := ⟨He.glo_ok X G (c.fact 63 (f := .glo "NOUGHT_finding") rfl), fun H => He.tupB_ok x3 H⟩
  }
end
end Mh
end
set_option Elab.async false
set_option linter.all false
set_option maxRecDepth 100000
set_option maxHeartbeats 0
/-! the end -/
namespace Mh
open PySem PySem.Spec PyProof.Rows L2
theorem facts {P : Program} {w : World} {K : PySem.W.Frag} {h : Heap} {mg : Str → Option Value} {fa : Addr} (X : K.In h) (G : h.Ns mainGlobals mg) (hfa : mg ("law" : Str) = some (.ref fa)) (e : obE K = vaE) :
    ∃ fd : FuncData, (∀ (s : Shared) (v : Value), BindsTo s fd ⟨[v], []⟩ [("_law_script", v)]) ∧ ∀ base : Heap, K.In base → base.Ns mainGlobals mg → FnOk P w K mg base CX0 11 fa fd ["_law_script"] (sp74 K) := by
  have T := txt X G e
  have c : He.SaysD fas fns K := congrArg (fun z : AlE => z.2) e
  obtain ⟨fd, F⟩ := c.def_ 60 (d := dd74) rfl
  have e2 := hfa.symm.trans (He.glo_ok X G (c.fact 60 (f := .glo "law") rfl))
  cases e2
  have b := FunD.bindsA (ps := ["_law_script"]) F fun _ _ _ _ _ _ us hl => match us, hl with | [_], _ => rfl
  exact ⟨fd, fun s v => b s [v] rfl, fun base _ _ => law_fn T (fun_of F)⟩
end Mh
open PySem PySem.W PySem.Calls PyProof.Rows
theorem PySem.Challenge.cw_meanhold_k33_whole_replies_that_change_holds : PySem.Challenge.rw_meanhold_k33_whole_replies_that_change.Holds := by
  w_on; o_law
  refine HandSHeadRun.head_imp (r := OpenLaw.row PySem.Challenge.rw_meanhold_k33_whole_replies_that_change) (q := Mh.vq) (H := Mh.hk) (ob := Mh.ob) (M := 4000) (loose := Mh.nms) (d := HandSHeadRun.topDef (OpenLaw.row PySem.Challenge.rw_meanhold_k33_whole_replies_that_change).prog 74) (kwd := []) Mh.ob_eq
    Mh.run (by kernel_rfl) (by kernel_rfl) (by kernel_rfl) (by rfl) (by first | assumption | decide +kernel) (by decide +kernel) ⟨rfl, rfl, rfl, rfl, rfl, by decide +kernel⟩ ?hw ?hc
  case hw => w_witness2
  case hc =>
    refine L2.walk_ofE (l := PySem.Challenge.rw_meanhold_k33_whole_replies_that_change) (n := 63) (k := 11) (x := "_law_script") (CX := L2.CX0) rfl (by decide) (by kernel_rfl) ⟨rfl, by decide, by decide⟩ ?F (fun _ _ _ _ z => z)
    intro w mg fa h Y G hmg0
    obtain ⟨K, KX, c⟩ := Y
    have hmg : mg ("law" : PySem.Str) = some (.ref fa) := by
      have e : (HandSHeadRun.topDef (OpenLaw.row PySem.Challenge.rw_meanhold_k33_whole_replies_that_change).prog 74).name = ("law" : PySem.Str) := by kernel_rfl
      rw [← e]
      exact hmg0
    obtain ⟨fd, hb, hF⟩ := Mh.facts (P := (PySem.Challenge.rw_meanhold_k33_whole_replies_that_change).prog) (w := w) KX G hmg c
    exact ⟨K, fd, Mh.sp74 K, KX, hb, fun H a ns hl _ hS => ⟨ns, a, H, rfl, hS, Nat.le_trans hl (by decide), L2.Same.refl H, fun _ => rfl⟩, hF⟩
