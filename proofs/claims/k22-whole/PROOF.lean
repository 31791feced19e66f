import PyProof.Rows.All
import Wide.All
import OpenK.AllK
import Wide.FinOn
import KE.KStateDown
import Lean
import HandS.ForMost
import HandS.Defaults
import HandS.Head0
import HandS.Head1
import HandS.Head2
import HandS.HeadEnd
import HandS.HeadWalk
import HandS.HeadHook1
import HandS.HeadHook2
import HandS.HeadHook3
import HandS.HeadHook4
import PySem.Challenge.RW_circlesettle_k22_whole_low_high_and_solu
import HandS.Nested
import HandS.Evl
import HandS.Walk
import HandS.DictComp
set_option Elab.async false
set_option linter.all false
set_option maxRecDepth 100000
set_option maxHeartbeats 0
namespace CsTop
open PySem PySem.Spec PyProof.Rows L2
def top (i : Nat) : Stmt := PySem.Challenge.pw_circlesettle_k22_whole_low_high_and_solu.main.body.getD i (.Pass ⟨0, 0, 0, 0⟩)
abbrev sAtMost : Stmt := top 1
abbrev sLeastOf : Stmt := top 2
abbrev sGreatestOf : Stmt := top 3
abbrev sShifted : Stmt := top 4
abbrev sAllAtMost : Stmt := top 5
abbrev sFlatValue : Stmt := top 7
abbrev sFlatValues : Stmt := top 8
abbrev sArcsOf : Stmt := top 9
abbrev sOneRound : Stmt := top 11
abbrev sIsLow : Stmt := top 12
abbrev sIsHigh : Stmt := top 13
abbrev sConditionsOf : Stmt := top 15
abbrev sOpened : Stmt := top 16
abbrev sToldArcs : Stmt := top 17
abbrev sCircleBelow : Stmt := top 18
abbrev sNoughtCell : Stmt := top 19
abbrev sRoundsDown : Stmt := top 20
abbrev sLeastWith : Stmt := top 21
abbrev sSettledLeast : Stmt := top 22
abbrev sHeldRanks : Stmt := top 24
abbrev sIsLess : Stmt := top 25
abbrev sSolutionWith : Stmt := top 26
abbrev sHeldArc : Stmt := top 27
abbrev sGreatestPlain : Stmt := top 28
abbrev sStagesFromAbove : Stmt := top 29
abbrev sFlatGreatest : Stmt := top 30
abbrev sFulfilled : Stmt := top 32
abbrev sStagesFromBelow : Stmt := top 33
abbrev sFlatLeast : Stmt := top 34
abbrev sLawDraw : Stmt := top 36
abbrev sLawAmount : Stmt := top 37
abbrev sLawArcs : Stmt := top 38
abbrev sLawFormula : Stmt := top 39
abbrev sLawFlat : Stmt := top 40
abbrev sLawMost : Stmt := top 41
abbrev sLawShift : Stmt := top 42
abbrev sLawValue : Stmt := top 43
abbrev sLawRound : Stmt := top 44
abbrev sLawAllMost : Stmt := top 45
abbrev sLawAreAmounts : Stmt := top 46
abbrev sLawBound : Stmt := top 47
abbrev sLawLeast : Stmt := top 48
abbrev sLawGreatest : Stmt := top 49
abbrev sLawLesser : Stmt := top 50
abbrev sLawGreater : Stmt := top 51
abbrev sLaw : Stmt := top 52
def mkD (x : Str) (st : Stmt) : He.DefD := ⟨(x, none), x, x, defArgs st, defBody st, defScope st, [], []⟩
def fn : List He.DefD := [mkD "at_most" sAtMost, mkD "least_of" sLeastOf, mkD "greatest_of" sGreatestOf, mkD "shifted" sShifted, mkD "all_at_most" sAllAtMost, mkD "flat_value" sFlatValue, mkD "flat_values" sFlatValues, mkD "arcs_of" sArcsOf, mkD "one_round" sOneRound, mkD "is_low" sIsLow, mkD "is_high" sIsHigh, mkD "conditions_of" sConditionsOf, mkD "opened" sOpened, mkD "told_arcs" sToldArcs, mkD "circle_below" sCircleBelow, mkD "nought_cell" sNoughtCell, mkD "rounds_down" sRoundsDown, mkD "least_with" sLeastWith, mkD "settled_least" sSettledLeast, mkD "held_ranks" sHeldRanks, mkD "is_less" sIsLess, mkD "solution_with" sSolutionWith, mkD "held_arc" sHeldArc, mkD "greatest_plain" sGreatestPlain, mkD "stages_from_above" sStagesFromAbove, mkD "flat_greatest" sFlatGreatest, mkD "fulfilled" sFulfilled, mkD "stages_from_below" sStagesFromBelow, mkD "flat_least" sFlatLeast, mkD "_law_draw" sLawDraw, mkD "_law_amount" sLawAmount, mkD "_law_arcs" sLawArcs, mkD "_law_formula" sLawFormula, mkD "_law_flat" sLawFlat, mkD "_law_most" sLawMost, mkD "_law_shift" sLawShift, mkD "_law_value" sLawValue, mkD "_law_round" sLawRound, mkD "_law_all_most" sLawAllMost, mkD "_law_bound" sLawBound, mkD "_law_least" sLawLeast, mkD "_law_greatest" sLawGreatest, mkD "_law_lesser" sLawLesser, mkD "_law_greater" sLawGreater, mkD "law" sLaw]
def fa : List He.Fa := [.glo "at_most", .glo "least_of", .glo "greatest_of", .glo "shifted", .glo "all_at_most", .glo "flat_value", .glo "flat_values", .glo "arcs_of", .glo "one_round", .glo "is_low", .glo "is_high", .glo "conditions_of", .glo "opened", .glo "told_arcs", .glo "circle_below", .glo "nought_cell", .glo "rounds_down", .glo "least_with", .glo "settled_least", .glo "held_ranks", .glo "is_less", .glo "solution_with", .glo "held_arc", .glo "greatest_plain", .glo "stages_from_above", .glo "flat_greatest", .glo "fulfilled", .glo "stages_from_below", .glo "flat_least", .glo "_law_draw", .glo "_law_amount", .glo "_law_arcs", .glo "_law_formula", .glo "_law_flat", .glo "_law_most", .glo "_law_shift", .glo "_law_value", .glo "_law_round", .glo "_law_all_most", .glo "_law_bound", .glo "_law_least", .glo "_law_greatest", .glo "_law_lesser", .glo "_law_greater", .glo "law", .free "len", .free "range", .free "zip", .free "enumerate", .free "any", .free "all", .free "max", .free "int", .free "list", .free "dict"]
def tf : List He.Defn := [("least_with", none)]
abbrev R : PySem.W.OpenRow := PySem.W.OpenLaw.row PySem.Challenge.rw_circlesettle_k22_whole_low_high_and_solu
abbrev hk : PySem.W.Hook := He.hookX 4 fa fn [] tf (fun _ => true)
def ob (s : PySem.W.SharedT) : He.AlX := He.obsX 4 fa fn [] tf (fun _ => true) (HandSHeadRun.getT s)
theorem ob_eq (s : PySem.W.SharedT) : ob s = hk.obs s.abs := He.obsX_eq (HandSHeadRun.getT_eq s)
def loose : List PySem.Str := [("at_most" : PySem.Str), ("least_of" : PySem.Str), ("greatest_of" : PySem.Str), ("shifted" : PySem.Str), ("all_at_most" : PySem.Str), ("flat_value" : PySem.Str), ("flat_values" : PySem.Str), ("arcs_of" : PySem.Str), ("one_round" : PySem.Str), ("is_low" : PySem.Str), ("is_high" : PySem.Str), ("conditions_of" : PySem.Str), ("opened" : PySem.Str), ("told_arcs" : PySem.Str), ("circle_below" : PySem.Str), ("nought_cell" : PySem.Str), ("rounds_down" : PySem.Str), ("least_with" : PySem.Str), ("settled_least" : PySem.Str), ("held_ranks" : PySem.Str), ("is_less" : PySem.Str), ("solution_with" : PySem.Str), ("held_arc" : PySem.Str), ("greatest_plain" : PySem.Str), ("stages_from_above" : PySem.Str), ("flat_greatest" : PySem.Str), ("fulfilled" : PySem.Str), ("stages_from_below" : PySem.Str), ("flat_least" : PySem.Str), ("_law_draw" : PySem.Str), ("_law_amount" : PySem.Str), ("_law_arcs" : PySem.Str), ("_law_formula" : PySem.Str), ("_law_flat" : PySem.Str), ("_law_most" : PySem.Str), ("_law_shift" : PySem.Str), ("_law_value" : PySem.Str), ("_law_round" : PySem.Str)] ++ ([("_law_all_most" : PySem.Str), ("_law_are_amounts" : PySem.Str), ("_law_bound" : PySem.Str), ("_law_least" : PySem.Str), ("_law_greatest" : PySem.Str), ("_law_lesser" : PySem.Str), ("_law_greater" : PySem.Str)] : List PySem.Str)
theorem run (w : World) : HandSHeadRun.RunEq R (PySem.W.view R.prog [52]) hk ob 4000 loose w := by
  intro os
  kernel_rfl
end CsTop

set_option linter.all false
namespace CsM
/-! amounts, flat formulas, one round, the least and the greatest solution -/
abbrev Am := Option Nat
def am : Am → Am → Bool
  | _, none => true
  | none, some _ => false
  | some a, some b => decide (a ≤ b)
def Le (a b : Am) : Prop := am a b = true
def sh : Am → Int → Am
  | none, _ => none
  | some a, c => some ((a : Int) + c).toNat
theorem Le.top {a : Am} : Le a none := by cases a <;> rfl
theorem Le.nn {a b : Nat} : Le (some a) (some b) ↔ a ≤ b := by simp [Le, am]
theorem Le.ns {b : Nat} : ¬ Le none (some b) := by simp [Le, am]
theorem Le.zero {a : Am} : Le (some 0) a := by cases a <;> simp [Le, am]
theorem Le.refl (a : Am) : Le a a := by cases a <;> simp [Le, am]
theorem Le.trans {a b c : Am} (h : Le a b) (k : Le b c) : Le a c := by
  cases c with
  | none => exact Le.top
  | some c => cases b with
    | none => exact absurd k Le.ns
    | some b => cases a with
      | none => exact absurd h Le.ns
      | some a => exact Le.nn.mpr (Nat.le_trans (Le.nn.mp h) (Le.nn.mp k))
theorem Le.anti {a b : Am} (h : Le a b) (k : Le b a) : a = b := by
  cases a with
  | none => cases b with
    | none => rfl
    | some b => exact absurd h Le.ns
  | some a => cases b with
    | none => exact absurd k Le.ns
    | some b => exact congrArg some (Nat.le_antisymm (Le.nn.mp h) (Le.nn.mp k))
theorem Le.total (a b : Am) : Le a b ∨ Le b a := by
  cases b with
  | none => exact .inl Le.top
  | some b => cases a with
    | none => exact .inr Le.top
    | some a => exact (Nat.le_total a b).imp Le.nn.mpr Le.nn.mpr
theorem Le.of_not {a b : Am} (h : ¬ Le a b) : Le b a := (Le.total a b).resolve_left h
theorem am_t {a b : Am} : am a b = true ↔ Le a b := Iff.rfl
theorem am_f {a b : Am} : am a b = false ↔ ¬ Le a b := by unfold Le; cases am a b <;> simp
theorem sh_mono {a b : Am} (c : Int) (h : Le a b) : Le (sh a c) (sh b c) := by
  cases b with
  | none => exact Le.top
  | some b => cases a with
    | none => exact absurd h Le.ns
    | some a => exact Le.nn.mpr (by have := Le.nn.mp h; omega)
theorem sh_none {a : Am} {c : Int} : sh a c = none ↔ a = none := by cases a <;> simp [sh]

/-- the least one, the greatest one of several, as the loops find it -/
def lof (l : List Am) : Am := l.foldl (fun f o => if am o f then o else f) (l.headD none)
def gof (l : List Am) : Am := l.foldl (fun f o => if am f o then o else f) (l.headD none)
theorem lof_fold : ∀ (l : List Am) (f : Am), (l.foldl (fun f o => if am o f then o else f) f ∈ f :: l) ∧ ∀ o ∈ f :: l, Le (l.foldl (fun f o => if am o f then o else f) f) o
  | [], f => ⟨List.mem_cons_self, fun o h => by simp at h; subst h; exact Le.refl _⟩
  | a :: r, f => by
    rw [List.foldl_cons]
    by_cases h : am a f = true
    · rw [if_pos h]
      obtain ⟨h1, h2⟩ := lof_fold r a
      refine ⟨List.mem_cons_of_mem _ h1, fun o ho => ?_⟩
      rcases List.mem_cons.mp ho with e | e
      · subst e; exact Le.trans (h2 a List.mem_cons_self) h
      · exact h2 o e
    · rw [if_neg h]
      obtain ⟨h1, h2⟩ := lof_fold r f
      refine ⟨?_, fun o ho => ?_⟩
      · rcases List.mem_cons.mp h1 with e | e
        · rw [e]; exact List.mem_cons_self
        · exact List.mem_cons_of_mem _ (List.mem_cons_of_mem _ e)
      · rcases List.mem_cons.mp ho with e | e
        · subst e; exact h2 _ List.mem_cons_self
        · rcases List.mem_cons.mp e with e | e
          · subst e; exact Le.trans (h2 f List.mem_cons_self) (Le.of_not h)
          · exact h2 o (List.mem_cons_of_mem _ e)
theorem gof_fold : ∀ (l : List Am) (f : Am), (l.foldl (fun f o => if am f o then o else f) f ∈ f :: l) ∧ ∀ o ∈ f :: l, Le o (l.foldl (fun f o => if am f o then o else f) f)
  | [], f => ⟨List.mem_cons_self, fun o h => by simp at h; subst h; exact Le.refl _⟩
  | a :: r, f => by
    rw [List.foldl_cons]
    by_cases h : am f a = true
    · rw [if_pos h]
      obtain ⟨h1, h2⟩ := gof_fold r a
      refine ⟨List.mem_cons_of_mem _ h1, fun o ho => ?_⟩
      rcases List.mem_cons.mp ho with e | e
      · subst e; exact Le.trans h (h2 a List.mem_cons_self)
      · exact h2 o e
    · rw [if_neg h]
      obtain ⟨h1, h2⟩ := gof_fold r f
      refine ⟨?_, fun o ho => ?_⟩
      · rcases List.mem_cons.mp h1 with e | e
        · rw [e]; exact List.mem_cons_self
        · exact List.mem_cons_of_mem _ (List.mem_cons_of_mem _ e)
      · rcases List.mem_cons.mp ho with e | e
        · subst e; exact h2 _ List.mem_cons_self
        · rcases List.mem_cons.mp e with e | e
          · subst e; exact Le.trans (Le.of_not h) (h2 f List.mem_cons_self)
          · exact h2 o (List.mem_cons_of_mem _ e)
theorem lof_mem {l : List Am} (h : l ≠ []) : lof l ∈ l := by
  cases l with
  | nil => exact absurd rfl h
  | cons a r =>
    rcases List.mem_cons.mp (lof_fold (a :: r) a).1 with e | e
    · show lof (a :: r) ∈ a :: r
      have : lof (a :: r) = a := e
      rw [this]; exact List.mem_cons_self
    · exact e
theorem gof_mem {l : List Am} (h : l ≠ []) : gof l ∈ l := by
  cases l with
  | nil => exact absurd rfl h
  | cons a r =>
    rcases List.mem_cons.mp (gof_fold (a :: r) a).1 with e | e
    · show gof (a :: r) ∈ a :: r
      have : gof (a :: r) = a := e
      rw [this]; exact List.mem_cons_self
    · exact e
theorem lof_le {l : List Am} {o : Am} (h : o ∈ l) : Le (lof l) o := (lof_fold l _).2 o (List.mem_cons_of_mem _ h)
theorem gof_ge {l : List Am} {o : Am} (h : o ∈ l) : Le o (gof l) := (gof_fold l _).2 o (List.mem_cons_of_mem _ h)

abbrev Arcs := List (Nat × Int)
inductive Fm where
  | amt (a : Am) | lo (l : Arcs) | hi (l : Arcs) | wh (j a k : Nat)
def vals (l : Arcs) (x : Nat → Am) : List Am := l.map fun p => sh (x p.1) p.2
def val : Fm → (Nat → Am) → Am
  | .amt a, _ => a
  | .lo l, x => lof (vals l x)
  | .hi l, x => gof (vals l x)
  | .wh j a k, x => if am (some a) (x j) then x k else some 0
theorem lo_le {l : Arcs} {x : Nat → Am} {p : Nat × Int} (h : p ∈ l) : Le (val (.lo l) x) (sh (x p.1) p.2) := lof_le (List.mem_map.mpr ⟨p, h, rfl⟩)
theorem hi_ge {l : Arcs} {x : Nat → Am} {p : Nat × Int} (h : p ∈ l) : Le (sh (x p.1) p.2) (val (.hi l) x) := gof_ge (List.mem_map.mpr ⟨p, h, rfl⟩)
theorem lo_at {l : Arcs} (x : Nat → Am) (h : l ≠ []) : ∃ p ∈ l, val (.lo l) x = sh (x p.1) p.2 := by
  obtain ⟨p, hp, e⟩ := List.mem_map.mp (lof_mem (l := vals l x) (fun z => h (List.map_eq_nil_iff.mp z)))
  exact ⟨p, hp, e.symm⟩
theorem hi_at {l : Arcs} (x : Nat → Am) (h : l ≠ []) : ∃ p ∈ l, val (.hi l) x = sh (x p.1) p.2 := by
  obtain ⟨p, hp, e⟩ := List.mem_map.mp (gof_mem (l := vals l x) (fun z => h (List.map_eq_nil_iff.mp z)))
  exact ⟨p, hp, e.symm⟩
theorem le_lo {l : Arcs} {x : Nat → Am} {v : Am} (h : l ≠ []) (k : ∀ p ∈ l, Le v (sh (x p.1) p.2)) : Le v (val (.lo l) x) := by
  obtain ⟨p, hp, e⟩ := lo_at x h
  rw [e]; exact k p hp
theorem hi_le {l : Arcs} {x : Nat → Am} {v : Am} (h : l ≠ []) (k : ∀ p ∈ l, Le (sh (x p.1) p.2) v) : Le (val (.hi l) x) v := by
  obtain ⟨p, hp, e⟩ := hi_at x h
  rw [e]; exact k p hp
def FOk (n : Nat) : Fm → Prop
  | .amt _ => True
  | .lo l => l ≠ [] ∧ ∀ p ∈ l, p.1 < n
  | .hi l => l ≠ [] ∧ ∀ p ∈ l, p.1 < n
  | .wh j _ k => j < n ∧ k < n
def LeN (n : Nat) (x y : Nat → Am) : Prop := ∀ i, i < n → Le (x i) (y i)
theorem LeN.refl (n : Nat) (x : Nat → Am) : LeN n x x := fun i _ => Le.refl _
theorem LeN.trans {n : Nat} {x y z : Nat → Am} (h : LeN n x y) (k : LeN n y z) : LeN n x z := fun i hi => Le.trans (h i hi) (k i hi)
theorem val_mono {n : Nat} {f : Fm} {x y : Nat → Am} (w : FOk n f) (h : LeN n x y) : Le (val f x) (val f y) := by
  cases f with
  | amt a => exact Le.refl _
  | lo l => exact le_lo w.1 fun p hp => Le.trans (lo_le hp) (sh_mono _ (h _ (w.2 p hp)))
  | hi l => exact hi_le w.1 fun p hp => Le.trans (sh_mono _ (h _ (w.2 p hp))) (hi_ge hp)
  | wh j a k =>
    show Le (if am (some a) (x j) then x k else some 0) (if am (some a) (y j) then y k else some 0)
    by_cases c : am (some a) (x j) = true
    · rw [if_pos c, if_pos (show am (some a) (y j) = true from Le.trans c (h j w.1))]
      exact h k w.2
    · rw [if_neg c]; exact Le.zero
theorem val_ext {n : Nat} {f : Fm} {x y : Nat → Am} (w : FOk n f) (h : ∀ i, i < n → x i = y i) : val f x = val f y :=
  Le.anti (val_mono w fun i hi => by rw [h i hi]; exact Le.refl _) (val_mono w fun i hi => by rw [h i hi]; exact Le.refl _)
/-- one round -/
def F (fl : List Fm) (x : Nat → Am) (i : Nat) : Am := match fl[i]? with
  | some f => val f x
  | none => none
def Wf (fl : List Fm) : Prop := ∀ f ∈ fl, FOk fl.length f
theorem F_at {fl : List Fm} {i : Nat} {f : Fm} (h : fl[i]? = some f) (x : Nat → Am) : F fl x i = val f x := by unfold F; rw [h]
theorem at_of {α : Type} {l : List α} {i : Nat} (h : i < l.length) : ∃ a, l[i]? = some a := ⟨l[i], List.getElem?_eq_getElem h⟩
theorem lt_of {α : Type} {l : List α} {i : Nat} {a : α} (h : l[i]? = some a) : i < l.length := (List.getElem?_eq_some_iff.mp h).1
theorem Wf.at {fl : List Fm} (w : Wf fl) {i : Nat} {f : Fm} (h : fl[i]? = some f) : FOk fl.length f := w f (List.mem_of_getElem? h)
theorem F_mono {fl : List Fm} (w : Wf fl) {x y : Nat → Am} (h : LeN fl.length x y) : LeN fl.length (F fl x) (F fl y) := fun i hi => by
  obtain ⟨f, e⟩ := at_of hi
  rw [F_at e, F_at e]; exact val_mono (w.at e) h
theorem F_ext {fl : List Fm} (w : Wf fl) {x y : Nat → Am} (h : ∀ i, i < fl.length → x i = y i) (i : Nat) : F fl x i = F fl y i := by
  unfold F
  cases e : fl[i]? with
  | none => rfl
  | some f => exact val_ext (w.at e) h
def Pre (fl : List Fm) (y : Nat → Am) : Prop := LeN fl.length (F fl y) y
def Post (fl : List Fm) (y : Nat → Am) : Prop := LeN fl.length y (F fl y)
structure IsLeast (fl : List Fm) (x : Nat → Am) : Prop where
  pre : Pre fl x
  post : Post fl x
  least : ∀ y, Pre fl y → LeN fl.length x y
structure IsGreat (fl : List Fm) (x : Nat → Am) : Prop where
  pre : Pre fl x
  post : Post fl x
  great : ∀ y, Post fl y → LeN fl.length y x
theorem IsLeast.fix {fl : List Fm} {x : Nat → Am} (h : IsLeast fl x) {i : Nat} {f : Fm} (e : fl[i]? = some f) : x i = val f x := by
  rw [← F_at e]; exact Le.anti (h.post i (lt_of e)) (h.pre i (lt_of e))
theorem IsGreat.fix {fl : List Fm} {x : Nat → Am} (h : IsGreat fl x) {i : Nat} {f : Fm} (e : fl[i]? = some f) : x i = val f x := by
  rw [← F_at e]; exact Le.anti (h.post i (lt_of e)) (h.pre i (lt_of e))
theorem IsLeast.uniq {fl : List Fm} {x y : Nat → Am} (h : IsLeast fl x) (k : IsLeast fl y) : ∀ i, i < fl.length → x i = y i := fun i hi => Le.anti (h.least y k.pre i hi) (k.least x h.pre i hi)
theorem IsGreat.uniq {fl : List Fm} {x y : Nat → Am} (h : IsGreat fl x) (k : IsGreat fl y) : ∀ i, i < fl.length → x i = y i := fun i hi => Le.anti (k.great x h.post i hi) (h.great y k.post i hi)
/-- the least of some amounts -/
theorem inf_of (S : Am → Prop) (h : ∃ a, S a) : ∃ m, S m ∧ ∀ a, S a → Le m a := by
  by_cases k : ∃ n, S (some n)
  · have key : ∀ n, S (some n) → ∃ m, S (some m) ∧ ∀ j, S (some j) → m ≤ j := by
      intro n
      induction n using Nat.strongRecOn with
      | _ n ih =>
        intro hn
        by_cases c : ∃ j, j < n ∧ S (some j)
        · obtain ⟨j, hj, sj⟩ := c
          exact ih j hj sj
        · exact ⟨n, hn, fun j sj => Nat.le_of_not_lt fun z => c ⟨j, z, sj⟩⟩
    obtain ⟨n, hn⟩ := k
    obtain ⟨m, hm, h2⟩ := key n hn
    refine ⟨some m, hm, fun a sa => ?_⟩
    cases a with
    | none => exact Le.top
    | some a => exact Le.nn.mpr (h2 a sa)
  · obtain ⟨a, sa⟩ := h
    cases a with
    | some n => exact absurd ⟨n, sa⟩ k
    | none => refine ⟨none, sa, fun a sa => ?_⟩
              cases a with
              | none => exact Le.refl _
              | some n => exact absurd ⟨n, sa⟩ k
theorem exists_least {fl : List Fm} (w : Wf fl) : ∃ x, IsLeast fl x := by
  have top : Pre fl (fun _ => none) := fun i _ => Le.top
  have ex : ∀ i, ∃ m, (∃ y, Pre fl y ∧ y i = m) ∧ ∀ a, (∃ y, Pre fl y ∧ y i = a) → Le m a := fun i => inf_of _ ⟨none, fun _ => none, top, rfl⟩
  let x : Nat → Am := fun i => Classical.choose (ex i)
  have h1 : ∀ i, ∃ y, Pre fl y ∧ y i = x i := fun i => (Classical.choose_spec (ex i)).1
  have h2 : ∀ y, Pre fl y → ∀ i, Le (x i) (y i) := fun y hy i => (Classical.choose_spec (ex i)).2 _ ⟨y, hy, rfl⟩
  have pre : Pre fl x := fun i hi => by
    obtain ⟨y, hy, e⟩ := h1 i
    rw [← e]
    exact Le.trans (F_mono w (fun j _ => h2 y hy j) i hi) (hy i hi)
  exact ⟨x, pre, fun i hi => h2 _ (F_mono w pre) i, fun y hy i _ => h2 y hy i⟩
/-- a list of amounts as a function -/
def fn (l : List Am) (i : Nat) : Am := l.getD i none
theorem fn_at {l : List Am} {i : Nat} {a : Am} (h : l[i]? = some a) : fn l i = a := by
  unfold fn; rw [List.getD_eq_getElem?_getD, h]; rfl
theorem at_fn {l : List Am} {i : Nat} (h : i < l.length) : l[i]? = some (fn l i) := by
  obtain ⟨a, e⟩ := at_of h
  rw [e, fn_at e]
theorem list_eq {l r : List Am} (hl : l.length = r.length) (h : ∀ i, i < l.length → fn l i = fn r i) : l = r := by
  apply List.ext_getElem? ; intro i
  by_cases c : i < l.length
  · rw [at_fn c, at_fn (hl ▸ c), h i c]
  · rw [List.getElem?_eq_none (by omega), List.getElem?_eq_none (by omega)]
theorem fn_set {l : List Am} {i : Nat} {a : Am} (h : i < l.length) (j : Nat) : fn (l.set i a) j = if j = i then a else fn l j := by
  unfold fn
  rw [List.getD_eq_getElem?_getD, List.getD_eq_getElem?_getD, List.getElem?_set]
  by_cases c : i = j
  · subst c; rw [if_pos rfl, if_pos h, if_pos rfl]; rfl
  · rw [if_neg c, if_neg (fun z => c z.symm)]
def round (fl : List Fm) (x : List Am) : List Am := fl.map fun f => val f (fn x)
theorem round_len (fl : List Fm) (x : List Am) : (round fl x).length = fl.length := List.length_map ..
theorem round_fn {fl : List Fm} {x : List Am} {i : Nat} (h : i < fl.length) : fn (round fl x) i = F fl (fn x) i := by
  obtain ⟨f, e⟩ := at_of h
  rw [F_at e]
  exact fn_at (by unfold round; rw [List.getElem?_map, e]; rfl)
end CsM

set_option linter.all false
namespace CsM
/-! counting: pigeons, ranks, sums -/
theorem nodup_len : ∀ (n : Nat) (l : List Nat), l.Nodup → (∀ i ∈ l, i < n) → l.length ≤ n
  | 0, [], _, _ => Nat.le_refl _
  | 0, a :: r, _, h => absurd (h a List.mem_cons_self) (Nat.not_lt_zero _)
  | n + 1, l, nd, h => by
    have h1 := nodup_len n (l.erase n) (nd.erase n) (fun i hi => by
      have h2 := (nd.mem_erase_iff).mp hi
      have h3 := h i h2.2
      have h4 := h2.1
      omega)
    have h5 : l.length ≤ (l.erase n).length + 1 := by
      by_cases c : n ∈ l
      · rw [List.length_erase_of_mem c]; omega
      · rw [List.erase_of_not_mem c]; omega
    omega
/-- two of n + 1 places hold the same one of n things -/
theorem pigeon {n : Nat} (f : Nat → Nat) (h : ∀ i, i ≤ n → f i < n) : ∃ a b, a < b ∧ b ≤ n ∧ f a = f b := by
  by_cases c : ∃ a b, a < b ∧ b ≤ n ∧ f a = f b
  · exact c
  · have nd : ((List.range (n + 1)).map f).Nodup := by
      unfold List.Nodup
      rw [List.pairwise_map]
      refine List.Pairwise.imp_of_mem ?_ (List.pairwise_lt_range (n := n + 1))
      intro a b ha hb hab e
      exact c ⟨a, b, hab, by have := List.mem_range.mp hb; omega, e⟩
    have := nodup_len n _ nd (fun i hi => by
      obtain ⟨j, hj, e⟩ := List.mem_map.mp hi
      rw [← e]; exact h j (by have := List.mem_range.mp hj; omega))
    rw [List.length_map, List.length_range] at this
    omega
theorem filter_le {α : Type} (p q : α → Bool) (h : ∀ a, p a = true → q a = true) : ∀ l : List α, (l.filter p).length ≤ (l.filter q).length
  | [] => Nat.le_refl _
  | a :: r => by
    have ih := filter_le p q h r
    rw [List.filter_cons, List.filter_cons]
    by_cases c : p a = true
    · rw [if_pos c, if_pos (h a c), List.length_cons, List.length_cons]; omega
    · rw [if_neg c]
      by_cases d : q a = true
      · rw [if_pos d, List.length_cons]; omega
      · rw [if_neg d]; exact ih
theorem filter_lt {α : Type} (p q : α → Bool) (h : ∀ a, p a = true → q a = true) : ∀ {l : List α} {t : α}, t ∈ l → p t = false → q t = true → (l.filter p).length < (l.filter q).length
  | [], _, ht, _, _ => by cases ht
  | a :: r, t, ht, pt, qt => by
    rw [List.filter_cons, List.filter_cons]
    rcases List.mem_cons.mp ht with e | ht
    · subst e
      have := filter_le p q h r
      rw [if_neg (by rw [pt]; decide), if_pos qt, List.length_cons]; omega
    · have ih := filter_lt p q h ht pt qt
      by_cases c : p a = true
      · rw [if_pos c, if_pos (h a c), List.length_cons, List.length_cons]; omega
      · rw [if_neg c]
        by_cases d : q a = true
        · rw [if_pos d, List.length_cons]; omega
        · rw [if_neg d]; exact ih
/-- how many of n things have less -/
def rank (n : Nat) (φ : Nat → Int) (i : Nat) : Nat := ((List.range n).filter fun j => decide (φ j < φ i)).length
theorem rank_lt {n : Nat} {φ : Nat → Int} {t i : Nat} (ht : t < n) (h : φ t < φ i) : rank n φ t < rank n φ i := by
  unfold rank
  refine filter_lt _ _ (fun j hj => ?_) (List.mem_range.mpr ht) ?_ ?_
  · have := of_decide_eq_true hj; exact decide_eq_true (by omega)
  · exact decide_eq_false (by omega)
  · exact decide_eq_true h
theorem rank_bd {n : Nat} {φ : Nat → Int} {i : Nat} (hi : i < n) : rank n φ i < n := by
  have h := filter_lt (fun j => decide (φ j < φ i)) (fun _ => true) (fun _ _ => rfl) (List.mem_range.mpr hi) (decide_eq_false (by omega)) rfl
  have e : ((List.range n).filter fun _ => true).length = n := by
    rw [List.filter_eq_self.mpr (fun _ _ => rfl), List.length_range]
  unfold rank
  omega
def sumN : Nat → (Nat → Nat) → Nat
  | 0, _ => 0
  | n + 1, f => sumN n f + f n
theorem sumN_le {f g : Nat → Nat} : ∀ {n : Nat}, (∀ i, i < n → f i ≤ g i) → sumN n f ≤ sumN n g
  | 0, _ => Nat.le_refl _
  | n + 1, h => by
    have := sumN_le (n := n) fun i hi => h i (by omega)
    have := h n (by omega)
    show sumN n f + f n ≤ sumN n g + g n
    omega
theorem sumN_lt {f g : Nat → Nat} : ∀ {n : Nat}, (∀ i, i < n → f i ≤ g i) → (∃ i, i < n ∧ f i < g i) → sumN n f < sumN n g
  | 0, _, ⟨i, hi, _⟩ => absurd hi (Nat.not_lt_zero _)
  | n + 1, h, ⟨i, hi, hl⟩ => by
    have h1 := h n (by omega)
    show sumN n f + f n < sumN n g + g n
    by_cases c : i = n
    · subst c
      have := sumN_le (n := i) (f := f) (g := g) fun j hj => h j (by omega)
      omega
    · have := sumN_lt (n := n) (f := f) (g := g) (fun j hj => h j (by omega)) ⟨i, by omega, hl⟩
      omega
theorem sumN_cap {f : Nat → Nat} {c : Nat} : ∀ {n : Nat}, (∀ i, i < n → f i ≤ c) → sumN n f ≤ n * c
  | 0, _ => Nat.zero_le _
  | n + 1, h => by
    have := sumN_cap (n := n) (f := f) (c := c) fun i hi => h i (by omega)
    have := h n (by omega)
    show sumN n f + f n ≤ (n + 1) * c
    rw [Nat.succ_mul]; omega
/-- what an amount weighs, at most B + 1 -/
def wt (B : Nat) : Am → Nat
  | some u => min u (B + 1)
  | none => B + 1
theorem wt_le {B : Nat} {a b : Am} (h : Le a b) : wt B a ≤ wt B b := by
  cases b with
  | none => cases a <;> simp only [wt] <;> omega
  | some b => cases a with
    | none => exact absurd h Le.ns
    | some a => have := Le.nn.mp h; simp only [wt]; omega
theorem wt_cap (B : Nat) (a : Am) : wt B a ≤ B + 1 := by cases a <;> simp only [wt] <;> omega
theorem wt_lt {B : Nat} {a b : Am} (h : Le a b) (ne : a ≠ b) (hb : ∀ u, a = some u → u ≤ B) : wt B a < wt B b := by
  cases a with
  | none => cases b with
    | none => exact absurd rfl ne
    | some b => exact absurd h Le.ns
  | some a =>
    have := hb a rfl
    cases b with
    | none => simp only [wt]; omega
    | some b =>
      have h1 := Le.nn.mp h
      have h2 : a ≠ b := fun e => ne (by rw [e])
      simp only [wt]; omega
def wsum (B n : Nat) (x : Nat → Am) : Nat := sumN n fun i => wt B (x i)
theorem wsum_cap (B n : Nat) (x : Nat → Am) : wsum B n x ≤ n * (B + 1) := sumN_cap fun i _ => wt_cap B _
theorem wsum_lt {B n : Nat} {x y : Nat → Am} (h : LeN n x y) (ne : ¬ ∀ i, i < n → x i = y i) (hb : ∀ i, i < n → ∀ u, x i = some u → u ≤ B) : wsum B n x < wsum B n y := by
  refine sumN_lt (fun i hi => wt_le (h i hi)) ?_
  by_cases c : ∃ i, i < n ∧ x i ≠ y i
  · obtain ⟨i, hi, e⟩ := c
    exact ⟨i, hi, wt_lt (h i hi) e (hb i hi)⟩
  · exact absurd (fun i hi => Classical.byContradiction fun e => c ⟨i, hi, e⟩) ne
/-! the bound -/
structure Bd (fl : List Fm) (M S : Nat) : Prop where
  num : ∀ a, Fm.amt (some a) ∈ fl → a ≤ M
  lo : ∀ l, Fm.lo l ∈ fl → ∀ p ∈ l, p.2 ≤ (S : Int)
  hi : ∀ l, Fm.hi l ∈ fl → ∀ p ∈ l, p.2 ≤ (S : Int)
/-- amounts just behind a gap could be less -/
theorem gap {fl : List Fm} (w : Wf fl) {M S T : Nat} (b : Bd fl M S) {x : Nat → Am} (h : IsLeast fl x) (hT : M ≤ T) (g : ∀ j u, j < fl.length → x j = some u → ¬ (T < u ∧ u ≤ T + S)) :
    ∀ j u, j < fl.length → x j = some u → u ≤ T + S := by
  let y : Nat → Am := fun j => match x j with
    | some u => if T + S < u then some (u - 1) else some u
    | none => none
  have yn : ∀ j, x j = none → y j = none := fun j e => by show (match x j with | some u => if T + S < u then some (u - 1) else some u | none => none) = none; rw [e]
  have ys : ∀ j u, x j = some u → y j = if T + S < u then some (u - 1) else some u := fun j u e => by show (match x j with | some u => if T + S < u then some (u - 1) else some u | none => none) = _; rw [e]
  have yx : LeN fl.length y x := fun j _ => by
    cases e : x j with
    | none => exact Le.top
    | some u =>
      rw [ys j u e]
      by_cases c : T + S < u
      · rw [if_pos c]; exact Le.nn.mpr (by omega)
      · rw [if_neg c]; exact Le.refl _
  have pre : Pre fl y := fun j hj => by
    obtain ⟨f, e⟩ := at_of hj
    have hx := h.fix e
    have low := w.at e
    rw [F_at e]
    cases ex : x j with
    | none => rw [yn j ex]; exact Le.top
    | some u =>
      by_cases c : T + S < u
      · rw [ys j u ex, if_pos c]
        rw [ex] at hx
        have hu : 0 < u := by omega
        cases f with
        | amt a =>
          have ea : a = some u := hx.symm
          subst ea
          have := b.num u (List.mem_of_getElem? e)
          omega
        | lo l =>
          obtain ⟨p, hp, ep⟩ := lo_at x low.1
          refine Le.trans (lo_le hp) ?_
          rw [ep] at hx
          have hc := b.lo l (List.mem_of_getElem? e) p hp
          cases ew : x p.1 with
          | none => rw [ew] at hx; cases hx
          | some v =>
            rw [ew] at hx
            have e2 : ((v : Int) + p.2).toNat = u := (Option.some.inj hx).symm
            have hv := g p.1 v (low.2 p hp) ew
            have : T + S < v := by omega
            rw [ys p.1 v ew, if_pos this]
            exact Le.nn.mpr (by omega)
        | hi l =>
          refine hi_le low.1 fun p hp => ?_
          have hc := b.hi l (List.mem_of_getElem? e) p hp
          have h1 := hi_ge (x := x) hp
          rw [← hx] at h1
          cases ew : x p.1 with
          | none => rw [ew] at h1; exact absurd h1 Le.ns
          | some v =>
            rw [ew] at h1
            have h2 : ((v : Int) + p.2).toNat ≤ u := Le.nn.mp h1
            have hv := g p.1 v (low.2 p hp) ew
            rw [ys p.1 v ew]
            by_cases c2 : T + S < v
            · rw [if_pos c2]; exact Le.nn.mpr (by omega)
            · rw [if_neg c2]; exact Le.nn.mpr (by omega)
        | wh j' a k =>
          have e3 : (if am (some a) (x j') then x k else some 0) = some u := hx.symm
          have e4 : x k = some u := by
            by_cases c3 : am (some a) (x j') = true
            · rw [if_pos c3] at e3; exact e3
            · rw [if_neg c3] at e3
              have := Option.some.inj e3
              omega
          show Le (if am (some a) (y j') then y k else some 0) _
          by_cases c3 : am (some a) (y j') = true
          · rw [if_pos c3, ys k u e4, if_pos c]; exact Le.refl _
          · rw [if_neg c3]; exact Le.zero
      · rw [ys j u ex, if_neg c, ← ex, hx]
        exact val_mono low yx
  intro j u hj e
  by_cases c : T + S < u
  · have h1 := h.least y pre j hj
    rw [e, ys j u e, if_pos c] at h1
    have := Le.nn.mp h1
    omega
  · omega
theorem bound {fl : List Fm} (w : Wf fl) {M S : Nat} (b : Bd fl M S) {x : Nat → Am} (h : IsLeast fl x) {i v : Nat} (hi : i < fl.length) (e : x i = some v) : v ≤ M + fl.length * S := by
  refine Nat.le_of_not_lt fun lt => ?_
  have mul : ∀ k, k < fl.length → (k + 1) * S ≤ fl.length * S := fun k hk => Nat.mul_le_mul_right S hk
  have ex : ∀ k, ∃ j, k < fl.length → j < fl.length ∧ ∃ u, x j = some u ∧ M + k * S < u ∧ u ≤ M + (k + 1) * S := fun k => by
    by_cases hk : k < fl.length
    · by_cases c : ∃ j, j < fl.length ∧ ∃ u, x j = some u ∧ M + k * S < u ∧ u ≤ M + (k + 1) * S
      · obtain ⟨j, hj⟩ := c
        exact ⟨j, fun _ => hj⟩
      · have z := gap w b h (T := M + k * S) (by omega) (fun j u hj ej q => c ⟨j, hj, u, ej, q.1, by rw [Nat.succ_mul]; omega⟩) i v hi e
        have := mul k hk
        rw [Nat.succ_mul] at this
        omega
    · exact ⟨0, fun q => absurd q hk⟩
  let f : Nat → Nat := fun k => if k < fl.length then Classical.choose (ex k) else i
  have hf : ∀ k, k < fl.length → f k < fl.length ∧ ∃ u, x (f k) = some u ∧ M + k * S < u ∧ u ≤ M + (k + 1) * S := fun k hk => by
    show (if k < fl.length then Classical.choose (ex k) else i) < fl.length ∧ ∃ u, x (if k < fl.length then Classical.choose (ex k) else i) = some u ∧ _
    rw [if_pos hk]
    exact Classical.choose_spec (ex k) hk
  have fn' : f fl.length = i := if_neg (Nat.lt_irrefl _)
  obtain ⟨p, q, hpq, hq, epq⟩ := pigeon (n := fl.length) f (fun k hk => by
    by_cases c : k < fl.length
    · exact (hf k c).1
    · rw [show k = fl.length by omega, fn']; exact hi)
  obtain ⟨_, u, eu, u1, u2⟩ := hf p (by omega)
  by_cases c : q < fl.length
  · obtain ⟨_, u', eu', u1', u2'⟩ := hf q c
    rw [epq, eu'] at eu
    cases eu
    have : (p + 1) * S ≤ q * S := Nat.mul_le_mul_right S hpq
    omega
  · rw [epq, show q = fl.length by omega, fn', e] at eu
    cases eu
    have := mul p (by omega)
    omega
end CsM

set_option linter.all false
namespace CsM
/-! the law's own rounds -/
def iter {α : Type} (f : α → α) : Nat → α → α
  | 0, a => a
  | n + 1, a => f (iter f n a)
theorem IsLeast.congr {fl : List Fm} (w : Wf fl) {x y : Nat → Am} (h : IsLeast fl x) (e : ∀ i, i < fl.length → x i = y i) : IsLeast fl y :=
  ⟨fun i hi => by rw [← F_ext w e, ← e i hi]; exact h.pre i hi, fun i hi => by rw [← F_ext w e, ← e i hi]; exact h.post i hi, fun z hz i hi => by rw [← e i hi]; exact h.least z hz i hi⟩
theorem IsGreat.congr {fl : List Fm} (w : Wf fl) {x y : Nat → Am} (h : IsGreat fl x) (e : ∀ i, i < fl.length → x i = y i) : IsGreat fl y :=
  ⟨fun i hi => by rw [← F_ext w e, ← e i hi]; exact h.pre i hi, fun i hi => by rw [← F_ext w e, ← e i hi]; exact h.post i hi, fun z hz i hi => by rw [← e i hi]; exact h.great z hz i hi⟩
def cut (B : Nat) : Am → Am
  | some u => if B < u then none else some u
  | none => none
theorem cut_ge (B : Nat) (a : Am) : Le a (cut B a) := by
  cases a with
  | none => exact Le.top
  | some u =>
    show Le (some u) (if B < u then none else some u)
    by_cases c : B < u
    · rw [if_pos c]; exact Le.top
    · rw [if_neg c]; exact Le.refl _
theorem cut_bd {B : Nat} {a : Am} {u : Nat} (h : cut B a = some u) : u ≤ B := by
  cases a with
  | none => cases h
  | some v =>
    have h2 : (if B < v then none else some v) = some u := h
    by_cases c : B < v
    · rw [if_pos c] at h2; cases h2
    · rw [if_neg c] at h2; cases h2; omega
theorem cut_id {B : Nat} {a : Am} (h : ∀ u, a = some u → u ≤ B) : cut B a = a := by
  cases a with
  | none => rfl
  | some v =>
    have := h v rfl
    show (if B < v then none else some v) = some v
    rw [if_neg (by omega)]
theorem cut_mono {B : Nat} {a b : Am} (h : Le a b) : Le (cut B a) (cut B b) := by
  cases b with
  | none => exact Le.top
  | some b => cases a with
    | none => exact absurd h Le.ns
    | some a =>
      have h1 := Le.nn.mp h
      show Le (if B < a then none else some a) (if B < b then none else some b)
      by_cases c : B < b
      · rw [if_pos c]; exact Le.top
      · rw [if_neg c, if_neg (by omega)]; exact h
def lnext (fl : List Fm) (B : Nat) (x : List Am) : List Am := (round fl x).map (cut B)
def zeros (n : Nat) : List Am := List.replicate n (some 0)
def nones (n : Nat) : List Am := List.replicate n none
theorem fn_rep {n i : Nat} {a : Am} (h : i < n) : fn (List.replicate n a) i = a := fn_at (by rw [List.getElem?_replicate, if_pos h])
theorem lnext_len (fl : List Fm) (B : Nat) (x : List Am) : (lnext fl B x).length = fl.length := by unfold lnext; rw [List.length_map, round_len]
theorem lnext_fn {fl : List Fm} {B : Nat} {x : List Am} {i : Nat} (h : i < fl.length) : fn (lnext fl B x) i = cut B (F fl (fn x) i) := by
  have e : (round fl x)[i]? = some (F fl (fn x) i) := by rw [← round_fn h]; exact at_fn (by rw [round_len]; exact h)
  exact fn_at (by unfold lnext; rw [List.getElem?_map, e]; rfl)
theorem iter_len {fl : List Fm} {f : List Am → List Am} (hf : ∀ x, (f x).length = fl.length) {x0 : List Am} (h0 : x0.length = fl.length) : ∀ i, (iter f i x0).length = fl.length
  | 0 => h0
  | _ + 1 => hf _
section
variable {fl : List Fm} (w : Wf fl) {M S : Nat} (b : Bd fl M S)
theorem zeros_len : (zeros fl.length).length = fl.length := List.length_replicate
theorem nones_len : (nones fl.length).length = fl.length := List.length_replicate
include w in
theorem lchain (B : Nat) : ∀ i, LeN fl.length (fn (iter (lnext fl B) i (zeros fl.length))) (fn (iter (lnext fl B) (i + 1) (zeros fl.length)))
  | 0 => fun j hj => by
    show Le (fn (zeros fl.length) j) _
    unfold zeros
    rw [fn_rep hj]; exact Le.zero
  | i + 1 => fun j hj => by
    have ih := lchain B i
    show Le (fn (lnext fl B _) j) (fn (lnext fl B _) j)
    rw [lnext_fn hj, lnext_fn hj]
    exact cut_mono (F_mono w ih j hj)
include w in
theorem lstops (B : Nat) : ∀ i, lnext fl B (iter (lnext fl B) i (zeros fl.length)) = iter (lnext fl B) i (zeros fl.length) ∨ i ≤ wsum B fl.length (fn (iter (lnext fl B) i (zeros fl.length)))
  | 0 => .inr (Nat.zero_le _)
  | i + 1 => by
    have e : iter (lnext fl B) (i + 1) (zeros fl.length) = lnext fl B (iter (lnext fl B) i (zeros fl.length)) := rfl
    by_cases c : lnext fl B (iter (lnext fl B) i (zeros fl.length)) = iter (lnext fl B) i (zeros fl.length)
    · left; rw [e, c, c]
    · right
      rcases lstops B i with z | z
      · exact absurd z c
      · have l1 := iter_len (fl := fl) (fun x => lnext_len fl B x) zeros_len i
        have := wsum_lt (B := B) (lchain w B i) (fun q => c (by
          refine (list_eq ?_ fun j hj => ?_).symm
          · rw [l1, lnext_len]
          · exact q j (by rw [← l1]; exact hj))) (fun j hj u eu => by
          cases i with
          | zero =>
            have eu' : fn (zeros fl.length) j = some u := eu
            unfold zeros at eu'
            rw [fn_rep hj] at eu'; cases eu'; exact Nat.zero_le _
          | succ i =>
            have eu' : fn (lnext fl B (iter (lnext fl B) i (zeros fl.length))) j = some u := eu
            rw [lnext_fn hj] at eu'
            exact cut_bd eu')
        omega
include w in
theorem lfixed (B N : Nat) (h : fl.length * (B + 1) < N) : lnext fl B (iter (lnext fl B) N (zeros fl.length)) = iter (lnext fl B) N (zeros fl.length) := by
  rcases lstops w B N with z | z
  · exact z
  · have := wsum_cap B fl.length (fn (iter (lnext fl B) N (zeros fl.length)))
    omega
include w b in
theorem lleast {i : Nat} (e : lnext fl (M + fl.length * S) (iter (lnext fl (M + fl.length * S)) i (zeros fl.length)) = iter (lnext fl (M + fl.length * S)) i (zeros fl.length)) :
    IsLeast fl (fn (iter (lnext fl (M + fl.length * S)) i (zeros fl.length))) := by
  obtain ⟨x, hx⟩ := exists_least w
  have below : ∀ k, LeN fl.length (fn (iter (lnext fl (M + fl.length * S)) k (zeros fl.length))) x := by
    intro k
    induction k with
    | zero =>
      intro j hj
      show Le (fn (zeros fl.length) j) _
      unfold zeros
      rw [fn_rep hj]; exact Le.zero
    | succ k ih =>
      intro j hj
      show Le (fn (lnext fl _ _) j) _
      rw [lnext_fn hj]
      have h1 := Le.trans (F_mono w ih j hj) (hx.pre j hj)
      have h2 := cut_mono (B := M + fl.length * S) h1
      rw [cut_id fun u eu => bound w b hx hj eu] at h2
      exact h2
  have pre : Pre fl (fn (iter (lnext fl (M + fl.length * S)) i (zeros fl.length))) := fun j hj => by
    have h1 := cut_ge (M + fl.length * S) (F fl (fn (iter (lnext fl (M + fl.length * S)) i (zeros fl.length))) j)
    rw [← lnext_fn hj, e] at h1
    exact h1
  exact hx.congr w fun j hj => Le.anti (hx.least _ pre j hj) (below i j hj)
/-! from above -/
include w in
theorem gchain : ∀ i, LeN fl.length (fn (iter (round fl) (i + 1) (nones fl.length))) (fn (iter (round fl) i (nones fl.length)))
  | 0 => fun j hj => by
    show Le _ (fn (nones fl.length) j)
    unfold nones
    rw [fn_rep hj]; exact Le.top
  | i + 1 => fun j hj => by
    have ih := gchain i
    show Le (fn (round fl _) j) (fn (round fl _) j)
    rw [round_fn hj, round_fn hj]
    exact F_mono w ih j hj
/-- how many have numbers -/
def nums (n : Nat) (x : Nat → Am) : Nat := sumN n fun i => match x i with
  | some _ => 1
  | none => 0
theorem nums_le {n : Nat} {x y : Nat → Am} (h : LeN n y x) : nums n x ≤ nums n y := sumN_le fun i hi => by
  have := h i hi
  cases ex : x i with
  | none => exact Nat.zero_le _
  | some u =>
    cases ey : y i with
    | none => rw [ex, ey] at this; exact absurd this Le.ns
    | some v => exact Nat.le_refl _
theorem nums_lt {n : Nat} {x y : Nat → Am} (h : LeN n y x) {i u : Nat} (hi : i < n) (e : x i = none) (e2 : y i = some u) : nums n x < nums n y := sumN_lt (fun i hi => by
  have := h i hi
  cases ex : x i with
  | none => exact Nat.zero_le _
  | some u =>
    cases ey : y i with
    | none => rw [ex, ey] at this; exact absurd this Le.ns
    | some v => exact Nat.le_refl _) ⟨i, hi, by rw [e, e2]; exact Nat.zero_lt_one⟩
theorem nums_cap (n : Nat) (x : Nat → Am) : nums n x ≤ n := by
  have := sumN_cap (n := n) (c := 1) (f := fun i => match x i with | some _ => 1 | none => 0) (fun i _ => by cases x i <;> simp)
  unfold nums
  omega
include w b in
theorem gbound : ∀ i j u, j < fl.length → fn (iter (round fl) i (nones fl.length)) j = some u → u ≤ M + nums fl.length (fn (iter (round fl) i (nones fl.length))) * S := by
  intro i
  induction i with
  | zero =>
    intro j u hj e
    have e' : fn (nones fl.length) j = some u := e
    unfold nones at e'
    rw [fn_rep hj] at e'; cases e'
  | succ i ih =>
    intro j u hj e
    have ch := gchain w i
    let x : Nat → Am := fn (iter (round fl) i (nones fl.length))
    let y : Nat → Am := fn (iter (round fl) (i + 1) (nones fl.length))
    have nle : nums fl.length x ≤ nums fl.length y := nums_le ch
    have e' : y j = some u := e
    show u ≤ M + nums fl.length y * S
    have ml : nums fl.length x * S ≤ nums fl.length y * S := Nat.mul_le_mul_right S nle
    cases ex : x j with
    | some v =>
      have h1 := ch j hj
      have h2 : Le (y j) (x j) := h1
      rw [e', ex] at h2
      have h3 := Le.nn.mp h2
      have h4 := ih j v hj ex
      have h5 : v ≤ M + nums fl.length x * S := h4
      omega
    | none =>
      have nlt := nums_lt ch hj ex e'
      have nlt' : nums fl.length x < nums fl.length y := nlt
      have ml2 : (nums fl.length x + 1) * S ≤ nums fl.length y * S := Nat.mul_le_mul_right S nlt'
      rw [Nat.succ_mul] at ml2
      obtain ⟨f, ef⟩ := at_of hj
      have ey : y j = val f x := by
        show fn (round fl (iter (round fl) i (nones fl.length))) j = _
        rw [round_fn hj, F_at ef]
      rw [e'] at ey
      have fok := w.at ef
      have arc : ∀ p : Nat × Int, p.1 < fl.length → p.2 ≤ (S : Int) → ∀ v, sh (x p.1) p.2 = some v → v ≤ M + nums fl.length x * S + S := fun p hp hs v hv => by
        cases ew : x p.1 with
        | none => rw [ew] at hv; cases hv
        | some z =>
          rw [ew] at hv
          have h1 : ((z : Int) + p.2).toNat = v := Option.some.inj hv
          have h2 := ih p.1 z hp ew
          have h3 : z ≤ M + nums fl.length x * S := h2
          omega
      cases f with
      | amt a =>
        have ea : a = some u := ey.symm
        subst ea
        have := b.num u (List.mem_of_getElem? ef)
        omega
      | lo l =>
        obtain ⟨p, hp, ep⟩ := lo_at x fok.1
        rw [ep] at ey
        have := arc p (fok.2 p hp) (b.lo l (List.mem_of_getElem? ef) p hp) u ey.symm
        omega
      | hi l =>
        obtain ⟨p, hp, ep⟩ := hi_at x fok.1
        rw [ep] at ey
        have := arc p (fok.2 p hp) (b.hi l (List.mem_of_getElem? ef) p hp) u ey.symm
        omega
      | wh j' a k =>
        have e3 : (if am (some a) (x j') then x k else some 0) = some u := ey.symm
        by_cases c3 : am (some a) (x j') = true
        · rw [if_pos c3] at e3
          have h2 : u ≤ M + nums fl.length x * S := ih k u fok.2 e3
          omega
        · rw [if_neg c3] at e3
          have := Option.some.inj e3
          omega
include w b in
theorem gbound' (i j u : Nat) (hj : j < fl.length) (e : fn (iter (round fl) i (nones fl.length)) j = some u) : u ≤ M + fl.length * S := by
  have h1 := gbound w b i j u hj e
  have h2 : nums fl.length (fn (iter (round fl) i (nones fl.length))) * S ≤ fl.length * S := Nat.mul_le_mul_right S (nums_cap _ _)
  omega
include w b in
theorem gstops : ∀ i, round fl (iter (round fl) i (nones fl.length)) = iter (round fl) i (nones fl.length) ∨ i + wsum (M + fl.length * S) fl.length (fn (iter (round fl) i (nones fl.length))) ≤ fl.length * (M + fl.length * S + 1)
  | 0 => .inr (by have := wsum_cap (M + fl.length * S) fl.length (fn (iter (round fl) 0 (nones fl.length))); omega)
  | i + 1 => by
    have e : iter (round fl) (i + 1) (nones fl.length) = round fl (iter (round fl) i (nones fl.length)) := rfl
    by_cases c : round fl (iter (round fl) i (nones fl.length)) = iter (round fl) i (nones fl.length)
    · left; rw [e, c, c]
    · right
      rcases gstops i with z | z
      · exact absurd z c
      · have l1 := iter_len (fl := fl) (fun x => round_len fl x) nones_len i
        have := wsum_lt (B := M + fl.length * S) (gchain w i) (fun q => c (by
          refine list_eq ?_ fun j hj => ?_
          · rw [l1, round_len]
          · exact q j (by rw [round_len] at hj; exact hj))) (fun j hj u eu => gbound' w b (i + 1) j u hj eu)
        omega
include w b in
theorem gfixed (N : Nat) (h : fl.length * (M + fl.length * S + 1) < N) : round fl (iter (round fl) N (nones fl.length)) = iter (round fl) N (nones fl.length) := by
  rcases gstops w b N with z | z
  · exact z
  · omega
include w in
theorem ggreat {i : Nat} (e : round fl (iter (round fl) i (nones fl.length)) = iter (round fl) i (nones fl.length)) : IsGreat fl (fn (iter (round fl) i (nones fl.length))) := by
  have fix : ∀ j, j < fl.length → F fl (fn (iter (round fl) i (nones fl.length))) j = fn (iter (round fl) i (nones fl.length)) j := fun j hj => by
    rw [← round_fn hj, e]
  refine ⟨fun j hj => by rw [fix j hj]; exact Le.refl _, fun j hj => by rw [fix j hj]; exact Le.refl _, fun y hy => ?_⟩
  have above : ∀ k, LeN fl.length y (fn (iter (round fl) k (nones fl.length))) := by
    intro k
    induction k with
    | zero =>
      intro j hj
      show Le _ (fn (nones fl.length) j)
      unfold nones
      rw [fn_rep hj]; exact Le.top
    | succ k ih =>
      intro j hj
      show Le _ (fn (round fl _) j)
      rw [round_fn hj]
      exact Le.trans (hy j hj) (F_mono w ih j hj)
  exact above i
end
end CsM

set_option linter.all false
namespace CsM
/-! circles whose weights are below 0 -/
def Ar (A : List Arcs) (i : Nat) : Arcs := A.getD i []
theorem Ar_at {A : List Arcs} {i : Nat} {l : Arcs} (h : A[i]? = some l) : Ar A i = l := by
  unfold Ar; rw [List.getD_eq_getElem?_getD, h]; rfl
theorem Ar_lt {A : List Arcs} {i : Nat} {p : Nat × Int} (h : p ∈ Ar A i) : i < A.length := by
  refine Nat.lt_of_not_le fun c => ?_
  unfold Ar at h
  rw [List.getD_eq_getElem?_getD, List.getElem?_eq_none c] at h
  cases h
structure BFg (A : List Arcs) (w : Int → Int) (d : Nat → Int) (st : Nat → Option (Nat × Int)) (lc tm : Nat → Nat) (now r c k : Nat) (last : Option Nat) : Prop where
  none0 : ∀ i, st i = none → lc i = 0
  some1 : ∀ (i t : Nat) (s : Int), st i = some (t, s) → (t, s) ∈ Ar A i ∧ lc i ≤ lc t + 1 ∧ d t + w s ≤ d i ∧ (tm i ≤ tm t → d t + w s < d i)
  time : ∀ i, tm i ≤ now
  lcr : ∀ i, lc i ≤ r
  old : ∀ (i j t : Nat) (s : Int), (Ar A i)[j]? = some (t, s) → (d i ≤ d t + w s ∨ r ≤ lc t + 1)
  new : ∀ (i j t : Nat) (s : Int), (Ar A i)[j]? = some (t, s) → (i < c ∨ (i = c ∧ j < k)) → (d i ≤ d t + w s ∨ r ≤ lc t)
  quiet : last = none → ∀ (i j t : Nat) (s : Int), (Ar A i)[j]? = some (t, s) → (i < c ∨ (i = c ∧ j < k)) → d i ≤ d t + w s
  hot : ∀ i, last = some i → lc i = r ∧ i < A.length
def BF (A : List Arcs) (w : Int → Int) (d : Nat → Int) (st : Nat → Option (Nat × Int)) (r c k : Nat) (last : Option Nat) : Prop := ∃ lc tm now, BFg A w d st lc tm now r c k last
def put {α : Type} (f : Nat → α) (c : Nat) (v : α) (i : Nat) : α := if i = c then v else f i
theorem put_same {α : Type} (f : Nat → α) (c : Nat) (v : α) : put f c v c = v := if_pos rfl
theorem put_ne {α : Type} (f : Nat → α) {c i : Nat} (v : α) (h : i ≠ c) : put f c v i = f i := if_neg h
section
variable {A : List Arcs} {w : Int → Int} {d : Nat → Int} {st : Nat → Option (Nat × Int)} {r c k : Nat} {last : Option Nat}
theorem BF.start : BF A w (fun _ => 0) (fun _ => none) 1 0 0 none :=
  ⟨fun _ => 0, fun _ => 0, 0, fun _ _ => rfl, fun _ _ _ h => (by cases h), fun _ => Nat.le_refl _, fun _ => Nat.zero_le _, fun _ _ _ _ _ => .inr (Nat.le_refl _), fun _ _ _ _ _ h => (by omega), fun _ _ _ _ _ _ h => (by omega), fun _ h => (by cases h)⟩
theorem BF.no {t : Nat} {s : Int} (h : BF A w d st r c k last) (e : (Ar A c)[k]? = some (t, s)) (q : ¬ d t + w s < d c) : BF A w d st r c (k + 1) last := by
  obtain ⟨lc, tm, now, h⟩ := h
  refine ⟨lc, tm, now, h.none0, h.some1, h.time, h.lcr, h.old, fun i j t' s' e' hd => ?_, fun hl i j t' s' e' hd => ?_, h.hot⟩
  · by_cases z : i = c ∧ j = k
    · obtain ⟨rfl, rfl⟩ := z
      rw [e] at e'; cases e'
      exact .inl (by omega)
    · exact h.new i j t' s' e' (by omega)
  · by_cases z : i = c ∧ j = k
    · obtain ⟨rfl, rfl⟩ := z
      rw [e] at e'; cases e'
      omega
    · exact h.quiet hl i j t' s' e' (by omega)
theorem BF.yes {t : Nat} {s : Int} (h : BF A w d st r c k last) (e : (Ar A c)[k]? = some (t, s)) (q : d t + w s < d c) : BF A w (put d c (d t + w s)) (put st c (some (t, s))) r c (k + 1) (some c) := by
  obtain ⟨lc, tm, now, h⟩ := h
  have dle : ∀ i, put d c (d t + w s) i ≤ d i := fun i => by
    by_cases z : i = c
    · subst z; rw [put_same]; omega
    · rw [put_ne _ _ z]; omega
  refine ⟨put lc c r, put tm c (now + 1), now + 1, fun i hi => ?_, fun i t' s' hi => ?_, fun i => ?_, fun i => ?_, fun i j t' s' e' => ?_, fun i j t' s' e' hd => ?_, fun hl => (by cases hl), fun i hi => ?_⟩
  · by_cases z : i = c
    · subst z; rw [put_same] at hi; cases hi
    · rw [put_ne _ _ z] at hi ⊢; exact h.none0 i hi
  · by_cases z : i = c
    · subst z
      rw [put_same] at hi; cases hi
      refine ⟨List.mem_of_getElem? e, ?_, ?_, ?_⟩
      · rw [put_same]
        by_cases y : t = i
        · subst y; rw [put_same]; omega
        · rw [put_ne _ _ y]
          rcases h.old i k t s e with o | o <;> omega
      · rw [put_same]
        by_cases y : t = i
        · subst y; rw [put_same]; omega
        · rw [put_ne _ _ y]; omega
      · rw [put_same, put_same]
        by_cases y : t = i
        · subst y; rw [put_same, put_same]; omega
        · rw [put_ne _ _ y, put_ne _ _ y]
          have := h.time t
          omega
    · rw [put_ne _ _ z] at hi
      obtain ⟨h1, h2, h3, h4⟩ := h.some1 i t' s' hi
      rw [put_ne _ _ z, put_ne _ _ z, put_ne _ _ z]
      refine ⟨h1, ?_, ?_, ?_⟩
      · by_cases y : t' = c
        · subst y; rw [put_same]
          have := h.lcr i
          omega
        · rw [put_ne _ _ y]; exact h2
      · have := dle t'
        omega
      · by_cases y : t' = c
        · subst y; rw [put_same, put_same]; omega
        · rw [put_ne _ _ y, put_ne _ _ y]; exact h4
  · by_cases z : i = c
    · subst z; rw [put_same]; omega
    · rw [put_ne _ _ z]; have := h.time i; omega
  · by_cases z : i = c
    · subst z; rw [put_same]; omega
    · rw [put_ne _ _ z]; exact h.lcr i
  · by_cases y : t' = c
    · subst y; right; rw [put_same]; omega
    · rw [put_ne _ _ y, put_ne _ _ y]
      have := dle i
      rcases h.old i j t' s' e' with o | o
      · left; omega
      · right; exact o
  · by_cases y : t' = c
    · subst y; right; rw [put_same]; omega
    · rw [put_ne _ _ y, put_ne _ _ y]
      have := dle i
      by_cases z : i = c ∧ j = k
      · obtain ⟨rfl, rfl⟩ := z
        rw [e] at e'; cases e'
        left; rw [put_same]; omega
      · rcases h.new i j t' s' e' (by omega) with o | o
        · left; omega
        · right; exact o
  · cases hi
    exact ⟨put_same _ _ _, Ar_lt (List.mem_of_getElem? e)⟩
theorem BF.cell (h : BF A w d st r c k last) (hk : (Ar A c).length ≤ k) : BF A w d st r (c + 1) 0 last := by
  obtain ⟨lc, tm, now, h⟩ := h
  have key : ∀ (i j t : Nat) (s : Int), (Ar A i)[j]? = some (t, s) → (i < c + 1 ∨ (i = c + 1 ∧ j < 0)) → (i < c ∨ (i = c ∧ j < k)) := fun i j t s e hd => by
    have := lt_of e
    by_cases z : i = c
    · subst z; right; exact ⟨rfl, by omega⟩
    · left; omega
  exact ⟨lc, tm, now, h.none0, h.some1, h.time, h.lcr, h.old, fun i j t s e hd => h.new i j t s e (key i j t s e hd), fun hl i j t s e hd => h.quiet hl i j t s e (key i j t s e hd), h.hot⟩
theorem BF.next (h : BF A w d st r c k last) (hc : A.length ≤ c) : BF A w d st (r + 1) 0 0 none := by
  obtain ⟨lc, tm, now, h⟩ := h
  exact ⟨lc, tm, now, h.none0, h.some1, h.time, fun i => Nat.le_succ_of_le (h.lcr i), fun i j t s e => by
    have := Ar_lt (List.mem_of_getElem? e)
    rcases h.new i j t s e (.inl (by omega)) with o | o
    · exact .inl o
    · exact .inr (by omega), fun _ _ _ _ _ hd => by omega, fun _ _ _ _ _ _ hd => by omega, fun _ hl => by cases hl⟩
/-- nothing has changed: the dues are potentials -/
theorem BF.feas (h : BF A w d st r c k none) (hc : A.length ≤ c) : ∀ i t s, (t, s) ∈ Ar A i → d i ≤ d t + w s := fun i t s hm => by
  obtain ⟨lc, tm, now, h⟩ := h
  obtain ⟨j, e⟩ := List.mem_iff_getElem?.mp hm
  exact h.quiet rfl i j t s e (.inl (by have := Ar_lt hm; omega))
/-! ### along the steps -/
def nx (st : Nat → Option (Nat × Int)) (i : Nat) : Nat := match st i with
  | some (t, _) => t
  | none => i
def sOf (st : Nat → Option (Nat × Int)) (i : Nat) : Int := match st i with
  | some (_, s) => s
  | none => 0
theorem iter_add {α : Type} (f : α → α) (a : α) (m : Nat) : ∀ k, iter f (m + k) a = iter f k (iter f m a)
  | 0 => rfl
  | k + 1 => congrArg f (iter_add f a m k)
theorem BF.chase {l : Nat} (h : BF A w d st (A.length + 1) c k (some l)) (hA : ∀ i p, p ∈ Ar A i → p.1 < A.length) :
    (∀ m, iter (nx st) m l < A.length ∧ ∃ s, st (iter (nx st) m l) = some (iter (nx st) (m + 1) l, s)) ∧ ∃ p, 0 < p ∧ p ≤ A.length ∧ iter (nx st) p (iter (nx st) A.length l) = iter (nx st) A.length l := by
  obtain ⟨lc, tm, now, h⟩ := h
  have stp : ∀ i, 0 < lc i → ∃ s, st i = some (nx st i, s) ∧ lc i ≤ lc (nx st i) + 1 ∧ nx st i < A.length := fun i hi => by
    cases e : st i with
    | none => have := h.none0 i e; omega
    | some q =>
      obtain ⟨t, s⟩ := q
      have e2 : nx st i = t := by unfold nx; rw [e]
      obtain ⟨h1, h2, _, _⟩ := h.some1 i t s e
      rw [e2]
      exact ⟨s, rfl, h2, hA i _ h1⟩
  have low : ∀ m, m ≤ A.length → A.length + 1 ≤ lc (iter (nx st) m l) + m ∧ iter (nx st) m l < A.length := by
    intro m
    induction m with
    | zero => intro _; have := h.hot l rfl; exact ⟨by show _ ≤ lc l + 0; omega, this.2⟩
    | succ m ih =>
      intro hm
      obtain ⟨h1, h2⟩ := ih (by omega)
      obtain ⟨s, e1, e2, e3⟩ := stp (iter (nx st) m l) (by omega)
      exact ⟨by show _ ≤ lc (nx st (iter (nx st) m l)) + (m + 1); omega, e3⟩
  obtain ⟨a, b, hab, hb, e⟩ := pigeon (n := A.length) (fun m => iter (nx st) m l) (fun i hi => (low i hi).2)
  have back : ∀ m, ∃ m', m' ≤ A.length ∧ iter (nx st) m l = iter (nx st) m' l := by
    intro m
    induction m using Nat.strongRecOn with
    | _ m ih =>
      by_cases hm : m ≤ A.length
      · exact ⟨m, hm, rfl⟩
      · obtain ⟨m', h1, h2⟩ := ih (a + (m - b)) (by omega)
        refine ⟨m', h1, ?_⟩
        rw [← h2, show m = b + (m - b) by omega, iter_add]
        have e' : iter (nx st) b l = iter (nx st) a l := e.symm
        rw [e', ← iter_add]
        congr 1
        omega
  refine ⟨fun m => ?_, b - a, by omega, by omega, ?_⟩
  · obtain ⟨m', h1, h2⟩ := back m
    obtain ⟨h3, h4⟩ := low m' h1
    obtain ⟨s, e1, _, _⟩ := stp (iter (nx st) m' l) (by omega)
    refine ⟨by rw [h2]; exact h4, s, ?_⟩
    show st (iter (nx st) m l) = some (nx st (iter (nx st) m l), s)
    rw [h2]; exact e1
  · rw [← iter_add]
    have e' : iter (nx st) b l = iter (nx st) a l := e.symm
    rw [show A.length + (b - a) = b + (A.length - a) by omega, iter_add, e', ← iter_add]
    congr 1
    omega
/-- the circle's list, its first k entries -/
def circL (st : Nat → Option (Nat × Int)) (v k : Nat) : List (Nat × Int) := (List.range k).map fun m => (iter (nx st) m v, sOf st (iter (nx st) m v))
theorem circL_len (st : Nat → Option (Nat × Int)) (v k : Nat) : (circL st v k).length = k := by unfold circL; rw [List.length_map, List.length_range]
theorem circL_succ (st : Nat → Option (Nat × Int)) (v k : Nat) : circL st v (k + 1) = circL st v k ++ [(iter (nx st) k v, sOf st (iter (nx st) k v))] := by
  unfold circL; rw [List.range_succ, List.map_append]; rfl
theorem circL_at {v k m : Nat} (h : m < k) : (circL st v k)[m]? = some (iter (nx st) m v, sOf st (iter (nx st) m v)) := by
  unfold circL; rw [List.getElem?_map, List.getElem?_range h]; rfl
structure Circ (A : List Arcs) (l : List (Nat × Int)) : Prop where
  ne : 0 < l.length
  arc : ∀ k c s, l[k]? = some (c, s) → ∃ c' s', l[(k + 1) % l.length]? = some (c', s') ∧ (c', s) ∈ Ar A c
  sum : (l.map (·.2)).sum ≤ 0
theorem wsum_list (M n : Int) : ∀ l : List Int, (l.map fun s => M * (n * s - 1) + 1).sum = M * (n * l.sum - l.length) + l.length
  | [] => by simp
  | a :: r => by
    rw [List.map_cons, List.sum_cons, wsum_list M n r, List.sum_cons, List.length_cons, Int.mul_add n, Int.mul_sub M, Int.mul_sub M, Int.mul_sub M, Int.mul_add M]
    have e : ((r.length + 1 : Nat) : Int) = (r.length : Int) + 1 := by omega
    rw [e, Int.mul_add M]
    omega
theorem BF.circ {l q : Nat} (h : BF A (fun s => (A.length : Int) * s - 1) d st (A.length + 1) c k (some l)) (hA : ∀ i p, p ∈ Ar A i → p.1 < A.length) (q0 : 0 < q) (hq : q ≤ A.length)
    (e : iter (nx st) q (iter (nx st) A.length l) = iter (nx st) A.length l) : Circ A (circL st (iter (nx st) A.length l) q) := by
  obtain ⟨ch, _⟩ := h.chase hA
  obtain ⟨lc, tm, now, h⟩ := h
  have at_ : ∀ m, ∃ s, st (iter (nx st) m (iter (nx st) A.length l)) = some (iter (nx st) (m + 1) (iter (nx st) A.length l), s) ∧ sOf st (iter (nx st) m (iter (nx st) A.length l)) = s := fun m => by
    obtain ⟨_, s, es⟩ := ch (A.length + m)
    have e1 : iter (nx st) (A.length + m) l = iter (nx st) m (iter (nx st) A.length l) := iter_add _ _ _ _
    have e2 : iter (nx st) (A.length + m + 1) l = iter (nx st) (m + 1) (iter (nx st) A.length l) := iter_add _ _ A.length (m + 1)
    rw [e1, e2] at es
    exact ⟨s, es, by unfold sOf; rw [es]⟩
  generalize iter (nx st) A.length l = v at e at_
  refine ⟨by rw [circL_len]; exact q0, fun m cc s es => ?_, ?_⟩
  · have hm := lt_of es
    rw [circL_len] at hm
    rw [circL_at hm] at es
    have es' := Option.some.inj es
    obtain ⟨s1, e1, e2⟩ := at_ m
    have ec : iter (nx st) m v = cc := congrArg Prod.fst es'
    have ess : sOf st (iter (nx st) m v) = s := congrArg Prod.snd es'
    rw [e2] at ess
    subst ess
    have hm2 := (h.some1 _ _ _ e1).1
    rw [ec] at hm2
    refine ⟨iter (nx st) (m + 1) v, sOf st (iter (nx st) ((m + 1) % q) v), ?_, hm2⟩
    rw [circL_len, circL_at (Nat.mod_lt _ q0)]
    by_cases z : m + 1 < q
    · rw [Nat.mod_eq_of_lt z]
    · rw [show m + 1 = q by omega, Nat.mod_self, e]; rfl
  · -- the sum
    have stepD : ∀ (i t : Nat) (s : Int), st i = some (t, s) → ((now : Int) + 1) * d t + tm t + (((now : Int) + 1) * ((A.length : Int) * s - 1) + 1) ≤ ((now : Int) + 1) * d i + tm i := fun i t s hs => by
      obtain ⟨_, _, h3, h4⟩ := h.some1 i t s hs
      have ht := h.time t
      have h3' : d t + ((A.length : Int) * s - 1) ≤ d i := h3
      by_cases z : tm i ≤ tm t
      · have h5 : d t + ((A.length : Int) * s - 1) < d i := h4 z
        have h6 : ((now : Int) + 1) * (d t + ((A.length : Int) * s - 1) + 1) ≤ ((now : Int) + 1) * d i := Int.mul_le_mul_of_nonneg_left (by omega) (by omega)
        rw [Int.mul_add, Int.mul_add, Int.mul_one] at h6
        omega
      · have h6 : ((now : Int) + 1) * (d t + ((A.length : Int) * s - 1)) ≤ ((now : Int) + 1) * d i := Int.mul_le_mul_of_nonneg_left h3' (by omega)
        rw [Int.mul_add] at h6
        omega
    have tot : ∀ m, ((now : Int) + 1) * d (iter (nx st) m v) + tm (iter (nx st) m v) + (((circL st v m).map (·.2)).map fun s => ((now : Int) + 1) * ((A.length : Int) * s - 1) + 1).sum ≤ ((now : Int) + 1) * d v + tm v := by
      intro m
      induction m with
      | zero => show _ + ([] : List Int).sum ≤ _; rw [List.sum_nil]; exact Int.le_of_eq (Int.add_zero _)
      | succ m ih =>
        obtain ⟨s, e1, e2⟩ := at_ m
        have h1 := stepD _ _ _ e1
        rw [circL_succ, List.map_append, List.map_append, List.sum_append, e2]
        show _ + (_ + ([((now : Int) + 1) * ((A.length : Int) * s - 1) + 1] : List Int).sum) ≤ _
        rw [List.sum_cons, List.sum_nil]
        omega
    have h1 := tot q
    rw [e, wsum_list, List.length_map, circL_len] at h1
    generalize ((circL st v q).map (·.2)).sum = T at h1 ⊢
    have h2 : ((now : Int) + 1) * ((A.length : Int) * T - (q : Int)) + (q : Int) ≤ 0 := by omega
    refine Int.le_of_not_gt fun pos => ?_
    have h3 : (A.length : Int) * 1 ≤ (A.length : Int) * T := Int.mul_le_mul_of_nonneg_left (by omega) (by omega)
    have h4 : 0 ≤ ((now : Int) + 1) * ((A.length : Int) * T - (q : Int)) := Int.mul_nonneg (by omega) (by omega)
    omega
/-! ### the cell with 0 -/
def psum (l : List (Nat × Int)) (k : Nat) : Int := ((l.map (·.2)).take k).sum
theorem psum_succ {l : List (Nat × Int)} {k : Nat} {cc : Nat} {s : Int} (h : l[k]? = some (cc, s)) : psum l (k + 1) = psum l k + s := by
  unfold psum
  rw [List.take_add_one, List.getElem?_map, h]
  show ((l.map (·.2)).take k ++ [s]).sum = _
  rw [List.sum_append, List.sum_cons, List.sum_nil, Int.add_zero]
theorem psum_all (l : List (Nat × Int)) : psum l l.length = (l.map (·.2)).sum := by
  unfold psum; rw [List.take_of_length_le (by rw [List.length_map]; exact Nat.le_refl _)]
/-- found stands where the sums are greatest, of the first k -/
structure Best (l : List (Nat × Int)) (k : Nat) (best : Int) (found : Nat) : Prop where
  ex : ∃ m, m ≤ k ∧ psum l m = best ∧ (∀ j, j ≤ k → psum l j ≤ best) ∧ ∃ s, l[m % l.length]? = some (found, s)
theorem Best.start {l : List (Nat × Int)} {c : Nat} {s : Int} (h : l[0]? = some (c, s)) : Best l 0 0 c :=
  ⟨0, Nat.le_refl _, rfl, fun j hj => by rw [show j = 0 by omega]; exact Int.le_refl _, s, by rw [Nat.zero_mod]; exact h⟩
theorem Best.no {l : List (Nat × Int)} {k : Nat} {best : Int} {found : Nat} (b : Best l k best found) (q : ¬ psum l (k + 1) > best) : Best l (k + 1) best found := by
  obtain ⟨m, h1, h2, h3, h4⟩ := b
  exact ⟨m, by omega, h2, fun j hj => by
    by_cases z : j = k + 1
    · subst z; omega
    · exact h3 j (by omega), h4⟩
theorem Best.yes {l : List (Nat × Int)} {k : Nat} {best : Int} {found c : Nat} {s : Int} (b : Best l k best found) (q : psum l (k + 1) > best) (e : l[(k + 1) % l.length]? = some (c, s)) : Best l (k + 1) (psum l (k + 1)) c := by
  obtain ⟨m, h1, h2, h3, h4⟩ := b
  exact ⟨k + 1, Nat.le_refl _, rfl, fun j hj => by
    by_cases z : j = k + 1
    · subst z; omega
    · have := h3 j (by omega); omega, s, e⟩
theorem Best.arc {l : List (Nat × Int)} {k : Nat} {best : Int} {found : Nat} (b : Best l k best found) (C : Circ A l) : ∃ p, p ∈ Ar A found := by
  obtain ⟨m, h1, h2, h3, s, h4⟩ := b
  obtain ⟨c', s', _, h5⟩ := C.arc _ _ _ h4
  exact ⟨_, h5⟩
theorem zero_cell {fl : List Fm} (w : Wf fl) {x : Nat → Am} (h : IsLeast fl x) {l : List (Nat × Int)} (C : Circ A l) (hA : ∀ c p, p ∈ Ar A c → ∃ a, fl[c]? = some (.lo a) ∧ p ∈ a)
    {best : Int} {found : Nat} (b : Best l l.length best found) : x found = some 0 := by
  obtain ⟨m, h1, h2, h3, s0, h4⟩ := b
  have p0 : psum l 0 = 0 := rfl
  have pL : psum l l.length ≤ 0 := by rw [psum_all]; exact C.sum
  -- y: no more than the circle tells
  have ex : ∀ i, ∃ v, (v = x i ∨ ∃ k s, l[k]? = some (i, s) ∧ v = some (best - psum l k).toNat) ∧ ∀ a, (a = x i ∨ ∃ k s, l[k]? = some (i, s) ∧ a = some (best - psum l k).toNat) → Le v a :=
    fun i => inf_of _ ⟨x i, .inl rfl⟩
  let y : Nat → Am := fun i => Classical.choose (ex i)
  have y1 : ∀ i, (y i = x i ∨ ∃ k s, l[k]? = some (i, s) ∧ y i = some (best - psum l k).toNat) := fun i => (Classical.choose_spec (ex i)).1
  have y2 : ∀ i a, (a = x i ∨ ∃ k s, l[k]? = some (i, s) ∧ a = some (best - psum l k).toNat) → Le (y i) a := fun i => (Classical.choose_spec (ex i)).2
  have yx : LeN fl.length y x := fun i _ => y2 i _ (.inl rfl)
  have pre : Pre fl y := fun i hi => by
    rcases y1 i with e | ⟨k, s, ek, e⟩
    · rw [e]
      exact Le.trans (F_mono w yx i hi) (h.pre i hi)
    · obtain ⟨c', s', ec, hm⟩ := C.arc k i s ek
      obtain ⟨a, ea, ha⟩ := hA i _ hm
      rw [F_at ea, e]
      refine Le.trans (lo_le ha) (Le.trans (sh_mono s (y2 c' _ (.inr ⟨_, s', ec, rfl⟩))) ?_)
      have hk := lt_of ek
      have b1 := h3 k (by omega)
      have b3 := h3 0 (Nat.zero_le _)
      have b4 := psum_succ ek
      refine Le.nn.mpr ?_
      by_cases z : k + 1 < l.length
      · rw [Nat.mod_eq_of_lt z]
        have b2 := h3 (k + 1) (by omega)
        omega
      · rw [show k + 1 = l.length by omega, Nat.mod_self]
        rw [show k + 1 = l.length by omega] at b4
        omega
  have f1 : Le (x found) (y found) := by
    obtain ⟨c', s', _, hm⟩ := C.arc _ _ _ h4
    obtain ⟨a, ea, _⟩ := hA found _ hm
    exact h.least y pre found (lt_of ea)
  have f2 : Le (y found) (some (best - psum l (m % l.length)).toNat) := y2 found _ (.inr ⟨_, s0, h4, rfl⟩)
  have f3 : (best - psum l (m % l.length)).toNat = 0 := by
    by_cases z : m < l.length
    · rw [Nat.mod_eq_of_lt z, h2]; omega
    · rw [show m = l.length by omega, Nat.mod_self]
      rw [show m = l.length by omega] at h2
      omega
  rw [f3] at f2
  exact Le.anti (Le.trans f1 f2) Le.zero
end
end CsM

set_option linter.all false
namespace CsM
/-! the least solution of a plain sheet: rounds down, better choices -/
def Plain (pl : List Fm) : Prop := ∀ f ∈ pl, ∀ j a k, f ≠ .wh j a k
def told (f : Fm) (c : Nat) : Arcs := match f with
  | .hi l => [l.getD c (0, 0)]
  | .lo l => l
  | .wh _ _ k => [(k, 0)]
  | .amt _ => []
def minF (f : Fm) (c : Nat) : Fm := match f with
  | .hi l => .lo [l.getD c (0, 0)]
  | f => f
def chn (ch : List (Option Nat)) (i : Nat) : Nat := (ch.getD i none).getD 0
def fat (pl : List Fm) (i : Nat) : Fm := pl.getD i (.amt none)
theorem fat_at {pl : List Fm} {i : Nat} {f : Fm} (h : pl[i]? = some f) : fat pl i = f := by unfold fat; rw [List.getD_eq_getElem?_getD, h]; rfl
theorem at_fat {pl : List Fm} {i : Nat} (h : i < pl.length) : pl[i]? = some (fat pl i) := by
  obtain ⟨f, e⟩ := at_of h
  rw [e, fat_at e]
def tolds (pl : List Fm) (ch : List (Option Nat)) : List Arcs := (List.range pl.length).map fun i => told (fat pl i) (chn ch i)
def msheet (pl : List Fm) (ch : List (Option Nat)) : List Fm := (List.range pl.length).map fun i => minF (fat pl i) (chn ch i)
def opens (A : List Arcs) (N : List Nat) : List Arcs := (List.range A.length).map fun i => if i ∈ N then [] else Ar A i
theorem msheet_len (pl : List Fm) (ch : List (Option Nat)) : (msheet pl ch).length = pl.length := by unfold msheet; rw [List.length_map, List.length_range]
theorem tolds_len (pl : List Fm) (ch : List (Option Nat)) : (tolds pl ch).length = pl.length := by unfold tolds; rw [List.length_map, List.length_range]
theorem opens_len (A : List Arcs) (N : List Nat) : (opens A N).length = A.length := by unfold opens; rw [List.length_map, List.length_range]
theorem msheet_at {pl : List Fm} {ch : List (Option Nat)} {i : Nat} {f : Fm} (h : pl[i]? = some f) : (msheet pl ch)[i]? = some (minF f (chn ch i)) := by
  unfold msheet; rw [List.getElem?_map, List.getElem?_range (lt_of h)]
  show some (minF (fat pl i) _) = _
  rw [fat_at h]
theorem tolds_at {pl : List Fm} {ch : List (Option Nat)} {i : Nat} {f : Fm} (h : pl[i]? = some f) : (tolds pl ch)[i]? = some (told f (chn ch i)) := by
  unfold tolds; rw [List.getElem?_map, List.getElem?_range (lt_of h)]
  show some (told (fat pl i) _) = _
  rw [fat_at h]
theorem opens_at {A : List Arcs} {N : List Nat} {i : Nat} (h : i < A.length) : (opens A N)[i]? = some (if i ∈ N then [] else Ar A i) := by
  unfold opens; rw [List.getElem?_map, List.getElem?_range h]; rfl
theorem Ar_opens {A : List Arcs} {N : List Nat} {i : Nat} {p : Nat × Int} (h : p ∈ Ar (opens A N) i) : i ∉ N ∧ p ∈ Ar A i := by
  have hi := Ar_lt h
  rw [opens_len] at hi
  rw [Ar_at (opens_at hi)] at h
  by_cases c : i ∈ N
  · rw [if_pos c] at h; cases h
  · rw [if_neg c] at h; exact ⟨c, h⟩
def ChF (f : Fm) (o : Option Nat) : Prop := match f with
  | .hi l => ∃ k, o = some k ∧ k < l.length
  | _ => o = none
structure ChOk (pl : List Fm) (ch : List (Option Nat)) : Prop where
  len : ch.length = pl.length
  at_ : ∀ (i : Nat) (f : Fm), pl[i]? = some f → ∃ o, ch[i]? = some o ∧ ChF f o
theorem chn_at {ch : List (Option Nat)} {i k : Nat} (h : ch[i]? = some (some k)) : chn ch i = k := by unfold chn; rw [List.getD_eq_getElem?_getD, h]; rfl
theorem getD_at {α : Type} {l : List α} {i : Nat} {a d : α} (h : l[i]? = some a) : l.getD i d = a := by rw [List.getD_eq_getElem?_getD, h]; rfl
theorem ChOk.hi {pl : List Fm} {ch : List (Option Nat)} (h : ChOk pl ch) {i : Nat} {l : Arcs} (e : pl[i]? = some (.hi l)) : ∃ k p, ch[i]? = some (some k) ∧ l[k]? = some p ∧ chn ch i = k ∧ minF (.hi l) (chn ch i) = .lo [p] ∧ told (.hi l) (chn ch i) = [p] := by
  obtain ⟨o, h1, k, h2, h3⟩ := h.at_ i _ e
  subst h2
  obtain ⟨p, ep⟩ := at_of h3
  have e2 := chn_at h1
  exact ⟨k, p, h1, ep, e2, by rw [e2]; show Fm.lo [l.getD k (0, 0)] = _; rw [getD_at ep], by rw [e2]; show [l.getD k (0, 0)] = _; rw [getD_at ep]⟩
theorem msheet_wf {pl : List Fm} (w : Wf pl) {ch : List (Option Nat)} (h : ChOk pl ch) : Wf (msheet pl ch) := fun f hf => by
  rw [msheet_len]
  obtain ⟨i, e⟩ := List.mem_iff_getElem?.mp hf
  have hi := lt_of e
  rw [msheet_len] at hi
  obtain ⟨g, eg⟩ := at_of hi
  rw [msheet_at eg] at e
  have wg := w.at eg
  cases g with
  | hi l =>
    obtain ⟨k, p, _, ep, _, em, _⟩ := h.hi eg
    rw [em] at e; cases e
    exact ⟨by simp, fun q hq => by
      rw [List.mem_singleton.mp hq]
      exact wg.2 p (List.mem_of_getElem? ep)⟩
  | lo l => cases e; exact wg
  | amt a => cases e; exact trivial
  | wh j a k => cases e; exact wg
theorem msheet_bd {pl : List Fm} {M S : Nat} (b : Bd pl M S) {ch : List (Option Nat)} (h : ChOk pl ch) : Bd (msheet pl ch) M S := by
  have key : ∀ g, g ∈ msheet pl ch → ∃ i f, pl[i]? = some f ∧ g = minF f (chn ch i) := fun g hg => by
    obtain ⟨i, e⟩ := List.mem_iff_getElem?.mp hg
    have hi := lt_of e
    rw [msheet_len] at hi
    obtain ⟨f, ef⟩ := at_of hi
    rw [msheet_at ef] at e
    exact ⟨i, f, ef, (Option.some.inj e).symm⟩
  refine ⟨fun a ha => ?_, fun l hl p hp => ?_, fun l hl p hp => ?_⟩
  · obtain ⟨i, f, ef, e⟩ := key _ ha
    cases f with
    | amt a' => cases e; exact b.num a (List.mem_of_getElem? ef)
    | hi l => cases e
    | lo l => cases e
    | wh j a k => cases e
  · obtain ⟨i, f, ef, e⟩ := key _ hl
    cases f with
    | amt a' => cases e
    | lo l' => cases e; exact b.lo l (List.mem_of_getElem? ef) p hp
    | wh j a k => cases e
    | hi l' =>
      obtain ⟨k, q, _, eq, _, em, _⟩ := h.hi ef
      rw [em] at e; cases e
      rw [List.mem_singleton.mp hp]
      exact b.hi l' (List.mem_of_getElem? ef) q (List.mem_of_getElem? eq)
  · obtain ⟨i, f, ef, e⟩ := key _ hl
    cases f with
    | amt a' => cases e
    | lo l' => cases e
    | wh j a k => cases e
    | hi l' => cases e
/-! ### rounds down -/
structure Att (x : Nat → Am) (rk : Nat → Nat) (n c : Nat) (p : Nat × Int) : Prop where
  eq : sh (x p.1) p.2 = x c
  lt : rk p.1 < rk c
  fin : x p.1 ≠ none
  ltn : p.1 < n
structure RDH (pl : List Fm) (A : Nat → Arcs) (N : List Nat) (x : Nat → Am) (rk : Nat → Nat) : Prop where
  rkb : ∀ i, i < pl.length → rk i < pl.length
  nought : ∀ i, i < pl.length → i ∈ N → x i = some 0
  amt : ∀ (i : Nat) (a : Am), pl[i]? = some (.amt a) → x i = a
  le : ∀ (i : Nat) (p : Nat × Int), i < pl.length → p ∈ A i → p.1 < pl.length ∧ Le (x i) (sh (x p.1) p.2)
  att : ∀ (i : Nat) (f : Fm), pl[i]? = some f → i ∉ N → (∀ a, f ≠ .amt a) → x i ≠ none → ∃ p, p ∈ A i ∧ Att x rk pl.length i p
structure RD (n : Nat) (x : Nat → Am) (rk : Nat → Nat) (z : List Am) (r c : Nat) : Prop where
  len : z.length = n
  ge : ∀ i, i < n → Le (x i) (fn z i)
  eq : ∀ i, i < n → x i ≠ none → (rk i < r ∨ (rk i < r + 1 ∧ i < c)) → fn z i = x i
/-- within cell c, k arcs are through -/
structure RDi (n : Nat) (x : Nat → Am) (rk : Nat → Nat) (A : Nat → Arcs) (z : List Am) (r c k : Nat) : Prop where
  rd : RD n x rk z r c
  at_ : x c ≠ none → rk c < r + 1 → ∀ (j : Nat) (p : Nat × Int), j < k → (A c)[j]? = some p → Att x rk n c p → fn z c = x c
section
variable {pl : List Fm} {A : Nat → Arcs} {N : List Nat} {x : Nat → Am} {rk : Nat → Nat} {z : List Am} {r c k : Nat}
theorem RD.start : RD pl.length x rk (nones pl.length) 0 0 :=
  ⟨nones_len, fun i hi => by unfold nones; rw [fn_rep hi]; exact Le.top, fun i hi _ h => by omega⟩
/-- z's cell c is stored what it is in x -/
theorem RD.put {n : Nat} (h : RD n x rk z r c) (hc : c < n) {a : Am} (e : a = x c) : RD n x rk (z.set c a) r (c + 1) := by
  have hz : c < z.length := by rw [h.len]; exact hc
  refine ⟨by rw [List.length_set]; exact h.len, fun i hi => ?_, fun i hi hf hr => ?_⟩
  · rw [fn_set hz]
    by_cases y : i = c
    · rw [if_pos y, e, y]; exact Le.refl _
    · rw [if_neg y]; exact h.ge i hi
  · rw [fn_set hz]
    by_cases y : i = c
    · rw [if_pos y, e, y]
    · rw [if_neg y]; exact h.eq i hi hf (by omega)
theorem RDi.start {n : Nat} (h : RD n x rk z r c) : RDi n x rk A z r c 0 := ⟨h, fun _ _ j p hj => by omega⟩
theorem RDi.no {p : Nat × Int} (H : RDH pl A N x rk) (h : RDi pl.length x rk A z r c k) (hc : c < pl.length) (e : (A c)[k]? = some p) (q : ¬ Le (sh (fn z p.1) p.2) (fn z c)) : RDi pl.length x rk A z r c (k + 1) := by
  refine ⟨h.rd, fun hf hr j p' hj e' ha => ?_⟩
  by_cases y : j = k
  · subst y
    rw [e] at e'; cases e'
    have hm := H.le c p hc (List.mem_of_getElem? e)
    have et : fn z p.1 = x p.1 := h.rd.eq p.1 ha.ltn ha.fin (.inl (by have := ha.lt; omega))
    rw [et, ha.eq] at q
    exact Le.anti (Le.of_not q) (h.rd.ge c hc)
  · exact h.at_ hf hr j p' (by omega) e' ha
theorem RDi.yes {p : Nat × Int} (H : RDH pl A N x rk) (h : RDi pl.length x rk A z r c k) (hc : c < pl.length) (e : (A c)[k]? = some p) (q : Le (sh (fn z p.1) p.2) (fn z c)) : RDi pl.length x rk A (z.set c (sh (fn z p.1) p.2)) r c (k + 1) := by
  have hz : c < z.length := by rw [h.rd.len]; exact hc
  obtain ⟨hp, hm⟩ := H.le c p hc (List.mem_of_getElem? e)
  have low : Le (x c) (sh (fn z p.1) p.2) := Le.trans hm (sh_mono _ (h.rd.ge p.1 hp))
  refine ⟨⟨by rw [List.length_set]; exact h.rd.len, fun i hi => ?_, fun i hi hf hr => ?_⟩, fun hf hr j p' hj e' ha => ?_⟩
  · rw [fn_set hz]
    by_cases y : i = c
    · rw [if_pos y, y]; exact low
    · rw [if_neg y]; exact h.rd.ge i hi
  · rw [fn_set hz]
    by_cases y : i = c
    · rw [if_pos y, y]
      subst y
      have := h.rd.eq i hi hf hr
      rw [this] at q
      exact Le.anti q low
    · rw [if_neg y]; exact h.rd.eq i hi hf hr
  · rw [fn_set hz, if_pos rfl]
    by_cases y : j = k
    · subst y
      rw [e] at e'; cases e'
      have et : fn z p.1 = x p.1 := h.rd.eq p.1 ha.ltn ha.fin (.inl (by have := ha.lt; omega))
      rw [et, ha.eq]
    · have := h.at_ hf hr j p' (by omega) e' ha
      rw [this] at q
      exact Le.anti q low
theorem RDi.done {f : Fm} (H : RDH pl A N x rk) (h : RDi pl.length x rk A z r c (A c).length) (e : pl[c]? = some f) (hN : c ∉ N) (hf : ∀ a, f ≠ .amt a) : RD pl.length x rk z r (c + 1) := by
  refine ⟨h.rd.len, h.rd.ge, fun i hi hx hr => ?_⟩
  by_cases y : i = c
  · subst y
    by_cases y2 : rk i < r
    · exact h.rd.eq i hi hx (.inl y2)
    · obtain ⟨p, hp, ha⟩ := H.att i f e hN hf hx
      obtain ⟨j, ej⟩ := List.mem_iff_getElem?.mp hp
      exact h.at_ hx (by omega) j p (lt_of ej) ej ha
  · exact h.rd.eq i hi hx (by omega)
theorem RD.next {n : Nat} (h : RD n x rk z r n) : RD n x rk z (r + 1) 0 := ⟨h.len, h.ge, fun i hi hf hr => h.eq i hi hf (.inr ⟨by omega, hi⟩)⟩
theorem RD.all (H : RDH pl A N x rk) (h : RD pl.length x rk z (pl.length + 1) 0) : ∀ i, i < pl.length → fn z i = x i := fun i hi => by
  by_cases c : x i = none
  · have := h.ge i hi
    rw [c] at this ⊢
    cases e : fn z i with
    | none => rfl
    | some u => rw [e] at this; exact absurd this Le.ns
  · exact h.eq i hi c (.inl (by have := H.rkb i hi; omega))
end
/-- behind the last circle: what the rounds lean on -/
theorem rdh_of {pl : List Fm} (w : Wf pl) (pn : Plain pl) {ch : List (Option Nat)} (hc : ChOk pl ch) {x : Nat → Am} (h : IsLeast (msheet pl ch) x) {N : List Nat} (hN : ∀ i, i < pl.length → i ∈ N → x i = some 0) {d : Nat → Int}
    (hd : ∀ i t s, (t, s) ∈ Ar (opens (tolds pl ch) N) i → d i ≤ d t + ((pl.length : Int) * s - 1)) : ∃ rk, RDH pl (Ar (tolds pl ch)) N x rk := by
  let φ : Nat → Int := fun i => (pl.length : Int) * (((x i).getD 0 : Nat) : Int) - d i
  have arcs : ∀ i f, pl[i]? = some f → (∀ a, f ≠ .amt a) → ∃ l, l ≠ [] ∧ (msheet pl ch)[i]? = some (.lo l) ∧ Ar (tolds pl ch) i = l ∧ ∀ p ∈ l, p.1 < pl.length := fun i f e ha => by
    have e1 := msheet_at (ch := ch) e
    have e2 := tolds_at (ch := ch) e
    have wf := w.at e
    cases f with
    | amt a => exact absurd rfl (ha a)
    | wh j a k => exact absurd rfl (pn _ (List.mem_of_getElem? e) j a k)
    | lo l => exact ⟨l, wf.1, e1, Ar_at e2, wf.2⟩
    | hi l =>
      obtain ⟨k, p, _, ep, _, em, et⟩ := hc.hi e
      rw [em] at e1
      rw [et] at e2
      exact ⟨[p], by simp, e1, Ar_at e2, fun q hq => by rw [List.mem_singleton.mp hq]; exact wf.2 p (List.mem_of_getElem? ep)⟩
  refine ⟨rank pl.length φ, fun i hi => rank_bd hi, hN, fun i a e => ?_, fun i p hi hp => ?_, fun i f e hn hf hx => ?_⟩
  · exact h.fix (msheet_at (ch := ch) e)
  · obtain ⟨f, e⟩ := at_of hi
    by_cases ha : ∀ a, f ≠ .amt a
    · obtain ⟨l, l0, e1, e2, e3⟩ := arcs i f e ha
      rw [e2] at hp
      refine ⟨e3 p hp, ?_⟩
      rw [h.fix e1]
      exact lo_le hp
    · have ⟨a, ea⟩ : ∃ a, f = .amt a := Classical.byContradiction fun q => ha fun a ea => q ⟨a, ea⟩
      subst ea
      rw [Ar_at (tolds_at (ch := ch) e)] at hp
      cases hp
  · obtain ⟨l, l0, e1, e2, e3⟩ := arcs i f e hf
    obtain ⟨p, hp, ep⟩ := lo_at x l0
    have ex := h.fix e1
    rw [ep] at ex
    have fin : x p.1 ≠ none := fun z => by rw [z] at ex; exact hx ex
    refine ⟨p, by rw [e2]; exact hp, ex.symm, rank_lt (e3 p hp) ?_, fin, e3 p hp⟩
    have hm : (p.1, p.2) ∈ Ar (opens (tolds pl ch) N) i := by
      have hi := lt_of e
      rw [Ar_at (opens_at (by rw [tolds_len]; exact hi)), if_neg hn, e2]; exact hp
    have hdp := hd i p.1 p.2 hm
    cases et : x p.1 with
    | none => exact absurd et fin
    | some v =>
      rw [et] at ex
      have ex' : x i = some ((v : Int) + p.2).toNat := ex
      show (pl.length : Int) * (((x p.1).getD 0 : Nat) : Int) - d p.1 < (pl.length : Int) * (((x i).getD 0 : Nat) : Int) - d i
      rw [et, ex']
      show (pl.length : Int) * (v : Int) - d p.1 < (pl.length : Int) * ((((v : Int) + p.2).toNat : Nat) : Int) - d i
      have h1 : (pl.length : Int) * ((v : Int) + p.2) ≤ (pl.length : Int) * ((((v : Int) + p.2).toNat : Nat) : Int) := Int.mul_le_mul_of_nonneg_left (Int.self_le_toNat _) (by omega)
      rw [Int.mul_add] at h1
      omega
/-! ### better choices -/
theorem exists_max (Pd : Nat → Prop) (f : Nat → Am) : ∀ n, (∃ i, i < n ∧ Pd i) → ∃ m, m < n ∧ Pd m ∧ ∀ j, j < n → Pd j → Le (f j) (f m)
  | 0, ⟨_, h, _⟩ => absurd h (Nat.not_lt_zero _)
  | n + 1, h => by
    by_cases c : ∃ i, i < n ∧ Pd i
    · obtain ⟨m, h1, h2, h3⟩ := exists_max Pd f n c
      by_cases y : Pd n ∧ ¬ Le (f n) (f m)
      · refine ⟨n, by omega, y.1, fun j hj pj => ?_⟩
        by_cases e : j = n
        · subst e; exact Le.refl _
        · exact Le.trans (h3 j (by omega) pj) (Le.of_not y.2)
      · refine ⟨m, by omega, h2, fun j hj pj => ?_⟩
        by_cases e : j = n
        · subst e; exact Classical.byContradiction fun q => y ⟨pj, q⟩
        · exact h3 j (by omega) pj
    · obtain ⟨i, hi, pi⟩ := h
      have e : i = n := Classical.byContradiction fun q => c ⟨i, by omega, pi⟩
      subst e
      refine ⟨i, by omega, pi, fun j hj pj => ?_⟩
      have e : j = i := Classical.byContradiction fun q => c ⟨j, by omega, pj⟩
      subst e; exact Le.refl _
def dl : Am → Am → Am
  | none, some _ => none
  | some u, some v => some (u - v)
  | _, none => some 0
theorem dl_le {a a' b b' : Am} {s : Int} (e : a' = sh b' s) (h : Le a (sh b s)) (n : ¬ Le a a') : ¬ Le b b' ∧ Le (dl a a') (dl b b') := by
  subst e
  cases b' with
  | none => exact absurd Le.top n
  | some w' =>
    cases b with
    | none => exact ⟨Le.ns, Le.top⟩
    | some w =>
      cases a with
      | none => exact absurd h Le.ns
      | some v =>
        have h1 : v ≤ ((w : Int) + s).toNat := Le.nn.mp h
        have h2 : ¬ v ≤ ((w' : Int) + s).toNat := fun q => n (Le.nn.mpr q)
        exact ⟨fun q => by have := Le.nn.mp q; omega, Le.nn.mpr (by omega)⟩
theorem dl_lt {a a' b b' : Am} {s : Int} (e : a' = sh b' s) (h : ¬ Le (sh b s) a) (n : ¬ Le a a') : ¬ Le b b' ∧ ¬ Le (dl b b') (dl a a') := by
  subst e
  cases b' with
  | none => exact absurd Le.top n
  | some w' =>
    cases a with
    | none => exact absurd Le.top h
    | some v =>
      have h2 : ¬ v ≤ ((w' : Int) + s).toNat := fun q => n (Le.nn.mpr q)
      cases b with
      | none => exact ⟨Le.ns, Le.ns⟩
      | some w =>
        have h1 : ¬ ((w : Int) + s).toNat ≤ v := fun q => h (Le.nn.mpr q)
        exact ⟨fun q => by have := Le.nn.mp q; omega, fun q => by have q2 : w - w' ≤ v - ((w' : Int) + s).toNat := Le.nn.mp q; omega⟩
/-- b is ch, or better than it, at each cell -/
def Imp (pl : List Fm) (ch b : List (Option Nat)) (x : Nat → Am) : Prop := ∀ (i : Nat) (l : Arcs), pl[i]? = some (.hi l) → b[i]? = ch[i]? ∨ ∃ k p, b[i]? = some (some k) ∧ l[k]? = some p ∧ ¬ Le (sh (x p.1) p.2) (x i)
section
variable {pl : List Fm} (w : Wf pl) (pn : Plain pl) {ch b : List (Option Nat)} (hc : ChOk pl ch) (hb : ChOk pl b) {x x' : Nat → Am}
include w pn hc hb in
theorem pol_up (h : IsLeast (msheet pl ch) x) (h' : IsLeast (msheet pl b) x') (im : Imp pl ch b x) : LeN pl.length x x' := by
  refine Classical.byContradiction fun no => ?_
  have ex : ∃ i, i < pl.length ∧ ¬ Le (x i) (x' i) := Classical.byContradiction fun q => no fun i hi => Classical.byContradiction fun z => q ⟨i, hi, z⟩
  obtain ⟨m, hm, bm, mx⟩ := exists_max (fun i => ¬ Le (x i) (x' i)) (fun i => dl (x i) (x' i)) _ ex
  let Bs : Nat → Prop := fun j => ¬ Le (x j) (x' j) ∧ Le (dl (x m) (x' m)) (dl (x j) (x' j))
  have dec : ∀ j, Decidable (Bs j) := fun j => Classical.propDecidable _
  let y : Nat → Am := fun j => @ite _ (Bs j) (dec j) (x' j) (x j)
  have y1 : ∀ j, Bs j → y j = x' j := fun j hj => by show @ite _ (Bs j) (dec j) (x' j) (x j) = _; rw [if_pos hj]
  have y2 : ∀ j, ¬ Bs j → y j = x j := fun j hj => by show @ite _ (Bs j) (dec j) (x' j) (x j) = _; rw [if_neg hj]
  have yx : LeN (msheet pl ch).length y x := fun j hj => by
    by_cases c : Bs j
    · rw [y1 j c]; exact Le.of_not c.1
    · rw [y2 j c]; exact Le.refl _
  have pre : Pre (msheet pl ch) y := fun j hj => by
    by_cases c : Bs j
    · rw [y1 j c]
      have hj' := hj
      rw [msheet_len] at hj'
      obtain ⟨f, e⟩ := at_of hj'
      have e1 := msheet_at (ch := ch) e
      have e2 := msheet_at (ch := b) e
      have fx := h.fix e1
      have fx' := h'.fix e2
      have wf := w.at e
      -- an arc of both sheets, at which x' is attained
      have arc : ∀ p : Nat × Int, p.1 < pl.length → x' j = sh (x' p.1) p.2 → Le (x j) (sh (x p.1) p.2) → y p.1 = x' p.1 := fun p hp q1 q2 => by
        obtain ⟨n1, n2⟩ := dl_le q1 q2 c.1
        exact y1 _ ⟨n1, Le.trans c.2 n2⟩
      rw [F_at e1]
      cases f with
      | wh j a k => exact absurd rfl (pn _ (List.mem_of_getElem? e) j a k)
      | amt a =>
        have q1 : x j = a := fx
        have q2 : x' j = a := fx'
        show Le a (x' j)
        rw [q2]; exact Le.refl _
      | lo l =>
        have q1 : x j = val (.lo l) x := fx
        have q2 : x' j = val (.lo l) x' := fx'
        obtain ⟨p, hp, ep⟩ := lo_at x' wf.1
        have q3 := arc p (wf.2 p hp) (q2.trans ep) (by rw [q1]; exact lo_le hp)
        rw [q2, ep, ← q3]
        exact lo_le hp
      | hi l =>
        obtain ⟨k, p, k1, k2, k3, k4, _⟩ := hc.hi e
        obtain ⟨k', p', k1', k2', k3', k4', _⟩ := hb.hi e
        rw [k4] at fx ⊢
        rw [k4'] at fx'
        have one : ∀ (p : Nat × Int) (z : Nat → Am), val (.lo [p]) z = sh (z p.1) p.2 := fun p z => by
          obtain ⟨q, hq, eq⟩ := lo_at z (l := [p]) (by simp)
          rw [eq, List.mem_singleton.mp hq]
        rw [one] at fx fx' ⊢
        rcases im j l e with z | ⟨k2', p2, z1, z2, z3⟩
        · rw [k1, k1'] at z
          have z' : k' = k := Option.some.inj (Option.some.inj z)
          subst z'
          rw [k2] at k2'; cases k2'
          have q3 := arc p (wf.2 p (List.mem_of_getElem? k2)) fx' (by rw [fx]; exact Le.refl _)
          rw [q3, ← fx']; exact Le.refl _
        · rw [k1'] at z1
          have z' : k' = k2' := Option.some.inj (Option.some.inj z1)
          subst z'
          rw [k2'] at z2; cases z2
          obtain ⟨n1, n2⟩ := dl_lt fx' z3 c.1
          exact absurd (Le.trans (mx _ (wf.2 p' (List.mem_of_getElem? k2')) n1) c.2) n2
    · rw [y2 j c]
      exact Le.trans (F_mono (msheet_wf w hc) yx j hj) (h.pre j hj)
  have z := h.least y pre m (by rw [msheet_len]; exact hm)
  rw [y1 m ⟨bm, Le.refl _⟩] at z
  exact bm z
theorem one_arc (p : Nat × Int) (z : Nat → Am) : val (.lo [p]) z = sh (z p.1) p.2 := by
  obtain ⟨q, hq, eq⟩ := lo_at z (l := [p]) (by simp)
  rw [eq, List.mem_singleton.mp hq]
include w pn hc hb in
theorem pol_ne (h : IsLeast (msheet pl ch) x) (h' : IsLeast (msheet pl b) x') (im : Imp pl ch b x) (ne : b ≠ ch) : ¬ ∀ i, i < pl.length → x i = x' i := fun eq => by
  refine ne ?_
  apply List.ext_getElem? ; intro i
  by_cases hi : i < pl.length
  · obtain ⟨f, e⟩ := at_of hi
    obtain ⟨o, o1, o2⟩ := hc.at_ i f e
    obtain ⟨o', o1', o2'⟩ := hb.at_ i f e
    cases f with
    | hi l =>
      rcases im i l e with z | ⟨k, p, z1, z2, z3⟩
      · exact z
      · obtain ⟨k', p', k1', k2', k3', k4', _⟩ := hb.hi e
        have fx' := h'.fix (msheet_at (ch := b) e)
        rw [k4', one_arc] at fx'
        rw [k1'] at z1
        have z' : k' = k := Option.some.inj (Option.some.inj z1)
        subst z'
        rw [k2'] at z2; cases z2
        have hp : p.1 < pl.length := (w.at e).2 p (List.mem_of_getElem? k2')
        rw [← eq i hi, ← eq p.1 hp] at fx'
        exact absurd (by rw [fx']; exact Le.refl _) z3
    | lo l =>
      have q : o = none := o2
      have q' : o' = none := o2'
      rw [o1, o1', q, q']
    | amt a =>
      have q : o = none := o2
      have q' : o' = none := o2'
      rw [o1, o1', q, q']
    | wh j a k =>
      have q : o = none := o2
      have q' : o' = none := o2'
      rw [o1, o1', q, q']
  · rw [List.getElem?_eq_none (by rw [hb.len]; omega), List.getElem?_eq_none (by rw [hc.len]; omega)]
include w pn hc in
theorem pol_done (h : IsLeast (msheet pl ch) x) (no : ∀ (i : Nat) (l : Arcs), pl[i]? = some (.hi l) → ∀ p ∈ l, Le (sh (x p.1) p.2) (x i)) : IsLeast pl x := by
  have low : ∀ (z : Nat → Am) (i : Nat), i < pl.length → Le (F (msheet pl ch) z i) (F pl z i) := fun z i hi => by
    obtain ⟨f, e⟩ := at_of hi
    rw [F_at (msheet_at (ch := ch) e), F_at e]
    cases f with
    | wh j a k => exact Le.refl _
    | amt a => exact Le.refl _
    | lo l => exact Le.refl _
    | hi l =>
      obtain ⟨k, p, k1, k2, k3, k4, _⟩ := hc.hi e
      rw [k4, one_arc]
      exact hi_ge (List.mem_of_getElem? k2)
  have ln := msheet_len pl ch
  refine ⟨fun i hi => ?_, fun i hi => Le.trans (h.post i (by rw [ln]; exact hi)) (low x i hi), fun y hy i hi => h.least y (fun j hj => Le.trans (low y j (by rw [← ln]; exact hj)) (hy j (by rw [← ln]; exact hj))) i (by rw [ln]; exact hi)⟩
  obtain ⟨f, e⟩ := at_of hi
  rw [F_at e]
  have fx := h.fix (msheet_at (ch := ch) e)
  cases f with
  | wh j a k => rw [fx]; exact Le.refl _
  | amt a => rw [fx]; exact Le.refl _
  | lo l => rw [fx]; exact Le.refl _
  | hi l => exact hi_le (w.at e).1 (no i l e)
include w pn hc hb in
theorem pol_falls {M S : Nat} (bd : Bd pl M S) (h : IsLeast (msheet pl ch) x) (h' : IsLeast (msheet pl b) x') (im : Imp pl ch b x) (ne : b ≠ ch) : wsum (M + pl.length * S) pl.length x < wsum (M + pl.length * S) pl.length x' :=
  wsum_lt (pol_up w pn hc hb h h' im) (pol_ne w pn hc hb h h' im ne) fun i hi u e => by
    have := bound (msheet_wf w hc) (msheet_bd bd hc) h (by rw [msheet_len]; exact hi) e
    rw [msheet_len] at this
    exact this
end
/-- a told arc stands in the sheet with told arcs -/
theorem told_min {pl : List Fm} (w : Wf pl) (pn : Plain pl) {ch : List (Option Nat)} (hc : ChOk pl ch) {c : Nat} {p : Nat × Int} (h : p ∈ Ar (tolds pl ch) c) : p.1 < pl.length ∧ ∃ a, (msheet pl ch)[c]? = some (.lo a) ∧ p ∈ a := by
  have hi := Ar_lt h
  rw [tolds_len] at hi
  obtain ⟨f, e⟩ := at_of hi
  rw [Ar_at (tolds_at (ch := ch) e)] at h
  have e1 := msheet_at (ch := ch) e
  have wf := w.at e
  cases f with
  | amt a => cases h
  | wh j a k => exact absurd rfl (pn _ (List.mem_of_getElem? e) j a k)
  | lo l => exact ⟨wf.2 p h, l, e1, h⟩
  | hi l =>
    obtain ⟨k, q, _, eq, _, em, et⟩ := hc.hi e
    rw [et] at h
    rw [em] at e1
    rw [List.mem_singleton.mp h]
    exact ⟨wf.2 q (List.mem_of_getElem? eq), [q], e1, List.mem_singleton.mpr rfl⟩
end CsM

set_option linter.all false
namespace CsM
/-! conditions, opened sheets, stages -/
def isWh : Fm → Bool
  | .wh _ _ _ => true
  | _ => false
def conds (fl : List Fm) : List Nat := (List.range fl.length).filter fun i => isWh (fat fl i)
def openF (f : Fm) (o : Bool) : Fm := match f with
  | .wh _ _ k => if o then .hi [(k, 0)] else .amt (some 0)
  | f => f
def osheet (fl : List Fm) (P : List Nat) : List Fm := (List.range fl.length).map fun i => openF (fat fl i) (decide (i ∈ P))
def holds (fl : List Fm) (x : Nat → Am) (i : Nat) : Bool := match fat fl i with
  | .wh j a _ => am (some a) (x j)
  | _ => false
theorem osheet_len (fl : List Fm) (P : List Nat) : (osheet fl P).length = fl.length := by unfold osheet; rw [List.length_map, List.length_range]
theorem osheet_at {fl : List Fm} {P : List Nat} {i : Nat} {f : Fm} (h : fl[i]? = some f) : (osheet fl P)[i]? = some (openF f (decide (i ∈ P))) := by
  unfold osheet; rw [List.getElem?_map, List.getElem?_range (lt_of h)]
  show some (openF (fat fl i) _) = _
  rw [fat_at h]
theorem osheet_plain (fl : List Fm) (P : List Nat) : Plain (osheet fl P) := fun f hf j a k e => by
  obtain ⟨i, hi⟩ := List.mem_iff_getElem?.mp hf
  have h1 := lt_of hi
  rw [osheet_len] at h1
  obtain ⟨g, eg⟩ := at_of h1
  rw [osheet_at eg] at hi
  rw [e] at hi
  cases g with
  | wh j' a' k' =>
    have h2 : (if decide (i ∈ P) = true then Fm.hi [(k', 0)] else .amt (some 0)) = .wh j a k := Option.some.inj hi
    by_cases c : decide (i ∈ P) = true
    · rw [if_pos c] at h2; cases h2
    · rw [if_neg c] at h2; cases h2
  | amt a' => cases hi
  | lo l => cases hi
  | hi l => cases hi
theorem osheet_wf {fl : List Fm} (w : Wf fl) (P : List Nat) : Wf (osheet fl P) := fun f hf => by
  rw [osheet_len]
  obtain ⟨i, hi⟩ := List.mem_iff_getElem?.mp hf
  have h1 := lt_of hi
  rw [osheet_len] at h1
  obtain ⟨g, eg⟩ := at_of h1
  rw [osheet_at eg] at hi
  have wg := w.at eg
  cases g with
  | wh j' a' k' =>
    have h2 : (if decide (i ∈ P) = true then Fm.hi [(k', 0)] else .amt (some 0)) = f := Option.some.inj hi
    by_cases c : decide (i ∈ P) = true
    · rw [if_pos c] at h2; subst h2
      exact ⟨by simp, fun p hp => by rw [List.mem_singleton.mp hp]; exact wg.2⟩
    · rw [if_neg c] at h2; subst h2; exact trivial
  | amt a' => cases hi; exact trivial
  | lo l => cases hi; exact wg
  | hi l => cases hi; exact wg
theorem osheet_bd {fl : List Fm} {M S : Nat} (b : Bd fl M S) (P : List Nat) : Bd (osheet fl P) M S := by
  have key : ∀ g, g ∈ osheet fl P → g = .amt (some 0) ∨ (∃ k, g = .hi [(k, 0)]) ∨ g ∈ fl := fun g hg => by
    obtain ⟨i, hi⟩ := List.mem_iff_getElem?.mp hg
    have h1 := lt_of hi
    rw [osheet_len] at h1
    obtain ⟨f, ef⟩ := at_of h1
    rw [osheet_at ef] at hi
    cases f with
    | wh j' a' k' =>
      have h2 : (if decide (i ∈ P) = true then Fm.hi [(k', 0)] else .amt (some 0)) = g := Option.some.inj hi
      by_cases c : decide (i ∈ P) = true
      · rw [if_pos c] at h2; exact .inr (.inl ⟨k', h2.symm⟩)
      · rw [if_neg c] at h2; exact .inl h2.symm
    | amt a' => cases hi; exact .inr (.inr (List.mem_of_getElem? ef))
    | lo l => cases hi; exact .inr (.inr (List.mem_of_getElem? ef))
    | hi l => cases hi; exact .inr (.inr (List.mem_of_getElem? ef))
  refine ⟨fun a ha => ?_, fun l hl p hp => ?_, fun l hl p hp => ?_⟩
  · rcases key _ ha with e | ⟨k, e⟩ | e
    · cases e; exact Nat.zero_le _
    · cases e
    · exact b.num a e
  · rcases key _ hl with e | ⟨k, e⟩ | e
    · cases e
    · cases e
    · exact b.lo l e p hp
  · rcases key _ hl with e | ⟨k, e⟩ | e
    · cases e
    · cases e; rw [List.mem_singleton.mp hp]; exact Int.natCast_nonneg _
    · exact b.hi l e p hp
theorem conds_mem {fl : List Fm} {i : Nat} : i ∈ conds fl ↔ ∃ j a k, fl[i]? = some (.wh j a k) := by
  unfold conds
  rw [List.mem_filter, List.mem_range]
  constructor
  · intro ⟨h1, h2⟩
    obtain ⟨f, e⟩ := at_of h1
    rw [fat_at e] at h2
    cases f with
    | wh j a k => exact ⟨j, a, k, e⟩
    | amt a => cases h2
    | lo l => cases h2
    | hi l => cases h2
  · intro ⟨j, a, k, e⟩
    exact ⟨lt_of e, by rw [fat_at e]; rfl⟩
theorem holds_at {fl : List Fm} {x : Nat → Am} {i j a k : Nat} (e : fl[i]? = some (.wh j a k)) : holds fl x i = am (some a) (x j) := by unfold holds; rw [fat_at e]
theorem one_hi (p : Nat × Int) (z : Nat → Am) : val (.hi [p]) z = sh (z p.1) p.2 := by
  obtain ⟨q, hq, eq⟩ := hi_at z (l := [p]) (by simp)
  rw [eq, List.mem_singleton.mp hq]
theorem sh_zero (a : Am) : sh a 0 = a := by
  cases a with
  | none => rfl
  | some u => show some ((u : Int) + 0).toNat = some u; congr 1
/-- a condition that is open, closed, as a value -/
theorem open_val {f : Fm} {o : Bool} {x : Nat → Am} : val (openF f o) x = match f with
  | .wh _ _ k => if o then x k else some 0
  | f => val f x := by
  cases f with
  | wh j a k =>
    cases o with
    | true => show val (.hi [(k, 0)]) x = x k; rw [one_hi]; exact sh_zero _
    | false => rfl
  | amt a => rfl
  | lo l => rfl
  | hi l => rfl
theorem open_wh {j a k : Nat} {o : Bool} {x : Nat → Am} : val (openF (.wh j a k) o) x = if o then x k else some 0 := open_val
theorem open_le {fl : List Fm} {P Q : List Nat} (h : ∀ i, i ∈ P → i ∈ Q) (x : Nat → Am) : LeN fl.length (F (osheet fl P) x) (F (osheet fl Q) x) := fun i hi => by
  obtain ⟨f, e⟩ := at_of hi
  rw [F_at (osheet_at e), F_at (osheet_at e)]
  cases f with
  | wh j a k =>
    rw [open_wh, open_wh]
    by_cases c : i ∈ P
    · rw [if_pos (decide_eq_true c), if_pos (decide_eq_true (h i c))]; exact Le.refl _
    · rw [if_neg (by simp [c])]; exact Le.zero
  | amt a => exact Le.refl _
  | lo l => exact Le.refl _
  | hi l => exact Le.refl _
/-- a sheet whose open conditions are those that hold -/
theorem open_eq {fl : List Fm} {P : List Nat} {x : Nat → Am} (h : ∀ i, i ∈ conds fl → (i ∈ P ↔ holds fl x i = true)) (i : Nat) : F (osheet fl P) x i = F fl x i := by
  cases e : fl[i]? with
  | none =>
    have e2 : (osheet fl P)[i]? = none := List.getElem?_eq_none (by rw [osheet_len]; exact List.getElem?_eq_none_iff.mp e)
    unfold F
    rw [e, e2]
  | some f =>
    rw [F_at (osheet_at e), F_at e]
    cases f with
    | wh j a k =>
      rw [open_wh]
      have h1 := h i (conds_mem.mpr ⟨j, a, k, e⟩)
      rw [holds_at e] at h1
      show _ = if am (some a) (x j) then x k else some 0
      by_cases c : i ∈ P
      · rw [if_pos (decide_eq_true c), if_pos (h1.mp c)]
      · rw [if_neg (by simp [c]), if_neg (fun q => c (h1.mpr q))]
    | amt a => rfl
    | lo l => rfl
    | hi l => rfl
theorem holds_mono {fl : List Fm} (w : Wf fl) {x y : Nat → Am} (h : LeN fl.length x y) {i : Nat} (hx : holds fl x i = true) : holds fl y i = true := by
  unfold holds at hx ⊢
  cases e : fl[i]? with
  | none =>
    have : fat fl i = .amt none := by unfold fat; rw [List.getD_eq_getElem?_getD, e]; rfl
    rw [this] at hx; cases hx
  | some f =>
    rw [fat_at e] at hx ⊢
    cases f with
    | wh j a k => exact Le.trans hx (h j (w.at e).1)
    | amt a => cases hx
    | lo l => cases hx
    | hi l => cases hx
/-! ### from below -/
structure StB (fl : List Fm) (P : List Nat) : Prop where
  fil : ∃ pr : Nat → Bool, P = (conds fl).filter pr
  must : ∀ y, Pre fl y → ∀ i ∈ P, holds fl y i = true
  grow : ∀ x, IsLeast (osheet fl P) x → ∀ i ∈ P, holds fl x i = true
section
variable {fl : List Fm} (w : Wf fl) {P : List Nat} {x : Nat → Am}
theorem StB.start : StB fl [] := ⟨⟨fun _ => false, (List.filter_eq_nil_iff.mpr (fun _ _ => by decide)).symm⟩, fun _ _ i hi => (by cases hi), fun _ _ i hi => (by cases hi)⟩
theorem StB.sub (s : StB fl P) : ∀ i ∈ P, i ∈ conds fl := fun i hi => by
  obtain ⟨pr, e⟩ := s.fil
  rw [e] at hi
  exact (List.mem_filter.mp hi).1
theorem StB.pre_of (s : StB fl P) {y : Nat → Am} (hy : Pre fl y) : Pre (osheet fl P) y := fun i hi => by
  rw [osheet_len] at hi
  refine Le.trans ?_ (hy i hi)
  obtain ⟨f, e⟩ := at_of hi
  rw [F_at (osheet_at e), F_at e]
  cases f with
  | wh j a k =>
    rw [open_wh]
    by_cases c : i ∈ P
    · have h1 := s.must y hy i c
      rw [holds_at e] at h1
      rw [if_pos (decide_eq_true c)]
      show Le (y k) (if am (some a) (y j) then y k else some 0)
      rw [if_pos h1]; exact Le.refl _
    · rw [if_neg (by simp [c])]; exact Le.zero
  | amt a => exact Le.refl _
  | lo l => exact Le.refl _
  | hi l => exact Le.refl _
theorem StB.sub_later (s : StB fl P) (h : IsLeast (osheet fl P) x) : ∀ i ∈ P, i ∈ (conds fl).filter (holds fl x) := fun i hi => List.mem_filter.mpr ⟨s.sub i hi, s.grow x h i hi⟩
include w in
theorem StB.next (s : StB fl P) (h : IsLeast (osheet fl P) x) : StB fl ((conds fl).filter (holds fl x)) := by
  refine ⟨⟨_, rfl⟩, fun y hy i hi => ?_, fun x' hx' i hi => ?_⟩
  · have h1 := h.least y (s.pre_of hy)
    rw [osheet_len] at h1
    exact holds_mono w h1 (List.mem_filter.mp hi).2
  · have h1 : LeN (osheet fl P).length x x' := h.least x' fun j hj => by
      rw [osheet_len] at hj
      exact Le.trans (open_le (s.sub_later h) x' j hj) (hx'.pre j (by rw [osheet_len]; exact hj))
    rw [osheet_len] at h1
    exact holds_mono w h1 (List.mem_filter.mp hi).2
theorem StB.done (s : StB fl P) (h : IsLeast (osheet fl P) x) (e : (conds fl).filter (holds fl x) = P) : IsLeast fl x := by
  have eq := open_eq (fl := fl) (P := P) (x := x) (fun i hi => by
    constructor
    · intro q; rw [← e] at q; exact (List.mem_filter.mp q).2
    · intro q; rw [← e]; exact List.mem_filter.mpr ⟨hi, q⟩)
  have ln := osheet_len fl P
  exact ⟨fun i hi => by rw [← eq]; exact h.pre i (by rw [ln]; exact hi), fun i hi => by rw [← eq]; exact h.post i (by rw [ln]; exact hi), fun y hy i hi => h.least y (s.pre_of hy) i (by rw [ln]; exact hi)⟩
theorem StB.falls (s : StB fl P) (h : IsLeast (osheet fl P) x) (ne : (conds fl).filter (holds fl x) ≠ P) : P.length < ((conds fl).filter (holds fl x)).length := by
  obtain ⟨pr, e⟩ := s.fil
  have sub := s.sub_later h
  have e1 : P = (conds fl).filter fun i => pr i && holds fl x i := by
    rw [e]
    refine List.filter_congr fun i hi => ?_
    cases c : pr i with
    | false => rfl
    | true =>
      have := sub i (by rw [e]; exact List.mem_filter.mpr ⟨hi, c⟩)
      rw [(List.mem_filter.mp this).2]; rfl
  have ex : ∃ t, t ∈ conds fl ∧ (pr t && holds fl x t) = false ∧ holds fl x t = true := Classical.byContradiction fun q => ne (by
    rw [e1]
    refine List.filter_congr fun i hi => ?_
    cases c : holds fl x i with
    | false => rw [Bool.and_false]
    | true =>
      cases c2 : pr i with
      | true => rfl
      | false => exact absurd ⟨i, hi, by rw [c2]; rfl, c⟩ q)
  obtain ⟨t, h1, h2, h3⟩ := ex
  rw [e1]
  exact filter_lt _ _ (fun i hi => (Bool.and_eq_true_iff.mp hi).2) h1 h2 h3
theorem conds_len (fl : List Fm) : (conds fl).length ≤ fl.length := by
  have := List.length_filter_le (fun i => isWh (fat fl i)) (List.range fl.length)
  rw [List.length_range] at this
  exact this
/-! ### from above -/
structure StA (fl : List Fm) (P : List Nat) : Prop where
  fil : ∃ pr : Nat → Bool, P = (conds fl).filter pr
  keep : ∀ y, Post fl y → ∀ i ∈ conds fl, holds fl y i = true → i ∈ P
theorem StA.start : StA fl (conds fl) := ⟨⟨fun _ => true, (List.filter_eq_self.mpr (fun _ _ => rfl)).symm⟩, fun _ _ _ hi _ => hi⟩
theorem StA.sub (s : StA fl P) : ∀ i ∈ P, i ∈ conds fl := fun i hi => by
  obtain ⟨pr, e⟩ := s.fil
  rw [e] at hi
  exact (List.mem_filter.mp hi).1
theorem StA.post_of (s : StA fl P) {y : Nat → Am} (hy : Post fl y) : Post (osheet fl P) y := fun i hi => by
  rw [osheet_len] at hi
  refine Le.trans (hy i hi) ?_
  obtain ⟨f, e⟩ := at_of hi
  rw [F_at (osheet_at e), F_at e]
  cases f with
  | wh j a k =>
    rw [open_wh]
    show Le (if am (some a) (y j) then y k else some 0) _
    by_cases c : am (some a) (y j) = true
    · have h1 := s.keep y hy i (conds_mem.mpr ⟨j, a, k, e⟩) (by rw [holds_at e]; exact c)
      rw [if_pos c, if_pos (decide_eq_true h1)]; exact Le.refl _
    · rw [if_neg c]; exact Le.zero
  | amt a => exact Le.refl _
  | lo l => exact Le.refl _
  | hi l => exact Le.refl _
include w in
theorem StA.next (s : StA fl P) (h : IsGreat (osheet fl P) x) : StA fl (P.filter (holds fl x)) := by
  obtain ⟨pr, e⟩ := s.fil
  refine ⟨⟨fun i => holds fl x i && pr i, by rw [e, List.filter_filter]⟩, fun y hy i hi hh => ?_⟩
  have h1 := h.great y (s.post_of hy)
  rw [osheet_len] at h1
  exact List.mem_filter.mpr ⟨s.keep y hy i hi hh, holds_mono w h1 hh⟩
theorem StA.done (s : StA fl P) (h : IsGreat (osheet fl P) x) (e : P.filter (holds fl x) = P) : IsGreat fl x := by
  have ln := osheet_len fl P
  have post : Post fl x := fun i hi => by
    refine Le.trans (h.post i (by rw [ln]; exact hi)) ?_
    obtain ⟨f, ef⟩ := at_of hi
    rw [F_at (osheet_at ef), F_at ef]
    cases f with
    | wh j a k =>
      rw [open_wh]
      by_cases c : i ∈ P
      · rw [if_pos (decide_eq_true c)]
        rw [← e] at c
        have h1 := (List.mem_filter.mp c).2
        rw [holds_at ef] at h1
        show Le (x k) (if am (some a) (x j) then x k else some 0)
        rw [if_pos h1]; exact Le.refl _
      · rw [if_neg (by simp [c])]; exact Le.zero
    | amt a => exact Le.refl _
    | lo l => exact Le.refl _
    | hi l => exact Le.refl _
  have eq := open_eq (fl := fl) (P := P) (x := x) (fun i hi => by
    constructor
    · intro q; rw [← e] at q; exact (List.mem_filter.mp q).2
    · intro q; exact s.keep x post i hi q)
  exact ⟨fun i hi => by rw [← eq]; exact h.pre i (by rw [ln]; exact hi), post, fun y hy i hi => h.great y (s.post_of hy) i (by rw [ln]; exact hi)⟩
theorem StA.falls (ne : P.filter (holds fl x) ≠ P) : (P.filter (holds fl x)).length < P.length := by
  have ex : ∃ t, t ∈ P ∧ holds fl x t = false := Classical.byContradiction fun q => ne (List.filter_eq_self.mpr fun i hi => by
    cases c : holds fl x i with
    | true => rfl
    | false => exact absurd ⟨i, hi, c⟩ q)
  obtain ⟨t, h1, h2⟩ := ex
  have := filter_lt (holds fl x) (fun _ => true) (fun _ _ => rfl) h1 h2 rfl
  rw [List.filter_eq_self.mpr (fun _ _ => rfl : ∀ a ∈ P, (fun _ => true) a = true)] at this
  exact this
end
end CsM

set_option linter.all false
namespace CsM
/-! the greatest solution of a plain sheet: held ranks, rounds up, lesser choices -/
structure HR (pl : List Fm) (h : Nat → Am) (r : Nat) : Prop where
  amt : ∀ (i : Nat) (a : Am), pl[i]? = some (.amt a) → (h i ≠ none ↔ a ≠ none)
  lo : ∀ (i : Nat) (l : Arcs) (q : Nat), pl[i]? = some (.lo l) → h i = some q → ∃ p ∈ l, ∃ q', h p.1 = some q' ∧ q' < q
  hi : ∀ (i : Nat) (l : Arcs) (q : Nat), pl[i]? = some (.hi l) → h i = some q → ∀ p ∈ l, ∃ q', h p.1 = some q' ∧ q' < q
  bd : ∀ i q, h i = some q → q ≤ r
def fits (h : Nat → Am) : Fm → Bool
  | .lo l => l.any fun p => decide (h p.1 ≠ none)
  | .hi l => l.all fun p => decide (h p.1 ≠ none)
  | _ => false
def Closed (pl : List Fm) (h : Nat → Am) : Prop := ∀ (i : Nat) (f : Fm), pl[i]? = some f → h i = none → fits h f = false
def fresh (pl : List Fm) (h : Nat → Am) : List Nat := (List.range pl.length).filter fun i => decide (h i = none) && fits h (fat pl i)
theorem fresh_mem {pl : List Fm} {h : Nat → Am} {i : Nat} : i ∈ fresh pl h ↔ ∃ f, pl[i]? = some f ∧ h i = none ∧ fits h f = true := by
  unfold fresh
  rw [List.mem_filter, List.mem_range]
  constructor
  · intro ⟨h1, h2⟩
    obtain ⟨f, e⟩ := at_of h1
    rw [fat_at e] at h2
    obtain ⟨h3, h4⟩ := Bool.and_eq_true_iff.mp h2
    exact ⟨f, e, of_decide_eq_true h3, h4⟩
  · intro ⟨f, e, h1, h2⟩
    exact ⟨lt_of e, by rw [fat_at e, h2, decide_eq_true h1]; rfl⟩
def hs0 : Fm → Am
  | .amt (some _) => some 0
  | _ => none
def hstart (pl : List Fm) : List Am := pl.map hs0
section
variable {pl : List Fm} (w : Wf pl) {h h' : Nat → Am} {r : Nat}
theorem hstart_at {i : Nat} {f : Fm} (e : pl[i]? = some f) : fn (hstart pl) i = hs0 f := fn_at (by unfold hstart; rw [List.getElem?_map, e]; rfl)
theorem hstart_n {i : Nat} (e : pl[i]? = none) : fn (hstart pl) i = none := by
  unfold fn hstart; rw [List.getD_eq_getElem?_getD, List.getElem?_map, e]; rfl
theorem HR.start : HR pl (fn (hstart pl)) 0 := by
  refine ⟨fun i a e => ?_, fun i l q e hq => ?_, fun i l q e hq => ?_, fun i q hq => ?_⟩
  · rw [hstart_at e]
    cases a <;> simp [hs0]
  · rw [hstart_at e] at hq; cases hq
  · rw [hstart_at e] at hq; cases hq
  · cases e : pl[i]? with
    | none => rw [hstart_n e] at hq; cases hq
    | some f =>
      rw [hstart_at e] at hq
      cases f with
      | amt a => cases a <;> cases hq; exact Nat.le_refl _
      | lo l => cases hq
      | hi l => cases hq
      | wh j a k => cases hq
theorem HR.next (s : HR pl h r) (c : Closed pl h ∨ r ≤ nums pl.length h) (e : ∀ i, h' i = if i ∈ fresh pl h then some (r + 1) else h i) : HR pl h' (r + 1) ∧ (Closed pl h' ∨ r + 1 ≤ nums pl.length h') := by
  have keep : ∀ i q, h i = some q → h' i = some q := fun i q hq => by
    rw [e, if_neg]; exact hq
    intro z
    obtain ⟨_, _, z2, _⟩ := fresh_mem.mp z
    rw [hq] at z2; cases z2
  refine ⟨⟨fun i a ea => ?_, fun i l q el hq => ?_, fun i l q el hq => ?_, fun i q hq => ?_⟩, ?_⟩
  · rw [e, if_neg, s.amt i a ea]
    intro z
    obtain ⟨f, z1, _, z3⟩ := fresh_mem.mp z
    rw [ea] at z1; cases z1; cases z3
  · rw [e] at hq
    by_cases z : i ∈ fresh pl h
    · rw [if_pos z] at hq; cases hq
      obtain ⟨f, z1, _, z3⟩ := fresh_mem.mp z
      rw [el] at z1; cases z1
      obtain ⟨p, hp, hd⟩ := List.any_eq_true.mp z3
      have hd := of_decide_eq_true hd
      cases eh : h p.1 with
      | none => exact absurd eh hd
      | some q' => exact ⟨p, hp, q', keep _ _ eh, by have := s.bd _ _ eh; omega⟩
    · rw [if_neg z] at hq
      obtain ⟨p, hp, q', h1, h2⟩ := s.lo i l q el hq
      exact ⟨p, hp, q', keep _ _ h1, h2⟩
  · rw [e] at hq
    by_cases z : i ∈ fresh pl h
    · rw [if_pos z] at hq; cases hq
      obtain ⟨f, z1, _, z3⟩ := fresh_mem.mp z
      rw [el] at z1; cases z1
      intro p hp
      have hd := of_decide_eq_true (List.all_eq_true.mp z3 p hp)
      cases eh : h p.1 with
      | none => exact absurd eh hd
      | some q' => exact ⟨q', keep _ _ eh, by have := s.bd _ _ eh; omega⟩
    · rw [if_neg z] at hq
      intro p hp
      obtain ⟨q', h1, h2⟩ := s.hi i l q el hq p hp
      exact ⟨q', keep _ _ h1, h2⟩
  · rw [e] at hq
    by_cases z : i ∈ fresh pl h
    · rw [if_pos z] at hq; cases hq; omega
    · rw [if_neg z] at hq; have := s.bd i q hq; omega
  · by_cases z : ∃ i, i ∈ fresh pl h
    · obtain ⟨i, hi⟩ := z
      obtain ⟨f, z1, z2, z3⟩ := fresh_mem.mp hi
      rcases c with c | c
      · rw [c i f z1 z2] at z3; cases z3
      · right
        have ei : h' i = some (r + 1) := by rw [e, if_pos hi]
        have := nums_lt (n := pl.length) (x := h) (y := h') (fun j _ => by
          cases ej : h j with
          | none => exact Le.top
          | some q => rw [keep j q ej]; exact Le.refl _) (lt_of z1) z2 ei
        omega
    · left
      have eq : h' = h := funext fun i => by rw [e, if_neg (fun q => z ⟨i, q⟩)]
      rw [eq]
      intro i f ef hn
      cases c2 : fits h f with
      | false => rfl
      | true => exact absurd ⟨i, fresh_mem.mpr ⟨f, ef, hn, c2⟩⟩ z
theorem closed_of (c : Closed pl h ∨ pl.length ≤ nums pl.length h) : Closed pl h := by
  rcases c with c | c
  · exact c
  · intro i f e hn
    have := nums_lt (n := pl.length) (x := h) (y := fun _ => some 0) (fun j _ => Le.zero) (lt_of e) hn rfl
    have := nums_cap pl.length (fun _ => some 0)
    omega
end
/-- the sheet with told arcs at the held cells with "least", endless where nothing is held -/
def maxF (f : Fm) (o : Am) (c : Nat) : Fm := match o with
  | none => .amt none
  | some _ => match f with
    | .lo l => .hi [l.getD c (0, 0)]
    | f => f
def xsheet (pl : List Fm) (h : Nat → Am) (ch : Nat → Nat) : List Fm := (List.range pl.length).map fun i => maxF (fat pl i) (h i) (ch i)
theorem xsheet_len (pl : List Fm) (h : Nat → Am) (ch : Nat → Nat) : (xsheet pl h ch).length = pl.length := by unfold xsheet; rw [List.length_map, List.length_range]
theorem xsheet_at {pl : List Fm} {h : Nat → Am} {ch : Nat → Nat} {i : Nat} {f : Fm} (e : pl[i]? = some f) : (xsheet pl h ch)[i]? = some (maxF f (h i) (ch i)) := by
  unfold xsheet; rw [List.getElem?_map, List.getElem?_range (lt_of e)]
  show some (maxF (fat pl i) _ _) = _
  rw [fat_at e]
theorem max_none (f : Fm) (c : Nat) : maxF f none c = .amt none := rfl
theorem max_lo {l : Arcs} {q c : Nat} {p : Nat × Int} (e : l[c]? = some p) : maxF (.lo l) (some q) c = .hi [p] := by
  show Fm.hi [l.getD c (0, 0)] = _
  rw [getD_at e]
structure XPol (pl : List Fm) (h : Nat → Am) (ch : Nat → Nat) : Prop where
  ok : ∀ (i : Nat) (l : Arcs), pl[i]? = some (.lo l) → h i ≠ none → ∃ p, l[ch i]? = some p ∧ h p.1 ≠ none
  pot : ∃ (M : Int) (p : Nat → Int), 0 ≤ M ∧ ∀ (i : Nat) (l : Arcs), (xsheet pl h ch)[i]? = some (.hi l) → ∀ q ∈ l, p q.1 + M * q.2 + 1 ≤ p i
  fin : ∃ y, Pre (xsheet pl h ch) y ∧ ∀ i, i < pl.length → h i ≠ none → y i ≠ none
structure RSH (pl : List Fm) (h : Nat → Am) (ch : Nat → Nat) (x : Nat → Am) (rk : Nat → Nat) : Prop where
  rkb : ∀ i, i < pl.length → rk i < pl.length
  wf : Wf (xsheet pl h ch)
  out : ∀ i, i < pl.length → h i = none → x i = none
  inn : ∀ i, i < pl.length → h i ≠ none → x i ≠ none
  fix : ∀ (i : Nat) (f : Fm), (xsheet pl h ch)[i]? = some f → x i = val f x
  att : ∀ (i : Nat) (l : Arcs), (xsheet pl h ch)[i]? = some (.hi l) → x i ≠ some 0 → ∃ q ∈ l, sh (x q.1) q.2 = x i ∧ rk q.1 < rk i ∧ x q.1 ≠ none
structure RS (n : Nat) (h x : Nat → Am) (rk : Nat → Nat) (z : List Am) (r c : Nat) : Prop where
  len : z.length = n
  le : ∀ i, i < n → Le (fn z i) (x i)
  out : ∀ i, i < n → h i = none → fn z i = none
  eq : ∀ i, i < n → h i ≠ none → (rk i < r ∨ (rk i < r + 1 ∧ i < c)) → fn z i = x i
section
variable {pl : List Fm} (w : Wf pl) (pn : Plain pl) {h : Nat → Am} {r0 : Nat} (hr : HR pl h r0) (hcl : Closed pl h) {ch b : Nat → Nat} {x x' : Nat → Am} {rk : Nat → Nat} {z : List Am} {r c : Nat}
def ss0 : Am → Am
  | some _ => some 0
  | none => none
def sstart (h : List Am) : List Am := h.map ss0
theorem sstart_len (hl : List Am) : (sstart hl).length = hl.length := List.length_map ..
theorem sstart_at {hl : List Am} {i : Nat} : fn (sstart hl) i = ss0 (fn hl i) := by
  unfold fn sstart
  rw [List.getD_eq_getElem?_getD, List.getElem?_map, List.getD_eq_getElem?_getD]
  cases hl[i]? with
  | none => rfl
  | some o => cases o <;> rfl
theorem RS.start {hl : List Am} (H : RSH pl (fn hl) ch x rk) (hn : hl.length = pl.length) : RS pl.length (fn hl) x rk (sstart hl) 0 0 := by
  refine ⟨by rw [sstart_len, hn], fun i hi => ?_, fun i hi e => ?_, fun i hi _ q => by omega⟩
  · rw [sstart_at]
    cases e : fn hl i with
    | none => rw [H.out i hi e]; exact Le.refl _
    | some q => exact Le.zero
  · rw [sstart_at, e]; rfl
theorem RS.skip {n : Nat} (s : RS n h x rk z r c) (e : h c = none) : RS n h x rk z r (c + 1) :=
  ⟨s.len, s.le, s.out, fun i hi hn q => s.eq i hi hn (by
    by_cases y : i = c
    · subst y; exact absurd e hn
    · omega)⟩
include pn in
theorem RS.put (H : RSH pl h ch x rk) (s : RS pl.length h x rk z r c) (hc : c < pl.length) (hn : h c ≠ none) {f : Fm} (e : (xsheet pl h ch)[c]? = some f) : RS pl.length h x rk (z.set c (val f (fn z))) r (c + 1) := by
  have hz : c < z.length := by rw [s.len]; exact hc
  have wf := H.wf.at e
  rw [xsheet_len] at wf
  have low : Le (val f (fn z)) (x c) := by
    rw [H.fix c f e]
    exact val_mono wf s.le
  have eqc : rk c < r + 1 → val f (fn z) = x c := fun hr => by
    refine Le.anti low ?_
    cases f with
    | amt a => rw [H.fix c _ e]; exact Le.refl _
    | hi l =>
      by_cases y : x c = some 0
      · rw [y]; exact Le.zero
      · obtain ⟨q, hq, e1, e2, e3⟩ := H.att c l e y
        have hq' := wf.2 q hq
        have hh : h q.1 ≠ none := fun y2 => e3 (H.out _ hq' y2)
        rw [← e1, ← s.eq q.1 hq' hh (.inl (by omega))]
        exact hi_ge hq
    | lo l =>
      exfalso
      obtain ⟨g, eg⟩ := at_of hc
      rw [xsheet_at eg] at e
      have e := Option.some.inj e
      cases eh : h c with
      | none => exact hn eh
      | some o => rw [eh] at e; cases g <;> cases e
    | wh j a k =>
      have e1 := H.fix c _ e
      by_cases y : x c = some 0
      · rw [y]; exact Le.zero
      · exfalso
        obtain ⟨g, eg⟩ := at_of hc
        rw [xsheet_at eg] at e
        have e := Option.some.inj e
        cases eh : h c with
        | none => exact hn eh
        | some o =>
          rw [eh] at e
          cases g with
          | wh j' a' k' => exact pn _ (List.mem_of_getElem? eg) j' a' k' rfl
          | amt a' => cases e
          | lo l => cases e
          | hi l => cases e
  refine ⟨by rw [List.length_set]; exact s.len, fun i hi => ?_, fun i hi ho => ?_, fun i hi ho q => ?_⟩
  · rw [fn_set hz]
    by_cases y : i = c
    · rw [if_pos y, y]; exact low
    · rw [if_neg y]; exact s.le i hi
  · rw [fn_set hz]
    by_cases y : i = c
    · subst y; exact absurd ho hn
    · rw [if_neg y]; exact s.out i hi ho
  · rw [fn_set hz]
    by_cases y : i = c
    · rw [if_pos y, y]
      exact eqc (by subst y; omega)
    · rw [if_neg y]; exact s.eq i hi ho (by omega)
theorem RS.next {n : Nat} (s : RS n h x rk z r n) : RS n h x rk z (r + 1) 0 := ⟨s.len, s.le, s.out, fun i hi hf q => s.eq i hi hf (.inr ⟨by omega, hi⟩)⟩
theorem RS.all (H : RSH pl h ch x rk) (s : RS pl.length h x rk z (pl.length + 1) 0) : ∀ i, i < pl.length → fn z i = x i := fun i hi => by
  by_cases c : h i = none
  · rw [s.out i hi c, H.out i hi c]
  · exact s.eq i hi c (.inl (by have := H.rkb i hi; omega))
include w in
theorem xsheet_wf (ok : ∀ (i : Nat) (l : Arcs), pl[i]? = some (.lo l) → h i ≠ none → ∃ p, l[ch i]? = some p ∧ h p.1 ≠ none) : Wf (xsheet pl h ch) := fun f hf => by
  rw [xsheet_len]
  obtain ⟨i, e⟩ := List.mem_iff_getElem?.mp hf
  have hi := lt_of e
  rw [xsheet_len] at hi
  obtain ⟨g, eg⟩ := at_of hi
  rw [xsheet_at eg] at e
  have wg := w.at eg
  cases eh : h i with
  | none => rw [eh] at e; cases e; exact trivial
  | some o =>
    rw [eh] at e
    cases g with
    | lo l =>
      obtain ⟨p, ep, _⟩ := ok i l eg (by rw [eh]; simp)
      rw [max_lo ep] at e; cases e
      exact ⟨by simp, fun q hq => by rw [List.mem_singleton.mp hq]; exact wg.2 p (List.mem_of_getElem? ep)⟩
    | hi l => cases e; exact wg
    | amt a => cases e; exact trivial
    | wh j a k => cases e; exact wg
/-- the arcs of the sheet with told arcs -/
theorem x_held {i : Nat} {l : Arcs} (e : (xsheet pl h ch)[i]? = some (.hi l)) : i < pl.length ∧ h i ≠ none := by
  have hi := lt_of e
  rw [xsheet_len] at hi
  refine ⟨hi, fun q => ?_⟩
  obtain ⟨g, eg⟩ := at_of hi
  rw [xsheet_at eg, q, max_none] at e; cases e
/-- the solution that the rounds up come to -/
theorem x_fin (P : XPol pl h ch) (hx : IsLeast (xsheet pl h ch) x) : (∀ i, i < pl.length → h i = none → x i = none) ∧ ∀ i, i < pl.length → h i ≠ none → x i ≠ none := by
  refine ⟨fun i hi e => ?_, fun i hi e q => ?_⟩
  · obtain ⟨g, eg⟩ := at_of hi
    rw [hx.fix (xsheet_at (h := h) (ch := ch) eg), e]; rfl
  · obtain ⟨y, h1, h2⟩ := P.fin
    have := hx.least y h1 i (by rw [xsheet_len]; exact hi)
    rw [q] at this
    cases ey : y i with
    | none => exact h2 i hi e ey
    | some u => rw [ey] at this; exact absurd this Le.ns
theorem mul_step {M a c d : Int} (hM : 0 ≤ M) (h : a ≤ c + d) : M * a ≤ M * c + M * d := by
  rw [← Int.mul_add]
  exact Int.mul_le_mul_of_nonneg_left h hM
include w in
theorem rsh_of (P : XPol pl h ch) (hx : IsLeast (xsheet pl h ch) x) : ∃ rk, RSH pl h ch x rk := by
  obtain ⟨o, f⟩ := x_fin P hx
  have wf := xsheet_wf w P.ok
  obtain ⟨M, p, hM, hp⟩ := P.pot
  let φ : Nat → Int := fun i => p i - M * (((x i).getD 0 : Nat) : Int)
  refine ⟨rank pl.length φ, fun i hi => rank_bd hi, wf, o, f, fun i g e => hx.fix e, fun i l e h0 => ?_⟩
  obtain ⟨hi, hh⟩ := x_held e
  have wl := wf.at e
  rw [xsheet_len] at wl
  obtain ⟨q, hq, eq⟩ := hi_at x wl.1
  have ex := hx.fix e
  rw [eq] at ex
  have fin : x q.1 ≠ none := fun y => by rw [y] at ex; exact f i hi hh ex
  refine ⟨q, hq, ex.symm, rank_lt (wl.2 q hq) ?_, fin⟩
  cases et : x q.1 with
  | none => exact absurd et fin
  | some u =>
    rw [et] at ex
    have ex' : x i = some ((u : Int) + q.2).toNat := ex
    have pos : 0 < ((u : Int) + q.2).toNat := by
      refine Nat.pos_of_ne_zero fun y => h0 ?_
      rw [ex', y]
    have h1 := hp i l e q hq
    show p q.1 - M * (((x q.1).getD 0 : Nat) : Int) < p i - M * (((x i).getD 0 : Nat) : Int)
    rw [et, ex']
    show p q.1 - M * (u : Int) < p i - M * ((((u : Int) + q.2).toNat : Nat) : Int)
    rw [Int.toNat_of_nonneg (by omega), Int.mul_add]
    omega
/-- no more than finitely many numbers: one is no less than all -/
theorem bound_list {α : Type} (g : α → Int) : ∀ l : List α, ∃ K : Int, 0 ≤ K ∧ ∀ a ∈ l, g a ≤ K
  | [] => ⟨0, Int.le_refl _, fun a ha => by cases ha⟩
  | a :: r => by
    obtain ⟨K, h1, h2⟩ := bound_list g r
    refine ⟨max K (g a), by omega, fun c hc => ?_⟩
    rcases List.mem_cons.mp hc with e | e
    · subst e; omega
    · have := h2 c e; omega
def arcsF : Fm → Arcs
  | .lo l => l
  | .hi l => l
  | .wh _ _ k => [(k, 0)]
  | .amt _ => []
theorem bound_arcs (pl : List Fm) (g : Nat → Nat × Int → Int) : ∃ K : Int, 0 ≤ K ∧ ∀ (i : Nat) (f : Fm), pl[i]? = some f → ∀ q ∈ arcsF f, g i q ≤ K := by
  obtain ⟨K, h1, h2⟩ := bound_list (fun p : Nat × (Nat × Int) => g p.1 p.2) ((List.range pl.length).flatMap fun i => (arcsF (fat pl i)).map fun q => (i, q))
  refine ⟨K, h1, fun i f e q hq => h2 (i, q) (List.mem_flatMap.mpr ⟨i, List.mem_range.mpr (lt_of e), List.mem_map.mpr ⟨q, by rw [fat_at e]; exact hq, rfl⟩⟩)⟩
/-- b is ch, or less, at each held cell with "least" -/
def XImp (pl : List Fm) (h : Nat → Am) (ch b : Nat → Nat) (x : Nat → Am) : Prop := ∀ (i : Nat) (l : Arcs), pl[i]? = some (.lo l) → h i ≠ none → b i = ch i ∨ ∃ q, l[b i]? = some q ∧ ¬ Le (x i) (sh (x q.1) q.2)
include w in
theorem XPol.next (P : XPol pl h ch) (hx : IsLeast (xsheet pl h ch) x) (im : XImp pl h ch b x) : XPol pl h b ∧ Pre (xsheet pl h b) x := by
  obtain ⟨o, f⟩ := x_fin P hx
  have wf := xsheet_wf w P.ok
  obtain ⟨M, p, hM, hp⟩ := P.pot
  have ok : ∀ (i : Nat) (l : Arcs), pl[i]? = some (.lo l) → h i ≠ none → ∃ p, l[b i]? = some p ∧ h p.1 ≠ none := fun i l e hh => by
    rcases im i l e hh with y | ⟨q, q1, q2⟩
    · rw [y]; exact P.ok i l e hh
    · refine ⟨q, q1, fun y => q2 ?_⟩
      rw [o q.1 ((w.at e).2 q (List.mem_of_getElem? q1)) y]; exact Le.top
  -- an arc of the new sheet: of the old one, or less
  have arcs : ∀ (i : Nat) (l : Arcs), (xsheet pl h b)[i]? = some (.hi l) → ∀ q ∈ l, (∃ l', (xsheet pl h ch)[i]? = some (.hi l') ∧ q ∈ l') ∨ (¬ Le (x i) (sh (x q.1) q.2) ∧ ∃ l', pl[i]? = some (.lo l') ∧ q ∈ l') := fun i l e q hq => by
    obtain ⟨hi, hh⟩ := x_held e
    obtain ⟨g, eg⟩ := at_of hi
    rw [xsheet_at eg] at e
    cases eh : h i with
    | none => exact absurd eh hh
    | some v =>
      rw [eh] at e
      have e2 := xsheet_at (h := h) (ch := ch) eg
      rw [eh] at e2
      cases g with
      | amt a => cases e
      | wh j a k => cases e
      | hi l0 => cases e; exact .inl ⟨l, e2, hq⟩
      | lo l0 =>
        obtain ⟨q0, k1, k2⟩ := ok i l0 eg hh
        rw [max_lo k1] at e; cases e
        rw [List.mem_singleton.mp hq]
        rcases im i l0 eg hh with y | ⟨q', q1, q2⟩
        · rw [y] at k1
          rw [max_lo k1] at e2
          exact .inl ⟨_, e2, List.mem_singleton.mpr rfl⟩
        · rw [k1] at q1; cases q1
          exact .inr ⟨q2, l0, eg, List.mem_of_getElem? k1⟩
  have pre : Pre (xsheet pl h b) x := fun i hi => by
    obtain ⟨g, eg⟩ := at_of hi
    rw [F_at eg]
    cases g with
    | hi l =>
      have wb := (xsheet_wf w ok).at eg
      refine hi_le wb.1 fun q hq => ?_
      rcases arcs i l eg q hq with ⟨l', e', hq'⟩ | ⟨y, _⟩
      · rw [hx.fix e']; exact hi_ge hq'
      · exact Le.of_not y
    | amt a =>
      rw [xsheet_len] at hi
      obtain ⟨g, eg2⟩ := at_of hi
      rw [xsheet_at eg2] at eg
      cases eh : h i with
      | none => rw [o i hi eh]; exact Le.top
      | some v =>
        rw [eh] at eg
        have e2 := xsheet_at (h := h) (ch := ch) eg2
        rw [eh] at e2
        cases g with
        | amt a' => cases eg; rw [hx.fix e2]; exact Le.refl _
        | wh j a k => cases eg
        | hi l0 => cases eg
        | lo l0 => cases eg
    | lo l =>
      rw [xsheet_len] at hi
      obtain ⟨g, eg2⟩ := at_of hi
      rw [xsheet_at eg2] at eg
      cases eh : h i with
      | none => rw [eh] at eg; cases eg
      | some v => rw [eh] at eg; cases g <;> cases eg
    | wh j a k =>
      rw [xsheet_len] at hi
      obtain ⟨g, eg2⟩ := at_of hi
      rw [xsheet_at eg2] at eg
      cases eh : h i with
      | none => rw [eh] at eg; cases eg
      | some v =>
        rw [eh] at eg
        have e2 := xsheet_at (h := h) (ch := ch) eg2
        rw [eh] at e2
        cases g with
        | wh j' a' k' => cases eg; rw [hx.fix e2]; exact Le.refl _
        | amt a' => cases eg
        | hi l0 => cases eg
        | lo l0 => cases eg
  refine ⟨⟨ok, ?_, x, pre, f⟩, pre⟩
  obtain ⟨K, K0, hK⟩ := bound_arcs pl fun i q => M * q.2 + 1 - p i + p q.1
  refine ⟨K + M, fun i => K * (((x i).getD 0 : Nat) : Int) + p i, by omega, fun i l e q hq => ?_⟩
  obtain ⟨hi, hh⟩ := x_held e
  have wb := (xsheet_wf w ok).at e
  rw [xsheet_len] at wb
  have hq1 := wb.2 q hq
  have goal : ∀ u v : Nat, x q.1 = some u → x i = some v → K * (u : Int) + p q.1 + (K + M) * q.2 + 1 ≤ K * (v : Int) + p i := fun u v eu ev => by
    rw [Int.add_mul]
    rcases arcs i l e q hq with ⟨l', e', hq'⟩ | ⟨y, l', e', hq'⟩
    · have h1 := hp i l' e' q hq'
      have h2 : Le (sh (x q.1) q.2) (x i) := by rw [hx.fix e']; exact hi_ge hq'
      rw [eu, ev] at h2
      have h3 : ((u : Int) + q.2).toNat ≤ v := Le.nn.mp h2
      have h4 : K * ((u : Int) + q.2) ≤ K * (v : Int) := Int.mul_le_mul_of_nonneg_left (by omega) K0
      rw [Int.mul_add] at h4
      omega
    · have h1 := hK i _ e' q hq'
      rw [eu, ev] at y
      have h3 : ¬ v ≤ ((u : Int) + q.2).toNat := fun y2 => y (Le.nn.mpr y2)
      have h4 : K * ((u : Int) + q.2 + 1) ≤ K * (v : Int) := Int.mul_le_mul_of_nonneg_left (by omega) K0
      rw [Int.mul_add, Int.mul_add, Int.mul_one] at h4
      omega
  have hq2 : h q.1 ≠ none := by
    rcases arcs i l e q hq with ⟨l', e', hq'⟩ | ⟨y, _⟩
    · intro y
      have h2 : Le (sh (x q.1) q.2) (x i) := by rw [hx.fix e']; exact hi_ge hq'
      rw [o q.1 hq1 y] at h2
      cases ev : x i with
      | none => exact f i hi hh ev
      | some v => rw [ev] at h2; exact absurd h2 Le.ns
    · intro y2
      exact y (by rw [o q.1 hq1 y2]; exact Le.top)
  cases eu : x q.1 with
  | none => exact absurd eu (f q.1 hq1 hq2)
  | some u => cases ev : x i with
    | none => exact absurd ev (f i hi hh)
    | some v =>
      show K * (((x q.1).getD 0 : Nat) : Int) + p q.1 + (K + M) * q.2 + 1 ≤ K * (((x i).getD 0 : Nat) : Int) + p i
      rw [eu, ev]
      exact goal u v eu ev
def ssum (n : Nat) (x : Nat → Am) : Nat := sumN n fun i => (x i).getD 0
include w in
theorem XPol.falls (P : XPol pl h ch) (hx : IsLeast (xsheet pl h ch) x) (im : XImp pl h ch b x) (hx' : IsLeast (xsheet pl h b) x') (ne : ∃ (i : Nat) (l : Arcs), pl[i]? = some (.lo l) ∧ h i ≠ none ∧ b i ≠ ch i) : ssum pl.length x' < ssum pl.length x := by
  obtain ⟨o, f⟩ := x_fin P hx
  obtain ⟨P', pre⟩ := P.next w hx im
  obtain ⟨o', f'⟩ := x_fin P' hx'
  have le : LeN pl.length x' x := fun i hi => hx'.least x pre i (by rw [xsheet_len]; exact hi)
  have low : ∀ i, i < pl.length → (x' i).getD 0 ≤ (x i).getD 0 := fun i hi => by
    have h1 := le i hi
    cases eh : h i with
    | none => rw [o i hi eh, o' i hi eh]; exact Nat.le_refl _
    | some q =>
      cases e1 : x i with
      | none => exact absurd e1 (f i hi (by rw [eh]; simp))
      | some u =>
        rw [e1] at h1
        cases e2 : x' i with
        | none => exact absurd e2 (f' i hi (by rw [eh]; simp))
        | some v => rw [e2] at h1; exact Le.nn.mp h1
  refine sumN_lt low ?_
  obtain ⟨i, l, e, hh, hne⟩ := ne
  refine ⟨i, lt_of e, ?_⟩
  rcases im i l e hh with y | ⟨q, q1, q2⟩
  · exact absurd y hne
  · have e2 := xsheet_at (h := h) (ch := b) e
    cases eh : h i with
    | none => exact absurd eh hh
    | some v =>
      rw [eh, max_lo q1] at e2
      have fx := hx'.fix e2
      rw [one_hi] at fx
      have hq := (w.at e).2 q (List.mem_of_getElem? q1)
      have h3 : Le (x' i) (sh (x q.1) q.2) := by rw [fx]; exact sh_mono _ (le q.1 hq)
      cases e1 : x i with
      | none => rw [e1] at q2; exact absurd e1 (f i (lt_of e) hh)
      | some u =>
        rw [e1] at q2
        cases e3 : x' i with
        | none => exact absurd e3 (f' i (lt_of e) hh)
        | some u' =>
          rw [e3] at h3
          cases e4 : sh (x q.1) q.2 with
          | none => rw [e4] at q2; exact absurd Le.top q2
          | some u2 =>
            rw [e4] at q2 h3
            have h5 := Le.nn.mp h3
            show u' < u
            have : ¬ u ≤ u2 := fun y => q2 (Le.nn.mpr y)
            omega
include w pn hr in
theorem XPol.start {M S : Nat} (bd : Bd pl M S) (hch : ∀ (i : Nat) (l : Arcs) (q : Nat), pl[i]? = some (.lo l) → h i = some q → ∃ p q', l[ch i]? = some p ∧ h p.1 = some q' ∧ q' < q) : XPol pl h ch := by
  have ok : ∀ (i : Nat) (l : Arcs), pl[i]? = some (.lo l) → h i ≠ none → ∃ p, l[ch i]? = some p ∧ h p.1 ≠ none := fun i l e hh => by
    cases eh : h i with
    | none => exact absurd eh hh
    | some q =>
      obtain ⟨p, q', h1, h2, _⟩ := hch i l q e eh
      exact ⟨p, h1, by rw [h2]; simp⟩
  have arcs : ∀ (i : Nat) (l : Arcs), (xsheet pl h ch)[i]? = some (.hi l) → ∀ q ∈ l, ∃ r r', h i = some r ∧ h q.1 = some r' ∧ r' < r ∧ q.2 ≤ (S : Int) := fun i l e q hq => by
    obtain ⟨hi, hh⟩ := x_held e
    obtain ⟨g, eg⟩ := at_of hi
    rw [xsheet_at eg] at e
    cases eh : h i with
    | none => exact absurd eh hh
    | some r =>
      rw [eh] at e
      cases g with
      | amt a => cases e
      | wh j a k => cases e
      | hi l0 =>
        cases e
        obtain ⟨q', h1, h2⟩ := hr.hi i l r eg eh q hq
        exact ⟨r, q', rfl, h1, h2, bd.hi l (List.mem_of_getElem? eg) q hq⟩
      | lo l0 =>
        obtain ⟨p, q', h1, h2, h3⟩ := hch i l0 r eg eh
        rw [max_lo h1] at e; cases e
        rw [List.mem_singleton.mp hq]
        exact ⟨r, q', rfl, h2, h3, bd.lo l0 (List.mem_of_getElem? eg) p (List.mem_of_getElem? h1)⟩
  refine ⟨ok, ⟨0, fun i => (((h i).getD 0 : Nat) : Int), Int.le_refl _, fun i l e q hq => ?_⟩, ?_⟩
  · obtain ⟨r, r', h1, h2, h3, _⟩ := arcs i l e q hq
    show (((h q.1).getD 0 : Nat) : Int) + 0 * q.2 + 1 ≤ (((h i).getD 0 : Nat) : Int)
    rw [h1, h2, Int.zero_mul]
    show ((r' : Nat) : Int) + 0 + 1 ≤ (r : Int)
    omega
  · let y : Nat → Am := fun i => (h i).map fun r => M + r * S
    have yn : ∀ i, h i = none → y i = none := fun i e => by show (h i).map _ = none; rw [e]; rfl
    have ys : ∀ i r, h i = some r → y i = some (M + r * S) := fun i r e => by show (h i).map _ = _; rw [e]; rfl
    refine ⟨y, fun i hi => ?_, fun i hi hh => ?_⟩
    · obtain ⟨g, eg⟩ := at_of hi
      rw [F_at eg]
      cases g with
      | hi l =>
        refine hi_le ((xsheet_wf w ok).at eg).1 fun q hq => ?_
        obtain ⟨r, r', h1, h2, h3, h4⟩ := arcs i l eg q hq
        rw [ys _ _ h1, ys _ _ h2]
        refine Le.nn.mpr ?_
        have : (r' + 1) * S ≤ r * S := Nat.mul_le_mul_right S h3
        rw [Nat.succ_mul] at this
        omega
      | amt a =>
        rw [xsheet_len] at hi
        obtain ⟨g, eg2⟩ := at_of hi
        rw [xsheet_at eg2] at eg
        cases eh : h i with
        | none => rw [yn i eh]; exact Le.top
        | some v =>
          rw [eh] at eg
          cases g with
          | amt a' =>
            cases eg
            cases a with
            | none => exact absurd rfl ((hr.amt i none eg2).mp (by rw [eh]; simp))
            | some u =>
              rw [ys i v eh]
              have := bd.num u (List.mem_of_getElem? eg2)
              exact Le.nn.mpr (by omega)
          | wh j a k => cases eg
          | hi l0 => cases eg
          | lo l0 => cases eg
      | lo l =>
        rw [xsheet_len] at hi
        obtain ⟨g, eg2⟩ := at_of hi
        rw [xsheet_at eg2] at eg
        cases eh : h i with
        | none => rw [eh] at eg; cases eg
        | some v => rw [eh] at eg; cases g <;> cases eg
      | wh j a k =>
        rw [xsheet_len] at hi
        obtain ⟨g, eg2⟩ := at_of hi
        rw [xsheet_at eg2] at eg
        cases eh : h i with
        | none => rw [eh] at eg; cases eg
        | some v =>
          rw [eh] at eg
          cases g with
          | wh j' a' k' => exact absurd rfl (pn _ (List.mem_of_getElem? eg2) j' a' k')
          | amt a' => cases eg
          | hi l0 => cases eg
          | lo l0 => cases eg
    · cases eh : h i with
      | none => exact absurd eh hh
      | some r => rw [ys i r eh]; simp
include w pn hr hcl in
theorem XPol.done (P : XPol pl h ch) (hx : IsLeast (xsheet pl h ch) x) (no : ∀ (i : Nat) (l : Arcs), pl[i]? = some (.lo l) → h i ≠ none → ∀ q ∈ l, Le (x i) (sh (x q.1) q.2)) : IsGreat pl x := by
  obtain ⟨o, f⟩ := x_fin P hx
  have wf := xsheet_wf w P.ok
  obtain ⟨M, p, hM, hp⟩ := P.pot
  have fix : ∀ (i : Nat) (g : Fm), pl[i]? = some g → x i = val g x := fun i g e => by
    have hi := lt_of e
    have e2 := xsheet_at (h := h) (ch := ch) e
    have fx := hx.fix e2
    have wg := w.at e
    cases eh : h i with
    | none =>
      rw [o i hi eh]
      have cl := hcl i g e eh
      cases g with
      | amt a =>
        cases a with
        | none => rfl
        | some u => exact absurd eh ((hr.amt i (some u) e).mpr (by simp))
      | wh j a k => exact absurd rfl (pn _ (List.mem_of_getElem? e) j a k)
      | lo l =>
        refine Le.anti (le_lo wg.1 fun q hq => ?_) Le.top
        have : h q.1 = none := Classical.byContradiction fun y => by
          have : fits h (.lo l) = true := List.any_eq_true.mpr ⟨q, hq, decide_eq_true y⟩
          rw [cl] at this; cases this
        rw [o q.1 (wg.2 q hq) this]; exact Le.refl _
      | hi l =>
        refine Le.anti ?_ Le.top
        have ex : ∃ q, q ∈ l ∧ h q.1 = none := Classical.byContradiction fun y => by
          have : fits h (.hi l) = true := List.all_eq_true.mpr fun q hq => decide_eq_true fun y2 => y ⟨q, hq, y2⟩
          rw [cl] at this; cases this
        obtain ⟨q, hq, eq⟩ := ex
        have h1 := hi_ge (x := x) hq
        rw [o q.1 (wg.2 q hq) eq] at h1
        exact h1
    | some r =>
      rw [eh] at fx
      cases g with
      | amt a => exact fx
      | wh j a k => exact fx
      | hi l => exact fx
      | lo l =>
        obtain ⟨q, q1, q2⟩ := P.ok i l e (by rw [eh]; simp)
        rw [max_lo q1, one_hi] at fx
        refine Le.anti (le_lo wg.1 (no i l e (by rw [eh]; simp))) ?_
        rw [fx]
        exact lo_le (List.mem_of_getElem? q1)
  refine ⟨fun i hi => ?_, fun i hi => ?_, fun y hy i hi => ?_⟩
  · obtain ⟨g, e⟩ := at_of hi
    rw [F_at e, ← fix i g e]; exact Le.refl _
  · obtain ⟨g, e⟩ := at_of hi
    rw [F_at e, ← fix i g e]; exact Le.refl _
  · -- numbers at the held cells
    have post : ∀ (i : Nat) (g : Fm), pl[i]? = some g → Le (y i) (val g y) := fun i g e => by
      rw [← F_at e]; exact hy i (lt_of e)
    have num : ∀ r i, i < pl.length → h i = some r → y i ≠ none := by
      intro r
      induction r using Nat.strongRecOn with
      | _ r ih =>
        intro i hi eh en
        obtain ⟨g, e⟩ := at_of hi
        have h1 := post i g e
        rw [en] at h1
        have wg := w.at e
        cases g with
        | amt a =>
          cases a with
          | none => exact absurd rfl ((hr.amt i none e).mp (by rw [eh]; simp))
          | some u => exact absurd h1 Le.ns
        | wh j a k => exact pn _ (List.mem_of_getElem? e) j a k rfl
        | lo l =>
          obtain ⟨q, hq, r', h2, h3⟩ := hr.lo i l r e eh
          have h4 := ih r' h3 q.1 (wg.2 q hq) h2
          have h5 := Le.trans h1 (lo_le hq)
          cases ey : y q.1 with
          | none => exact h4 ey
          | some u => rw [ey] at h5; exact absurd h5 Le.ns
        | hi l =>
          obtain ⟨q, hq, eq⟩ := hi_at y wg.1
          obtain ⟨r', h2, h3⟩ := hr.hi i l r e eh q hq
          have h4 := ih r' h3 q.1 (wg.2 q hq) h2
          rw [eq] at h1
          cases ey : y q.1 with
          | none => exact h4 ey
          | some u => rw [ey] at h1; exact absurd h1 Le.ns
    let φ : Nat → Int := fun i => p i - M * (((y i).getD 0 : Nat) : Int)
    have main : ∀ k i, i < pl.length → h i ≠ none → rank pl.length φ i = k → Le (y i) (x i) := by
      intro k
      induction k using Nat.strongRecOn with
      | _ k ih =>
        intro i hi hh ek
        obtain ⟨g, e⟩ := at_of hi
        have h1 := post i g e
        have wg := w.at e
        -- one arc that bears y, of the sheet with told arcs
        have arc : ∀ (l' : Arcs) (q : Nat × Int), (xsheet pl h ch)[i]? = some (.hi l') → q ∈ l' → q.1 < pl.length → h q.1 ≠ none → Le (y i) (sh (y q.1) q.2) → Le (y i) (x i) := fun l' q e' hq' hq hhq hle => by
          have h2 : Le (sh (x q.1) q.2) (x i) := by rw [hx.fix e']; exact hi_ge hq'
          cases er : h i with
          | none => exact absurd er hh
          | some r =>
            cases eyi : y i with
            | none => exact absurd eyi (num r i hi er)
            | some v =>
              by_cases v0 : v = 0
              · rw [v0]; exact Le.zero
              · cases erq : h q.1 with
                | none => exact absurd erq hhq
                | some rq =>
                  cases eyq : y q.1 with
                  | none => exact absurd eyq (num rq q.1 hq erq)
                  | some u =>
                    rw [eyi, eyq] at hle
                    have h3 : v ≤ ((u : Int) + q.2).toNat := Le.nn.mp hle
                    have h4 := hp i l' e' q hq'
                    have h5 : M * (v : Int) ≤ M * (u : Int) + M * q.2 := mul_step hM (by omega)
                    have lt : φ q.1 < φ i := by
                      show p q.1 - M * (((y q.1).getD 0 : Nat) : Int) < p i - M * (((y i).getD 0 : Nat) : Int)
                      rw [eyi, eyq]
                      show p q.1 - M * (u : Int) < p i - M * (v : Int)
                      omega
                    have h6 := ih _ (by rw [← ek]; exact rank_lt hq lt) q.1 hq hhq rfl
                    refine Le.trans ?_ (Le.trans (sh_mono q.2 h6) h2)
                    rw [eyq]; exact hle
        have e2 := xsheet_at (h := h) (ch := ch) e
        cases eh : h i with
        | none => exact absurd eh hh
        | some r =>
          rw [eh] at e2
          cases g with
          | amt a => rw [fix i _ e]; exact h1
          | wh j a k => exact absurd rfl (pn _ (List.mem_of_getElem? e) j a k)
          | lo l =>
            obtain ⟨q, q1, q2⟩ := P.ok i l e hh
            rw [max_lo q1] at e2
            exact arc _ q e2 (List.mem_singleton.mpr rfl) (wg.2 q (List.mem_of_getElem? q1)) q2 (Le.trans h1 (lo_le (List.mem_of_getElem? q1)))
          | hi l =>
            obtain ⟨q, hq, eq⟩ := hi_at y wg.1
            rw [eq] at h1
            obtain ⟨r', h2, _⟩ := hr.hi i l r e eh q hq
            exact arc _ q e2 hq (wg.2 q hq) (by rw [h2]; simp) h1
    by_cases c : h i = none
    · rw [o i hi c]; exact Le.top
    · exact main _ i hi c rfl
end
end CsM

set_option linter.all false
namespace CsM
/-! what the loops of settled_least, greatest_plain gather -/
def ch0 (pl : List Fm) : List (Option Nat) := pl.map fun f => match f with
  | .hi _ => some 0
  | _ => none
theorem ch0_ok {pl : List Fm} (w : Wf pl) : ChOk pl (ch0 pl) := by
  refine ⟨List.length_map .., fun i f e => ⟨_, by unfold ch0; rw [List.getElem?_map, e]; rfl, ?_⟩⟩
  cases f with
  | hi l => exact ⟨0, rfl, List.length_pos_iff.mpr (w.at e).1⟩
  | lo l => rfl
  | amt a => rfl
  | wh j a k => rfl
theorem wsum_ext {B n : Nat} {x y : Nat → Am} (h : ∀ i, i < n → x i = y i) : wsum B n x = wsum B n y :=
  Nat.le_antisymm (sumN_le fun i hi => by rw [h i hi]; exact Nat.le_refl _) (sumN_le fun i hi => by rw [h i hi]; exact Nat.le_refl _)
/-- the arc q of a cell with "greatest" is better, and the best -/
def Cnd (x : Nat → Am) (i : Nat) (l : Arcs) (q : Nat) : Prop := ∃ p, l[q]? = some p ∧ ¬ Le (sh (x p.1) p.2) (x i) ∧ sh (x p.1) p.2 = val (.hi l) x
structure BI (pl : List Fm) (ch b : List (Option Nat)) (x : Nat → Am) (k j : Nat) : Prop where
  len : b.length = pl.length
  hi : ∀ (i : Nat) (l : Arcs), pl[i]? = some (.hi l) → (b[i]? = ch[i]? ∧ ∀ q, q < l.length → (i < k ∨ (i = k ∧ q < j)) → ¬ Cnd x i l q) ∨ ∃ q, b[i]? = some (some q) ∧ Cnd x i l q
  oth : ∀ (i : Nat) (f : Fm), pl[i]? = some f → (∀ l, f ≠ .hi l) → b[i]? = ch[i]?
section
variable {pl : List Fm} {ch b : List (Option Nat)} {x : Nat → Am} {k j : Nat}
theorem BI.start (h : ch.length = pl.length) : BI pl ch ch x 0 0 := ⟨h, fun i l e => .inl ⟨rfl, fun q _ hq => by omega⟩, fun _ _ _ _ => rfl⟩
theorem BI.no {l : Arcs} (s : BI pl ch b x k j) (e : pl[k]? = some (.hi l)) (c : ¬ Cnd x k l j) : BI pl ch b x k (j + 1) := by
  refine ⟨s.len, fun i l' e' => ?_, s.oth⟩
  rcases s.hi i l' e' with ⟨h1, h2⟩ | h
  · refine .inl ⟨h1, fun q hq hlt hc => ?_⟩
    by_cases y : i = k ∧ q = j
    · obtain ⟨rfl, rfl⟩ := y
      rw [e] at e'; cases e'
      exact c hc
    · exact h2 q hq (by omega) hc
  · exact .inr h
theorem BI.yes {l : Arcs} (s : BI pl ch b x k j) (e : pl[k]? = some (.hi l)) (c : Cnd x k l j) : BI pl ch (b.set k (some j)) x k (j + 1) := by
  have hk : k < b.length := by rw [s.len]; exact lt_of e
  refine ⟨by rw [List.length_set]; exact s.len, fun i l' e' => ?_, fun i f e' hf => ?_⟩
  · by_cases y : i = k
    · subst y
      rw [e] at e'; cases e'
      exact .inr ⟨j, by rw [List.getElem?_set, if_pos rfl, if_pos hk], c⟩
    · rw [List.getElem?_set, if_neg (fun z => y z.symm)]
      rcases s.hi i l' e' with ⟨h1, h2⟩ | h
      · exact .inl ⟨h1, fun q hq hlt => h2 q hq (by omega)⟩
      · exact .inr h
  · have y : i ≠ k := fun y => by
      subst y
      rw [e] at e'; cases e'
      exact hf l rfl
    rw [List.getElem?_set, if_neg (fun z => y z.symm)]
    exact s.oth i f e' hf
theorem BI.cell {l : Arcs} (s : BI pl ch b x k j) (e : pl[k]? = some (.hi l)) (h : l.length ≤ j) : BI pl ch b x (k + 1) 0 := by
  refine ⟨s.len, fun i l' e' => ?_, s.oth⟩
  rcases s.hi i l' e' with ⟨h1, h2⟩ | h
  · refine .inl ⟨h1, fun q hq hlt => h2 q hq ?_⟩
    by_cases y : i = k
    · subst y
      rw [e] at e'; cases e'
      exact .inr ⟨rfl, by omega⟩
    · omega
  · exact .inr h
theorem BI.skip {f : Fm} (s : BI pl ch b x k 0) (e : pl[k]? = some f) (h : ∀ l, f ≠ .hi l) : BI pl ch b x (k + 1) 0 := by
  refine ⟨s.len, fun i l' e' => ?_, s.oth⟩
  rcases s.hi i l' e' with ⟨h1, h2⟩ | h'
  · refine .inl ⟨h1, fun q hq hlt => h2 q hq ?_⟩
    by_cases y : i = k
    · subst y
      rw [e] at e'; cases e'
      exact absurd rfl (h l')
    · omega
  · exact .inr h'
theorem BI.imp (s : BI pl ch b x k j) : Imp pl ch b x := fun i l e => by
  rcases s.hi i l e with ⟨h1, _⟩ | ⟨q, h1, p, h2, h3, _⟩
  · exact .inl h1
  · exact .inr ⟨q, p, h1, h2, h3⟩
theorem BI.ok (s : BI pl ch b x k j) (co : ChOk pl ch) : ChOk pl b := by
  refine ⟨s.len, fun i f e => ?_⟩
  by_cases c : ∃ l, f = .hi l
  · obtain ⟨l, rfl⟩ := c
    rcases s.hi i l e with ⟨h1, _⟩ | ⟨q, h1, p, h2, _⟩
    · rw [h1]; exact co.at_ i _ e
    · exact ⟨_, h1, q, rfl, lt_of h2⟩
  · rw [s.oth i f e fun l z => c ⟨l, z⟩]
    exact co.at_ i f e
theorem BI.none (s : BI pl ch ch x pl.length 0) (w : Wf pl) (co : ChOk pl ch) (h : IsLeast (msheet pl ch) x) : ∀ (i : Nat) (l : Arcs), pl[i]? = some (.hi l) → ∀ p ∈ l, Le (sh (x p.1) p.2) (x i) := fun i l e p hp => by
  refine Classical.byContradiction fun no => ?_
  obtain ⟨q, hq, eq⟩ := hi_at x (w.at e).1
  obtain ⟨qi, eqi⟩ := List.mem_iff_getElem?.mp hq
  have hc : Cnd x i l qi := ⟨q, eqi, fun z => no (Le.trans (by rw [← eq]; exact hi_ge hp) z), eq.symm⟩
  rcases s.hi i l e with ⟨_, h2⟩ | ⟨q2, h1, p2, h2, h3, _⟩
  · exact h2 qi (lt_of eqi) (.inl (lt_of e)) hc
  · obtain ⟨k, p3, k1, k2, _, k4, _⟩ := co.hi e
    rw [h1] at k1
    have z : q2 = k := Option.some.inj (Option.some.inj k1)
    subst z
    rw [h2] at k2; cases k2
    have fx := h.fix (msheet_at (ch := ch) e)
    rw [k4, one_arc] at fx
    exact h3 (by rw [← fx]; exact Le.refl _)
end
end CsM

set_option linter.all false
namespace CsM
/-! choices that become lesser, gathered cell by cell -/
def XCnd (x : Nat → Am) (i : Nat) (l : Arcs) (q : Nat) : Prop := ∃ p, l[q]? = some p ∧ ¬ Le (x i) (sh (x p.1) p.2) ∧ sh (x p.1) p.2 = val (.lo l) x
structure GI (pl : List Fm) (h : Nat → Am) (ch b : Nat → Nat) (x : Nat → Am) (d : Nat → Nat → Prop) : Prop where
  all : ∀ (i : Nat) (l : Arcs), pl[i]? = some (.lo l) → h i ≠ none → (b i = ch i ∧ ∀ q, q < l.length → d i q → ¬ XCnd x i l q) ∨ XCnd x i l (b i)
section
variable {pl : List Fm} {h : Nat → Am} {ch b : Nat → Nat} {x : Nat → Am} {d d' : Nat → Nat → Prop}
theorem GI.start : GI pl h ch ch x fun _ _ => False := ⟨fun i l e hh => .inl ⟨rfl, fun q _ y => y.elim⟩⟩
theorem GI.mono (s : GI pl h ch b x d) (m : ∀ (i q : Nat) (l : Arcs), pl[i]? = some (.lo l) → q < l.length → d' i q → d i q) : GI pl h ch b x d' := ⟨fun i l e hh => by
  rcases s.all i l e hh with ⟨h1, h2⟩ | h1
  · exact .inl ⟨h1, fun q hq y => h2 q hq (m i q l e hq y)⟩
  · exact .inr h1⟩
def setF (b : Nat → Nat) (c q : Nat) : Nat → Nat := fun i => if i = c then q else b i
theorem setF_same {b : Nat → Nat} {c q : Nat} : setF b c q c = q := if_pos rfl
theorem setF_ne {b : Nat → Nat} {c q i : Nat} (h : i ≠ c) : setF b c q i = b i := if_neg h
theorem GI.no {c : Nat} {l : Arcs} {j : Nat} (s : GI pl h ch b x d) (e : pl[c]? = some (.lo l)) (n : ¬ XCnd x c l j) : GI pl h ch b x fun i q => d i q ∨ (i = c ∧ q = j) := ⟨fun i l' e' hh => by
  rcases s.all i l' e' hh with ⟨h1, h2⟩ | h1
  · refine .inl ⟨h1, fun q hq y => ?_⟩
    rcases y with y | ⟨y1, y2⟩
    · exact h2 q hq y
    · subst y1; subst y2
      rw [e] at e'; cases e'
      exact n
  · exact .inr h1⟩
theorem GI.yes {c : Nat} {l : Arcs} {j : Nat} (s : GI pl h ch b x d) (e : pl[c]? = some (.lo l)) (n : XCnd x c l j) : GI pl h ch (setF b c j) x fun i q => d i q ∨ (i = c ∧ q = j) := ⟨fun i l' e' hh => by
  by_cases y : i = c
  · subst y
    rw [e] at e'; cases e'
    rw [setF_same]
    exact .inr n
  · rw [setF_ne y]
    rcases s.all i l' e' hh with ⟨h1, h2⟩ | h1
    · refine .inl ⟨h1, fun q hq z => ?_⟩
      rcases z with z | ⟨z1, _⟩
      · exact h2 q hq z
      · exact absurd z1 y
    · exact .inr h1⟩
theorem GI.imp (s : GI pl h ch b x d) : XImp pl h ch b x := fun i l e hh => by
  rcases s.all i l e hh with ⟨h1, _⟩ | ⟨p, h1, h2, _⟩
  · exact .inl h1
  · exact .inr ⟨p, h1, h2⟩
theorem GI.none (s : GI pl h ch b x d) (w : Wf pl) (P : XPol pl h ch) (hx : IsLeast (xsheet pl h ch) x) (hd : ∀ (i q : Nat) (l : Arcs), pl[i]? = some (.lo l) → h i ≠ none → q < l.length → d i q)
    (eq : ∀ (i : Nat) (l : Arcs), pl[i]? = some (.lo l) → h i ≠ none → b i = ch i) : ∀ (i : Nat) (l : Arcs), pl[i]? = some (.lo l) → h i ≠ none → ∀ q ∈ l, Le (x i) (sh (x q.1) q.2) := fun i l e hh => by
  have ne := (w.at e).1
  rcases s.all i l e hh with ⟨h1, h2⟩ | ⟨p, h1, h2, _⟩
  · obtain ⟨p, hp, ep⟩ := lo_at x ne
    obtain ⟨j, hj⟩ := List.mem_iff_getElem?.mp hp
    have n := h2 j (lt_of hj) (hd i j l e hh (lt_of hj))
    have le : Le (x i) (sh (x p.1) p.2) := Classical.byContradiction fun y => n ⟨p, hj, y, ep.symm⟩
    intro q hq
    rw [← ep] at le
    exact Le.trans le (lo_le hq)
  · rw [eq i l e hh] at h1
    have e2 := xsheet_at (h := h) (ch := ch) e
    cases eh : h i with
    | none => exact absurd eh hh
    | some v =>
      rw [eh, max_lo h1] at e2
      have fx := hx.fix e2
      rw [one_hi] at fx
      exact absurd (by rw [fx]; exact Le.refl _) h2
theorem ssum_ext {n : Nat} {x y : Nat → Am} (h : ∀ i, i < n → x i = y i) : ssum n x = ssum n y := by
  have h1 : ssum n x ≤ ssum n y := sumN_le fun i hi => by rw [h i hi]; exact Nat.le_refl _
  have h2 : ssum n y ≤ ssum n x := sumN_le fun i hi => by rw [h i hi]; exact Nat.le_refl _
  omega
end
end CsM

set_option Elab.async false
set_option linter.all false
set_option maxRecDepth 100000
set_option maxHeartbeats 4000000
namespace CsL
open PySem PySem.Spec PyProof.Rows L2 LamX NdefX CsTop
/-! ### the lambda of least_with -/
def noPos : Pos := ⟨0, 0, 0, 0⟩
def lamE : Expr := match (defBody sLeastWith).getD 3 (.Pass noPos) with
  | .While _ b _ _ => (match b.getD 1 (.Pass noPos) with
    | .Assign _ (.Call _ as _ _) _ => as.getD 1 (.Constant .none 0 noPos)
    | _ => .Constant .none 0 noPos)
  | _ => .Constant .none 0 noPos
def lamParams : Arguments := match lamE with
  | .Lambda p _ _ _ => p
  | _ => { posonlyargs := [], args := [], vararg := none, kwonlyargs := [], kw_defaults := [], kwarg := none, defaults := [] }
def lamBody : Expr := match lamE with
  | .Lambda _ b _ _ => b
  | _ => .Constant .none 0 noPos
def lamScope : Scope := match lamE with
  | .Lambda _ _ sc _ => sc
  | _ => { kind := .function, names := [], isGenerator := false, isCoroutine := false }
def lamPos : Pos := match lamE with
  | .Lambda _ _ _ p => p
  | _ => noPos
theorem lam_eq : lamE = .Lambda lamParams lamBody lamScope lamPos := by rfl
abbrev lamFn (q : Str) (cl : List (Str × Addr)) (pm cv ctv : Value) : FuncData := PySem.W.kla_fn "<lambda>" q lamParams lamBody lamScope cl pm cv ctv
abbrev lamObj (q : Str) (cl : List (Str × Addr)) (pm : Value) (c' : Addr) (ctv : Value) : Obj := PySem.W.kla_obj "<lambda>" q lamParams lamBody lamScope cl pm c' ctv
theorem lam_sc : NScope ["shift", "many"] ["shift"] ["many"] lamScope := nscope_by (by decide +kernel)
theorem lam_bind (q : Str) (cl : List (Str × Addr)) (pm cv ctv u : Value) : bindArgs (lamFn q cl pm cv ctv) ⟨[u], []⟩ = pure [(("shift" : Str), u)] := by rfl
/-! ### one tracked object left out, put in -/
def out (o : Addr) (H : Hp) : Hp := fun b => if b = o then none else H b
theorem out_ne {o b : Addr} {H : Hp} (h : b ≠ o) : out o H b = H b := if_neg h
theorem out_self {o : Addr} {H : Hp} : out o H o = none := if_pos rfl
/-- the object at o is known as it stands -/
abbrev Kn (H : Hp) (o : Addr) (ob : Obj) : Prop := H o = some (.frz ob (.own o))
section
variable {P : Program} {w : World} {K : PySem.W.Frag} {mg : Str → Option Value} {base : Heap} {A : Around} {outer : List Env} {s s' : Shared} {H H' : Hp} {o : Addr} {ob : Obj} {h h' : Heap}
theorem ok_out (hk : HOk P w H h) (e : Kn H o ob) : HOk P w (out o H) h := fun b u q => by
  have nb : b ≠ o := fun z => by rw [z, out_self] at q; cases q
  rw [out_ne nb] at q
  refine (hk b u q).stay (fun c v _ r => r) (fun c r => ?_) (fun c xs r => ?_)
  · exact (out_ne (fun z => by rw [z, e] at r; cases r)).trans r
  · exact (out_ne (fun z => by rw [z, e] at r; cases r)).trans r
theorem ok_back (hk : HOk P w (out o H) h) (e : Kn H o ob) (ho : h.get? o = some ob) : HOk P w H h := fun b u q => by
  by_cases nb : b = o
  · rw [nb] at q ⊢
    rw [e] at q; cases q
    exact ⟨ho, ⟨ob, ho⟩⟩
  · have q2 := (out_ne (H := H) nb).trans q
    refine (hk b u q2).stay (fun c v _ r => r) (fun c r => ?_) (fun c xs r => ?_)
    · have nc : c ≠ o := fun z => by rw [z, out_self] at r; cases r
      rw [out_ne nc] at r; exact r
    · have nc : c ≠ o := fun z => by rw [z, out_self] at r; cases r
      rw [out_ne nc] at r; exact r
theorem out_upd (n : H o = none) {u : HO} : out o (upd H o u) = H := by
  funext b
  by_cases c : b = o
  · rw [c, out_self, n]
  · rw [out_ne c, upd_ne c]
theorem env_out (e0 : Env0 P w K mg base A outer s H) (e : Kn H o ob) : Env0 P w K mg base A outer s (out o H) :=
  ⟨e0.frames, e0.mod, fun b u q => ⟨(e0.bs b u q).1, by
    by_cases c : b = o
    · rw [c]; exact out_self
    · rw [out_ne c]; exact (e0.bs b u q).2⟩, e0.bsz, e0.funs, fun b hb => by
    by_cases c : b = o
    · rw [c]; exact out_self
    · rw [out_ne c]; exact e0.frf b hb, ok_out e0.hok e, e0.bare⟩
/-- an object that was not tracked is known from here on -/
theorem env_in (e0 : Env0 P w K mg base A outer s H) (n : H o = none) (ho : s.heap.get? o = some ob) (nb : base.get? o = none) (nf : o ∉ frs outer) : Env0 P w K mg base A outer s (upd H o (.frz ob (.own o))) :=
  ⟨e0.frames, e0.mod, fun b u q => ⟨(e0.bs b u q).1, by
    have c : b ≠ o := fun z => by rw [z, nb] at q; cases q
    rw [upd_ne c]; exact (e0.bs b u q).2⟩, e0.bsz, e0.funs, fun b hb => by
    have c : b ≠ o := fun z => nf (z ▸ hb)
    rw [upd_ne c]; exact e0.frf b hb, ok_back (o := o) (ob := ob) (by rw [out_upd n]; exact e0.hok) upd_same ho, e0.bare⟩
/-- a call from the heap with it is one from the heap without it -/
theorem ce_out {Q : VK} {u : Value} (n : H o = none) (ho : s.heap.get? o = some ob) (nf : o ∉ frs outer) (c : CE outer P w (upd H o (.frz ob (.own o))) s (fun v H3 => Q v (out o H3)) u s') : CE outer P w H s Q u s' := by
  obtain ⟨v, H3, c1, c2, un, hk, c3, c4⟩ := c
  have k3 : Kn H3 o ob := un.frzs o ob _ upd_same
  have g3 : s'.heap.get? o = some ob := (hk o _ k3).1
  have hu : ∀ b x, H b = some x → (upd H o (.frz ob (.own o))) b = some x := fun b x q => by rw [upd_ne (ne_of_none q n)]; exact q
  refine ⟨v, out o H3, c1, c2, ⟨fun b x q hb hf hx => ?_, fun b x q hb hf hx => ?_, fun b x q hb hx => ?_, un.there, fun b xs q => ?_, fun b x y q => ?_, fun b ps q => ?_⟩, ok_out hk k3, c3, c4⟩
  · by_cases z : b = o
    · rw [z] at q ⊢; rw [ho] at q; cases q; exact g3
    · exact un.keep b x q (by rw [upd_ne z]; exact hb) hf hx
  · have z : b ≠ o := fun z => nf (z ▸ hf)
    exact un.slot b x q (by rw [upd_ne z]; exact hb) hf hx
  · by_cases z : b = o
    · rw [z]; exact out_self
    · rw [out_ne z]; exact un.free b x q (by rw [upd_ne z]; exact hb) hx
  · rw [out_ne (ne_of_none q n)]; exact un.tups b xs (hu b _ q)
  · rw [out_ne (ne_of_none q n)]; exact un.frzs b x y (hu b _ q)
  · obtain ⟨more, e⟩ := un.tbls b ps (hu b _ q)
    exact ⟨more, by rw [out_ne (ne_of_none q n)]; exact e⟩
/-- a call that leaves the heap without it as it was leaves the heap with it so -/
theorem ce_in {z : V} {u : Value} (e : Kn H o ob) (nf : o ∉ frs outer) (ho : s.heap.get? o = some ob) (c : CE outer P w (out o H) s (fun v H3 => v = z ∧ H3 = out o H) u s') : CE outer P w H s (fun v H3 => v = z ∧ H3 = H) u s' := by
  obtain ⟨v, H3, c1, c2, un, hk, c3, rfl, rfl⟩ := c
  have g3 : s'.heap.get? o = some ob := un.keep o ob ho out_self nf (by intro y; cases y)
  refine ⟨v, H, c1, c2, ⟨fun b x q hb hf hx => ?_, fun b x q hb hf hx => ?_, fun b x q hb hx => hb, un.there, fun b xs q => q, fun b x y q => q, fun b ps q => ⟨#[], by rw [q]; simp⟩⟩, ok_back hk e g3, c3, rfl, rfl⟩
  · exact un.keep b x q ((out_ne (fun y => by rw [y, e] at hb; cases hb)).trans hb) hf hx
  · exact un.slot b x q ((out_ne (fun y => by rw [y, e] at hb; cases hb)).trans hb) hf hx
end
/-- what a def must find to call the lambda: its object, its code object, its cell -/
structure Wt (H : Hp) (f : Addr) (n : Int) : Prop where
  ex : ∃ (q : Str) (cl : List (Str × Addr)) (c' : Addr) (pm ctv : Value) (cc : Addr) (o : Obj) (t : Tok), Kn H f (lamObj q cl pm c' ctv) ∧ H c' = some (CodeO c' q) ∧ cl.lookup ("many" : Str) = some cc ∧ (∀ y c, cl.lookup y = some c → y = ("many" : Str)) ∧ Kn H cc o ∧ o.data = .cell (some (.int n t))
theorem Wt.mono {H H' : Hp} {f : Addr} {n : Int} (h : Wt H f n) (e : ∀ a o, H a = some o → H' a = some o) : Wt H' f n := by
  obtain ⟨q, cl, c', pm, ctv, cc, o, t, h1, h2, h3, h4, h5, h6⟩ := h
  exact ⟨q, cl, c', pm, ctv, cc, o, t, e _ _ h1, e _ _ h2, h3, h4, e _ _ h5, h6⟩
section
variable {P : Program} {w : World} {K : PySem.W.Frag} {mg : Str → Option Value} {base : Heap} {A : Around} {outer : List Env} {s : Shared} {H : Hp} {f : Addr} {n : Int}
theorem wt_run (e0 : Env0 P w K mg base A outer s H) (W : Wt H f n) (hr : Room 2 A) {i : Int} {tk : Tok} (hm : CMul n i) :
    codeAny (model P w) A (.call (.ref f) ⟨[.int i tk], []⟩) (CR CX0 outer P w H s (fun v H3 => v = .int (n * i - 1) ∧ H3 = H) E0) s := by
  obtain ⟨q, cl, c', pm, ctv, cc, o, t, h1, h2, h3, h4, h5, h6⟩ := W
  have hf : s.heap.get? f = some (lamObj q cl pm c' ctv) := (e0.hok f _ h1).1
  have hcell : s.heap.get? cc = some o := (e0.hok cc _ h5).1
  have nfr : cc ∉ frs outer := fun z => by
    have y := e0.frf cc z
    rw [h5] at y; cases y
  have e1 := env_out e0 h5
  have lim : s.heap.NoLimit := e0.mod.nolimit.keeps fun b x y => (e0.bs b x y).1
  let F : NF := ⟨"<lambda>", q, lamParams, [], lamScope, cl, c'⟩
  refine PySem.W.kla_callFunE hr.depth hf rfl rfl rfl rfl (codeO_at e0.hok h2) ?_
  rw [lam_bind]
  refine wpAny_pure (wpAny_newFunctionEnv lam_sc.nocell (fun ⟨y, v⟩ hy => ?_) (fun h₁ hns hsb => ⟨lim.fresh _ hsb, ?_⟩) lam_sc.kind)
  · rw [List.mem_singleton] at hy
    cases hy
    exact lam_sc.par "shift" (List.mem_singleton.mpr rfl)
  show codeAny _ _ (.expr lamBody (envF F f s.heap.objs.size)) _ _
  have kp : ∀ b x, s.heap.get? b = some x → h₁.get? b = some x := fun b x e => hsb.extBut b x (Nat.ne_of_lt (Heap.lt_size e)) (Heap.get?_push_of_some _ e)
  have C : CellsAt F.cl ["many"] [some (.int n)] s.heap (out cc H) := by
    have isC : s.heap.IsCell cc (some (.int n t)) := ⟨o, hcell, h6⟩
    refine ⟨rfl, fun y c hy => ?_, fun x y c hx hy => ?_, fun j y hy => ?_⟩
    · have ey := h4 y c hy
      subst ey
      have ec : c = cc := Option.some.inj (hy.symm.trans h3)
      subst ec
      exact ⟨out_self, _, isC⟩
    · rw [h4 x c hx, h4 y c hy]
    · cases j with
      | succ j => cases hy
      | zero =>
        cases hy
        refine ⟨cc, h3, fun v hv => ?_⟩
        cases hv
        exact ⟨_, ⟨t, rfl⟩, isC⟩
  have J : Inv (ncx CX0 P w K mg base ["shift", "many"] F f A outer s (out cc H) E0) [] (startF ["shift", "many"] [.int i] [some (.int n)]) (out cc H) { s with heap := h₁, toks := s.toks + [(("shift" : Str), Value.int i tk)].length } :=
    inv_startN (us := [.int i tk]) (ps := ["shift"]) lam_sc hr.hd e1 rfl (.cons ⟨tk, rfl⟩ .nil) C hns kp
  have hb : PE (ncx CX0 P w K mg base ["shift", "many"] F f A outer s (out cc H) E0) lamBody (tOp (rI0 fun i j => .int (i - j)) (tOp (rI CMul fun i j => .int (i * j)) (tVar 1) (tVar 0)) (tC (.int 1))) :=
    pe_op op_sub (pe_op op_mul (pv 1) (pv 0)) pe_int
  refine PySem.W.kla_codeExpr (wpAny_mono (hb.run [] _ _ (out cc H) (fun v H3 => v = .int (n * i - 1) ∧ H3 = out cc H) J ⟨_, rfl, _, rfl, n, i, rfl, rfl, hm, _, _, rfl, rfl, rfl, rfl⟩) (fun v s' hq => ?_) fun e s' hq => hq)
  obtain ⟨v', H', J', rv, q'⟩ := hq
  exact ce_in h5 nfr hcell ⟨v', H', J'.os, J'.bare, J'.base, J'.hok, rv, q'⟩
end
/-- weight(e), weight the lambda -/
def tWt (i : Nat) (te : TE) : TE := fun σ H Q => ∃ (f : Addr) (n : Int), σ[i]? = some (some (.ref f)) ∧ Wt H f n ∧ te σ H fun v H1 => ∃ s : Int, v = .int s ∧ Wt H1 f n ∧ CMul n s ∧ Q (.int (n * s - 1)) H1
theorem x_weight {X : Cx} {i k : Nat} {x : Str} {e : Expr} {te : TE} {p pos : Pos} (hr : Room k X.A) (ha : PE X e te) (hN : X.N[i]? = some x := by rfl) (hv : Vis X.env.scope x := by first | exact Or.inl rfl | exact Or.inr (Or.inl rfl))
    (hk : 2 ≤ k := by decide) (hx : Passes CX0 X E0 := by exact pass0) (hd : (x == ("__debug__" : Str)) = false := by decide) (hcd : (x == ("__classdict__" : Str)) = false := by decide)
    (hs : starEach (e :: []) X.env = (false, eval e X.env) :: starEach [] X.env := by rfl) (hpl : (backTo pos (starEach ([] : List Expr) X.env)).any (·.1) = false := by rfl) : PE X (.Call (.Name x p) [e] [] pos) (tWt i te) := by
  refine ⟨fun pins s σ H Q I h => ?_⟩
  obtain ⟨f, n, hσ, W, ht⟩ := h
  refine wpAny_Call_Name_kw (thn ((pe_var (pos := p) hN hv hd hcd).run pins s σ H (fun v H1 => v = .ref f ∧ H1 = H) I ⟨.ref f, hσ, rfl, rfl⟩) fun u s1 ⟨v, H1, I1, r1, q1⟩ => ?_)
  obtain ⟨ev, eH⟩ := q1
  subst ev
  subst eH
  obtain rfl : u = Value.ref f := r1
  have fnat : ∀ {s2 : Shared} {H2 : Hp}, Inv X pins σ H2 s2 → Wt H2 f n → PySem.W.FnAt f s2.heap := fun {s2 H2} I2 W2 => by
    obtain ⟨q, cl, c', pm, ctv, cc, o, t, h1, _⟩ := W2
    exact ⟨_, _, _, _, (I2.hok f _ h1).1⟩
  refine PySem.W.callWith_F (first := []) (fnat I1 W) (thn ((pa_cons ha pa_nil hs).run pos pins s1 σ H1 (fun vs H2 => ∃ s : Int, vs = [.int s] ∧ Wt H2 f n ∧ CMul n s ∧ Q (.int (n * s - 1)) H2) I1 ?_) fun us s2 ⟨vs, H2, I2, r, z, ez, W2, hm, q⟩ => ⟨fnat I2 W2, ?_⟩) hs hpl
  · exact (show tCons te tNil σ H1 _ from by
      have e1 : (fun (v : V) (H1 : Hp) => ∃ s : Int, v = .int s ∧ Wt H1 f n ∧ CMul n s ∧ Q (.int (n * s - 1)) H1) = fun v H1 => tNil σ H1 fun vs H2 => ∃ s : Int, v :: vs = [.int s] ∧ Wt H2 f n ∧ CMul n s ∧ Q (.int (n * s - 1)) H2 := by
        funext v H2
        show _ = ∃ s : Int, [v] = [.int s] ∧ _
        simp
      show te σ H1 (fun v H1 => tNil σ H1 fun vs H2 => ∃ s : Int, v :: vs = [.int s] ∧ Wt H2 f n ∧ CMul n s ∧ Q (.int (n * s - 1)) H2)
      rw [← e1]
      exact ht)
  · subst ez
    obtain ⟨u, rfl, tk, rfl⟩ := vals1 r
    show wpAny _ _ (call (.ref f) [.int z tk]) _ _ _
    refine wpAny_call (codeAny_mono (wt_run I2.env0 W2 (hr.mono hk) (i := z) (tk := tk) hm) fun r s' hq => ?_)
    cases r with
    | error e => exact hq.elim
    | ok fl =>
      cases fl with
      | ret u =>
        have hq2 : CE X.stack X.prog X.w H2 s2 Q u s' := by
          obtain ⟨v, H3, c1, c2, c3, c4, c5, rfl, rfl⟩ := hq
          exact ⟨_, _, c1, c2, c3, c4, c5, q⟩
        exact I2.after hq2
      | next => exact hq.elim
      | brk => exact hq.elim
      | cont => exact hq.elim
/-! ### the lambda made -/
/-- the lambda's value: its object and its code object are known from now on; of the rest the table alone is changed -/
def tLamE (T : Addr) (q : Str) (cl : List (Str × Addr)) : TE := fun σ H Q => TabS H T q ∧ ∀ (f c' : Addr) (pm ctv : Value) (H1 : Hp), ExtN H H1 → TabS H1 T q → H f = none → Kn H1 f (lamObj q cl pm c' ctv) → H1 c' = some (CodeO c' q) → Q (.ref f) H1
theorem x_lam {X : Cx} {c T : Addr} (TB : TabB X.base X.mg c T) (hcode : X.env.code = .ref c) (hfr : ∀ y ∈ lamScope.names, y.2 = .free → X.env.scope.names.lookup y.1 = some .cell) :
    PE X lamE (tLamE T (X.env.qual ++ "<lambda>") (cloFrom X.env.cells lamScope.names [])) := by
  refine ⟨fun pins s σ H Q I h => ?_⟩
  obtain ⟨⟨ps, hP, ht, hall⟩, h⟩ := h
  have hcl : closureFor lamScope X.env = pure (cloFrom X.env.cells lamScope.names []) := closure_ok fun y hy e => I.ok.has _ (.inl (hfr y hy e))
  have bltT : s.heap.BuiltinsAt X.mg T := TB.bm.keeps I.bk
  have tabT : s.heap.get? T = some { cls := .none, data := .fields ps } := I.hok T _ hP
  rw [lam_eq]
  refine PySem.W.kla_eval rfl ?_
  -- the function object, the newest one, is known
  have known : ∀ {H2 : Hp} {h' : Heap} {tk : Nat} {pm ctv : Value} {c' : Addr}, Inv X pins σ H2 { s with heap := h', toks := tk } →
      Inv X pins σ (upd H2 h'.objs.size (.frz (lamObj (X.env.qual ++ "<lambda>") (cloFrom X.env.cells lamScope.names []) pm c' ctv) (.own h'.objs.size))) { s with heap := h'.push (lamObj (X.env.qual ++ "<lambda>") (cloFrom X.env.cells lamScope.names []) pm c' ctv), toks := tk } := fun {H2 h' tk pm ctv c'} J => by
    have g := Heap.get?_push_size (h := h') (o := lamObj (X.env.qual ++ "<lambda>") (cloFrom X.env.cells lamScope.names []) pm c' ctv) (by rfl)
    exact J.laid (t' := tk) (h' := h'.push (lamObj (X.env.qual ++ "<lambda>") (cloFrom X.env.cells lamScope.names []) pm c' ctv)) (fun b u e => Heap.get?_push_of_some _ e) (Nat.le_refl _) ⟨g, _, g⟩
  cases hc : codeAmong lamPos ps.toList with
  | none =>
    refine PySem.W.kla_makeFunction (mg := X.mg) (c := c) (P := T) (ps := ps) hcl I.ok.glob (I.mod.glob.keeps I.bk) hcode (TB.code.keeps I.bk) tabT ht hc TB.gP bltT fun c' ctv h' tk hx hge hlt hrec htb => ?_
    obtain ⟨c2, oc, vs, t, e2, hoc, hd, hv⟩ := hrec
    cases e2
    have freshC : H c' = none := I.hok.fresh hge
    have I1 := inv_table (t' := tk) (more := #[rawInt lamPos.line, rawInt lamPos.col, .ref c']) I hP hx htb hge ⟨oc, vs, t, hoc, hd, hv⟩
    have I2 := known (pm := (X.mg "__name__").getD .none) (ctv := ctv) (c' := c') I1
    have nF : upd (upd H T (.tbl (ps ++ #[rawInt lamPos.line, rawInt lamPos.col, .ref c']))) c' (CodeO c' (X.env.qual ++ "<lambda>")) h'.objs.size = none := I1.hok.fresh (Nat.le_refl _)
    have TneC : T ≠ c' := ne_of_none hP freshC
    have TneF : T ≠ h'.objs.size := fun z => by
      rw [← z, upd_ne TneC, upd_same] at nF; cases nF
    have CneF : c' ≠ h'.objs.size := Nat.ne_of_lt hlt
    have keepN : ExtN H (upd (upd (upd H T (.tbl (ps ++ #[rawInt lamPos.line, rawInt lamPos.col, .ref c']))) c' (CodeO c' (X.env.qual ++ "<lambda>"))) h'.objs.size (.frz (lamObj (X.env.qual ++ "<lambda>") (cloFrom X.env.cells lamScope.names []) ((X.mg "__name__").getD .none) c' ctv) (.own h'.objs.size))) := fun b o e n => by
      have b1 : b ≠ T := fun z => by
        rw [z, hP] at e
        exact n ps (Option.some.inj e).symm
      have b2 : b ≠ c' := ne_of_none e freshC
      have b3 : b ≠ h'.objs.size := fun z => by
        rw [← z, upd_ne b2, upd_ne b1, e] at nF; cases nF
      rw [upd_ne b3, upd_ne b2, upd_ne b1]; exact e
    refine ⟨.ref h'.objs.size, _, I2, rfl, h _ c' _ _ _ keepN ⟨ps ++ #[rawInt lamPos.line, rawInt lamPos.col, .ref c'], ?_, ?_, fun p' cv hcv => ?_⟩ ?_ upd_same ?_⟩
    · rw [upd_ne TneF, upd_ne TneC, upd_same]
    · rw [show (ps ++ #[rawInt lamPos.line, rawInt lamPos.col, Value.ref c']).toList = ps.toList ++ [rawInt lamPos.line, rawInt lamPos.col, .ref c'] by simp]
      exact PySem.TriplesOk_snoc _ _ _ _ ht
    · rw [show (ps ++ #[rawInt lamPos.line, rawInt lamPos.col, Value.ref c']).toList = ps.toList ++ [rawInt lamPos.line, rawInt lamPos.col, .ref c'] by simp] at hcv
      rcases among_app _ ht hcv with z | z
      · obtain ⟨c0, y1, y2⟩ := hall p' cv z
        exact ⟨c0, y1, keepN _ _ y2 codeO_ne⟩
      · exact ⟨c', z, by rw [upd_ne CneF, upd_same]⟩
    · have z := nF
      by_cases y : h'.objs.size = T
      · exact absurd y.symm TneF
      · rw [upd_ne (Ne.symm CneF), upd_ne y] at z; exact z
    · rw [upd_ne CneF, upd_same]
  | some cv =>
    obtain ⟨c', e, hco⟩ := hall lamPos cv hc
    subst e
    refine PySem.W.kla_makeFunctionHit (mg := X.mg) (c := c) (P := T) (ps := ps) hcl I.ok.glob (I.mod.glob.keeps I.bk) hcode (TB.code.keeps I.bk) tabT ht hc bltT fun ctv h' tk hx hsz => ?_
    have I1 : Inv X pins σ H { s with heap := h', toks := tk } := I.kept hx
    have I2 := known (pm := (X.mg "__name__").getD .none) (ctv := ctv) (c' := c') I1
    have nF : H h'.objs.size = none := I1.hok.fresh (Nat.le_refl _)
    have keep : ∀ b o, H b = some o → (upd H h'.objs.size (.frz (lamObj (X.env.qual ++ "<lambda>") (cloFrom X.env.cells lamScope.names []) ((X.mg "__name__").getD .none) c' ctv) (.own h'.objs.size))) b = some o := fun b o e => (upd_ne (ne_of_none e nF)).trans e
    exact ⟨.ref h'.objs.size, _, I2, rfl, h _ c' _ _ _ (ExtN.of keep) (TabS.ext ⟨ps, hP, ht, hall⟩ keep) nF upd_same (keep _ _ hco)⟩
/-! ### a call while the cell of «many» is known -/
def tCallX (cells : List (Str × Addr)) (j : Nat) (sp : Sp) (t : TA) : TE := fun σ H Q => t σ H fun vs H1 => ∃ n : Int, σ[j]? = some (some (.int n)) ∧
  ∀ (cc : Addr) (o : Obj) (tk : Tok), cells.lookup ("many" : Str) = some cc → H1 cc = none → o.data = .cell (some (.int n tk)) → sp vs (upd H1 cc (.frz o (.own cc))) (fun v H3 => Q v (out cc H3)) E0
theorem x_callX {X : Cx} {f : Addr} {fd : FuncData} {k j i : Nat} {x : Str} {ps : List Str} {sp : Sp} {e : Expr} {es : List Expr} {t : TA} {p pos : Pos} (F : FnOk X.prog X.w X.K X.mg X.base CX0 j f fd ps sp) (hm : X.mg x = some (.ref f)) (hk : PySem.W.keepIn X.K (.ref f) = true) (hb : Binds X.K fd ps [])
    (hr : Room k X.A) (ha : PA X (e :: es) t) (hN : X.N[i]? = some ("many" : Str)) (hc : X.env.scope.names.lookup ("many" : Str) = some .cell) (hfn : X.fn ("many" : Str) = true) (hjk : j ≤ k := by decide) (hg : Gl X x := by rfl)
    (hdb : (x == ("__debug__" : Str)) = false := by decide) (he : starEach (e :: es) X.env = (false, eval e X.env) :: starEach es X.env := by rfl) (hpl : (backTo pos (starEach es X.env)).any (·.1) = false := by rfl) :
    PE X (.Call (.Name x p) (e :: es) [] pos) (tCallX X.env.cells i sp t) := by
  refine ⟨fun pins s σ H Q I h => ?_⟩
  refine wpAny_Call_Name_kw (ld_glob I hg hm ?_ hdb)
  refine PySem.W.callWith_K (h₀ := X.base) I.ok.mod.kin hk (thn (ha.run pos pins s σ H _ I h) fun us s1 ⟨vs, H1, I1, r, n, hσ, q⟩ => ⟨I1.kIn, ?_⟩) he hpl
  obtain ⟨m, hns, hloc⟩ := I1.loc
  obtain ⟨u, ⟨tk, rfl⟩, hl⟩ := hloc i _ _ hN hσ (.inr (.inl hc))
  have ⟨cc, hcc, o, ho, hd⟩ : ∃ cc, X.env.cells.lookup ("many" : Str) = some cc ∧ s1.heap.IsCell cc (some (.int n tk)) := by
    rcases hl with ⟨k1, _⟩ | ⟨_, z⟩
    · have k2 : X.env.scope.names.lookup ("many" : Str) = some .local := k1
      rw [hc] at k2; cases k2
    · exact z
  have n1 : H1 cc = none := I1.freeC _ _ hcc
  have low : X.s_0.heap.objs.size ≤ cc := I1.ok.cab _ _ hfn hcc
  have nb : X.base.get? cc = none := Heap.get?_none_of_le (Nat.le_trans I1.ok.bsz low)
  have nf : cc ∉ frs X.stack := fun z => by
    rcases List.mem_cons.mp (I1.stkSub cc z) with y | y
    · exact I1.cne _ _ hcc y
    · obtain ⟨_, ob, hob, _⟩ := I1.ok.funs.mem y
      exact Nat.lt_irrefl _ (Nat.lt_of_lt_of_le (Heap.lt_size hob) low)
  have hsp := q cc o tk hcc n1 hd
  have ln : us.length = ps.length := by rw [← r.length]; exact F.len _ _ _ _ hsp
  have hbt : BindsTo s1 fd ⟨us, []⟩ (ps.zip us) := by
    have z := hb s1 us I1.kIn (by rw [List.append_nil]; exact ln)
    rw [List.append_nil] at z
    exact z
  show wpAny _ _ (call (.ref f) us) _ _ _
  refine wpAny_call (codeAny_mono (F.run X.A X.stack s1 _ ⟨us, []⟩ us vs _ E0 (hr.mono hjk) (env_in I1.env0 n1 ho nb nf) hbt r hsp) fun r s' hq => ?_)
  cases r with
  | error e => exact hq.elim
  | ok fl =>
    cases fl with
    | ret u => exact I1.after (ce_out n1 ho nf hq)
    | next => exact hq.elim
    | brk => exact hq.elim
    | cont => exact hq.elim
end CsL

set_option Elab.async false
set_option linter.all false
set_option maxRecDepth 100000
set_option maxHeartbeats 4000000
namespace CsW
open PySem PySem.Spec PyProof.Rows L2 Evl CsTop CsM
/-! ### the top's facts -/
structure Top (K : PySem.W.Frag) (mg : Str → Option Value) : Prop where
  defs : ∀ d ∈ CsTop.fn, ∃ fd, FunD K d.name d.qual d.params d.body d.scope [] [] (He.ga K d.name) fd
  glo : ∀ d ∈ CsTop.fn, mg d.name = some (.ref (He.ga K d.name))
  len : mg "len" = none
  range : mg "range" = none
  zip : mg "zip" = none
  enumerate : mg "enumerate" = none
  any : mg "any" = none
  all : mg "all" = none
  max : mg "max" = none
  int : mg "int" = none
  list : mg "list" = none
  dict : mg "dict" = none
/-- a def that may be called: what it promises -/
structure Callee (P : Program) (w : World) (K : PySem.W.Frag) (mg : Str → Option Value) (base : Heap) (x : Str) (ps : List Str) (k : Nat) (sp : Sp) : Prop where
  ex : ∃ f fd, FnOk P w K mg base CX0 k f fd ps sp ∧ mg x = some (.ref f) ∧ PySem.W.keepIn K (.ref f) = true ∧ Binds K fd ps []
section
variable {P : Program} {w : World} {K : PySem.W.Frag} {mg : Str → Option Value} {base : Heap}
theorem Callee.mono {x : Str} {ps : List Str} {j k : Nat} {sp : Sp} (c : Callee P w K mg base x ps j sp) (h : j ≤ k) : Callee P w K mg base x ps k sp := by
  obtain ⟨f, fd, h1, h2, h3, h4⟩ := c.ex
  exact ⟨f, fd, h1.mono h, h2, h3, h4⟩
/-- a def keeps its promise -/
theorem ok_of {x : Str} {st : Stmt} {N ps : List Str} {k : Nat} {sp : Sp} (T : Top K mg) (hm : mkD x st ∈ CsTop.fn) (S : FnScope N ps (defScope st))
    (hb : ∀ (kV doc pm : Value) (an : Option Addr) (cdv ct : Value) (us : List Value), us.length = ps.length → bindArgs (PySem.W.fnOf x x (defArgs st) (defBody st) (defScope st) .none kV doc pm an cdv ct) ⟨us, []⟩ = pure (ps.zip us))
    (len : ∀ vs H Q E, sp vs H Q E → vs.length = ps.length)
    (hbody : ∀ (cdv : Value) (A : Around) (outer : List Env) (s : Shared) (H : Hp) (vs : List V) (Q : VK) (E : XK) (f : Addr), Room k (A.deeper (envOfC x (defScope st) s.heap.objs.size f cdv)) → sp vs H Q E →
      ∃ t, PSs (cxOf CX0 P w K mg base N x (defScope st) f cdv A outer s H E).nox (defBody st) t ∧ t { nx := fun _ H' => Q .non H', rt := Q } (start N vs) H) : Callee P w K mg base x ps (k + 1) sp := by
  obtain ⟨fd, F⟩ := T.defs _ hm
  have g := T.glo _ hm
  refine ⟨_, fd, ?_, g, F.kp, F.bindsN hb⟩
  exact F.ok S len fun cdv A outer s H vs Q E hr h => by
    obtain ⟨t, h1, h2⟩ := hbody cdv A outer s H vs Q E _ hr h
    exact ⟨t, h1.nox, h2⟩
end
/-! ### the rules, K written out -/
section
variable {X : Cx} {a b e : Expr} {es : List Expr} {ta tb te : TE} {t : TA} {pos p : Pos}
theorem x_ixL (K : PySem.W.Frag) (hK : X.K = K) (ha : PE X a ta) (hb : PE X b tb) (hs : PlainIx b := by exact fun _ _ => rfl) : PE X (.Subscript a b pos) (tOp (rIxL K) ta tb) := by
  subst hK; exact pe_ix ix_list ha hb hs
theorem x_ixT (K : PySem.W.Frag) (hK : X.K = K) (ha : PE X a ta) (hb : PE X b tb) (hs : PlainIx b := by exact fun _ _ => rfl) : PE X (.Subscript a b pos) (tOp (rIxT K) ta tb) := by
  subst hK; exact pe_ix ix_tup ha hb hs
theorem x_len (K : PySem.W.Frag) (hK : X.K = K) (hg : Gl X "len") (hm : X.mg "len" = none) (ha : PA X (e :: es) t) (he : starEach (e :: es) X.env = (false, eval e X.env) :: starEach es X.env := by rfl) (hpl : (backTo pos (starEach es X.env)).any (·.1) = false := by rfl) :
    PE X (.Call (.Name "len" p) (e :: es) [] pos) (tCB (rLenS K) t) := by
  subst hK; exact pe_callB call_len_seq hg hm PySem.boot_len ha (he := he) (hpl := hpl)
theorem x_list (K : PySem.W.Frag) (hK : X.K = K) (hg : Gl X "list") (hm : X.mg "list" = none) (ha : PA X (e :: es) t) (he : starEach (e :: es) X.env = (false, eval e X.env) :: starEach es X.env := by rfl) (hpl : (backTo pos (starEach es X.env)).any (·.1) = false := by rfl) :
    PE X (.Call (.Name "list" p) (e :: es) [] pos) (tCB (rListS K) t) := by
  subst hK; exact pe_callTy call_list_of hg hm (by decide +kernel) ha (he := he) (hpl := hpl)
theorem x_any (K : PySem.W.Frag) (hK : X.K = K) (hc : X.calm = true) (hg : Gl X "any") (hm : X.mg "any" = none) (ha : PA X (e :: es) t) (he : starEach (e :: es) X.env = (false, eval e X.env) :: starEach es X.env := by rfl) (hpl : (backTo pos (starEach es X.env)).any (·.1) = false := by rfl) :
    PE X (.Call (.Name "any" p) (e :: es) [] pos) (tCB (rAny K) t) := by
  subst hK; exact pe_callB (cr_any hc) hg hm (by decide +kernel) ha (he := he) (hpl := hpl)
theorem x_all (K : PySem.W.Frag) (hK : X.K = K) (hc : X.calm = true) (hg : Gl X "all") (hm : X.mg "all" = none) (ha : PA X (e :: es) t) (he : starEach (e :: es) X.env = (false, eval e X.env) :: starEach es X.env := by rfl) (hpl : (backTo pos (starEach es X.env)).any (·.1) = false := by rfl) :
    PE X (.Call (.Name "all" p) (e :: es) [] pos) (tCB (rAll K) t) := by
  subst hK; exact pe_callB (cr_all hc) hg hm (by decide +kernel) ha (he := he) (hpl := hpl)
theorem x_maxL (K : PySem.W.Frag) (hK : X.K = K) (hc : X.calm = true) (hg : Gl X "max") (hm : X.mg "max" = none) (ha : PA X (e :: es) t) (he : starEach (e :: es) X.env = (false, eval e X.env) :: starEach es X.env := by rfl) (hpl : (backTo pos (starEach es X.env)).any (·.1) = false := by rfl) :
    PE X (.Call (.Name "max" p) (e :: es) [] pos) (tCB (rMax K) t) := by
  subst hK; exact pe_callB (cr_max hc) hg hm (by decide +kernel) ha (he := he) (hpl := hpl)
theorem x_max2 (hc : X.calm = true) (hg : Gl X "max") (hm : X.mg "max" = none) (ha : PA X (e :: es) t) (he : starEach (e :: es) X.env = (false, eval e X.env) :: starEach es X.env := by rfl) (hpl : (backTo pos (starEach es X.env)).any (·.1) = false := by rfl) :
    PE X (.Call (.Name "max" p) (e :: es) [] pos) (tCB rMax2 t) := by
  exact pe_callB (call_max2 hc) hg hm (by decide +kernel) ha (he := he) (hpl := hpl)
/-- int(x) of an int, of a truth value -/
def rInt : List V → Hp → VK → Prop := fun xs H Q => (∃ i, xs = [.int i] ∧ Q (.int i) H) ∨ ∃ k, xs = [.bl k] ∧ Q (.int (if k then 1 else 0)) H
theorem x_int (hg : Gl X "int") (hm : X.mg "int" = none) (ha : PA X (e :: es) t) (he : starEach (e :: es) X.env = (false, eval e X.env) :: starEach es X.env := by rfl) (hpl : (backTo pos (starEach es X.env)).any (·.1) = false := by rfl) :
    PE X (.Call (.Name "int" p) (e :: es) [] pos) (tCB rInt t) := by
  exact pe_callTy call_int1 hg hm (by decide +kernel) ha (he := he) (hpl := hpl)
theorem o_in (K : PySem.W.Frag) (hK : X.K = K) : OpR X (compareOp .In) (rIn K false) := by subst hK; exact op_in_seq
theorem o_eqD (K : PySem.W.Frag) (hK : X.K = K) {k : Nat} (hr : Room k X.A) : OpR X (compareOp .Eq) (rEqD K) := by subst hK; exact op_eqD hr.units
theorem o_neD (K : PySem.W.Frag) (hK : X.K = K) {k : Nat} (hr : Room k X.A) : OpR X (compareOp .NotEq) (rNeD K) := by subst hK; exact op_neD hr.units
theorem x_tup (K : PySem.W.Frag) (hK : X.K = K) (hc : X.calm = true) {k : Nat} {u : TGs} (h : PGs X es u) (hn : (assignEach es X.env).length = es.length := by rfl) (hst : (assignEach es X.env).findIdx? (·.1) = none := by rfl) : PG X (.Tuple es k pos) (gTup K es.length u) := by subst hK; exact pg_tup hc h hn hst
theorem x_zip (K : PySem.W.Frag) (hK : X.K = K) {tpos : Pos} {elts : List Expr} {kk : Nat} (hg : Gl X "zip") (hm : X.mg "zip" = none) (ha : PA X [a, b] t) (hs : starEach [a, b] X.env = (false, eval a X.env) :: starEach [b] X.env := by rfl) (hpl : (backTo pos (starEach [b] X.env)).any (·.1) = false := by rfl) :
    PI X (.Tuple elts kk tpos) (.Call (.Name "zip" p) [a, b] [] pos) (iZip K t) := by subst hK; exact pi_zip hg hm ha hs hpl
theorem x_enum (K : PySem.W.Frag) (hK : X.K = K) {tpos : Pos} {elts : List Expr} {kk : Nat} (hg : Gl X "enumerate") (hm : X.mg "enumerate" = none) (ha : PA X [a] t) (hs : starEach [a] X.env = [(false, eval a X.env)] := by rfl) :
    PI X (.Tuple elts kk tpos) (.Call (.Name "enumerate" p) [a] [] pos) (iEnum K t) := by subst hK; exact pi_enum hg hm ha hs
theorem x_piL (K : PySem.W.Frag) (hK : X.K = K) {tg : Expr} (h : PE X e te) : PI X tg e (iList K te) := by subst hK; exact pi_list h
theorem x_app (K : PySem.W.Frag) (hK : X.K = K) {apos cpos epos : Pos} (h : PE X (.Call (.Attribute a "append" apos) (e :: es) [] cpos) (tBM X.K "list" rAppend ta t)) :
    PS X (.Expr (.Call (.Attribute a "append" apos) (e :: es) [] cpos) epos) (tDrop (tBM K "list" rAppend ta t)) := by
  subst hK; exact ps_expr h
theorem x_call {k j : Nat} {x : Str} {ps : List Str} {sp : Sp} (C : Callee X.prog X.w X.K X.mg X.base x ps j sp) (hr : Room k X.A) (ha : PA X (e :: es) t) (hjk : j ≤ k := by decide) (hg : Gl X x := by rfl)
    (hdb : (x == ("__debug__" : Str)) = false := by decide) (he : starEach (e :: es) X.env = (false, eval e X.env) :: starEach es X.env := by rfl) (hpl : (backTo pos (starEach es X.env)).any (·.1) = false := by rfl) (hx : Passes CX0 X E0 := by exact pass0) :
    PE X (.Call (.Name x p) (e :: es) [] pos) (tCall sp [] E0 t) := by
  obtain ⟨f, fd, F, hm, hk, hb⟩ := C.ex
  exact pe_call F (hr.mono hjk) hg hm hk hb .nil hx ha (hdb := hdb) (he := he) (hpl := hpl)
end
/-! ### what stands in the heap -/
def av : Am → V
  | none => .non
  | some n => .int n
theorem av_flat (a : Am) : flatV (av a) = true := by cases a <;> rfl
section
variable (K : PySem.W.Frag)
def Ams (H : Hp) (a : Addr) (x : List Am) : Prop := SqL K H a (x.map av)
def LAt {α : Type} (Pd : V → α → Prop) (H : Hp) (a : Addr) (l : List α) : Prop := ∃ vs : List V, SqL K H a vs ∧ vs.length = l.length ∧ ∀ (i : Nat) (x : α), l[i]? = some x → ∃ v, vs[i]? = some v ∧ Pd v x
def LL {α : Type} (Pd : V → α → Prop) (vs : List V) (l : List α) : Prop := vs.length = l.length ∧ ∀ (i : Nat) (x : α), l[i]? = some x → ∃ v, vs[i]? = some v ∧ Pd v x
def ArcV (H : Hp) (v : V) (p : Nat × Int) : Prop := ∃ r, v = .ref r ∧ SqT K H r [.int p.1, .int p.2]
def ArcsAt (H : Hp) (a : Addr) (l : Arcs) : Prop := LAt K (ArcV K H) H a l
def kind : Fm → Str
  | .amt _ => "amount"
  | .lo _ => "least"
  | .hi _ => "greatest"
  | .wh _ _ _ => "when"
def FmR (H : Hp) (r : Addr) : Fm → Prop
  | .amt m => SqT K H r [.str "amount", av m]
  | .lo l => ∃ b, SqT K H r [.str "least", .ref b] ∧ ArcsAt K H b l
  | .hi l => ∃ b, SqT K H r [.str "greatest", .ref b] ∧ ArcsAt K H b l
  | .wh j a k => SqT K H r [.str "when", .int j, .int a, .int k]
def FmV (H : Hp) (v : V) (f : Fm) : Prop := ∃ r, v = .ref r ∧ FmR K H r f
def FlAt (H : Hp) (a : Addr) (fl : List Fm) : Prop := LAt K (FmV K H) H a fl
def NestV (H : Hp) (v : V) (l : Arcs) : Prop := ∃ b, v = .ref b ∧ ArcsAt K H b l
def NestAt (H : Hp) (a : Addr) (A : List Arcs) : Prop := LAt K (NestV K H) H a A
end
section
variable {K : PySem.W.Frag} {H H' : Hp}
theorem LAt.mono {α : Type} {Pd Pd' : V → α → Prop} {a : Addr} {l : List α} (e : Ex H H') (h : LAt K Pd H a l) (hp : ∀ v x, Pd v x → Pd' v x) : LAt K Pd' H' a l := by
  obtain ⟨vs, h1, h2, h3⟩ := h
  exact ⟨vs, ex_l e h1, h2, fun i x hx => by
    obtain ⟨v, h4, h5⟩ := h3 i x hx
    exact ⟨v, h4, hp v x h5⟩⟩
theorem ArcV.mono {v : V} {p : Nat × Int} (e : Ex H H') (h : ArcV K H v p) : ArcV K H' v p := by
  obtain ⟨r, h1, h2⟩ := h
  exact ⟨r, h1, ex_t e h2⟩
theorem ArcsAt.mono {a : Addr} {l : Arcs} (e : Ex H H') (h : ArcsAt K H a l) : ArcsAt K H' a l := LAt.mono e h fun _ _ => ArcV.mono e
theorem FmR.mono {r : Addr} {f : Fm} (e : Ex H H') (h : FmR K H r f) : FmR K H' r f := by
  cases f with
  | amt m => exact ex_t e h
  | lo l =>
    obtain ⟨b, h1, h2⟩ := h
    exact ⟨b, ex_t e h1, h2.mono e⟩
  | hi l =>
    obtain ⟨b, h1, h2⟩ := h
    exact ⟨b, ex_t e h1, h2.mono e⟩
  | wh j a k => exact ex_t e h
theorem FmV.mono {v : V} {f : Fm} (e : Ex H H') (h : FmV K H v f) : FmV K H' v f := by
  obtain ⟨r, h1, h2⟩ := h
  exact ⟨r, h1, h2.mono e⟩
theorem FlAt.mono {a : Addr} {fl : List Fm} (e : Ex H H') (h : FlAt K H a fl) : FlAt K H' a fl := LAt.mono e h fun _ _ => FmV.mono e
theorem NestAt.mono {a : Addr} {A : List Arcs} (e : Ex H H') (h : NestAt K H a A) : NestAt K H' a A := LAt.mono e h fun _ _ ⟨b, h1, h2⟩ => ⟨b, h1, h2.mono e⟩
theorem Ams.mono {a : Addr} {x : List Am} (e : Ex H H') (h : Ams K H a x) : Ams K H' a x := ex_l e h
theorem am_at {x : List Am} {i : Nat} (h : i < x.length) : (x.map av)[i]? = some (av (CsM.fn x i)) := by
  rw [List.getElem?_map, CsM.at_fn h]; rfl
/-- the first element of a formula, the rest -/
theorem FmR.kind {r : Addr} {f : Fm} (h : FmR K H r f) : ∃ r0, SqT K H r (.str (kind f) :: r0) := by
  cases f with
  | amt m => exact ⟨_, h⟩
  | lo l =>
    obtain ⟨b, h1, _⟩ := h
    exact ⟨_, h1⟩
  | hi l =>
    obtain ⟨b, h1, _⟩ := h
    exact ⟨_, h1⟩
  | wh j a k => exact ⟨_, h⟩
end
/-! ### readings -/
section
variable {K : PySem.W.Frag} {σ : L2.St} {H H' : Hp} {ta tb te tx : TE} {t u : TT} {x y z v : V} {r : R2} {D : Ends} {tz tu : TS}
theorem et_isN (h : Ev ta σ H x) : EvT (tTest (tOp (fun x y H Q => y = .non ∧ Q (.bl (decide (x = .non))) H) ta (tC .non))) σ H (decide (x = .non)) :=
  et_test (ev_op h ev_c (rv_val fun _ _ _ q => ⟨rfl, q⟩))
theorem et_notN (h : Ev ta σ H x) : EvT (tTest (tOp (fun x y H Q => y = .non ∧ Q (.bl (!decide (x = .non))) H) ta (tC .non))) σ H (!decide (x = .non)) :=
  et_test (ev_op h ev_c (rv_val fun _ _ _ q => ⟨rfl, q⟩))
theorem ev_notN (h : Ev ta σ H x) : Ev (tOp (fun x y H Q => y = .non ∧ Q (.bl (!decide (x = .non))) H) ta (tC .non)) σ H (.bl (!decide (x = .non))) :=
  ev_op h ev_c (rv_val fun _ _ _ q => ⟨rfl, q⟩)
theorem et_str {a b : Str} (ha : Ev ta σ H (.str a)) (hb : Ev tb σ H (.str b)) : EvT (tTest (tOp rEq ta tb)) σ H (decide (a = b)) :=
  et_is (et_test (ev_op ha hb (rv_eq rfl))) (by simp)
theorem ev_ixL {a : Addr} {vs : List V} {i : Nat} (ha : Ev ta σ H (.ref a)) (hb : Ev tb σ H (.int i)) (hL : SqL K H a vs) (hv : vs[i]? = some v) : Ev (tOp (rIxL K) ta tb) σ H v := ev_op ha hb (rv_ixL hL (atI_nat hv))
theorem ev_ixT {a : Addr} {vs : List V} {i : Nat} (ha : Ev ta σ H (.ref a)) (hb : Ev tb σ H (.int i)) (hL : SqT K H a vs) (hv : vs[i]? = some v) : Ev (tOp (rIxT K) ta tb) σ H v := ev_op ha hb (rv_ixT hL (atI_nat hv))
theorem ev_am {a : Addr} {xs : List Am} {i : Nat} (ha : Ev ta σ H (.ref a)) (hb : Ev tb σ H (.int i)) (hL : Ams K H a xs) (hi : i < xs.length) : Ev (tOp (rIxL K) ta tb) σ H (av (CsM.fn xs i)) := ev_ixL ha hb hL (am_at hi)
/-- a call that hands back a value, whatever it leaves -/
theorem ev_callV {sp : Sp} {E : XK} {t : TA} {vs : List V} (h : EvA t σ H vs) (hs : ∀ H1, Ex H H1 → ∀ Q : VK, RetV z H1 Q → sp vs H1 Q E) : Ev (tCall sp [] E t) σ H z := fun H1 e Q q =>
  h H1 e _ fun H2 e2 => by
    rw [List.append_nil]
    exact hs H2 (e.trans e2) Q fun H3 e3 => q H3 (e2.trans e3)
theorem el_callL {sp : Sp} {E : XK} {t : TA} {vs xs : List V} (h : EvA t σ H vs) (hs : ∀ H1, Ex H H1 → ∀ Q : VK, RetL xs H1 Q → sp vs H1 Q E) : EvL (tCall sp [] E t) σ H xs := fun H1 e Q q =>
  h H1 e _ fun H2 e2 => by
    rw [List.append_nil]
    exact hs H2 (e.trans e2) Q fun p H3 hp e3 h3 => q p H3 (fresh_back e2 hp) (e2.trans e3) h3
theorem et_val {b : Bool} (h : Ev te σ H (.bl b)) : EvT (tB te) σ H b := et_B h
/-- a pair into two names -/
theorem g_two {i j : Nat} {p : Addr} {a b : V} {Q : L2.St → Hp → Prop} (h : SqT K H p [a, b]) (q : Q ((σ.set i (some a)).set j (some b)) H) : gTup K 2 (gCons (gName i) (gCons (gName j) gNil)) (.ref p) σ H Q :=
  ⟨p, [a, b], rfl, h, rfl, a, [b], rfl, b, [], rfl, rfl, q⟩
theorem given_all (n : Nat) (f : Nat → V) : given n (fun _ => true) f = (List.range n).map f := by
  unfold given; rw [List.filter_eq_self.mpr fun _ _ => rfl]
/-- a comprehension over a list, any target, its element a value -/
theorem el_lcG {a : Addr} {xs : List V} {tl : TE} {g : TG} {vs : List Nat} (f : Nat → Bool) (v : Nat → V) (h : Ev tl σ H (.ref a)) (hx : SqL K H a xs) (hz : xs.length ≤ 40000)
    (hs : ∀ (i : Nat) (x : V), xs[i]? = some x → ∃ σ2, (∀ H1, Ex H H1 → ∀ Q : L2.St → Hp → Prop, Q σ2 H1 → g x (wipe σ vs) H1 Q) ∧ wipe σ2 vs = wipe σ vs ∧ EvT t σ2 H (f i) ∧ (f i = true → Ev te σ2 H (v i))) :
    EvL (tLc (iList K tl) g t te vs) σ H (given xs.length f v) := fun H0 e Q q => h H0 e _ fun H1 e1 => ⟨a, rfl, ⟨xs, ex_l (e.trans e1) hx⟩, fun Dl hD =>
  lc_list (xs := xs) (Cw H1 f v Dl) ⟨hD, Ex.new hD, upd_same⟩ (fun i H' _ p => ex_l ((e.trans e1).trans p.2.1) hx) (fun i x H' hi p => by
    obtain ⟨σ2, h2, h1, h3, h4⟩ := hs i x hi
    refine h2 _ ((e.trans e1).trans p.2.1) _ ⟨h1, ?_⟩
    exact cw_turn p (by have := (List.getElem?_eq_some_iff.mp hi).1; omega) (h3.mono (e.trans e1)) (fun hf => (h4 hf).mono (e.trans e1)))
    (fun H' p => q Dl H' (fresh_back e1 p.1) (e1.trans p.2.1) p.2.2)⟩
theorem et_yes : EvT tYes σ H true := fun H1 _ _ q => q H1 (Ex.refl H1)
theorem range_map {α : Type} {l : List α} {v : Nat → V} {gv : α → V} (h : ∀ i x, l[i]? = some x → v i = gv x) : (List.range l.length).map v = l.map gv := by
  apply List.ext_getElem?; intro i
  rw [List.getElem?_map, List.getElem?_map]
  by_cases c : i < l.length
  · rw [List.getElem?_range c, List.getElem?_eq_getElem c]
    exact congrArg some (h i _ (List.getElem?_eq_getElem c))
  · rw [List.getElem?_eq_none (by rw [List.length_range]; omega), List.getElem?_eq_none (by omega)]; rfl
/-- the same, no test, told by the things that the list holds -/
theorem el_lcMap {α : Type} {l : List α} {a : Addr} {xs : List V} {tl : TE} {g : TG} {vs : List Nat} (gv : α → V) (h : Ev tl σ H (.ref a)) (hx : SqL K H a xs) (hl : xs.length = l.length) (hz : l.length ≤ 40000)
    (hs : ∀ (i : Nat) (x : V) (y : α), xs[i]? = some x → l[i]? = some y → ∃ σ2, (∀ H1, Ex H H1 → ∀ Q : L2.St → Hp → Prop, Q σ2 H1 → g x (wipe σ vs) H1 Q) ∧ wipe σ2 vs = wipe σ vs ∧ Ev te σ2 H (gv y)) :
    EvL (tLc (iList K tl) g tYes te vs) σ H (l.map gv) := by
  have e : l.map gv = given xs.length (fun _ => true) (fun i => ((l[i]?).map gv).getD .non) := by
    rw [given_all, hl]
    exact (range_map fun i x hi => by rw [hi]; rfl).symm
  rw [e]
  refine el_lcG _ _ h hx (by omega) fun i x hi => ?_
  have hi2 := (List.getElem?_eq_some_iff.mp hi).1
  obtain ⟨y, hy⟩ := CsM.at_of (l := l) (i := i) (by omega)
  obtain ⟨σ2, h1, h2, h3⟩ := hs i x y hi hy
  exact ⟨σ2, h1, h2, et_yes, fun _ => by rw [hy]; exact h3⟩
/-- over zip(xs, ys), lists of one length -/
theorem el_lcZ {a b : Addr} {xs ys : List V} {ta : TA} {g : TG} {vs : List Nat} (v : Nat → V) (h : EvA ta σ H [.ref a, .ref b]) (hx : SqL K H a xs) (hy : SqL K H b ys) (hl : xs.length = ys.length) (hz : xs.length ≤ 40000)
    (hs : ∀ (i : Nat) (x y : V), xs[i]? = some x → ys[i]? = some y → ∃ σ2, (∀ H1 p, Ex H H1 → H1 p = some (.tup [x, y]) → ∀ Q : L2.St → Hp → Prop, Q σ2 H1 → g (.ref p) (wipe σ vs) H1 Q) ∧ wipe σ2 vs = wipe σ vs ∧ Ev te σ2 H (v i)) :
    EvL (tLc (iZip K ta) g tYes te vs) σ H ((List.range xs.length).map v) := fun H0 e Q q => h H0 e _ fun H1 e1 => ⟨a, b, xs, ys, rfl, ex_l (e.trans e1) hx, ex_l (e.trans e1) hy, fun Dl hD =>
  lc_it (walk_zip (K := K) (a := a) (b := b) (xs := xs) (ys := ys) (n := xs.length) (by omega)) (Cw H1 (fun _ => true) v Dl) ⟨hD, Ex.new hD, upd_same⟩ (fun i H' _ p => ⟨ex_l ((e.trans e1).trans p.2.1) hx, ex_l ((e.trans e1).trans p.2.1) hy⟩) (fun i z Ha H' hi p y => by
    obtain ⟨T, x1, y1, rfl, hT, rfl, f1, f2⟩ := y
    obtain ⟨σ2, h2, h1, h3⟩ := hs i x1 y1 f1 f2
    have p' : Cw H1 (fun _ => true) v Dl i (upd Ha T (.tup [x1, y1])) := ⟨p.1, p.2.1.trans (Ex.new hT), by rw [upd_ne (ne_of_none p.2.2 hT)]; exact p.2.2⟩
    refine h2 _ T ((e.trans e1).trans p'.2.1) upd_same _ ⟨h1, ?_⟩
    exact cw_turn p' (by omega) et_yes (fun _ => h3.mono (e.trans e1)))
    (fun H' p => q Dl H' (fresh_back e1 p.1) (e1.trans p.2.1) (by rw [← given_all]; exact p.2.2))⟩
/-- for (i, x) in enumerate(xs) -/
theorem s_forE {a : Addr} {xs : List V} {ta : TA} {g : TG} (h : EvA ta σ H [.ref a]) (hx : SqL K H a xs) (Pv : Nat → L2.St → Hp → Prop) (h0 : ∀ H1, Ex H H1 → Pv 0 σ H1) (hl : ∀ i σ' H', i ≤ xs.length → Pv i σ' H' → SqL K H' a xs)
    (hs : ∀ i x σ' H' p, xs[i]? = some x → Pv i σ' H' → H' p = none → g (.ref p) σ' (upd H' p (.tup [.int (i : Int), x])) fun σ2 H2 => tu { D with nx := Pv (i + 1), ct := Pv (i + 1), bk := D.nx } σ2 H2) (hd : ∀ σ' H', Pv xs.length σ' H' → D.nx σ' H') : tFor (iEnum K ta) g tu D σ H :=
  h H (Ex.refl H) _ fun H1 e => ⟨a, xs, rfl, ex_l e hx, for_it walk_enum Pv (h0 H1 e) hl (fun i z σ' H2 H' hi p y => by
    obtain ⟨T, x1, y1, rfl, hT, rfl, f1, f2⟩ := y
    cases f1
    exact hs i y1 σ' H2 T f2 p hT) hd⟩
theorem q_forE {a : Addr} {xs : List V} {ta : TA} {g : TG} (h : EvA ta σ H [.ref a]) (hx : SqL K H a xs) (Pv : Nat → L2.St → Hp → Prop) (h0 : ∀ H1, Ex H H1 → Pv 0 σ H1) (hl : ∀ i σ' H', i ≤ xs.length → Pv i σ' H' → SqL K H' a xs)
    (hs : ∀ i x σ' H' p, xs[i]? = some x → Pv i σ' H' → H' p = none → g (.ref p) σ' (upd H' p (.tup [.int (i : Int), x])) fun σ2 H2 => tu { D with nx := Pv (i + 1), ct := Pv (i + 1), bk := tz D } σ2 H2) (hd : ∀ σ' H', Pv xs.length σ' H' → tz D σ' H') : tSeq (tFor (iEnum K ta) g tu) tz D σ H :=
  s_forE (D := { D with nx := tz D }) h hx Pv h0 hl hs hd
theorem ev_all {ta : TE} {bs : List Bool} (h : EvL ta σ H (bs.map V.bl)) : Ev (tCB (rAll K) (tCons ta tNil)) σ H (.bl (bs.all id)) := fun H1 e Q q =>
  h H1 e _ fun p H2 _ e2 h2 => ⟨p, bs, rfl, sq_of h2, q H2 e2⟩
theorem ev_allR {ta : TE} {a : Addr} {bs : List Bool} (h : Ev ta σ H (.ref a)) (hb : SqL K H a (bs.map V.bl)) : Ev (tCB (rAll K) (tCons ta tNil)) σ H (.bl (bs.all id)) := fun H1 e Q q =>
  h H1 e _ fun H2 e2 => ⟨a, bs, rfl, ex_l (e.trans e2) hb, q H2 e2⟩
theorem ev_anyR {ta : TE} {a : Addr} {bs : List Bool} (h : Ev ta σ H (.ref a)) (hb : SqL K H a (bs.map V.bl)) : Ev (tCB (rAny K) (tCons ta tNil)) σ H (.bl (bs.any id)) := fun H1 e Q q =>
  h H1 e _ fun H2 e2 => ⟨a, bs, rfl, ex_l (e.trans e2) hb, q H2 e2⟩
/-- a sheet that the walks take: its arcs lie within, its sizes are small -/
structure SOk (fl : List Fm) : Prop where
  wf : Wf fl
  pos : 0 < fl.length
  len : fl.length ≤ 1000
  al : ∀ f ∈ fl, (arcsF f).length ≤ 1000
  bd : ∃ M S, Bd fl M S
theorem FlAt.at_ {a : Addr} {fl : List Fm} (h : FlAt K H a fl) : ∃ vs : List V, SqL K H a vs ∧ vs.length = fl.length ∧ ∀ (i : Nat) (f : Fm), fl[i]? = some f → ∃ r, vs[i]? = some (.ref r) ∧ FmR K H r f := by
  obtain ⟨vs, h1, h2, h3⟩ := h
  refine ⟨vs, h1, h2, fun i f hf => ?_⟩
  obtain ⟨v, h4, r, rfl, h5⟩ := h3 i f hf
  exact ⟨r, h4, h5⟩
theorem ArcsAt.at_ {a : Addr} {l : Arcs} (h : ArcsAt K H a l) : ∃ vs : List V, SqL K H a vs ∧ vs.length = l.length ∧ ∀ (i : Nat) (p : Nat × Int), l[i]? = some p → ∃ r, vs[i]? = some (.ref r) ∧ SqT K H r [.int p.1, .int p.2] := by
  obtain ⟨vs, h1, h2, h3⟩ := h
  refine ⟨vs, h1, h2, fun i f hf => ?_⟩
  obtain ⟨v, h4, r, rfl, h5⟩ := h3 i f hf
  exact ⟨r, h4, h5⟩
theorem NestAt.at_ {a : Addr} {A : List Arcs} (h : NestAt K H a A) : ∃ vs : List V, SqL K H a vs ∧ vs.length = A.length ∧ ∀ (i : Nat) (l : Arcs), A[i]? = some l → ∃ b, vs[i]? = some (.ref b) ∧ ArcsAt K H b l := by
  obtain ⟨vs, h1, h2, h3⟩ := h
  refine ⟨vs, h1, h2, fun i f hf => ?_⟩
  obtain ⟨v, h4, r, rfl, h5⟩ := h3 i f hf
  exact ⟨r, h4, h5⟩
theorem fat_ok {fl : List Fm} (S : SOk fl) {i : Nat} (h : i < fl.length) : FOk fl.length (fat fl i) ∧ (arcsF (fat fl i)).length ≤ 1000 := by
  have e := CsM.at_fat h
  exact ⟨S.wf.at e, S.al _ (List.mem_of_getElem? e)⟩
def isAm : Fm → Bool
  | .amt _ => true
  | _ => false
def isLo : Fm → Bool
  | .lo _ => true
  | _ => false
def isHi : Fm → Bool
  | .hi _ => true
  | _ => false
theorem kd_am : decide ((Str.ofString "amount") = (Str.ofString "amount")) = true ∧ decide ((Str.ofString "least") = (Str.ofString "amount")) = false ∧ decide ((Str.ofString "greatest") = (Str.ofString "amount")) = false ∧ decide ((Str.ofString "when") = (Str.ofString "amount")) = false := by decide +kernel
theorem kd_lo : decide ((Str.ofString "amount") = (Str.ofString "least")) = false ∧ decide ((Str.ofString "least") = (Str.ofString "least")) = true ∧ decide ((Str.ofString "greatest") = (Str.ofString "least")) = false ∧ decide ((Str.ofString "when") = (Str.ofString "least")) = false := by decide +kernel
theorem kd_hi : decide ((Str.ofString "amount") = (Str.ofString "greatest")) = false ∧ decide ((Str.ofString "least") = (Str.ofString "greatest")) = false ∧ decide ((Str.ofString "greatest") = (Str.ofString "greatest")) = true ∧ decide ((Str.ofString "when") = (Str.ofString "greatest")) = false := by decide +kernel
theorem kd_wh : decide ((Str.ofString "amount") = (Str.ofString "when")) = false ∧ decide ((Str.ofString "least") = (Str.ofString "when")) = false ∧ decide ((Str.ofString "greatest") = (Str.ofString "when")) = false ∧ decide ((Str.ofString "when") = (Str.ofString "when")) = true := by decide +kernel
theorem k_am (g : Fm) : decide (kind g = Str.ofString "amount") = isAm g := by
  cases g with
  | amt a => exact kd_am.1
  | lo l => exact kd_am.2.1
  | hi l => exact kd_am.2.2.1
  | wh j a k => exact kd_am.2.2.2
theorem k_lo (g : Fm) : decide (kind g = Str.ofString "least") = isLo g := by
  cases g with
  | amt a => exact kd_lo.1
  | lo l => exact kd_lo.2.1
  | hi l => exact kd_lo.2.2.1
  | wh j a k => exact kd_lo.2.2.2
theorem k_hi (g : Fm) : decide (kind g = Str.ofString "greatest") = isHi g := by
  cases g with
  | amt a => exact kd_hi.1
  | lo l => exact kd_hi.2.1
  | hi l => exact kd_hi.2.2.1
  | wh j a k => exact kd_hi.2.2.2
theorem k_wh (g : Fm) : decide (kind g = Str.ofString "when") = isWh g := by
  cases g with
  | amt a => exact kd_wh.1
  | lo l => exact kd_wh.2.1
  | hi l => exact kd_wh.2.2.1
  | wh j a k => exact kd_wh.2.2.2
theorem et_am {g : Fm} (ha : Ev ta σ H (.str (kind g))) : EvT (tTest (tOp rEq ta (tC (.str (Str.ofString "amount"))))) σ H (isAm g) := et_is (et_str ha ev_c) (k_am g)
theorem et_lo {g : Fm} (ha : Ev ta σ H (.str (kind g))) : EvT (tTest (tOp rEq ta (tC (.str (Str.ofString "least"))))) σ H (isLo g) := et_is (et_str ha ev_c) (k_lo g)
theorem et_hi {g : Fm} (ha : Ev ta σ H (.str (kind g))) : EvT (tTest (tOp rEq ta (tC (.str (Str.ofString "greatest"))))) σ H (isHi g) := et_is (et_str ha ev_c) (k_hi g)
theorem et_wh {g : Fm} (ha : Ev ta σ H (.str (kind g))) : EvT (tTest (tOp rEq ta (tC (.str (Str.ofString "when"))))) σ H (isWh g) := et_is (et_str ha ev_c) (k_wh g)
/-- formula[0] -/
theorem ev_kind {g : Fm} {rr : Addr} (ha : Ev ta σ H (.ref rr)) (hr : FmR K H rr g) : Ev (tOp (rIxT K) ta (tC (.int 0))) σ H (.str (kind g)) := by
  obtain ⟨r0, hk⟩ := hr.kind
  exact ev_ixT (i := 0) ha ev_c hk rfl
/-! ### a heap without one object (a list that changes) -/
def Hd (o : Addr) (H : Hp) : Hp := fun b => if b = o then none else H b
theorem hd_ne {o b : Addr} (h : b ≠ o) : Hd o H b = H b := if_neg h
theorem hd_self {o : Addr} : Hd o H o = none := if_pos rfl
theorem hd_upd {o : Addr} {u : HO} : Hd o (upd H o u) = Hd o H := by
  funext b
  unfold Hd
  by_cases c : b = o
  · rw [if_pos c, if_pos c]
  · rw [if_neg c, if_neg c, upd_ne c]
theorem hd_ex {o : Addr} (e : Ex H H') : Ex (Hd o H) (Hd o H') := fun b u h => by
  by_cases c : b = o
  · subst c; rw [hd_self] at h; cases h
  · rw [hd_ne c] at h ⊢; exact e b u h
theorem ex_hd {o : Addr} : Ex (Hd o H) H := fun b u h => by
  by_cases c : b = o
  · subst c; rw [hd_self] at h; cases h
  · rw [hd_ne c] at h; exact h
theorem ex_in {H0 : Hp} {o : Addr} (e : Ex H0 H) (n : H0 o = none) : Ex H0 (Hd o H) := fun b u h => by
  rw [hd_ne (ne_of_none h n)]; exact e b u h
theorem hd_new {o p : Addr} {u : HO} (h : p ≠ o) : Hd o (upd H p u) = upd (Hd o H) p u := by
  funext b
  by_cases c : b = o
  · subst c; rw [hd_self, upd_ne (Ne.symm h), hd_self]
  · rw [hd_ne c]
    by_cases c2 : b = p
    · subst c2; rw [upd_same, upd_same]
    · rw [upd_ne c2, upd_ne c2, hd_ne c]
/-- a reading that ends in some value of which Pd holds -/
def EvP (te : TE) (σ : L2.St) (H : Hp) (Pd : V → Hp → Prop) : Prop := ∀ H1, Ex H H1 → ∀ Q : VK, (∀ v H2, Ex H1 H2 → Pd v H2 → Q v H2) → te σ H1 Q
theorem EvP.mono {Pd : V → Hp → Prop} (e : Ex H H') (h : EvP te σ H Pd) : EvP te σ H' Pd := fun H1 a Q q => h H1 (e.trans a) Q q
theorem ep_of {Pd : V → Hp → Prop} (h : Ev te σ H v) (hp : ∀ H1, Ex H H1 → Pd v H1) : EvP te σ H Pd := fun H1 e Q q => h H1 e Q fun H2 e2 => q v H2 e2 (hp H2 (e.trans e2))
theorem ep_if {b : Bool} {Pd : V → Hp → Prop} (h : EvT t σ H b) (h1 : b = true → EvP ta σ H Pd) (h2 : b = false → EvP tb σ H Pd) : EvP (tIf t ta tb) σ H Pd := fun H1 e Q q => h H1 e _ fun H2 e2 => by
  cases b with
  | true => exact h1 rfl H2 (e.trans e2) Q fun v H3 e3 => q v H3 (e2.trans e3)
  | false => exact h2 rfl H2 (e.trans e2) Q fun v H3 e3 => q v H3 (e2.trans e3)
theorem s_appP {l : Addr} {xs : List V} {Pd : V → Hp → Prop} (hl : H l = some (.lst xs)) (ha : Ev ta σ H (.ref l)) (h : EvP te σ H Pd) (hz : xs.length < 100000) (k : ∀ v H1, Ex H H1 → Pd v H1 → D.nx σ (upd H1 l (.lst (xs ++ [v])))) :
    tDrop (tBM K "list" rAppend ta (tCons te tNil)) D σ H := ha H (Ex.refl H) _ fun H1 e1 =>
  ⟨Or.inl ⟨rfl, xs, sq_of (e1 l _ hl)⟩, h H1 e1 _ fun v H2 e2 hp => ⟨l, xs, v, rfl, rfl, e2 l _ (e1 l _ hl), sz_lt hz, k v H2 (e1.trans e2) hp⟩⟩
theorem q_appP {l : Addr} {xs : List V} {Pd : V → Hp → Prop} (hl : H l = some (.lst xs)) (ha : Ev ta σ H (.ref l)) (h : EvP te σ H Pd) (hz : xs.length < 100000) (k : ∀ v H1, Ex H H1 → Pd v H1 → tz D σ (upd H1 l (.lst (xs ++ [v])))) :
    tSeq (tDrop (tBM K "list" rAppend ta (tCons te tNil))) tz D σ H := s_appP (D := { D with nx := tz D }) hl ha h hz k
theorem s_asgP {i : Nat} {Pd : V → Hp → Prop} (h : EvP te σ H Pd) (k : ∀ v H1, Ex H H1 → Pd v H1 → D.nx (σ.set i (some v)) H1) : tAsg te (gName i) D σ H := h H (Ex.refl H) _ fun v H1 e p => k v H1 e p
theorem q_asgP {i : Nat} {Pd : V → Hp → Prop} (h : EvP te σ H Pd) (k : ∀ v H1, Ex H H1 → Pd v H1 → tz D (σ.set i (some v)) H1) : tSeq (tAsg te (gName i)) tz D σ H := s_asgP (D := { D with nx := tz D }) h k
theorem s_retP {Pd : V → Hp → Prop} (h : EvP te σ H Pd) (k : ∀ v H1, Ex H H1 → Pd v H1 → D.rt v H1) : tRet te D σ H := h H (Ex.refl H) _ fun v H1 e p => k v H1 e p
/-- arguments of which some are new -/
def EvAP (ta : TA) (σ : L2.St) (H : Hp) (Pd : List V → Hp → Prop) : Prop := ∀ H1, Ex H H1 → ∀ Q : List V → Hp → Prop, (∀ vs H2, Ex H1 H2 → Pd vs H2 → Q vs H2) → ta σ H1 Q
theorem eap_of {ta : TA} {vs : List V} {Pd : List V → Hp → Prop} (h : EvA ta σ H vs) (hp : ∀ H1, Ex H H1 → Pd vs H1) : EvAP ta σ H Pd := fun H1 e Q q => h H1 e Q fun H2 e2 => q vs H2 e2 (hp H2 (e.trans e2))
theorem eap_cons {ta : TA} {x : V} {Pd : List V → Hp → Prop} (h : Ev te σ H x) (hr : EvAP ta σ H fun vs H' => Pd (x :: vs) H') : EvAP (tCons te ta) σ H Pd := fun H1 e Q q =>
  h H1 e _ fun H2 e2 => hr H2 (e.trans e2) _ fun vs H3 e3 hp => q (x :: vs) H3 (e2.trans e3) hp
theorem eap_consP {ta : TA} {Pd : List V → Hp → Prop} {Pv : V → Hp → Prop} (h : EvP te σ H Pv) (hr : ∀ v H1, Ex H H1 → Pv v H1 → EvAP ta σ H1 fun vs H' => Pd (v :: vs) H') : EvAP (tCons te ta) σ H Pd := fun H1 e Q q =>
  h H1 e _ fun v H2 e2 hv => hr v H2 (e.trans e2) hv H2 (Ex.refl H2) _ fun vs H3 e3 hp => q (v :: vs) H3 (e2.trans e3) hp
theorem ep_L {xs : List V} (h : EvL te σ H xs) : EvP te σ H fun v H2 => ∃ p, v = .ref p ∧ H p = none ∧ H2 p = some (.lst xs) := fun H1 e Q q => h H1 e Q fun p H2 hp e2 h2 => q _ H2 e2 ⟨p, rfl, fresh_back e hp, h2⟩
theorem ep_call {sp : Sp} {E : XK} {t : TA} {Pd : List V → Hp → Prop} {Pv : V → Hp → Prop} (h : EvAP t σ H Pd) (hs : ∀ vs H1, Ex H H1 → Pd vs H1 → ∀ Q : VK, (∀ v H2, Ex H1 H2 → Pv v H2 → Q v H2) → sp vs H1 Q E) : EvP (tCall sp [] E t) σ H Pv := fun H1 e Q q =>
  h H1 e _ fun vs H2 e2 hp => by
    rw [List.append_nil]
    exact hs vs H2 (e.trans e2) hp Q fun v H3 e3 hv => q v H3 (e2.trans e3) hv
theorem ev_callP {sp : Sp} {E : XK} {t : TA} {Pd : List V → Hp → Prop} (h : EvAP t σ H Pd) (hs : ∀ vs H1, Ex H H1 → Pd vs H1 → ∀ Q : VK, RetV z H1 Q → sp vs H1 Q E) : Ev (tCall sp [] E t) σ H z := fun H1 e Q q =>
  h H1 e _ fun vs H2 e2 hp => by
    rw [List.append_nil]
    exact hs vs H2 (e.trans e2) hp Q fun H3 e3 => q H3 (e2.trans e3)
theorem ep_tup {ta : TA} {Pd : List V → Hp → Prop} (h : EvAP ta σ H Pd) (hl : ∀ vs H2, Pd vs H2 → vs.length ≤ 100000) : EvP (tTup ta) σ H fun v H3 => ∃ p vs H2, v = .ref p ∧ Pd vs H2 ∧ Ex H H2 ∧ H2 p = none ∧ H3 = upd H2 p (.tup vs) := fun H1 e Q q =>
  h H1 e _ fun vs H2 e2 hp => ⟨sz_of (hl vs H2 hp), fun p hpn => q _ _ (e2.trans (Ex.new hpn)) ⟨p, vs, H2, rfl, hp, e.trans e2, hpn, rfl⟩⟩
theorem ep_lst {ta : TA} {Pd : List V → Hp → Prop} (h : EvAP ta σ H Pd) (hl : ∀ vs H2, Pd vs H2 → vs.length ≤ 100000) : EvP (tLst ta) σ H fun v H3 => ∃ p vs H2, v = .ref p ∧ Pd vs H2 ∧ Ex H H2 ∧ H2 p = none ∧ H3 = upd H2 p (.lst vs) := fun H1 e Q q =>
  h H1 e _ fun vs H2 e2 hp => ⟨sz_of (hl vs H2 hp), fun p hpn => q _ _ (e2.trans (Ex.new hpn)) ⟨p, vs, H2, rfl, hp, e.trans e2, hpn, rfl⟩⟩
theorem LL.mono {α : Type} {Pd Pd' : V → α → Prop} {vs : List V} {l : List α} (h : LL Pd vs l) (hp : ∀ v x, Pd v x → Pd' v x) : LL Pd' vs l :=
  ⟨h.1, fun i x hx => by
    obtain ⟨v, h1, h2⟩ := h.2 i x hx
    exact ⟨v, h1, hp v x h2⟩⟩
theorem LL.nil {α : Type} {Pd : V → α → Prop} : LL Pd [] ([] : List α) := ⟨rfl, fun i x hx => by cases hx⟩
theorem LL.snoc {α : Type} {Pd : V → α → Prop} {vs : List V} {l : List α} {v : V} {x : α} (h : LL Pd vs l) (hp : Pd v x) : LL Pd (vs ++ [v]) (l ++ [x]) := by
  refine ⟨by rw [List.length_append, List.length_append, h.1]; rfl, fun i y hy => ?_⟩
  by_cases c : i < l.length
  · rw [List.getElem?_append_left c] at hy
    obtain ⟨u, h1, h2⟩ := h.2 i y hy
    exact ⟨u, by rw [List.getElem?_append_left (by rw [h.1]; exact c)]; exact h1, h2⟩
  · have hi := (List.getElem?_eq_some_iff.mp hy).1
    rw [List.length_append, List.length_singleton] at hi
    have e : i = l.length := by omega
    subst e
    rw [List.getElem?_append_right (Nat.le_refl _), Nat.sub_self] at hy
    have ey : x = y := Option.some.inj hy
    subst ey
    exact ⟨v, by rw [← h.1, List.getElem?_append_right (Nat.le_refl _), Nat.sub_self]; rfl, hp⟩
theorem take_snoc {α : Type} {l : List α} {i : Nat} {x : α} (h : l[i]? = some x) : l.take (i + 1) = l.take i ++ [x] := by rw [List.take_add_one, h]; rfl
def nv (i : Nat) : V := .int (i : Nat)
theorem none_back {H0 H1 : Hp} {p : Addr} {o : HO} {q : Addr} (h : upd H0 p o q = none) (e : Ex H1 H0) : H1 q = none ∧ q ≠ p := by
  have n : q ≠ p := fun z => by rw [z, upd_same] at h; cases h
  rw [upd_ne n] at h
  exact ⟨fresh_back e h, n⟩
/-- [(..)]: a new list of a new tuple -/
theorem ep_LT {ta : TA} {vs : List V} (h : EvA ta σ H vs) (hl : vs.length ≤ 100000) : EvP (tLst (tCons (tTup ta) tNil)) σ H fun v H3 => ∃ p q, v = .ref q ∧ H q = none ∧ H p = none ∧ p ≠ q ∧ H3 q = some (.lst [.ref p]) ∧ H3 p = some (.tup vs) := fun H1 e Q q =>
  h H1 e _ fun H2 e2 => ⟨sz_of hl, fun p hp => ⟨(show 1 ≤ sizeLine by decide), fun r hr => by
    obtain ⟨n1, n2⟩ := none_back hr (e.trans e2)
    exact q _ _ ((e2.trans (Ex.new hp)).trans (Ex.new hr)) ⟨p, r, rfl, n1, fresh_back (e.trans e2) hp, Ne.symm n2, upd_same, by rw [upd_ne (Ne.symm n2), upd_same]⟩⟩⟩
theorem EvP.imp {Pd Pd' : V → Hp → Prop} (h : EvP te σ H Pd) (k : ∀ v H', Ex H H' → Pd v H' → Pd' v H') : EvP te σ H Pd' := fun H1 e Q q => h H1 e Q fun v H2 e2 hp => q v H2 e2 (k v H2 (e.trans e2) hp)
theorem et_nwh {g : Fm} (ha : Ev ta σ H (.str (kind g))) : EvT (tTest (tOp rNe ta (tC (.str (Str.ofString "when"))))) σ H (!isWh g) :=
  et_is (et_test (ev_op ha ev_c (rv_ne rfl))) (by
    have h := k_wh g
    have e : decide (V.str (kind g) = V.str (Str.ofString "when")) = decide (kind g = Str.ofString "when") := by simp
    rw [e, h])
theorem inV_nv (i : Nat) : ∀ P : List Nat, inV (nv i) (P.map nv) = decide (i ∈ P)
  | [] => rfl
  | a :: r => by
    have ih := inV_nv i r
    unfold inV at ih ⊢
    rw [List.map_cons, List.any_cons, ih]
    have e : eqV (nv a) (nv i) = decide (a = i) := by
      show (decide (((a : Nat) : Int) = ((i : Nat) : Int))) = decide (a = i)
      by_cases c : a = i
      · subst c; simp
      · rw [decide_eq_false c, decide_eq_false (by omega)]
    rw [e]
    by_cases c : a = i
    · subst c; simp
    · have c2 : ¬ i = a := fun z => c z.symm
      simp [c, c2]
theorem nv_flat (P : List Nat) : (P.map nv).all flatV = true := by
  rw [List.all_eq_true]
  intro x hx
  obtain ⟨i, _, e⟩ := List.mem_map.mp hx
  rw [← e]; rfl
theorem et_in {P : List Nat} {b : Addr} {i : Nat} (ha : Ev ta σ H (nv i)) (hb : Ev tb σ H (.ref b)) (hP : SqL K H b (P.map nv)) : EvT (tTest (tOp (rIn K false) ta tb)) σ H (decide (i ∈ P)) :=
  et_is (et_test (ev_op ha hb (rv_isL hP rfl (nv_flat P)))) (inV_nv i P)
theorem et_hi2 {g : Fm} (ha : Ev ta σ H (.str (kind g))) (hb : Ev tb σ H (.str (Str.ofString "greatest"))) : EvT (tTest (tOp rEq ta tb)) σ H (isHi g) := et_is (et_str ha hb) (k_hi g)
/-- tuples are no lists -/
theorem sqt_hd {o r : Addr} {us xs : List V} (ho : H o = some (.lst us)) (h : SqT K H r xs) : SqT K (Hd o H) r xs := by
  rcases h with (z | ⟨oo, z⟩) | z
  · have nr : r ≠ o := fun w => by rw [w, ho] at z; cases z
    exact .inl (.inl (by rw [hd_ne nr]; exact z))
  · have nr : r ≠ o := fun w => by rw [w, ho] at z; cases z
    exact .inl (.inr ⟨oo, by rw [hd_ne nr]; exact z⟩)
  · exact .inr z
theorem arc_hd {o : Addr} {us : List V} {v : V} {p : Nat × Int} (ho : H o = some (.lst us)) (h : ArcV K H v p) : ArcV K (Hd o H) v p := by
  obtain ⟨r, h1, h2⟩ := h
  exact ⟨r, h1, sqt_hd ho h2⟩
theorem map_set_av {z : List Am} {i : Nat} {a : Am} : (z.map av).set i (av a) = (z.set i a).map av := by rw [List.map_set]
/-- a call of at_most, of shifted: what they hand back -/
theorem ev_shifted {a : Am} {c : Int} (ha : Ev ta σ H (av a)) (hb : Ev tb σ H (.int c)) (sp : Sp) (hs : ∀ vs H Q E, (∃ (a : Am) (c : Int), vs = [av a, .int c] ∧ RetV (av (sh a c)) H Q) → sp vs H Q E) {E : XK} : Ev (tCall sp [] E (tCons ta (tCons tb tNil))) σ H (av (sh a c)) :=
  ev_callV (ea_cons ha (ea_cons hb ea_nil)) fun H1 _ Q q => hs _ _ _ _ ⟨_, _, rfl, q⟩
end
end CsW

set_option Elab.async false
set_option linter.all false
set_option maxRecDepth 100000
set_option maxHeartbeats 4000000
namespace CsW
open PySem PySem.Spec PyProof.Rows L2 Evl CsTop CsM
section
variable {P : Program} {w : World} {K : PySem.W.Frag} {mg : Str → Option Value} {base : Heap}
/-! ### amounts -/
def spAtMost : Sp := fun vs H Q _ => ∃ a b : Am, vs = [av a, av b] ∧ RetV (.bl (am a b)) H Q
theorem sc_at_most : FnScope ["a", "b"] ["a", "b"] (defScope sAtMost) := ⟨rfl, rfl, rfl, by decide +kernel, rfl, by decide +kernel, by decide +kernel⟩
-- slots 0 a, 1 b
theorem c_at_most (T : Top K mg) : Callee P w K mg base "at_most" ["a", "b"] 1 spAtMost := by
  refine ok_of (N := ["a", "b"]) T (List.mem_of_getElem? (i := 0) rfl) sc_at_most (fun _ _ _ _ _ _ us hl => match us, hl with | [_, _], _ => rfl) (fun vs H Q E h => ?len) (fun cdv A outer s H vs Q E f hr h => ?_)
  case len => first | (obtain ⟨_, rfl, _⟩ := h; rfl) | (obtain ⟨_, _, rfl, _⟩ := h; rfl) | (obtain ⟨_, _, _, rfl, _⟩ := h; rfl) | (obtain ⟨_, _, _, _, rfl, _⟩ := h; rfl) | (obtain ⟨_, _, _, _, _, rfl, _⟩ := h; rfl) | (obtain ⟨_, _, _, _, _, _, rfl, _⟩ := h; rfl) | (obtain ⟨_, _, _, _, _, _, _, rfl, _⟩ := h; rfl) | (obtain ⟨_, _, _, _, _, _, _, _, rfl, _⟩ := h; rfl) | (obtain ⟨_, _, _, _, _, _, _, _, _, rfl, _⟩ := h; rfl) | (obtain ⟨_, _, _, _, _, _, _, _, _, _, rfl, _⟩ := h; rfl) | (obtain ⟨_, _, _, _, _, _, _, _, _, _, _, rfl, _⟩ := h; rfl) | (obtain ⟨_, _, _, _, _, _, _, _, _, _, _, _, rfl, _⟩ := h; rfl)
  refine ⟨_, (pss_cons (ps_if (pt_cmpR op_isN (pv 1) pe_non (nomark _))
        (pss_one (ps_ret pe_bl))
        pss_nil)
      (pss_one (ps_ret (pe_and (pe_cmpR op_notN (pv 0) pe_non (nomark _)) (pe_one (pe_cmpR op_le (pv 0) (pv 1) (nomark _))))))), ?_⟩
  obtain ⟨a, b, rfl, k⟩ := h
  refine q_when (et_isN (ev_var rfl)) (fun hb H1 e1 => s_ret ev_c fun H2 e2 => ?_) (fun hb H1 e1 => s_ret (v := .bl (am a b)) ?_ fun H2 e2 => k H2 (e1.trans e2))
  · cases b with
    | none => exact k H2 (e1.trans e2)
    | some b => cases hb
  · cases b with
    | none => cases hb
    | some b =>
      cases a with
      | none => exact ev_andV (a := false) (b := false) (ev_notN (x := .non) (ev_var rfl)) (fun z => by cases z)
      | some a =>
        refine ev_is (ev_andV (ev_notN (ev_var rfl)) (fun _ => ev_op (ev_var rfl) (ev_var rfl) rv_I0)) ?_
        show V.bl (!decide (V.int (a : Int) = .non) && decide ((a : Int) ≤ (b : Int))) = V.bl (decide (a ≤ b))
        simp
def spShifted : Sp := fun vs H Q _ => ∃ (a : Am) (c : Int), vs = [av a, .int c] ∧ RetV (av (sh a c)) H Q
theorem sc_shifted : FnScope ["a", "c"] ["a", "c"] (defScope sShifted) := ⟨rfl, rfl, rfl, by decide +kernel, rfl, by decide +kernel, by decide +kernel⟩
-- slots 0 a, 1 c
theorem c_shifted (T : Top K mg) : Callee P w K mg base "shifted" ["a", "c"] 1 spShifted := by
  refine ok_of (N := ["a", "c"]) T (List.mem_of_getElem? (i := 3) rfl) sc_shifted (fun _ _ _ _ _ _ us hl => match us, hl with | [_, _], _ => rfl) (fun vs H Q E h => ?len) (fun cdv A outer s H vs Q E f hr h => ?_)
  case len => first | (obtain ⟨_, rfl, _⟩ := h; rfl) | (obtain ⟨_, _, rfl, _⟩ := h; rfl) | (obtain ⟨_, _, _, rfl, _⟩ := h; rfl) | (obtain ⟨_, _, _, _, rfl, _⟩ := h; rfl) | (obtain ⟨_, _, _, _, _, rfl, _⟩ := h; rfl) | (obtain ⟨_, _, _, _, _, _, rfl, _⟩ := h; rfl) | (obtain ⟨_, _, _, _, _, _, _, rfl, _⟩ := h; rfl) | (obtain ⟨_, _, _, _, _, _, _, _, rfl, _⟩ := h; rfl) | (obtain ⟨_, _, _, _, _, _, _, _, _, rfl, _⟩ := h; rfl) | (obtain ⟨_, _, _, _, _, _, _, _, _, _, rfl, _⟩ := h; rfl) | (obtain ⟨_, _, _, _, _, _, _, _, _, _, _, rfl, _⟩ := h; rfl) | (obtain ⟨_, _, _, _, _, _, _, _, _, _, _, _, rfl, _⟩ := h; rfl)
  refine ⟨_, (pss_cons (ps_if (pt_cmpR op_isN (pv 0) pe_non (nomark _))
        (pss_one (ps_ret pe_non))
        pss_nil)
      (pss_one (ps_ret (x_max2 rfl rfl T.max (pa_cons pe_int (pa_cons (pe_op op_add (pv 0) (pv 1)) pa_nil)))))), ?_⟩
  obtain ⟨a, c, rfl, k⟩ := h
  refine q_when (et_isN (ev_var rfl)) (fun hb H1 e1 => s_ret ev_c fun H2 e2 => ?_) (fun hb H1 e1 => s_ret (v := av (sh a c)) ?_ fun H2 e2 => k H2 (e1.trans e2))
  · cases a with
    | none => exact k H2 (e1.trans e2)
    | some b => cases hb
  · cases a with
    | none => cases hb
    | some a =>
      refine ev_is (ev_max2 ev_c (ev_op (ev_var rfl) (ev_var rfl) rv_I0)) ?_
      show V.int (if ((a : Int) + c) > 0 then (a : Int) + c else 0) = V.int ((((a : Int) + c).toNat : Nat) : Int)
      congr 1
      split <;> omega
/-! ### the least, the greatest of several -/
def spLof (K : PySem.W.Frag) : Sp := fun vs H Q _ => ∃ (a : Addr) (l : List Am), vs = [.ref a] ∧ l ≠ [] ∧ l.length ≤ 1000 ∧ Ams K H a l ∧ RetV (av (lof l)) H Q
def spGof (K : PySem.W.Frag) : Sp := fun vs H Q _ => ∃ (a : Addr) (l : List Am), vs = [.ref a] ∧ l ≠ [] ∧ l.length ≤ 1000 ∧ Ams K H a l ∧ RetV (av (gof l)) H Q
theorem fold_take {α β : Type} (f : β → α → β) (b : β) (l : List α) (i : Nat) (x : α) (h : l[i]? = some x) : (l.take (i + 1)).foldl f b = f ((l.take i).foldl f b) x := by
  rw [List.take_add_one, h, List.foldl_append]; rfl
theorem hd0 {l : List Am} (h : l ≠ []) : l[0]? = some (l.headD none) := by
  cases l with
  | nil => exact absurd rfl h
  | cons a r => rfl
theorem sc_least_of : FnScope ["amounts", "found", "one"] ["amounts"] (defScope sLeastOf) := ⟨rfl, rfl, rfl, by decide +kernel, rfl, by decide +kernel, by decide +kernel⟩
-- slots 0 amounts, 1 found, 2 one
theorem c_least_of (T : Top K mg) (C_at_most : Callee P w K mg base "at_most" ["a", "b"] 1 spAtMost) : Callee P w K mg base "least_of" ["amounts"] 2 (spLof K) := by
  refine ok_of (N := ["amounts", "found", "one"]) T (List.mem_of_getElem? (i := 1) rfl) sc_least_of (fun _ _ _ _ _ _ us hl => match us, hl with | [_], _ => rfl) (fun vs H Q E h => ?len) (fun cdv A outer s H vs Q E f hr h => ?_)
  case len => first | (obtain ⟨_, rfl, _⟩ := h; rfl) | (obtain ⟨_, _, rfl, _⟩ := h; rfl) | (obtain ⟨_, _, _, rfl, _⟩ := h; rfl) | (obtain ⟨_, _, _, _, rfl, _⟩ := h; rfl) | (obtain ⟨_, _, _, _, _, rfl, _⟩ := h; rfl) | (obtain ⟨_, _, _, _, _, _, rfl, _⟩ := h; rfl) | (obtain ⟨_, _, _, _, _, _, _, rfl, _⟩ := h; rfl) | (obtain ⟨_, _, _, _, _, _, _, _, rfl, _⟩ := h; rfl) | (obtain ⟨_, _, _, _, _, _, _, _, _, rfl, _⟩ := h; rfl) | (obtain ⟨_, _, _, _, _, _, _, _, _, _, rfl, _⟩ := h; rfl) | (obtain ⟨_, _, _, _, _, _, _, _, _, _, _, rfl, _⟩ := h; rfl) | (obtain ⟨_, _, _, _, _, _, _, _, _, _, _, _, rfl, _⟩ := h; rfl)
  refine ⟨_, (pss_cons (ps_set (i := 1) sc_least_of.nd rfl (.inl rfl) (x_ixL K rfl (pv 0) pe_int))
      (pss_cons (ps_for PassesOwn.never rfl (x_piL K rfl (pv 0)) (pg_name (i := 2) sc_least_of.nd rfl (.inl rfl))
        (pss_one (ps_if (pt_val (x_call C_at_most hr (pa_cons (pv 2) (pa_cons (pv 1) pa_nil))))
          (pss_one (ps_set (i := 1) sc_least_of.nd rfl (.inl rfl) (pv 2)))
          pss_nil)))
      (pss_one (ps_ret (pv 1))))), ?_⟩
  obtain ⟨a, l, rfl, ne, hl, hA, k⟩ := h
  have a0 : (l.map av)[0]? = some (av (l.headD none)) := by rw [List.getElem?_map, hd0 ne]; rfl
  refine q_asg (ev_ixL (i := 0) (ev_var rfl) ev_c hA a0) fun H1 e1 => ?_
  refine q_forLn (ev_var rfl) (hA.mono e1) (fun i σ H' => Ex H H' ∧ ∃ o, σ = [some (.ref a), some (av ((l.take i).foldl (fun f o => if am o f then o else f) (l.headD none))), o]) (fun H2 e2 => ⟨e1.trans e2, _, rfl⟩) (fun i σ H' _ p => hA.mono p.1) (fun i x σ H' hx p => ?_) (fun σ H' p => ?_)
  · obtain ⟨ex, o, rfl⟩ := p
    rw [List.getElem?_map] at hx
    cases ey : l[i]? with
    | none => rw [ey] at hx; cases hx
    | some y =>
      rw [ey] at hx; cases hx
      refine s_when (b := am y ((l.take i).foldl (fun f o => if am o f then o else f) (l.headD none))) (et_val (ev_callV (vs := [av y, av ((l.take i).foldl (fun f o => if am o f then o else f) (l.headD none))]) (ea_cons (ev_var rfl) (ea_cons (ev_var rfl) ea_nil)) fun H1 _ Q q => ⟨_, _, rfl, q⟩)) (fun hb H1 e1 => s_asg (ev_var rfl) fun H2 e2 => ?_) (fun hb H1 e1 => ?_)
      · refine ⟨(ex.trans e1).trans e2, some (av y), ?_⟩
        rw [fold_take _ _ _ _ _ ey, if_pos hb]; rfl
      · refine ⟨ex.trans e1, some (av y), ?_⟩
        rw [fold_take _ _ _ _ _ ey, if_neg (by rw [hb]; decide)]; rfl
  · obtain ⟨ex, o, rfl⟩ := p
    rw [List.length_map, List.take_of_length_le (Nat.le_refl _)]
    exact s_ret (ev_var rfl) fun H2 e2 => k H2 (ex.trans e2)
theorem sc_greatest_of : FnScope ["amounts", "found", "one"] ["amounts"] (defScope sGreatestOf) := ⟨rfl, rfl, rfl, by decide +kernel, rfl, by decide +kernel, by decide +kernel⟩
-- slots 0 amounts, 1 found, 2 one
theorem c_greatest_of (T : Top K mg) (C_at_most : Callee P w K mg base "at_most" ["a", "b"] 1 spAtMost) : Callee P w K mg base "greatest_of" ["amounts"] 2 (spGof K) := by
  refine ok_of (N := ["amounts", "found", "one"]) T (List.mem_of_getElem? (i := 2) rfl) sc_greatest_of (fun _ _ _ _ _ _ us hl => match us, hl with | [_], _ => rfl) (fun vs H Q E h => ?len) (fun cdv A outer s H vs Q E f hr h => ?_)
  case len => first | (obtain ⟨_, rfl, _⟩ := h; rfl) | (obtain ⟨_, _, rfl, _⟩ := h; rfl) | (obtain ⟨_, _, _, rfl, _⟩ := h; rfl) | (obtain ⟨_, _, _, _, rfl, _⟩ := h; rfl) | (obtain ⟨_, _, _, _, _, rfl, _⟩ := h; rfl) | (obtain ⟨_, _, _, _, _, _, rfl, _⟩ := h; rfl) | (obtain ⟨_, _, _, _, _, _, _, rfl, _⟩ := h; rfl) | (obtain ⟨_, _, _, _, _, _, _, _, rfl, _⟩ := h; rfl) | (obtain ⟨_, _, _, _, _, _, _, _, _, rfl, _⟩ := h; rfl) | (obtain ⟨_, _, _, _, _, _, _, _, _, _, rfl, _⟩ := h; rfl) | (obtain ⟨_, _, _, _, _, _, _, _, _, _, _, rfl, _⟩ := h; rfl) | (obtain ⟨_, _, _, _, _, _, _, _, _, _, _, _, rfl, _⟩ := h; rfl)
  refine ⟨_, (pss_cons (ps_set (i := 1) sc_greatest_of.nd rfl (.inl rfl) (x_ixL K rfl (pv 0) pe_int))
      (pss_cons (ps_for PassesOwn.never rfl (x_piL K rfl (pv 0)) (pg_name (i := 2) sc_greatest_of.nd rfl (.inl rfl))
        (pss_one (ps_if (pt_val (x_call C_at_most hr (pa_cons (pv 1) (pa_cons (pv 2) pa_nil))))
          (pss_one (ps_set (i := 1) sc_greatest_of.nd rfl (.inl rfl) (pv 2)))
          pss_nil)))
      (pss_one (ps_ret (pv 1))))), ?_⟩
  obtain ⟨a, l, rfl, ne, hl, hA, k⟩ := h
  have a0 : (l.map av)[0]? = some (av (l.headD none)) := by rw [List.getElem?_map, hd0 ne]; rfl
  refine q_asg (ev_ixL (i := 0) (ev_var rfl) ev_c hA a0) fun H1 e1 => ?_
  refine q_forLn (ev_var rfl) (hA.mono e1) (fun i σ H' => Ex H H' ∧ ∃ o, σ = [some (.ref a), some (av ((l.take i).foldl (fun f o => if am f o then o else f) (l.headD none))), o]) (fun H2 e2 => ⟨e1.trans e2, _, rfl⟩) (fun i σ H' _ p => hA.mono p.1) (fun i x σ H' hx p => ?_) (fun σ H' p => ?_)
  · obtain ⟨ex, o, rfl⟩ := p
    rw [List.getElem?_map] at hx
    cases ey : l[i]? with
    | none => rw [ey] at hx; cases hx
    | some y =>
      rw [ey] at hx; cases hx
      refine s_when (b := am ((l.take i).foldl (fun f o => if am f o then o else f) (l.headD none)) y) (et_val (ev_callV (vs := [av ((l.take i).foldl (fun f o => if am f o then o else f) (l.headD none)), av y]) (ea_cons (ev_var rfl) (ea_cons (ev_var rfl) ea_nil)) fun H1 _ Q q => ⟨_, _, rfl, q⟩)) (fun hb H1 e1 => s_asg (ev_var rfl) fun H2 e2 => ?_) (fun hb H1 e1 => ?_)
      · refine ⟨(ex.trans e1).trans e2, some (av y), ?_⟩
        rw [fold_take _ _ _ _ _ ey, if_pos hb]; rfl
      · refine ⟨ex.trans e1, some (av y), ?_⟩
        rw [fold_take _ _ _ _ _ ey, if_neg (by rw [hb]; decide)]; rfl
  · obtain ⟨ex, o, rfl⟩ := p
    rw [List.length_map, List.take_of_length_le (Nat.le_refl _)]
    exact s_ret (ev_var rfl) fun H2 e2 => k H2 (ex.trans e2)
end
end CsW

set_option Elab.async false
set_option linter.all false
set_option maxRecDepth 100000
set_option maxHeartbeats 4000000
namespace CsW
open PySem PySem.Spec PyProof.Rows L2 Evl CsTop CsM
section
variable {P : Program} {w : World} {K : PySem.W.Frag} {mg : Str → Option Value} {base : Heap}
def allN (n : Nat) (x y : Nat → Am) : Bool := ((List.range n).map fun i => am (x i) (y i)).all id
theorem allN_iff {n : Nat} {x y : Nat → Am} : allN n x y = true ↔ LeN n x y := by
  unfold allN
  rw [List.all_eq_true]
  constructor
  · intro h i hi
    exact h _ (List.mem_map.mpr ⟨i, List.mem_range.mpr hi, rfl⟩)
  · intro h b hb
    obtain ⟨i, hi, e⟩ := List.mem_map.mp hb
    rw [← e]
    exact h i (List.mem_range.mp hi)
def spAllAtMost (K : PySem.W.Frag) : Sp := fun vs H Q _ => ∃ (a b : Addr) (x y : List Am), vs = [.ref a, .ref b] ∧ Ams K H a x ∧ Ams K H b y ∧ x.length = y.length ∧ x.length ≤ 1000 ∧ RetV (.bl (allN x.length (CsM.fn x) (CsM.fn y))) H Q
theorem sc_all_at_most : FnScope ["x", "y", "a", "b"] ["x", "y"] (defScope sAllAtMost) := ⟨rfl, rfl, rfl, by decide +kernel, rfl, by decide +kernel, by decide +kernel⟩
-- slots 0 x, 1 y, 2 a, 3 b
theorem c_all_at_most (T : Top K mg) (C_at_most : Callee P w K mg base "at_most" ["a", "b"] 1 spAtMost) : Callee P w K mg base "all_at_most" ["x", "y"] 2 (spAllAtMost K) := by
  refine ok_of (N := ["x", "y", "a", "b"]) T (List.mem_of_getElem? (i := 4) rfl) sc_all_at_most (fun _ _ _ _ _ _ us hl => match us, hl with | [_, _], _ => rfl) (fun vs H Q E h => ?len) (fun cdv A outer s H vs Q E f hr h => ?_)
  case len => first | (obtain ⟨_, rfl, _⟩ := h; rfl) | (obtain ⟨_, _, rfl, _⟩ := h; rfl) | (obtain ⟨_, _, _, rfl, _⟩ := h; rfl) | (obtain ⟨_, _, _, _, rfl, _⟩ := h; rfl) | (obtain ⟨_, _, _, _, _, rfl, _⟩ := h; rfl) | (obtain ⟨_, _, _, _, _, _, rfl, _⟩ := h; rfl) | (obtain ⟨_, _, _, _, _, _, _, rfl, _⟩ := h; rfl) | (obtain ⟨_, _, _, _, _, _, _, _, rfl, _⟩ := h; rfl) | (obtain ⟨_, _, _, _, _, _, _, _, _, rfl, _⟩ := h; rfl) | (obtain ⟨_, _, _, _, _, _, _, _, _, _, rfl, _⟩ := h; rfl) | (obtain ⟨_, _, _, _, _, _, _, _, _, _, _, rfl, _⟩ := h; rfl) | (obtain ⟨_, _, _, _, _, _, _, _, _, _, _, _, rfl, _⟩ := h; rfl)
  refine ⟨_, (pss_one (ps_ret (x_all K rfl rfl rfl T.all (pa_cons (pe_lc (own := [("a", 2), ("b", 3)]) (g := gTup K 2 (gCons (gName 2) (gCons (gName 3) (gNil)))) (tt := tYes) rfl sc_all_at_most.nd (x_zip K rfl rfl T.zip (pa_cons (pv 0) (pa_cons (pv 1) pa_nil))) (blkOk_by (N := ["x", "y", "a", "b"]) (sc := defScope sAllAtMost) (by decide +kernel)) (fun _ _ _ _ _ => (x_tup K rfl rfl (pgs_cons (pg_name (i := 2) sc_all_at_most.nd rfl (.inl rfl)) (pgs_cons (pg_name (i := 3) sc_all_at_most.nd rfl (.inl rfl)) pgs_nil)))) (fun _ _ _ _ _ => pts_nil) (fun _ _ _ _ _ => (x_call C_at_most hr (pa_cons (pv 2) (pa_cons (pv 3) pa_nil))))) pa_nil)))), ?_⟩
  obtain ⟨a, b, x, y, rfl, hx, hy, el, le, k⟩ := h
  have e1 : (List.range (x.map av).length).map (fun i => V.bl (am (CsM.fn x i) (CsM.fn y i))) = ((List.range x.length).map fun i => am (CsM.fn x i) (CsM.fn y i)).map V.bl := by
    rw [List.length_map, List.map_map]; rfl
  refine s_ret (ev_all (bs := (List.range x.length).map fun i => am (CsM.fn x i) (CsM.fn y i)) ?_) k
  rw [← e1]
  refine el_lcZ _ (ea_cons (ev_var rfl) (ea_cons (ev_var rfl) ea_nil)) hx hy (by rw [List.length_map, List.length_map, el]) (by rw [List.length_map]; omega) fun i u v hu hv => ?_
  have hi := (List.getElem?_eq_some_iff.mp hu).1
  rw [List.length_map] at hi
  rw [am_at hi] at hu
  rw [am_at (el ▸ hi)] at hv
  cases hu; cases hv
  exact ⟨_, fun H1 p e hp Q q => g_two (st_of hp) q, rfl, ev_callV (ea_cons (ev_var rfl) (ea_cons (ev_var rfl) ea_nil)) fun H1 _ Q q => ⟨_, _, rfl, q⟩⟩
def spFlatValue (K : PySem.W.Frag) : Sp := fun vs H Q _ => ∃ (r b : Addr) (g : Fm) (x : List Am), vs = [.ref r, .ref b] ∧ FmR K H r g ∧ Ams K H b x ∧ FOk x.length g ∧ (arcsF g).length ≤ 1000 ∧ RetV (av (val g (CsM.fn x))) H Q
theorem sc_flat_value : FnScope ["formula", "x", "kind", "amounts", "cell", "shift"] ["formula", "x"] (defScope sFlatValue) := ⟨rfl, rfl, rfl, by decide +kernel, rfl, by decide +kernel, by decide +kernel⟩
-- slots 0 formula, 1 x, 2 kind, 3 amounts, 4 cell, 5 shift
theorem c_flat_value (T : Top K mg) (C_at_most : Callee P w K mg base "at_most" ["a", "b"] 1 spAtMost) (C_shifted : Callee P w K mg base "shifted" ["a", "c"] 1 spShifted) (C_least_of : Callee P w K mg base "least_of" ["amounts"] 2 (spLof K)) (C_greatest_of : Callee P w K mg base "greatest_of" ["amounts"] 2 (spGof K)) : Callee P w K mg base "flat_value" ["formula", "x"] 3 (spFlatValue K) := by
  refine ok_of (N := ["formula", "x", "kind", "amounts", "cell", "shift"]) T (List.mem_of_getElem? (i := 5) rfl) sc_flat_value (fun _ _ _ _ _ _ us hl => match us, hl with | [_, _], _ => rfl) (fun vs H Q E h => ?len) (fun cdv A outer s H vs Q E f hr h => ?_)
  case len => first | (obtain ⟨_, rfl, _⟩ := h; rfl) | (obtain ⟨_, _, rfl, _⟩ := h; rfl) | (obtain ⟨_, _, _, rfl, _⟩ := h; rfl) | (obtain ⟨_, _, _, _, rfl, _⟩ := h; rfl) | (obtain ⟨_, _, _, _, _, rfl, _⟩ := h; rfl) | (obtain ⟨_, _, _, _, _, _, rfl, _⟩ := h; rfl) | (obtain ⟨_, _, _, _, _, _, _, rfl, _⟩ := h; rfl) | (obtain ⟨_, _, _, _, _, _, _, _, rfl, _⟩ := h; rfl) | (obtain ⟨_, _, _, _, _, _, _, _, _, rfl, _⟩ := h; rfl) | (obtain ⟨_, _, _, _, _, _, _, _, _, _, rfl, _⟩ := h; rfl) | (obtain ⟨_, _, _, _, _, _, _, _, _, _, _, rfl, _⟩ := h; rfl) | (obtain ⟨_, _, _, _, _, _, _, _, _, _, _, _, rfl, _⟩ := h; rfl)
  refine ⟨_, (pss_cons (ps_set (i := 2) sc_flat_value.nd rfl (.inl rfl) (x_ixT K rfl (pv 0) pe_int))
      (pss_cons (ps_if (pt_cmpR op_eq (pv 2) pe_str (nomark _))
        (pss_one (ps_ret (x_ixT K rfl (pv 0) pe_int)))
        pss_nil)
      (pss_cons (ps_if (pt_cmpR op_eq (pv 2) pe_str (nomark _))
        (pss_one (ps_ret (pe_ifExp (pt_val (x_call C_at_most hr (pa_cons (x_ixT K rfl (pv 0) pe_int) (pa_cons (x_ixL K rfl (pv 1) (x_ixT K rfl (pv 0) pe_int)) pa_nil)))) (x_ixL K rfl (pv 1) (x_ixT K rfl (pv 0) pe_int)) pe_int)))
        pss_nil)
      (pss_cons (ps_setLc (i := 3) (own := [("cell", 4), ("shift", 5)]) (g := gTup K 2 (gCons (gName 4) (gCons (gName 5) (gNil)))) (tt := tYes) rfl sc_flat_value.nd rfl rfl (sw_true rfl rfl rfl (by decide +kernel)) (x_piL K rfl (x_ixT K rfl (pv 0) pe_int)) (blkOk_by (N := ["formula", "x", "kind", "amounts", "cell", "shift"]) (sc := defScope sFlatValue) (by decide +kernel)) (fun _ _ _ _ _ => (x_tup K rfl rfl (pgs_cons (pg_name (i := 4) sc_flat_value.nd rfl (.inl rfl)) (pgs_cons (pg_name (i := 5) sc_flat_value.nd rfl (.inl rfl)) pgs_nil)))) (fun _ _ _ _ _ => pts_nil) (fun _ _ _ _ _ => (x_call C_shifted hr (pa_cons (x_ixL K rfl (pv 1) (pv 4)) (pa_cons (pv 5) pa_nil)))))
      (pss_cons (ps_if (pt_cmpR op_eq (pv 2) pe_str (nomark _))
        (pss_one (ps_ret (x_call C_least_of hr (pa_cons (pv 3) pa_nil))))
        pss_nil)
      (pss_one (ps_ret (x_call C_greatest_of hr (pa_cons (pv 3) pa_nil))))))))), ?_⟩
  obtain ⟨r, b, g, x, rfl, hf, hx, wf, hl, k⟩ := h
  obtain ⟨r0, hk⟩ := hf.kind
  refine q_asg (ev_ixT (i := 0) (ev_var rfl) ev_c hk rfl) fun H1 e1 => ?_
  have hf1 := hf.mono e1
  have hx1 := hx.mono e1
  -- the list of the arcs' values
  have lst : ∀ (l : Arcs) (s : Str) (bb : Addr) (σ : L2.St) (H2 : Hp), σ[0]? = some (some (.ref r)) → σ[1]? = some (some (.ref b)) → σ.length = 6 → SqT K H2 r [.str s, .ref bb] → ArcsAt K H2 bb l → Ams K H2 b x → (∀ p ∈ l, p.1 < x.length) → l.length ≤ 1000 →
      EvL (tLc (iList K (tOp (rIxT K) (tVar 0) (tC (.int 1)))) (gTup K 2 (gCons (gName 4) (gCons (gName 5) gNil))) tYes (tCall spShifted [] E0 (tCons (tOp (rIxL K) (tVar 1) (tVar 4)) (tCons (tVar 5) tNil))) [4, 5]) σ H2 ((vals l (CsM.fn x)).map av) := by
    intro l s bb σ H2 s0 s1 s2 hr hA hX hp hz
    obtain ⟨vs, v1, v2, v3⟩ := hA.at_
    have e0 : (vals l (CsM.fn x)).map av = l.map fun p => av (sh (CsM.fn x p.1) p.2) := by unfold vals; rw [List.map_map]; rfl
    rw [e0]
    match σ, s2, s0, s1 with
    | [u0, u1, u2, u3, u4, u5], _, s0, s1 =>
      cases s0; cases s1
      refine el_lcMap _ (ev_ixT (i := 1) (ev_var rfl) ev_c hr rfl) v1 v2 (by omega) fun i u p hu hpi => ?_
      obtain ⟨rr, e2, e3⟩ := v3 i p hpi
      rw [hu] at e2; cases e2
      exact ⟨_, fun H1 e Q q => g_two (ex_t e e3) q, rfl, ev_callV (ea_cons (ev_am (ev_var rfl) (ev_var rfl) hX (hp p (List.mem_of_getElem? hpi))) (ea_cons (ev_var rfl) ea_nil)) fun H1 _ Q q => ⟨_, _, rfl, q⟩⟩
  cases g with
  | amt a =>
    refine q_when (et_am (g := .amt a) (ev_var rfl)) (fun _ H2 e2 => s_ret (ev_ixT (i := 1) (ev_var rfl) ev_c (show SqT K H2 r _ from ex_t (e1.trans e2) hf) rfl) fun H3 e3 => k H3 ((e1.trans e2).trans e3)) (fun hb => by cases hb)
  | wh j a c =>
    refine q_when (et_am (g := .wh j a c) (ev_var rfl)) (fun hb => by cases hb) (fun _ H2 e2 => ?_)
    have e12 := e1.trans e2
    have hR : SqT K H2 r [.str "when", .int j, .int a, .int c] := ex_t e12 hf
    have hX := hx.mono e12
    refine q_when (et_wh (g := .wh j a c) (ev_var rfl)) (fun _ H3 e3 => s_ret (v := av (val (.wh j a c) (CsM.fn x))) ?_ fun H4 e4 => k H4 ((e12.trans e3).trans e4)) (fun hb => by cases hb)
    have hR3 := ex_t e3 hR
    have hX3 := hX.mono e3
    refine ev_if (b := am (some a) (CsM.fn x j)) (et_val (ev_callV (vs := [av (some a), av (CsM.fn x j)]) (ea_cons (ev_ixT (i := 2) (ev_var rfl) ev_c hR3 rfl) (ea_cons (ev_am (ev_var rfl) (ev_ixT (i := 1) (ev_var rfl) ev_c hR3 rfl) hX3 wf.1) ea_nil)) fun H1 _ Q q => ⟨_, _, rfl, q⟩)) (fun hb => ?_) (fun hb => ?_)
    · rw [show val (.wh j a c) (CsM.fn x) = CsM.fn x c from if_pos hb]
      exact ev_am (ev_var rfl) (ev_ixT (i := 3) (ev_var rfl) ev_c hR3 rfl) hX3 wf.2
    · rw [show val (.wh j a c) (CsM.fn x) = some 0 from if_neg (by rw [hb]; decide)]
      exact ev_c
  | lo l =>
    obtain ⟨bb, h1, h2⟩ := hf
    refine q_when (et_am (g := .lo l) (ev_var rfl)) (fun hb => by cases hb) (fun _ H2 e2 => ?_)
    refine q_when (et_wh (g := .lo l) (ev_var rfl)) (fun hb => by cases hb) (fun _ H3 e3 => ?_)
    have e13 := (e1.trans e2).trans e3
    refine q_asgL (lst l _ bb _ _ rfl rfl rfl (ex_t e13 h1) (h2.mono e13) (hx.mono e13) wf.2 hl) fun p H4 _ e4 hp => ?_
    refine q_when (et_lo (g := .lo l) (ev_var rfl)) (fun _ H5 e5 => s_ret (ev_callV (ea_cons (ev_var rfl) ea_nil) fun H6 e6 Q q => ⟨p, _, rfl, ?_, ?_, ex_l (e5.trans e6) (sq_of hp), q⟩) fun H6 e6 => k H6 (((e13.trans e4).trans e5).trans e6)) (fun hb => by cases hb)
    · exact fun z => wf.1 (List.map_eq_nil_iff.mp z)
    · unfold vals; rw [List.length_map]; exact hl
  | hi l =>
    obtain ⟨bb, h1, h2⟩ := hf
    refine q_when (et_am (g := .hi l) (ev_var rfl)) (fun hb => by cases hb) (fun _ H2 e2 => ?_)
    refine q_when (et_wh (g := .hi l) (ev_var rfl)) (fun hb => by cases hb) (fun _ H3 e3 => ?_)
    have e13 := (e1.trans e2).trans e3
    refine q_asgL (lst l _ bb _ _ rfl rfl rfl (ex_t e13 h1) (h2.mono e13) (hx.mono e13) wf.2 hl) fun p H4 _ e4 hp => ?_
    refine q_when (et_lo (g := .hi l) (ev_var rfl)) (fun hb => by cases hb) (fun _ H5 e5 => ?_)
    refine s_ret (ev_callV (ea_cons (ev_var rfl) ea_nil) fun H6 e6 Q q => ⟨p, _, rfl, ?_, ?_, ex_l (e5.trans e6) (sq_of hp), q⟩) fun H6 e6 => k H6 (((e13.trans e4).trans e5).trans e6)
    · exact fun z => wf.1 (List.map_eq_nil_iff.mp z)
    · unfold vals; rw [List.length_map]; exact hl
def spFlatValues (K : PySem.W.Frag) : Sp := fun vs H Q _ => ∃ (a b : Addr) (fl : List Fm) (x : List Am), vs = [.ref a, .ref b] ∧ FlAt K H a fl ∧ Ams K H b x ∧ SOk fl ∧ x.length = fl.length ∧ RetL ((round fl x).map av) H Q
theorem sc_flat_values : FnScope ["flat", "x", "formula"] ["flat", "x"] (defScope sFlatValues) := ⟨rfl, rfl, rfl, by decide +kernel, rfl, by decide +kernel, by decide +kernel⟩
-- slots 0 flat, 1 x, 2 formula
theorem c_flat_values (T : Top K mg) (C_flat_value : Callee P w K mg base "flat_value" ["formula", "x"] 3 (spFlatValue K)) : Callee P w K mg base "flat_values" ["flat", "x"] 4 (spFlatValues K) := by
  refine ok_of (N := ["flat", "x", "formula"]) T (List.mem_of_getElem? (i := 6) rfl) sc_flat_values (fun _ _ _ _ _ _ us hl => match us, hl with | [_, _], _ => rfl) (fun vs H Q E h => ?len) (fun cdv A outer s H vs Q E f hr h => ?_)
  case len => first | (obtain ⟨_, rfl, _⟩ := h; rfl) | (obtain ⟨_, _, rfl, _⟩ := h; rfl) | (obtain ⟨_, _, _, rfl, _⟩ := h; rfl) | (obtain ⟨_, _, _, _, rfl, _⟩ := h; rfl) | (obtain ⟨_, _, _, _, _, rfl, _⟩ := h; rfl) | (obtain ⟨_, _, _, _, _, _, rfl, _⟩ := h; rfl) | (obtain ⟨_, _, _, _, _, _, _, rfl, _⟩ := h; rfl) | (obtain ⟨_, _, _, _, _, _, _, _, rfl, _⟩ := h; rfl) | (obtain ⟨_, _, _, _, _, _, _, _, _, rfl, _⟩ := h; rfl) | (obtain ⟨_, _, _, _, _, _, _, _, _, _, rfl, _⟩ := h; rfl) | (obtain ⟨_, _, _, _, _, _, _, _, _, _, _, rfl, _⟩ := h; rfl) | (obtain ⟨_, _, _, _, _, _, _, _, _, _, _, _, rfl, _⟩ := h; rfl)
  refine ⟨_, (pss_one (ps_ret (pe_lc (own := [("formula", 2)]) (g := gName 2) (tt := tYes) rfl sc_flat_values.nd (x_piL K rfl (pv 0)) (blkOk_by (N := ["flat", "x", "formula"]) (sc := defScope sFlatValues) (by decide +kernel)) (fun _ _ _ _ _ => (pg_name (i := 2) sc_flat_values.nd rfl (.inl rfl))) (fun _ _ _ _ _ => pts_nil) (fun _ _ _ _ _ => (x_call C_flat_value hr (pa_cons (pv 2) (pa_cons (pv 1) pa_nil))))))), ?_⟩
  obtain ⟨a, b, fl, x, rfl, hf, hx, so, hl, k⟩ := h
  obtain ⟨vs, v1, v2, v3⟩ := hf.at_
  have e0 : (round fl x).map av = fl.map fun f => av (val f (CsM.fn x)) := by unfold round; rw [List.map_map]; rfl
  rw [e0] at k
  refine s_retL (el_lcMap _ (ev_var rfl) v1 v2 (by have := so.len; omega) fun i u f hu hfi => ?_) k
  obtain ⟨rr, e2, e3⟩ := v3 i f hfi
  rw [hu] at e2; cases e2
  exact ⟨_, fun H1 e Q q => q, rfl, ev_callV (ea_cons (ev_var rfl) (ea_cons (ev_var rfl) ea_nil)) fun H1 e1 Q q => ⟨_, _, _, _, rfl, e3.mono e1, hx.mono e1, hl ▸ so.wf.at hfi, so.al f (List.mem_of_getElem? hfi), q⟩⟩
end
end CsW

set_option Elab.async false
set_option linter.all false
set_option maxRecDepth 100000
set_option maxHeartbeats 4000000
namespace CsW
open PySem PySem.Spec PyProof.Rows L2 Evl CsTop CsM
section
variable {P : Program} {w : World} {K : PySem.W.Frag} {mg : Str → Option Value} {base : Heap}
def RetA (K : PySem.W.Frag) (l : Arcs) (H : Hp) (Q : VK) : Prop := ∀ p vs H', H p = none → Ex H H' → H' p = some (.lst vs) → LL (ArcV K (Hd p H')) vs l → Q (.ref p) H'
def spArcsOf (K : PySem.W.Frag) : Sp := fun vs H Q _ => ∃ (a : Addr) (c : Nat) (fl : List Fm), vs = [.ref a, .int c] ∧ FlAt K H a fl ∧ c < fl.length ∧ RetA K (arcsF (fat fl c)) H Q
theorem sc_arcs_of : FnScope ["flat", "cell", "formula"] ["flat", "cell"] (defScope sArcsOf) := ⟨rfl, rfl, rfl, by decide +kernel, rfl, by decide +kernel, by decide +kernel⟩
-- slots 0 flat, 1 cell, 2 formula
theorem c_arcs_of (T : Top K mg) : Callee P w K mg base "arcs_of" ["flat", "cell"] 1 (spArcsOf K) := by
  refine ok_of (N := ["flat", "cell", "formula"]) T (List.mem_of_getElem? (i := 7) rfl) sc_arcs_of (fun _ _ _ _ _ _ us hl => match us, hl with | [_, _], _ => rfl) (fun vs H Q E h => ?len) (fun cdv A outer s H vs Q E f hr h => ?_)
  case len => first | (obtain ⟨_, rfl, _⟩ := h; rfl) | (obtain ⟨_, _, rfl, _⟩ := h; rfl) | (obtain ⟨_, _, _, rfl, _⟩ := h; rfl) | (obtain ⟨_, _, _, _, rfl, _⟩ := h; rfl) | (obtain ⟨_, _, _, _, _, rfl, _⟩ := h; rfl) | (obtain ⟨_, _, _, _, _, _, rfl, _⟩ := h; rfl) | (obtain ⟨_, _, _, _, _, _, _, rfl, _⟩ := h; rfl) | (obtain ⟨_, _, _, _, _, _, _, _, rfl, _⟩ := h; rfl) | (obtain ⟨_, _, _, _, _, _, _, _, _, rfl, _⟩ := h; rfl) | (obtain ⟨_, _, _, _, _, _, _, _, _, _, rfl, _⟩ := h; rfl) | (obtain ⟨_, _, _, _, _, _, _, _, _, _, _, rfl, _⟩ := h; rfl) | (obtain ⟨_, _, _, _, _, _, _, _, _, _, _, _, rfl, _⟩ := h; rfl)
  refine ⟨_, (pss_cons (ps_set (i := 2) sc_arcs_of.nd rfl (.inl rfl) (x_ixL K rfl (pv 0) (pv 1)))
      (pss_cons (ps_if (pt_cmpR op_eq (x_ixT K rfl (pv 2) pe_int) pe_str (nomark _))
        (pss_one (ps_ret (pe_lst pa_nil)))
        pss_nil)
      (pss_cons (ps_if (pt_cmpR op_eq (x_ixT K rfl (pv 2) pe_int) pe_str (nomark _))
        (pss_one (ps_ret (pe_lst (pa_cons (pe_tup (pa_cons (x_ixT K rfl (pv 2) pe_int) (pa_cons pe_int pa_nil))) pa_nil))))
        pss_nil)
      (pss_one (ps_ret (x_list K rfl rfl T.list (pa_cons (x_ixT K rfl (pv 2) pe_int) pa_nil))))))), ?_⟩
  obtain ⟨a, c, fl, rfl, hf, hc, k⟩ := h
  obtain ⟨vs, v1, v2, v3⟩ := hf.at_
  obtain ⟨r, hr, hR⟩ := v3 c _ (CsM.at_fat hc)
  refine q_asg (ev_ixL (i := c) (ev_var rfl) (ev_var rfl) v1 hr) fun H1 e1 => ?_
  generalize fat fl c = g at hR k
  cases g with
  | amt m =>
    refine q_when (et_am (g := .amt m) (ev_kind (ev_var rfl) (hR.mono e1))) (fun _ H2 e2 => s_retL (el_lst ea_nil (by decide)) fun p H3 hp e3 h3 => ?_) (fun hb => by cases hb)
    exact k p [] H3 (fresh_back (e1.trans e2) hp) ((e1.trans e2).trans e3) h3 LL.nil
  | wh j m t =>
    refine q_when (et_am (g := .wh j m t) (ev_kind (ev_var rfl) (hR.mono e1))) (fun hb => by cases hb) (fun _ H2 e2 => ?_)
    refine q_when (et_wh (g := .wh j m t) (ev_kind (ev_var rfl) (hR.mono (e1.trans e2)))) (fun _ H3 e3 => ?_) (fun hb => by cases hb)
    have e13 := (e1.trans e2).trans e3
    have hR3 : SqT K H3 r [.str "when", .int j, .int m, .int t] := ex_t e13 hR
    refine s_retP (ep_LT (vs := [.int (t : Nat), .int 0]) (ea_cons (ev_ixT (i := 3) (ev_var rfl) ev_c hR3 rfl) (ea_cons ev_c ea_nil)) (by show 2 ≤ 100000; decide)) fun v H4 e4 hv => ?_
    obtain ⟨p, q, rfl, hq, hp, npq, h1, h2⟩ := hv
    refine k q [.ref p] _ (fresh_back e13 hq) (e13.trans e4) h1 ⟨rfl, fun i x hx => ?_⟩
    cases i with
    | succ i => cases hx
    | zero =>
      cases hx
      refine ⟨.ref p, rfl, p, rfl, st_of ?_⟩
      rw [hd_ne npq, h2]
  | lo l =>
    refine q_when (et_am (g := .lo l) (ev_kind (ev_var rfl) (hR.mono e1))) (fun hb => by cases hb) (fun _ H2 e2 => ?_)
    refine q_when (et_wh (g := .lo l) (ev_kind (ev_var rfl) (hR.mono (e1.trans e2)))) (fun hb => by cases hb) (fun _ H3 e3 => ?_)
    have e13 := (e1.trans e2).trans e3
    obtain ⟨b, hb, hA⟩ := hR.mono e13
    obtain ⟨us, u1, u2⟩ := hA
    exact s_retL (el_list (ev_ixT (i := 1) (ev_var rfl) ev_c hb rfl) u1) fun p H4 hp e4 h4 => k p us H4 (fresh_back e13 hp) (e13.trans e4) h4 (LL.mono u2 fun v x hv => hv.mono (ex_in e4 hp))
  | hi l =>
    refine q_when (et_am (g := .hi l) (ev_kind (ev_var rfl) (hR.mono e1))) (fun hb => by cases hb) (fun _ H2 e2 => ?_)
    refine q_when (et_wh (g := .hi l) (ev_kind (ev_var rfl) (hR.mono (e1.trans e2)))) (fun hb => by cases hb) (fun _ H3 e3 => ?_)
    have e13 := (e1.trans e2).trans e3
    obtain ⟨b, hb, hA⟩ := hR.mono e13
    obtain ⟨us, u1, u2⟩ := hA
    exact s_retL (el_list (ev_ixT (i := 1) (ev_var rfl) ev_c hb rfl) u1) fun p H4 hp e4 h4 => k p us H4 (fresh_back e13 hp) (e13.trans e4) h4 (LL.mono u2 fun v x hv => hv.mono (ex_in e4 hp))
def spOneRound (K : PySem.W.Frag) : Sp := fun vs H Q _ => ∃ (a b : Addr) (fl : List Fm) (x : List Am), vs = [.ref a, .ref b] ∧ FlAt K H a fl ∧ Ams K H b x ∧ SOk fl ∧ x.length = fl.length ∧ RetL ((round fl x).map av) H Q
theorem sc_one_round : FnScope ["flat", "x"] ["flat", "x"] (defScope sOneRound) := ⟨rfl, rfl, rfl, by decide +kernel, rfl, by decide +kernel, by decide +kernel⟩
-- slots 0 flat, 1 x
theorem c_one_round (T : Top K mg) (C_flat_values : Callee P w K mg base "flat_values" ["flat", "x"] 4 (spFlatValues K)) : Callee P w K mg base "one_round" ["flat", "x"] 5 (spOneRound K) := by
  refine ok_of (N := ["flat", "x"]) T (List.mem_of_getElem? (i := 8) rfl) sc_one_round (fun _ _ _ _ _ _ us hl => match us, hl with | [_, _], _ => rfl) (fun vs H Q E h => ?len) (fun cdv A outer s H vs Q E f hr h => ?_)
  case len => first | (obtain ⟨_, rfl, _⟩ := h; rfl) | (obtain ⟨_, _, rfl, _⟩ := h; rfl) | (obtain ⟨_, _, _, rfl, _⟩ := h; rfl) | (obtain ⟨_, _, _, _, rfl, _⟩ := h; rfl) | (obtain ⟨_, _, _, _, _, rfl, _⟩ := h; rfl) | (obtain ⟨_, _, _, _, _, _, rfl, _⟩ := h; rfl) | (obtain ⟨_, _, _, _, _, _, _, rfl, _⟩ := h; rfl) | (obtain ⟨_, _, _, _, _, _, _, _, rfl, _⟩ := h; rfl) | (obtain ⟨_, _, _, _, _, _, _, _, _, rfl, _⟩ := h; rfl) | (obtain ⟨_, _, _, _, _, _, _, _, _, _, rfl, _⟩ := h; rfl) | (obtain ⟨_, _, _, _, _, _, _, _, _, _, _, rfl, _⟩ := h; rfl) | (obtain ⟨_, _, _, _, _, _, _, _, _, _, _, _, rfl, _⟩ := h; rfl)
  refine ⟨_, (pss_one (ps_ret (x_call C_flat_values hr (pa_cons (pv 0) (pa_cons (pv 1) pa_nil))))), ?_⟩
  obtain ⟨a, b, fl, x, rfl, hf, hx, so, hl, k⟩ := h
  exact s_retL (el_callL (ea_cons (ev_var rfl) (ea_cons (ev_var rfl) ea_nil)) fun H1 e Q q => ⟨_, _, _, _, rfl, hf.mono e, hx.mono e, so, hl, q⟩) k
def spIsLow (K : PySem.W.Frag) : Sp := fun vs H Q _ => ∃ (a b : Addr) (fl : List Fm) (x : List Am), vs = [.ref a, .ref b] ∧ FlAt K H a fl ∧ Ams K H b x ∧ SOk fl ∧ x.length = fl.length ∧ RetV (.bl (allN fl.length (CsM.fn x) (CsM.fn (round fl x)))) H Q
theorem sc_is_low : FnScope ["flat", "x"] ["flat", "x"] (defScope sIsLow) := ⟨rfl, rfl, rfl, by decide +kernel, rfl, by decide +kernel, by decide +kernel⟩
-- slots 0 flat, 1 x
theorem c_is_low (T : Top K mg) (C_flat_values : Callee P w K mg base "flat_values" ["flat", "x"] 4 (spFlatValues K)) (C_all_at_most : Callee P w K mg base "all_at_most" ["x", "y"] 2 (spAllAtMost K)) : Callee P w K mg base "is_low" ["flat", "x"] 5 (spIsLow K) := by
  refine ok_of (N := ["flat", "x"]) T (List.mem_of_getElem? (i := 9) rfl) sc_is_low (fun _ _ _ _ _ _ us hl => match us, hl with | [_, _], _ => rfl) (fun vs H Q E h => ?len) (fun cdv A outer s H vs Q E f hr h => ?_)
  case len => first | (obtain ⟨_, rfl, _⟩ := h; rfl) | (obtain ⟨_, _, rfl, _⟩ := h; rfl) | (obtain ⟨_, _, _, rfl, _⟩ := h; rfl) | (obtain ⟨_, _, _, _, rfl, _⟩ := h; rfl) | (obtain ⟨_, _, _, _, _, rfl, _⟩ := h; rfl) | (obtain ⟨_, _, _, _, _, _, rfl, _⟩ := h; rfl) | (obtain ⟨_, _, _, _, _, _, _, rfl, _⟩ := h; rfl) | (obtain ⟨_, _, _, _, _, _, _, _, rfl, _⟩ := h; rfl) | (obtain ⟨_, _, _, _, _, _, _, _, _, rfl, _⟩ := h; rfl) | (obtain ⟨_, _, _, _, _, _, _, _, _, _, rfl, _⟩ := h; rfl) | (obtain ⟨_, _, _, _, _, _, _, _, _, _, _, rfl, _⟩ := h; rfl) | (obtain ⟨_, _, _, _, _, _, _, _, _, _, _, _, rfl, _⟩ := h; rfl)
  refine ⟨_, (pss_one (ps_ret (x_call C_all_at_most hr (pa_cons (pv 1) (pa_cons (x_call C_flat_values hr (pa_cons (pv 0) (pa_cons (pv 1) pa_nil))) pa_nil))))), ?_⟩
  obtain ⟨a, b, fl, x, rfl, hf, hx, so, hl, k⟩ := h
  refine s_ret (ev_callP (Pd := fun vs H' => ∃ p, vs = [.ref b, .ref p] ∧ Ams K H' b x ∧ Ams K H' p (round fl x)) (eap_cons (ev_var rfl) (eap_consP (ep_L (el_callL (ea_cons (ev_var rfl) (ea_cons (ev_var rfl) ea_nil)) fun H1 e Q q => ⟨_, _, _, _, rfl, hf.mono e, hx.mono e, so, hl, q⟩)) fun v H1 e1 hv => eap_of ea_nil fun H2 e2 => ?_)) ?_) k
  · obtain ⟨p, rfl, _, hp⟩ := hv
    exact ⟨p, rfl, hx.mono (e1.trans e2), ex_l e2 (sq_of hp)⟩
  · rintro vs H1 e ⟨p, rfl, h1, h2⟩ Q q
    rw [← hl] at q
    exact ⟨_, _, _, _, rfl, h1, h2, by rw [round_len, hl], by have := so.len; omega, q⟩
def spIsHigh (K : PySem.W.Frag) : Sp := fun vs H Q _ => ∃ (a b : Addr) (fl : List Fm) (x : List Am), vs = [.ref a, .ref b] ∧ FlAt K H a fl ∧ Ams K H b x ∧ SOk fl ∧ x.length = fl.length ∧ RetV (.bl (allN fl.length (CsM.fn (round fl x)) (CsM.fn x))) H Q
theorem sc_is_high : FnScope ["flat", "x"] ["flat", "x"] (defScope sIsHigh) := ⟨rfl, rfl, rfl, by decide +kernel, rfl, by decide +kernel, by decide +kernel⟩
-- slots 0 flat, 1 x
theorem c_is_high (T : Top K mg) (C_flat_values : Callee P w K mg base "flat_values" ["flat", "x"] 4 (spFlatValues K)) (C_all_at_most : Callee P w K mg base "all_at_most" ["x", "y"] 2 (spAllAtMost K)) : Callee P w K mg base "is_high" ["flat", "x"] 5 (spIsHigh K) := by
  refine ok_of (N := ["flat", "x"]) T (List.mem_of_getElem? (i := 10) rfl) sc_is_high (fun _ _ _ _ _ _ us hl => match us, hl with | [_, _], _ => rfl) (fun vs H Q E h => ?len) (fun cdv A outer s H vs Q E f hr h => ?_)
  case len => first | (obtain ⟨_, rfl, _⟩ := h; rfl) | (obtain ⟨_, _, rfl, _⟩ := h; rfl) | (obtain ⟨_, _, _, rfl, _⟩ := h; rfl) | (obtain ⟨_, _, _, _, rfl, _⟩ := h; rfl) | (obtain ⟨_, _, _, _, _, rfl, _⟩ := h; rfl) | (obtain ⟨_, _, _, _, _, _, rfl, _⟩ := h; rfl) | (obtain ⟨_, _, _, _, _, _, _, rfl, _⟩ := h; rfl) | (obtain ⟨_, _, _, _, _, _, _, _, rfl, _⟩ := h; rfl) | (obtain ⟨_, _, _, _, _, _, _, _, _, rfl, _⟩ := h; rfl) | (obtain ⟨_, _, _, _, _, _, _, _, _, _, rfl, _⟩ := h; rfl) | (obtain ⟨_, _, _, _, _, _, _, _, _, _, _, rfl, _⟩ := h; rfl) | (obtain ⟨_, _, _, _, _, _, _, _, _, _, _, _, rfl, _⟩ := h; rfl)
  refine ⟨_, (pss_one (ps_ret (x_call C_all_at_most hr (pa_cons (x_call C_flat_values hr (pa_cons (pv 0) (pa_cons (pv 1) pa_nil))) (pa_cons (pv 1) pa_nil))))), ?_⟩
  obtain ⟨a, b, fl, x, rfl, hf, hx, so, hl, k⟩ := h
  refine s_ret (ev_callP (Pd := fun vs H' => ∃ p, vs = [.ref p, .ref b] ∧ Ams K H' b x ∧ Ams K H' p (round fl x)) (eap_consP (ep_L (el_callL (ea_cons (ev_var rfl) (ea_cons (ev_var rfl) ea_nil)) fun H1 e Q q => ⟨_, _, _, _, rfl, hf.mono e, hx.mono e, so, hl, q⟩)) fun v H1 e1 hv => eap_of (ea_cons (ev_var rfl) ea_nil) fun H2 e2 => ?_) ?_) k
  · obtain ⟨p, rfl, _, hp⟩ := hv
    exact ⟨p, rfl, hx.mono (e1.trans e2), ex_l e2 (sq_of hp)⟩
  · rintro vs H1 e ⟨p, rfl, h1, h2⟩ Q q
    rw [← round_len fl x] at q
    exact ⟨_, _, _, _, rfl, h2, h1, by rw [round_len, hl], by have := so.len; rw [round_len]; omega, q⟩
def spCondsOf (K : PySem.W.Frag) : Sp := fun vs H Q _ => ∃ (a : Addr) (fl : List Fm), vs = [.ref a] ∧ FlAt K H a fl ∧ SOk fl ∧ RetL ((conds fl).map nv) H Q
theorem sc_conditions_of : FnScope ["flat", "cell"] ["flat"] (defScope sConditionsOf) := ⟨rfl, rfl, rfl, by decide +kernel, rfl, by decide +kernel, by decide +kernel⟩
-- slots 0 flat, 1 cell
theorem c_conditions_of (T : Top K mg) : Callee P w K mg base "conditions_of" ["flat"] 1 (spCondsOf K) := by
  refine ok_of (N := ["flat", "cell"]) T (List.mem_of_getElem? (i := 11) rfl) sc_conditions_of (fun _ _ _ _ _ _ us hl => match us, hl with | [_], _ => rfl) (fun vs H Q E h => ?len) (fun cdv A outer s H vs Q E f hr h => ?_)
  case len => first | (obtain ⟨_, rfl, _⟩ := h; rfl) | (obtain ⟨_, _, rfl, _⟩ := h; rfl) | (obtain ⟨_, _, _, rfl, _⟩ := h; rfl) | (obtain ⟨_, _, _, _, rfl, _⟩ := h; rfl) | (obtain ⟨_, _, _, _, _, rfl, _⟩ := h; rfl) | (obtain ⟨_, _, _, _, _, _, rfl, _⟩ := h; rfl) | (obtain ⟨_, _, _, _, _, _, _, rfl, _⟩ := h; rfl) | (obtain ⟨_, _, _, _, _, _, _, _, rfl, _⟩ := h; rfl) | (obtain ⟨_, _, _, _, _, _, _, _, _, rfl, _⟩ := h; rfl) | (obtain ⟨_, _, _, _, _, _, _, _, _, _, rfl, _⟩ := h; rfl) | (obtain ⟨_, _, _, _, _, _, _, _, _, _, _, rfl, _⟩ := h; rfl) | (obtain ⟨_, _, _, _, _, _, _, _, _, _, _, _, rfl, _⟩ := h; rfl)
  refine ⟨_, (pss_one (ps_ret (pe_lc (own := [("cell", 1)]) (g := gName 1) rfl sc_conditions_of.nd (pi_range1 rfl T.range (pa_cons (x_len K rfl rfl T.len (pa_cons (pv 0) pa_nil)) pa_nil)) (blkOk_by (N := ["flat", "cell"]) (sc := defScope sConditionsOf) (by decide +kernel)) (fun _ _ _ _ _ => (pg_name (i := 1) sc_conditions_of.nd rfl (.inl rfl))) (fun _ _ _ _ _ => (pts_one (pt_cmpR op_eq (x_ixT K rfl (x_ixL K rfl (pv 0) (pv 1)) pe_int) pe_str (nomark _)))) (fun _ _ _ _ _ => (pv 1))))), ?_⟩
  obtain ⟨a, fl, rfl, hf, so, k⟩ := h
  obtain ⟨vs, v1, v2, v3⟩ := hf.at_
  have hl := so.len
  have e0 : (conds fl).map nv = given ((vs.length : Int)).toNat (fun i => isWh (fat fl i)) nv := by
    unfold conds given
    rw [v2]; rfl
  rw [e0] at k
  have rd : ∀ (i : Nat) H1, Ex H H1 → (i : Int) < (vs.length : Int) → ∃ r, vs[i]? = some (.ref r) ∧ FmR K H1 r (fat fl i) := fun i H1 e hi => by
    obtain ⟨r, h1, h2⟩ := v3 i _ (CsM.at_fat (by omega))
    exact ⟨r, h1, h2.mono e⟩
  refine s_retL (el_lcR1 (n := (vs.length : Int)) _ _ (ea_cons (ev_len (ev_var rfl) v1) ea_nil) ⟨by omega, by omega⟩ (fun x => rfl) (fun i H1 e hi => ?_) (fun i H1 e hi _ => ev_var rfl)) k
  obtain ⟨r, h1, h2⟩ := rd i H1 e hi
  exact et_wh (ev_kind (ev_ixL (i := i) (ev_var rfl) (ev_var rfl) (ex_l e v1) h1) h2)
end
end CsW

set_option Elab.async false
set_option linter.all false
set_option maxRecDepth 100000
set_option maxHeartbeats 4000000
namespace CsW
open PySem PySem.Spec PyProof.Rows L2 Evl CsTop CsM
section
variable {P : Program} {w : World} {K : PySem.W.Frag} {mg : Str → Option Value} {base : Heap}
def spOpened (K : PySem.W.Frag) : Sp := fun vs H Q _ => ∃ (a b : Addr) (fl : List Fm) (pl : List Nat), vs = [.ref a, .ref b] ∧ FlAt K H a fl ∧ SqL K H b (pl.map nv) ∧ SOk fl ∧ ∀ p H', H p = none → Ex H H' → FlAt K H' p (osheet fl pl) → Q (.ref p) H'
theorem sc_opened : FnScope ["flat", "places", "found", "cell", "formula"] ["flat", "places"] (defScope sOpened) := ⟨rfl, rfl, rfl, by decide +kernel, rfl, by decide +kernel, by decide +kernel⟩
-- slots 0 flat, 1 places, 2 found, 3 cell, 4 formula
theorem c_opened (T : Top K mg) : Callee P w K mg base "opened" ["flat", "places"] 1 (spOpened K) := by
  refine ok_of (N := ["flat", "places", "found", "cell", "formula"]) T (List.mem_of_getElem? (i := 12) rfl) sc_opened (fun _ _ _ _ _ _ us hl => match us, hl with | [_, _], _ => rfl) (fun vs H Q E h => ?len) (fun cdv A outer s H vs Q E f hr h => ?_)
  case len => first | (obtain ⟨_, rfl, _⟩ := h; rfl) | (obtain ⟨_, _, rfl, _⟩ := h; rfl) | (obtain ⟨_, _, _, rfl, _⟩ := h; rfl) | (obtain ⟨_, _, _, _, rfl, _⟩ := h; rfl) | (obtain ⟨_, _, _, _, _, rfl, _⟩ := h; rfl) | (obtain ⟨_, _, _, _, _, _, rfl, _⟩ := h; rfl) | (obtain ⟨_, _, _, _, _, _, _, rfl, _⟩ := h; rfl) | (obtain ⟨_, _, _, _, _, _, _, _, rfl, _⟩ := h; rfl) | (obtain ⟨_, _, _, _, _, _, _, _, _, rfl, _⟩ := h; rfl) | (obtain ⟨_, _, _, _, _, _, _, _, _, _, rfl, _⟩ := h; rfl) | (obtain ⟨_, _, _, _, _, _, _, _, _, _, _, rfl, _⟩ := h; rfl) | (obtain ⟨_, _, _, _, _, _, _, _, _, _, _, _, rfl, _⟩ := h; rfl)
  refine ⟨_, (pss_cons (ps_set (i := 2) sc_opened.nd rfl (.inl rfl) (pe_lst pa_nil))
      (pss_cons (ps_for PassesOwn.never rfl (x_enum K rfl rfl T.enumerate (pa_cons (pv 0) pa_nil)) (x_tup K rfl rfl (pgs_cons (pg_name (i := 3) sc_opened.nd rfl (.inl rfl)) (pgs_cons (pg_name (i := 4) sc_opened.nd rfl (.inl rfl)) pgs_nil)))
        (pss_one (ps_if (pt_cmpR op_ne (x_ixT K rfl (pv 4) pe_int) pe_str (nomark _))
          (pss_one (x_app K rfl (pe_bm PySem.F.plainAttrs_list PySem.F.slot_list_append PySem.F.type_list_append mt_append (pv 2) (pa_cons (pe_ifExp (pt_cmpR op_eq (x_ixT K rfl (pv 4) pe_int) pe_str (nomark _)) (pv 4) (pe_tup (pa_cons (x_ixT K rfl (pv 4) pe_int) (pa_cons (x_list K rfl rfl T.list (pa_cons (x_ixT K rfl (pv 4) pe_int) pa_nil)) pa_nil)))) pa_nil))))
          (pss_one (ps_if (pt_cmpR (o_in K rfl) (pv 3) (pv 1) rfl)
            (pss_one (x_app K rfl (pe_bm PySem.F.plainAttrs_list PySem.F.slot_list_append PySem.F.type_list_append mt_append (pv 2) (pa_cons (pe_tup (pa_cons pe_str (pa_cons (pe_lst (pa_cons (pe_tup (pa_cons (x_ixT K rfl (pv 4) pe_int) (pa_cons pe_int pa_nil))) pa_nil)) pa_nil))) pa_nil))))
            (pss_one (x_app K rfl (pe_bm PySem.F.plainAttrs_list PySem.F.slot_list_append PySem.F.type_list_append mt_append (pv 2) (pa_cons (pe_tup (pa_cons pe_str (pa_cons pe_int pa_nil))) pa_nil)))))))))
      (pss_one (ps_ret (pv 2))))), ?_⟩
  obtain ⟨a, b, fl, pl, rfl, hf, hP, so, k⟩ := h
  obtain ⟨vs, v1, v2, v3⟩ := hf.at_
  have len := so.len
  refine q_asgL (el_lst ea_nil (by decide)) fun o H1 no e1 h1 => ?_
  refine q_forE (ea_cons (ev_var rfl) ea_nil) (ex_l e1 v1) (fun i σ H' => ∃ u v us, σ = [some (.ref a), some (.ref b), some (.ref o), u, v] ∧ H' o = some (.lst us) ∧ Ex H (Hd o H') ∧ LL (FmV K (Hd o H')) us ((osheet fl pl).take i))
    (fun H2 e2 => ⟨none, none, [], rfl, e2 o _ h1, ex_in (e1.trans e2) no, LL.nil⟩) (fun i σ H' _ p => ?_) (fun i x σ H' p hx hp np => ?_) (fun σ H' p => ?_)
  · obtain ⟨_, _, _, _, _, e, _⟩ := p
    exact ex_l (e.trans ex_hd) v1
  · obtain ⟨u, v, us, rfl, ho, eb, hL⟩ := hp
    have hi : i < fl.length := by have := (List.getElem?_eq_some_iff.mp hx).1; omega
    have ef := CsM.at_fat hi
    obtain ⟨r, hr, hR⟩ := v3 i _ ef
    rw [hx] at hr; cases hr
    have nop : o ≠ p := ne_of_none ho np
    refine g_two (st_of upd_same) ?_
    have ho2 : (upd H' p (.tup [.int (i : Nat), .ref r])) o = some (.lst us) := by rw [upd_ne nop]; exact ho
    have eb2 : Ex H (Hd o (upd H' p (.tup [.int (i : Nat), .ref r]))) := eb.trans (hd_ex (Ex.new np))
    have hL2 : LL (FmV K (Hd o (upd H' p (.tup [.int (i : Nat), .ref r])))) us ((osheet fl pl).take i) := hL.mono fun v x q => q.mono (hd_ex (Ex.new np))
    generalize upd H' p (.tup [.int (i : Nat), .ref r]) = H2 at ho2 eb2 hL2
    have usl : us.length < 100000 := by
      have := hL2.1
      rw [List.length_take] at this
      omega
    have es : (osheet fl pl)[i]? = some (openF (fat fl i) (decide (i ∈ pl))) := osheet_at ef
    have fin : ∀ v H3, Ex H2 H3 → FmV K (Hd o H3) v (openF (fat fl i) (decide (i ∈ pl))) → ∃ (u v' : Option V) (us' : List V), [some (V.ref a), some (V.ref b), some (V.ref o), some (V.int (i : Nat)), some (V.ref r)] = [some (V.ref a), some (V.ref b), some (V.ref o), u, v'] ∧ (upd H3 o (.lst (us ++ [v]))) o = some (.lst us') ∧ Ex H (Hd o (upd H3 o (.lst (us ++ [v])))) ∧ LL (FmV K (Hd o (upd H3 o (.lst (us ++ [v]))))) us' ((osheet fl pl).take (i + 1)) := fun v H3 e3 hv =>
      ⟨_, _, us ++ [v], rfl, upd_same, by rw [hd_upd]; exact eb2.trans (hd_ex e3), by
        rw [hd_upd, take_snoc es]
        exact (hL2.mono fun v x q => q.mono (hd_ex e3)).snoc hv⟩
    have hR2 : FmR K (Hd o H2) r (fat fl i) := hR.mono eb2
    have hR2' : FmR K H2 r (fat fl i) := hR2.mono ex_hd
    have hP2 : SqL K H2 b (pl.map nv) := ex_l (eb2.trans ex_hd) hP
    clear hR hL es ef hx
    generalize hg : fat fl i = g at *
    -- the new object is another one than the list
    have far : ∀ q H3, Ex H2 H3 → H3 q = none → q ≠ o := fun q H3 e hq z => by
      rw [z, e o _ ho2] at hq; cases hq
    refine s_if (et_nwh (ev_kind (ev_var rfl) hR2')) (fun hb H3 e3 => ?_) (fun hb H3 e3 => s_if (et_in (i := i) (ev_var rfl) (ev_var rfl) (ex_l e3 hP2)) (fun hc H4 e4 => ?_) (fun hc H4 e4 => ?_))
    · -- no condition
      have hR3 : FmR K H3 r g := hR2'.mono e3
      have eg : openF g (decide (i ∈ pl)) = g := by cases g <;> first | rfl | cases hb
      rw [eg] at fin
      have lst : ∀ (l : Arcs) (s : Str) (mk : Fm), (∀ H' q, FmR K H' q mk = ∃ b, SqT K H' q [.str s, .ref b] ∧ ArcsAt K H' b l) → FmR K H3 r mk → FmR K (Hd o H3) r mk → kind mk = s →
          EvP (tTup (tCons (tOp (rIxT K) (tVar 4) (tC (.int 0))) (tCons (tCB (rListS K) (tCons (tOp (rIxT K) (tVar 4) (tC (.int 1))) tNil)) tNil))) [some (.ref a), some (.ref b), some (.ref o), some (.int (i : Nat)), some (.ref r)] H3 fun v H4 => FmV K (Hd o H4) v mk := by
        intro l s mk em h1 h1' es
        have h2 := h1
        have h3 := h1'
        rw [em] at h2 h3
        obtain ⟨bb, t1, us1, u1, u2⟩ := h2
        obtain ⟨bb', t1', us1', u1', u2'⟩ := h3
        have kk : Ev (tOp (rIxT K) (tVar 4) (tC (.int 0))) [some (.ref a), some (.ref b), some (.ref o), some (.int (i : Nat)), some (.ref r)] H3 (.str s) := by
          have := ev_kind (K := K) (σ := [some (.ref a), some (.ref b), some (.ref o), some (.int (i : Nat)), some (.ref r)]) (ta := tVar 4) (ev_var rfl) h1
          rw [es] at this; exact this
        refine (ep_tup (Pd := fun vs H' => ∃ q, vs = [.str s, .ref q] ∧ H3 q = none ∧ H' q = some (.lst us1)) (eap_cons kk (eap_consP (ep_L (el_list (ev_ixT (i := 1) (ev_var rfl) ev_c t1 rfl) u1)) fun v H4 e4 hv => eap_of ea_nil fun H5 e5 => ?_)) (fun vs H4 hv => ?_)).imp fun v H4 e4 hv => ?_
        · obtain ⟨q, rfl, n1, n2⟩ := hv
          exact ⟨q, rfl, n1, e5 q _ n2⟩
        · obtain ⟨q, rfl, _⟩ := hv
          show 2 ≤ 100000; decide
        · obtain ⟨p4, vs4, H5, rfl, ⟨q, rfl, n1, n2⟩, e5, n3, rfl⟩ := hv
          have np4 := far p4 H5 (e3.trans e5) n3
          have nq := far q H3 e3 n1
          have nqp : q ≠ p4 := ne_of_none n2 n3
          refine ⟨p4, rfl, ?_⟩
          rw [em]
          refine ⟨q, st_of ?_, us1, sq_of ?_, u2.1, fun j x hx => ?_⟩
          · rw [hd_ne np4, upd_same]
          · rw [hd_ne nq, upd_ne nqp]; exact n2
          · obtain ⟨y, y1, y2⟩ := u2.2 j x hx
            obtain ⟨rr, y3, y4⟩ := y2
            obtain ⟨o3, h5, h6⟩ : ∃ o3, o3 = Hd o (upd H5 p4 (.tup [.str s, .ref q])) ∧ True := ⟨_, rfl, trivial⟩
            refine ⟨y, y1, rr, y3, ?_⟩
            have tt : SqT K (Hd o H3) rr [.int x.1, .int x.2] := by
              rcases y4 with (z | ⟨oo, z⟩) | z
              · have nr : rr ≠ o := fun w => by rw [w, e3 o _ ho2] at z; cases z
                exact .inl (.inl (by rw [hd_ne nr]; exact z))
              · have nr : rr ≠ o := fun w => by rw [w, e3 o _ ho2] at z; cases z
                exact .inl (.inr ⟨oo, by rw [hd_ne nr]; exact z⟩)
              · exact .inr z
            exact ex_t (hd_ex (e5.trans (Ex.new n3))) tt
      refine s_appP (e3 o _ ho2) (ev_var rfl) (Pd := fun v H4 => FmV K (Hd o H4) v g) (ep_if (et_am (ev_kind (ev_var rfl) hR3)) (fun _ => ep_of (ev_var rfl) fun H4 e4 => ⟨r, rfl, hR2.mono (hd_ex (e3.trans e4))⟩) (fun ha => ?_)) usl fun v H4 e4 hv => fin v H4 (e3.trans e4) hv
      cases g with
      | amt m => cases ha
      | wh j m t => cases hb
      | lo l => exact lst l "least" (.lo l) (fun _ _ => rfl) hR3 (hR2.mono (hd_ex e3)) rfl
      | hi l => exact lst l "greatest" (.hi l) (fun _ _ => rfl) hR3 (hR2.mono (hd_ex e3)) rfl
    · -- an open condition
      cases g with
      | amt m => cases hb
      | lo l => cases hb
      | hi l => cases hb
      | wh j m t =>
        have e24 := e3.trans e4
        have hR4 : SqT K H4 r [.str "when", .int j, .int m, .int t] := hR2'.mono e24
        have eg : openF (.wh j m t) (decide (i ∈ pl)) = .hi [(t, 0)] := by rw [hc]; rfl
        rw [eg] at fin
        refine s_appP (e24 o _ ho2) (ev_var rfl) (Pd := fun v H5 => FmV K (Hd o H5) v (.hi [(t, 0)])) ((ep_tup (Pd := fun vs H' => ∃ p1 q1, vs = [.str "greatest", .ref q1] ∧ H4 q1 = none ∧ H4 p1 = none ∧ H' q1 = some (.lst [.ref p1]) ∧ H' p1 = some (.tup [.int (t : Nat), .int 0]))
          (eap_cons ev_c (eap_consP (ep_LT (vs := [.int (t : Nat), .int 0]) (ea_cons (ev_ixT (i := 3) (ev_var rfl) ev_c hR4 rfl) (ea_cons ev_c ea_nil)) (by show 2 ≤ 100000; decide)) fun v H5 e5 hv => eap_of ea_nil fun H6 e6 => ?_)) (fun vs H5 hv => ?_)).imp fun v H5 e5 hv => ?_) usl fun v H5 e5 hv => fin v H5 (e24.trans e5) hv
        · obtain ⟨p1, q1, rfl, n1, n2, n3, n4, n5⟩ := hv
          exact ⟨p1, q1, rfl, n1, n2, e6 _ _ n4, e6 _ _ n5⟩
        · obtain ⟨p1, q1, rfl, _⟩ := hv
          show 2 ≤ 100000; decide
        · obtain ⟨p4, vs4, H6, rfl, ⟨p1, q1, rfl, n1, n2, n4, n5⟩, e6, n3, rfl⟩ := hv
          have np4 := far p4 H6 (e24.trans e6) n3
          have nq := far q1 H4 e24 n1
          have npp := far p1 H4 e24 n2
          refine ⟨p4, rfl, q1, st_of ?_, [.ref p1], sq_of ?_, rfl, fun jj x hx => ?_⟩
          · rw [hd_ne np4, upd_same]
          · rw [hd_ne nq, upd_ne (ne_of_none n4 n3)]; exact n4
          · cases jj with
            | succ jj => cases hx
            | zero =>
              cases hx
              refine ⟨.ref p1, rfl, p1, rfl, st_of ?_⟩
              rw [hd_ne npp, upd_ne (ne_of_none n5 n3)]; exact n5
    · -- a closed one
      cases g with
      | amt m => cases hb
      | lo l => cases hb
      | hi l => cases hb
      | wh j m t =>
        have e24 := e3.trans e4
        have eg : openF (.wh j m t) (decide (i ∈ pl)) = .amt (some 0) := by rw [hc]; rfl
        rw [eg] at fin
        refine s_appP (e24 o _ ho2) (ev_var rfl) (Pd := fun v H5 => FmV K (Hd o H5) v (.amt (some 0))) ((ep_tup (Pd := fun vs H' => vs = [.str "amount", .int 0]) (eap_of (ea_cons ev_c (ea_cons ev_c ea_nil)) fun _ _ => rfl) (fun vs H5 hv => ?_)).imp fun v H5 e5 hv => ?_) usl fun v H5 e5 hv => fin v H5 (e24.trans e5) hv
        · rw [hv]; show 2 ≤ 100000; decide
        · obtain ⟨p4, vs4, H6, rfl, rfl, e6, n3, rfl⟩ := hv
          have np4 := far p4 H6 (e24.trans e6) n3
          refine ⟨p4, rfl, st_of ?_⟩
          rw [hd_ne np4, upd_same]; rfl
  · obtain ⟨u, v, us, rfl, ho, eb, hL⟩ := p
    refine s_ret (ev_var rfl) fun H2 e2 => k o H2 no (eb.trans (ex_hd.trans e2)) ⟨us, ex_l e2 (sq_of ho), ?_⟩
    rw [v2, ← osheet_len fl pl, List.take_of_length_le (Nat.le_refl _)] at hL
    exact hL.mono fun v x q => q.mono (ex_hd.trans e2)
end
end CsW

set_option Elab.async false
set_option linter.all false
set_option maxRecDepth 100000
set_option maxHeartbeats 4000000
namespace CsW
open PySem PySem.Spec PyProof.Rows L2 Evl CsTop CsM
section
variable {P : Program} {w : World} {K : PySem.W.Frag} {mg : Str → Option Value} {base : Heap}
/-- arcs_of(flat, cell), as a value -/
theorem ep_arcs {σ : L2.St} {H : Hp} {ta tb : TE} {a : Addr} {c : Nat} {fl : List Fm} (ha : Ev ta σ H (.ref a)) (hb : Ev tb σ H (.int (c : Nat))) (hf : FlAt K H a fl) (hc : c < fl.length) :
    EvP (tCall (spArcsOf K) [] E0 (tCons ta (tCons tb tNil))) σ H fun v H2 => ∃ p us, v = .ref p ∧ H p = none ∧ H2 p = some (.lst us) ∧ LL (ArcV K H2) us (arcsF (fat fl c)) :=
  ep_call (Pd := fun vs H' => vs = [.ref a, .int (c : Nat)]) (eap_of (ea_cons ha (ea_cons hb ea_nil)) fun _ _ => rfl) fun vs H1 e hv Q q =>
    ⟨a, c, fl, hv, hf.mono e, hc, fun p us H' hp e' h1 h2 => q _ H' e' ⟨p, us, rfl, fresh_back e hp, h1, h2.mono fun v x z => z.mono ex_hd⟩⟩
def spTold (K : PySem.W.Frag) : Sp := fun vs H Q _ => ∃ (a b : Addr) (pl : List Fm) (ch : List Am), vs = [.ref a, .ref b, .str (Str.ofString "greatest")] ∧ FlAt K H a pl ∧ Ams K H b ch ∧ SOk pl ∧ ChOk pl ch ∧ ∀ p H', H p = none → Ex H H' → NestAt K H' p (tolds pl ch) → Q (.ref p) H'
theorem sc_told_arcs : FnScope ["plain", "choices", "word", "found", "cell", "arcs"] ["plain", "choices", "word"] (defScope sToldArcs) := ⟨rfl, rfl, rfl, by decide +kernel, rfl, by decide +kernel, by decide +kernel⟩
-- slots 0 plain, 1 choices, 2 word, 3 found, 4 cell, 5 arcs
theorem c_told_arcs (T : Top K mg) (C_arcs_of : Callee P w K mg base "arcs_of" ["flat", "cell"] 1 (spArcsOf K)) : Callee P w K mg base "told_arcs" ["plain", "choices", "word"] 2 (spTold K) := by
  refine ok_of (N := ["plain", "choices", "word", "found", "cell", "arcs"]) T (List.mem_of_getElem? (i := 13) rfl) sc_told_arcs (fun _ _ _ _ _ _ us hl => match us, hl with | [_, _, _], _ => rfl) (fun vs H Q E h => ?len) (fun cdv A outer s H vs Q E f hr h => ?_)
  case len => first | (obtain ⟨_, rfl, _⟩ := h; rfl) | (obtain ⟨_, _, rfl, _⟩ := h; rfl) | (obtain ⟨_, _, _, rfl, _⟩ := h; rfl) | (obtain ⟨_, _, _, _, rfl, _⟩ := h; rfl) | (obtain ⟨_, _, _, _, _, rfl, _⟩ := h; rfl) | (obtain ⟨_, _, _, _, _, _, rfl, _⟩ := h; rfl) | (obtain ⟨_, _, _, _, _, _, _, rfl, _⟩ := h; rfl) | (obtain ⟨_, _, _, _, _, _, _, _, rfl, _⟩ := h; rfl) | (obtain ⟨_, _, _, _, _, _, _, _, _, rfl, _⟩ := h; rfl) | (obtain ⟨_, _, _, _, _, _, _, _, _, _, rfl, _⟩ := h; rfl) | (obtain ⟨_, _, _, _, _, _, _, _, _, _, _, rfl, _⟩ := h; rfl) | (obtain ⟨_, _, _, _, _, _, _, _, _, _, _, _, rfl, _⟩ := h; rfl)
  refine ⟨_, (pss_cons (ps_set (i := 3) sc_told_arcs.nd rfl (.inl rfl) (pe_lst pa_nil))
      (pss_cons (ps_for PassesOwn.never rfl (pi_range1 rfl T.range (pa_cons (x_len K rfl rfl T.len (pa_cons (pv 0) pa_nil)) pa_nil)) (pg_name (i := 4) sc_told_arcs.nd rfl (.inl rfl))
        (pss_cons (ps_set (i := 5) sc_told_arcs.nd rfl (.inl rfl) (x_call C_arcs_of hr (pa_cons (pv 0) (pa_cons (pv 4) pa_nil))))
        (pss_one (x_app K rfl (pe_bm PySem.F.plainAttrs_list PySem.F.slot_list_append PySem.F.type_list_append mt_append (pv 3) (pa_cons (pe_ifExp (pt_cmpR op_eq (x_ixT K rfl (x_ixL K rfl (pv 0) (pv 4)) pe_int) (pv 2) (nomark _)) (pe_lst (pa_cons (x_ixL K rfl (pv 5) (x_ixL K rfl (pv 1) (pv 4))) pa_nil)) (pv 5)) pa_nil))))))
      (pss_one (ps_ret (pv 3))))), ?_⟩
  obtain ⟨a, b, pl, ch, rfl, hf, hC, so, co, k⟩ := h
  obtain ⟨vs, v1, v2, v3⟩ := hf.at_
  have len := so.len
  refine q_asgL (el_lst ea_nil (by decide)) fun o H1 no e1 h1 => ?_
  refine q_forR1 (n := (pl.length : Int)) (ea_cons (ev_is (ev_len (ev_var rfl) (ex_l e1 v1)) (by rw [v2])) ea_nil) ⟨by omega, by omega⟩ (fun i σ H' => ∃ u v us, σ = [some (.ref a), some (.ref b), some (.str (Str.ofString "greatest")), some (.ref o), u, v] ∧ H' o = some (.lst us) ∧ Ex H (Hd o H') ∧ LL (NestV K (Hd o H')) us ((tolds pl ch).take i))
    (fun H2 e2 => ⟨none, none, [], rfl, e2 o _ h1, ex_in (e1.trans e2) no, LL.nil⟩) (fun i σ H' hi hp => ?_) (fun σ H' p => ?_)
  · obtain ⟨u, v, us, rfl, ho, eb, hL⟩ := hp
    have hi : i < pl.length := by omega
    have ef := CsM.at_fat hi
    obtain ⟨r, hr, hR⟩ := v3 i _ ef
    have es : (tolds pl ch)[i]? = some (told (fat pl i) (chn ch i)) := tolds_at ef
    have usl : us.length < 100000 := by
      have := hL.1
      rw [List.length_take] at this
      omega
    have eH := eb.trans ex_hd
    refine q_asgP (ep_arcs (a := a) (ev_var rfl) (ev_var rfl) (hf.mono eH) hi) fun v2 H2 e2 hv => ?_
    obtain ⟨p, us2, rfl, hp, h2, hA⟩ := hv
    have npo : p ≠ o := fun z => by rw [z, ho] at hp; cases hp
    have ho2 := e2 o _ ho
    have eH2 := eH.trans e2
    have wf := (fat_ok so hi).1
    refine s_appP ho2 (ev_var rfl) (Pd := fun v H3 => NestV K (Hd o H3) v (told (fat pl i) (chn ch i))) (ep_if (et_hi2 (g := fat pl i) (ev_kind (rr := r) (ev_ixL (i := i) (ev_var rfl) (ev_var rfl) (ex_l eH2 v1) hr) (hR.mono eH2)) (ev_var rfl)) (fun hb => ?_) (fun hb => ?_)) usl fun v H3 e3 hv => ?_
    · -- the told arc alone
      cases hg : fat pl i with
      | amt m => rw [hg] at hb; cases hb
      | lo l => rw [hg] at hb; cases hb
      | wh j m t => rw [hg] at hb; cases hb
      | hi l =>
        rw [hg] at ef hA
        obtain ⟨c, q, c1, c2, c3, _, c4⟩ := co.hi ef
        rw [c4]
        have hA : LL (ArcV K H2) us2 l := hA
        obtain ⟨y, y1, y2⟩ := hA.2 c q c2
        have hi2 : i < ch.length := by rw [co.len]; exact hi
        have ec : av (CsM.fn ch i) = .int (c : Nat) := by rw [CsM.fn_at c1]; rfl
        refine (ep_L (el_lst (vs := [y]) (ea_cons (ev_ixL (i := c) (ev_var rfl) (ev_is (ev_am (ev_var rfl) (ev_var rfl) (hC.mono eH2) hi2) ec) (sq_of h2) y1) ea_nil) (by show 1 ≤ 100000; decide))).imp fun v H3 e3 hv => ?_
        obtain ⟨q3, rfl, n1, n2⟩ := hv
        have nq : q3 ≠ o := fun z => by rw [z, ho2] at n1; cases n1
        refine ⟨q3, rfl, [y], sq_of (by rw [hd_ne nq]; exact n2), rfl, fun j x hx => ?_⟩
        cases j with
        | succ j => cases hx
        | zero =>
          cases hx
          exact ⟨y, rfl, arc_hd (e3 o _ ho2) (y2.mono e3)⟩
    · have et : told (fat pl i) (chn ch i) = arcsF (fat pl i) := by
        cases hg : fat pl i with
        | amt m => rfl
        | lo l => rfl
        | wh j m t => rfl
        | hi l => rw [hg] at hb; cases hb
      rw [et]
      exact ep_of (ev_var rfl) fun H3 e3 => ⟨p, rfl, us2, sq_of (by rw [hd_ne npo]; exact e3 p _ h2), hA.mono fun v x z => arc_hd (e3 o _ ho2) (z.mono e3)⟩
    · refine ⟨_, _, us ++ [v], rfl, upd_same, by rw [hd_upd]; exact eb.trans (hd_ex (e2.trans e3)), ?_⟩
      rw [hd_upd, take_snoc es]
      exact (hL.mono fun v x ⟨bb, z1, z2⟩ => ⟨bb, z1, z2.mono (hd_ex (e2.trans e3))⟩).snoc hv
  · obtain ⟨u, v, us, rfl, ho, eb, hL⟩ := p
    refine s_ret (ev_var rfl) fun H2 e2 => k o H2 no (eb.trans (ex_hd.trans e2)) ⟨us, ex_l e2 (sq_of ho), ?_⟩
    rw [show ((pl.length : Int)).toNat = (tolds pl ch).length by rw [tolds_len]; omega, List.take_of_length_le (Nat.le_refl _)] at hL
    exact hL.mono fun v x ⟨bb, z1, z2⟩ => ⟨bb, z1, z2.mono (ex_hd.trans e2)⟩
end
end CsW

set_option Elab.async false
set_option linter.all false
set_option maxRecDepth 100000
set_option maxHeartbeats 4000000
namespace CsW
open PySem PySem.Spec PyProof.Rows L2 Evl CsTop CsM
section
variable {P : Program} {w : World} {K : PySem.W.Frag} {mg : Str → Option Value} {base : Heap}
theorem et_most {σ : L2.St} {H : Hp} {ta tb : TE} {a b : Am} (ha : Ev ta σ H (av a)) (hb : Ev tb σ H (av b)) : EvT (tB (tCall spAtMost [] E0 (tCons ta (tCons tb tNil)))) σ H (am a b) :=
  et_val (ev_callV (ea_cons ha (ea_cons hb ea_nil)) fun H1 _ Q q => ⟨a, b, rfl, q⟩)
theorem ev_shift {σ : L2.St} {H : Hp} {ta tb : TE} {a : Am} {c : Int} (ha : Ev ta σ H (av a)) (hb : Ev tb σ H (.int c)) : Ev (tCall spShifted [] E0 (tCons ta (tCons tb tNil))) σ H (av (sh a c)) :=
  ev_callV (ea_cons ha (ea_cons hb ea_nil)) fun H1 _ Q q => ⟨a, c, rfl, q⟩
def spRounds (K : PySem.W.Frag) : Sp := fun vs H Q _ => ∃ (a b c : Addr) (pl : List Fm) (A : List Arcs) (N : List Nat) (x : Nat → Am) (rk : Nat → Nat), vs = [.ref a, .ref b, .ref c] ∧ FlAt K H a pl ∧ NestAt K H b A ∧ SqL K H c (N.map nv) ∧ SOk pl ∧ A.length = pl.length ∧
  RDH pl (Ar A) N x rk ∧ ∀ z : List Am, z.length = pl.length → (∀ i, i < pl.length → CsM.fn z i = x i) → RetL (z.map av) H Q
theorem sc_rounds_down : FnScope ["plain", "arcs", "noughts", "found", "step", "cell", "formula", "target", "shift", "amount"] ["plain", "arcs", "noughts"] (defScope sRoundsDown) := ⟨rfl, rfl, rfl, by decide +kernel, rfl, by decide +kernel, by decide +kernel⟩
-- slots 0 plain, 1 arcs, 2 noughts, 3 found, 4 step, 5 cell, 6 formula, 7 target, 8 shift, 9 amount
theorem c_rounds_down (T : Top K mg) (C_shifted : Callee P w K mg base "shifted" ["a", "c"] 1 spShifted) (C_at_most : Callee P w K mg base "at_most" ["a", "b"] 1 spAtMost) : Callee P w K mg base "rounds_down" ["plain", "arcs", "noughts"] 2 (spRounds K) := by
  refine ok_of (N := ["plain", "arcs", "noughts", "found", "step", "cell", "formula", "target", "shift", "amount"]) T (List.mem_of_getElem? (i := 16) rfl) sc_rounds_down (fun _ _ _ _ _ _ us hl => match us, hl with | [_, _, _], _ => rfl) (fun vs H Q E h => ?len) (fun cdv A outer s H vs Q E f hr h => ?_)
  case len => first | (obtain ⟨_, rfl, _⟩ := h; rfl) | (obtain ⟨_, _, rfl, _⟩ := h; rfl) | (obtain ⟨_, _, _, rfl, _⟩ := h; rfl) | (obtain ⟨_, _, _, _, rfl, _⟩ := h; rfl) | (obtain ⟨_, _, _, _, _, rfl, _⟩ := h; rfl) | (obtain ⟨_, _, _, _, _, _, rfl, _⟩ := h; rfl) | (obtain ⟨_, _, _, _, _, _, _, rfl, _⟩ := h; rfl) | (obtain ⟨_, _, _, _, _, _, _, _, rfl, _⟩ := h; rfl) | (obtain ⟨_, _, _, _, _, _, _, _, _, rfl, _⟩ := h; rfl) | (obtain ⟨_, _, _, _, _, _, _, _, _, _, rfl, _⟩ := h; rfl) | (obtain ⟨_, _, _, _, _, _, _, _, _, _, _, rfl, _⟩ := h; rfl) | (obtain ⟨_, _, _, _, _, _, _, _, _, _, _, _, rfl, _⟩ := h; rfl)
  refine ⟨_, (pss_cons (ps_setLc (i := 3) (own := [("cell", 5)]) (g := gName 5) (tt := tYes) rfl sc_rounds_down.nd rfl rfl (sw_true rfl rfl rfl (by decide +kernel)) (x_piL K rfl (pv 0)) (blkOk_by (N := ["plain", "arcs", "noughts", "found", "step", "cell", "formula", "target", "shift", "amount"]) (sc := defScope sRoundsDown) (by decide +kernel)) (fun _ _ _ _ _ => (pg_name (i := 5) sc_rounds_down.nd rfl (.inl rfl))) (fun _ _ _ _ _ => pts_nil) (fun _ _ _ _ _ => pe_non))
      (pss_cons (ps_for PassesOwn.never rfl (pi_range1 rfl T.range (pa_cons (pe_op op_add (x_len K rfl rfl T.len (pa_cons (pv 0) pa_nil)) pe_int) pa_nil)) (pg_name (i := 4) sc_rounds_down.nd rfl (.inl rfl))
        (pss_one (ps_for PassesOwn.never rfl (x_enum K rfl rfl T.enumerate (pa_cons (pv 0) pa_nil)) (x_tup K rfl rfl (pgs_cons (pg_name (i := 5) sc_rounds_down.nd rfl (.inl rfl)) (pgs_cons (pg_name (i := 6) sc_rounds_down.nd rfl (.inl rfl)) pgs_nil)))
          (pss_one (ps_if (pt_cmpR (o_in K rfl) (pv 5) (pv 2) rfl)
            (pss_one (ps_asg pe_int (pg_sub (pv 3) (pv 5) set_list)))
            (pss_one (ps_if (pt_cmpR op_eq (x_ixT K rfl (pv 6) pe_int) pe_str (nomark _))
              (pss_one (ps_asg (x_ixT K rfl (pv 6) pe_int) (pg_sub (pv 3) (pv 5) set_list)))
              (pss_one (ps_for PassesOwn.never rfl (x_piL K rfl (x_ixL K rfl (pv 1) (pv 5))) (x_tup K rfl rfl (pgs_cons (pg_name (i := 7) sc_rounds_down.nd rfl (.inl rfl)) (pgs_cons (pg_name (i := 8) sc_rounds_down.nd rfl (.inl rfl)) pgs_nil)))
                (pss_cons (ps_set (i := 9) sc_rounds_down.nd rfl (.inl rfl) (x_call C_shifted hr (pa_cons (x_ixL K rfl (pv 3) (pv 7)) (pa_cons (pv 8) pa_nil))))
                (pss_one (ps_if (pt_val (x_call C_at_most hr (pa_cons (pv 9) (pa_cons (x_ixL K rfl (pv 3) (pv 5)) pa_nil))))
                  (pss_one (ps_asg (pv 9) (pg_sub (pv 3) (pv 5) set_list)))
                  pss_nil))))))))))))
      (pss_one (ps_ret (pv 3))))), ?_⟩
  obtain ⟨a, b, c, pl, A, N, x, rk, rfl, hf, hA, hN, so, lA, R, k⟩ := h
  obtain ⟨vs, v1, v2, v3⟩ := hf.at_
  obtain ⟨ws, w1, w2, w3⟩ := hA.at_
  have len := so.len
  refine q_asgL (xs := (nones pl.length).map av) ?_ fun o H1 no e1 h1 => ?_
  · have e0 : (nones pl.length).map av = pl.map fun _ => V.non := by
      unfold nones; rw [List.map_replicate]
      exact (List.map_const' ..).symm
    rw [e0]
    exact el_lcMap _ (ev_var rfl) v1 v2 (by omega) fun i u y hu hy => ⟨_, fun H1 e Q q => q, rfl, ev_c⟩
  refine q_forR1 (n := ((pl.length + 1 : Nat) : Int)) (ea_cons (ev_op (ev_len (ev_var rfl) (ex_l e1 v1)) ev_c (by rw [v2]; exact rv_I0)) ea_nil) ⟨by omega, by omega⟩
    (fun r σ H' => ∃ u1 u2 u3 u4 u5 u6 z, σ = [some (.ref a), some (.ref b), some (.ref c), some (.ref o), u1, u2, u3, u4, u5, u6] ∧ H' o = some (.lst (z.map av)) ∧ Ex H (Hd o H') ∧ RD pl.length x rk z r 0)
    (fun H2 e2 => ⟨_, _, _, _, _, _, _, rfl, e2 o _ h1, ex_in (e1.trans e2) no, RD.start⟩) (fun r σ H' hr hp => ?_) (fun σ H' hp => ?_)
  · obtain ⟨u1, u2, u3, u4, u5, u6, z, rfl, ho, eb, hD⟩ := hp
    have eH := eb.trans ex_hd
    refine s_forE (ea_cons (ev_var rfl) ea_nil) (ex_l eH v1)
      (fun i σ H' => ∃ u1 u2 u3 u4 u5 u6 z, σ = [some (.ref a), some (.ref b), some (.ref c), some (.ref o), u1, u2, u3, u4, u5, u6] ∧ H' o = some (.lst (z.map av)) ∧ Ex H (Hd o H') ∧ RD pl.length x rk z r i)
      (fun H2 e2 => ⟨_, _, _, _, _, _, _, rfl, e2 o _ ho, eb.trans (hd_ex e2), hD⟩) (fun i σ H' _ p => ?_) (fun i y σ H' p hy hp np => ?_) (fun σ H' hp => ?_)
    · obtain ⟨_, _, _, _, _, _, _, _, _, e, _⟩ := p
      exact ex_l (e.trans ex_hd) v1
    · clear u1 u2 u3 u4 u5 u6
      obtain ⟨u1, u2, u3, u4, u5, u6, z, rfl, ho, eb, hD⟩ := hp
      have hi : i < pl.length := by have := (List.getElem?_eq_some_iff.mp hy).1; omega
      have ef := CsM.at_fat hi
      obtain ⟨rr, hr2, hR⟩ := v3 i _ ef
      rw [hy] at hr2; cases hr2
      have nop : o ≠ p := ne_of_none ho np
      refine g_two (st_of upd_same) ?_
      have ho2 : (upd H' p (.tup [.int (i : Nat), .ref rr])) o = some (.lst (z.map av)) := by rw [upd_ne nop]; exact ho
      have eb2 : Ex H (Hd o (upd H' p (.tup [.int (i : Nat), .ref rr]))) := eb.trans (hd_ex (Ex.new np))
      generalize upd H' p (.tup [.int (i : Nat), .ref rr]) = H2 at ho2 eb2
      have eH2 := eb2.trans ex_hd
      have hz : i < z.length := by rw [hD.len]; exact hi
      have hzl : i < (z.map av).length := by rw [List.length_map]; exact hz
      -- the cell's store
      have put : ∀ (v : Am) (H3 : Hp) u1 u2 u3 u4 u5 u6, Ex H2 H3 → RD pl.length x rk (z.set i v) r (i + 1) →
          ∃ u1' u2' u3' u4' u5' u6' z', [some (V.ref a), some (V.ref b), some (V.ref c), some (V.ref o), u1, u2, u3, u4, u5, u6] = [some (V.ref a), some (V.ref b), some (V.ref c), some (V.ref o), u1', u2', u3', u4', u5', u6'] ∧ (upd H3 o (.lst ((z.map av).set i (av v)))) o = some (.lst (List.map av z')) ∧ Ex H (Hd o (upd H3 o (.lst ((z.map av).set i (av v))))) ∧ RD pl.length x rk z' r (i + 1) := fun v H3 u1 u2 u3 u4 u5 u6 e3 hd =>
        ⟨_, _, _, _, _, _, z.set i v, rfl, by rw [upd_same, map_set_av], by rw [hd_upd]; exact eb2.trans (hd_ex e3), hd⟩
      refine s_if (et_in (i := i) (ev_var rfl) (ev_var rfl) (ex_l eH2 hN)) (fun hb H3 e3 => ?_) (fun hb H3 e3 => ?_)
      · refine s_setL (v := av (some 0)) (j := i) (e3 o _ ho2) ev_c (ev_var rfl) (ev_var rfl) hzl fun H4 e4 => put (some 0) H4 _ _ _ _ _ _ (e3.trans e4) (hD.put hi (R.nought i hi (of_decide_eq_true hb)).symm)
      · have hiN : i ∉ N := of_decide_eq_false hb
        generalize hg : fat pl i = g at hR ef
        refine s_if (et_am (g := g) (ev_kind (ev_var rfl) (hR.mono (eH2.trans e3)))) (fun hc H4 e4 => ?_) (fun hc H4 e4 => ?_)
        · cases g with
          | lo l => cases hc
          | hi l => cases hc
          | wh j m t => cases hc
          | amt m =>
            have hR4 : SqT K H4 rr [.str "amount", av m] := hR.mono ((eH2.trans e3).trans e4)
            refine s_setL (v := av m) (j := i) (e4 o _ (e3 o _ ho2)) (ev_ixT (i := 1) (ev_var rfl) ev_c hR4 rfl) (ev_var rfl) (ev_var rfl) hzl fun H5 e5 => put m H5 _ _ _ _ _ _ ((e3.trans e4).trans e5) (hD.put hi (R.amt i m ef).symm)
        · have e24 := e3.trans e4
          obtain ⟨bb, hb2, hA2⟩ := w3 i (A.getD i []) (by rw [List.getD_eq_getElem?_getD, List.getElem?_eq_getElem (by omega : i < A.length)]; rfl)
          obtain ⟨as, a1, a2, a3⟩ := hA2.at_
          have eAr : A.getD i [] = Ar A i := rfl
          rw [eAr] at a2 a3
          have eH4 := eH2.trans e24
          refine s_forL (ev_ixL (i := i) (ev_var rfl) (ev_var rfl) (ex_l eH4 w1) hb2) (ex_l eH4 a1)
            (fun q σ H' => ∃ u1 u2 u3 u4 z, σ = [some (.ref a), some (.ref b), some (.ref c), some (.ref o), u1, some (.int (i : Nat)), some (.ref rr), u2, u3, u4] ∧ H' o = some (.lst (z.map av)) ∧ Ex H (Hd o H') ∧ RDi pl.length x rk (Ar A) z r i q)
            (fun H5 e5 => ⟨_, _, _, _, _, rfl, e5 o _ (e24 o _ ho2), eb2.trans (hd_ex (e24.trans e5)), RDi.start hD⟩) (fun q σ H' _ p => ?_) (fun q y σ H' hy2 hp => ?_) (fun σ H' hp => ?_)
          · obtain ⟨_, _, _, _, _, _, _, e, _⟩ := p
            exact ex_l (e.trans ex_hd) a1
          · obtain ⟨u1, u2, u3, u4, z, rfl, ho, eb, hD⟩ := hp
            have hq : q < (Ar A i).length := by have := (List.getElem?_eq_some_iff.mp hy2).1; omega
            obtain ⟨pp, epp⟩ := CsM.at_of hq
            obtain ⟨r2, t1, t2⟩ := a3 q pp epp
            rw [hy2] at t1; cases t1
            have eH' := eb.trans ex_hd
            refine g_two (ex_t eH' t2) ?_
            have hpn : pp.1 < pl.length := (R.le i pp hi (List.mem_of_getElem? epp)).1
            have hz2 : pp.1 < z.length := by rw [hD.rd.len]; exact hpn
            have hzi : i < z.length := by rw [hD.rd.len]; exact hi
            refine q_asg (v := av (sh (CsM.fn z pp.1) pp.2)) (ev_shift (ev_am (ev_var rfl) (ev_var rfl) (sq_of ho) hz2) (ev_var rfl)) fun H5 e5 => ?_
            refine s_when (et_most (a := sh (CsM.fn z pp.1) pp.2) (b := CsM.fn z i) (ev_var rfl) (ev_am (ev_var rfl) (ev_var rfl) (sq_of (e5 o _ ho)) hzi)) (fun hm H6 e6 => ?_) (fun hm H6 e6 => ?_)
            · refine s_setL (v := av (sh (CsM.fn z pp.1) pp.2)) (j := i) (e6 o _ (e5 o _ ho)) (ev_var rfl) (ev_var rfl) (ev_var rfl) (by rw [List.length_map]; exact hzi) fun H7 e7 => ?_
              exact ⟨_, _, _, _, z.set i (sh (CsM.fn z pp.1) pp.2), rfl, by rw [upd_same, map_set_av], by rw [hd_upd]; exact eb.trans (hd_ex ((e5.trans e6).trans e7)), RDi.yes R hD hi epp hm⟩
            · exact ⟨_, _, _, _, z, rfl, e6 o _ (e5 o _ ho), eb.trans (hd_ex (e5.trans e6)), RDi.no R hD hi epp (am_f.mp hm)⟩
          · obtain ⟨u1, u2, u3, u4, z, rfl, ho, eb, hD⟩ := hp
            rw [a2] at hD
            exact ⟨_, _, _, _, _, _, z, rfl, ho, eb, RDi.done R hD ef hiN (fun m e => by rw [e] at hc; cases hc)⟩
    · clear u1 u2 u3 u4 u5 u6
      obtain ⟨u1, u2, u3, u4, u5, u6, z, rfl, ho, eb, hD⟩ := hp
      rw [v2] at hD
      exact ⟨_, _, _, _, _, _, z, rfl, ho, eb, hD.next⟩
  · obtain ⟨u1, u2, u3, u4, u5, u6, z, rfl, ho, eb, hD⟩ := hp
    rw [show (((pl.length + 1 : Nat) : Int)).toNat = pl.length + 1 by omega] at hD
    exact s_ret (ev_var rfl) fun H2 e2 => k z hD.len (RD.all R hD) o H2 no (eb.trans (ex_hd.trans e2)) (e2 o _ ho)
end
end CsW

set_option Elab.async false
set_option linter.all false
set_option maxRecDepth 100000
set_option maxHeartbeats 4000000
namespace CsW
open PySem PySem.Spec PyProof.Rows L2 Evl CsTop CsM
section
variable {P : Program} {w : World} {K : PySem.W.Frag} {mg : Str → Option Value} {base : Heap}
/-- i, (a, b) -/
theorem g_nest {σ : L2.St} {H : Hp} {i j k : Nat} {p r : Addr} {u a b : V} {Q : L2.St → Hp → Prop} (h : SqT K H p [u, .ref r]) (h2 : SqT K H r [a, b]) (q : Q (((σ.set i (some u)).set j (some a)).set k (some b)) H) :
    gTup K 2 (gCons (gName i) (gCons (gTup K 2 (gCons (gName j) (gCons (gName k) gNil))) gNil)) (.ref p) σ H Q :=
  ⟨p, [u, .ref r], rfl, h, rfl, u, [.ref r], rfl, .ref r, [], rfl, r, [a, b], rfl, h2, rfl, a, [b], rfl, b, [], rfl, rfl, rfl, q⟩
def spNought (K : PySem.W.Frag) : Sp := fun vs H Q _ => ∃ (a : Addr) (l : List (Nat × Int)), vs = [.ref a] ∧ ArcsAt K H a l ∧ 0 < l.length ∧ l.length ≤ 1000 ∧ ∀ best found, Best l l.length best found → RetV (nv found) H Q
theorem sc_nought_cell : FnScope ["circle", "total", "best", "found", "place", "cell", "shift"] ["circle"] (defScope sNoughtCell) := ⟨rfl, rfl, rfl, by decide +kernel, rfl, by decide +kernel, by decide +kernel⟩
-- slots 0 circle, 1 total, 2 best, 3 found, 4 place, 5 cell, 6 shift
theorem c_nought_cell (T : Top K mg) : Callee P w K mg base "nought_cell" ["circle"] 1 (spNought K) := by
  refine ok_of (N := ["circle", "total", "best", "found", "place", "cell", "shift"]) T (List.mem_of_getElem? (i := 15) rfl) sc_nought_cell (fun _ _ _ _ _ _ us hl => match us, hl with | [_], _ => rfl) (fun vs H Q E h => ?len) (fun cdv A outer s H vs Q E f hr h => ?_)
  case len => first | (obtain ⟨_, rfl, _⟩ := h; rfl) | (obtain ⟨_, _, rfl, _⟩ := h; rfl) | (obtain ⟨_, _, _, rfl, _⟩ := h; rfl) | (obtain ⟨_, _, _, _, rfl, _⟩ := h; rfl) | (obtain ⟨_, _, _, _, _, rfl, _⟩ := h; rfl) | (obtain ⟨_, _, _, _, _, _, rfl, _⟩ := h; rfl) | (obtain ⟨_, _, _, _, _, _, _, rfl, _⟩ := h; rfl) | (obtain ⟨_, _, _, _, _, _, _, _, rfl, _⟩ := h; rfl) | (obtain ⟨_, _, _, _, _, _, _, _, _, rfl, _⟩ := h; rfl) | (obtain ⟨_, _, _, _, _, _, _, _, _, _, rfl, _⟩ := h; rfl) | (obtain ⟨_, _, _, _, _, _, _, _, _, _, _, rfl, _⟩ := h; rfl) | (obtain ⟨_, _, _, _, _, _, _, _, _, _, _, _, rfl, _⟩ := h; rfl)
  refine ⟨_, (pss_cons (ps_set (i := 1) sc_nought_cell.nd rfl (.inl rfl) pe_int)
      (pss_cons (ps_set (i := 2) sc_nought_cell.nd rfl (.inl rfl) pe_int)
      (pss_cons (ps_set (i := 3) sc_nought_cell.nd rfl (.inl rfl) (x_ixT K rfl (x_ixL K rfl (pv 0) pe_int) pe_int))
      (pss_cons (ps_for PassesOwn.never rfl (x_enum K rfl rfl T.enumerate (pa_cons (pv 0) pa_nil)) (x_tup K rfl rfl (pgs_cons (pg_name (i := 4) sc_nought_cell.nd rfl (.inl rfl)) (pgs_cons (x_tup K rfl rfl (pgs_cons (pg_name (i := 5) sc_nought_cell.nd rfl (.inl rfl)) (pgs_cons (pg_name (i := 6) sc_nought_cell.nd rfl (.inl rfl)) pgs_nil))) pgs_nil)))
        (pss_cons (ps_aug (i := 1) sc_nought_cell.nd rfl (.inl rfl) (pv 6) ip_add)
        (pss_one (ps_if (pt_cmpR op_gt (pv 1) (pv 2) (nomark _))
          (pss_cons (ps_set (i := 2) sc_nought_cell.nd rfl (.inl rfl) (pv 1))
          (pss_one (ps_set (i := 3) sc_nought_cell.nd rfl (.inl rfl) (x_ixT K rfl (x_ixL K rfl (pv 0) (pe_op op_mod (pe_op op_add (pv 4) pe_int) (x_len K rfl rfl T.len (pa_cons (pv 0) pa_nil)))) pe_int))))
          pss_nil))))
      (pss_one (ps_ret (pv 3))))))), ?_⟩
  obtain ⟨a, l, rfl, hA, l0, l1, k⟩ := h
  obtain ⟨vs, v1, v2, v3⟩ := hA.at_
  obtain ⟨p0, ep0⟩ := CsM.at_of l0
  obtain ⟨r0, hr0, ht0⟩ := v3 0 p0 ep0
  refine q_asg ev_c fun H1 e1 => q_asg ev_c fun H2 e2 => q_asg (v := nv p0.1) (ev_ixT (i := 0) (ev_ixL (i := 0) (ev_var rfl) ev_c (ex_l (e1.trans e2) v1) hr0) ev_c (ex_t (e1.trans e2) ht0) rfl) fun H3 e3 => ?_
  have e13 := (e1.trans e2).trans e3
  refine q_forE (ea_cons (ev_var rfl) ea_nil) (ex_l e13 v1) (fun i σ H' => Ex H H' ∧ ∃ u1 u2 u3 best found, σ = [some (.ref a), some (.int (psum l i)), some (.int best), some (nv found), u1, u2, u3] ∧ Best l i best found)
    (fun H4 e4 => ⟨e13.trans e4, _, _, _, 0, p0.1, rfl, Best.start ep0⟩) (fun i σ H' _ p => ex_l p.1 v1) (fun i x σ H' p hx hp np => ?_) (fun σ H' hp => ?_)
  · obtain ⟨ex, u1, u2, u3, best, found, rfl, hB⟩ := hp
    have hi : i < l.length := by have := (List.getElem?_eq_some_iff.mp hx).1; omega
    obtain ⟨q, eq⟩ := CsM.at_of hi
    obtain ⟨rr, t1, t2⟩ := v3 i q eq
    rw [hx] at t1; cases t1
    have ex2 : Ex H (upd H' p (.tup [.int (i : Nat), .ref rr])) := ex.trans (Ex.new np)
    refine g_nest (st_of upd_same) (ex_t ex2 t2) ?_
    generalize upd H' p (.tup [.int (i : Nat), .ref rr]) = H4 at ex2
    obtain ⟨qc, qs⟩ := q
    have es := psum_succ eq
    refine q_aug rfl (ev_var rfl) fun H5 e5 => ?_
    have e5' : psum l i + qs = psum l (i + 1) := es.symm
    rw [e5']
    refine s_when (b := decide (best < psum l (i + 1))) (et_test (ev_op (ev_var rfl) (ev_var rfl) rv_I0)) (fun hb H6 e6 => ?_) (fun hb H6 e6 => ?_)
    · refine q_asg (ev_var rfl) fun H7 e7 => ?_
      have ex7 := ((ex2.trans e5).trans e6).trans e7
      obtain ⟨q2, eq2⟩ := CsM.at_of (l := l) (i := (i + 1) % l.length) (Nat.mod_lt _ l0)
      obtain ⟨r2, t3, t4⟩ := v3 _ q2 eq2
      have em : Ev (tOp (rI (fun _ j => 0 < j) fun i j => .int (i % j)) (tOp (rI0 fun i j => .int (i + j)) (tVar 4) (tC (.int 1))) (tCB (rLenS K) (tCons (tVar 0) tNil))) [some (.ref a), some (.int (psum l (i + 1))), some (.int (psum l (i + 1))), some (nv found), some (.int (i : Nat)), some (.int qc), some (.int qs)] H7 (.int (((i + 1) % l.length : Nat) : Int)) := by
        refine ev_is (ev_op (ev_op (ev_var rfl) ev_c rv_I0) (ev_is (ev_len (ev_var rfl) (ex_l ex7 v1)) (by rw [v2])) (rv_I (C := fun _ j => 0 < j) (by show (0 : Int) < (l.length : Int); omega))) ?_
        show V.int (((i : Int) + 1) % (l.length : Int)) = _
        congr 1
      refine s_asg (v := nv q2.1) (ev_ixT (i := 0) (ev_ixL (i := (i + 1) % l.length) (ev_var rfl) em (ex_l ex7 v1) t3) ev_c (ex_t ex7 t4) rfl) fun H8 e8 => ?_
      exact ⟨ex7.trans e8, _, _, _, psum l (i + 1), q2.1, rfl, hB.yes (of_decide_eq_true hb) eq2⟩
    · exact ⟨(ex2.trans e5).trans e6, _, _, _, best, found, rfl, hB.no (of_decide_eq_false hb)⟩
  · obtain ⟨ex, u1, u2, u3, best, found, rfl, hB⟩ := hp
    rw [v2] at hB
    exact s_ret (ev_var rfl) fun H4 e4 => k best found hB H4 (ex.trans e4)
end
end CsW

set_option Elab.async false
set_option linter.all false
set_option maxRecDepth 100000
set_option maxHeartbeats 4000000
namespace CsW
open PySem PySem.Spec PyProof.Rows L2 Evl CsTop CsM
section
variable {P : Program} {w : World} {K : PySem.W.Frag} {mg : Str → Option Value} {base : Heap} {σ : L2.St} {H H' : Hp} {ta tb te : TE} {D : Ends} {tz : TS}
theorem ev_wt {f : Addr} {n s : Int} {i : Nat} (hσ : σ[i]? = some (some (.ref f))) (W : CsL.Wt H f n) (he : Ev te σ H (.int s)) (hm : CMul n s) : Ev (CsL.tWt i te) σ H (.int (n * s - 1)) := fun H1 e Q q =>
  ⟨f, n, hσ, W.mono e, he H1 e _ fun H2 e2 => ⟨s, rfl, W.mono (e.trans e2), hm, q H2 e2⟩⟩
theorem s_setP {Pd : V → Hp → Prop} {l : Addr} {xs : List V} {j : Nat} (hl : H l = some (.lst xs)) (h : EvP te σ H Pd) (ho : Ev ta σ H (.ref l)) (hi : Ev tb σ H (.int (j : Int))) (hj : j < xs.length) (k : ∀ v H1 H3, Ex H H1 → Pd v H1 → Ex H1 H3 → D.nx σ (upd H3 l (.lst (xs.set j v)))) :
    tAsg te (gSub ta tb rSetL) D σ H := h H (Ex.refl H) _ fun v H1 e1 hp => ho H1 e1 _ fun H2 e2 => hi H2 (e1.trans e2) _ fun H3 e3 =>
  ⟨l, xs, (j : Int), j, rfl, rfl, ((e1.trans e2).trans e3) l _ hl, ixN_nat hj, k v H1 H3 e1 hp (e2.trans e3)⟩
theorem q_setP {Pd : V → Hp → Prop} {l : Addr} {xs : List V} {j : Nat} (hl : H l = some (.lst xs)) (h : EvP te σ H Pd) (ho : Ev ta σ H (.ref l)) (hi : Ev tb σ H (.int (j : Int))) (hj : j < xs.length) (k : ∀ v H1 H3, Ex H H1 → Pd v H1 → Ex H1 H3 → tz D σ (upd H3 l (.lst (xs.set j v)))) :
    tSeq (tAsg te (gSub ta tb rSetL)) tz D σ H := s_setP (D := { D with nx := tz D }) hl h ho hi hj k
theorem LL.set {α : Type} {Pd : V → α → Prop} {vs : List V} {l : List α} {i : Nat} {v : V} {x : α} (h : LL Pd vs l) (hp : Pd v x) : LL Pd (vs.set i v) (l.set i x) := by
  refine ⟨by rw [List.length_set, List.length_set, h.1], fun j y hy => ?_⟩
  rw [List.getElem?_set] at hy
  by_cases c : i = j
  · subst c
    by_cases d : i < l.length
    · rw [if_pos rfl, if_pos d] at hy
      cases hy
      exact ⟨v, by rw [List.getElem?_set, if_pos rfl, if_pos (by rw [h.1]; exact d)], hp⟩
    · rw [if_pos rfl, if_neg d] at hy; cases hy
  · rw [if_neg c] at hy
    obtain ⟨u, h1, h2⟩ := h.2 j y hy
    exact ⟨u, by rw [List.getElem?_set, if_neg c]; exact h1, h2⟩
theorem sqt_upd {o r : Addr} {us ys xs : List V} (ho : H o = some (.lst us)) (h : SqT K H r xs) : SqT K (upd H o (.lst ys)) r xs := by
  rcases h with (z | ⟨oo, z⟩) | z
  · have nr : r ≠ o := fun w => by rw [w, ho] at z; cases z
    exact .inl (.inl (by rw [upd_ne nr]; exact z))
  · have nr : r ≠ o := fun w => by rw [w, ho] at z; cases z
    exact .inl (.inr ⟨oo, by rw [upd_ne nr]; exact z⟩)
  · exact .inr z
def StV (K : PySem.W.Frag) (H : Hp) (v : V) (o : Option (Nat × Int)) : Prop := match o with
  | none => v = .non
  | some p => ArcV K H v p
theorem StV.mono {v : V} {o : Option (Nat × Int)} (e : Ex H H') (h : StV K H v o) : StV K H' v o := by
  cases o with
  | none => exact h
  | some p => exact ArcV.mono e h
theorem StV.upd {o : Addr} {us ys : List V} {v : V} {x : Option (Nat × Int)} (ho : H o = some (.lst us)) (h : StV K H v x) : StV K (upd H o (.lst ys)) v x := by
  cases x with
  | none => exact h
  | some p =>
    obtain ⟨r, h1, h2⟩ := h
    exact ⟨r, h1, sqt_upd ho h2⟩
/-- the two lists of circle_below -/
structure CB (K : PySem.W.Frag) (H : Hp) (od os : Addr) (n : Nat) (H' : Hp) (d : List Int) (st : List (Option (Nat × Int))) : Prop where
  dd : H' od = some (.lst (d.map V.int))
  ss : ∃ us, H' os = some (.lst us) ∧ LL (StV K H') us st
  ne : od ≠ os
  ex : Ex H (Hd os (Hd od H'))
  ld : d.length = n
  ls : st.length = n
section
variable {od os : Addr} {n : Nat} {H2 : Hp} {d : List Int} {st : List (Option (Nat × Int))}
theorem CB.exx (c : CB K H od os n H' d st) : Ex H H' := c.ex.trans (ex_hd.trans ex_hd)
theorem CB.mono (c : CB K H od os n H' d st) (e : Ex H' H2) : CB K H od os n H2 d st := by
  obtain ⟨us, h1, h2⟩ := c.ss
  exact ⟨e _ _ c.dd, ⟨us, e _ _ h1, h2.mono fun v x z => z.mono e⟩, c.ne, c.ex.trans (hd_ex (hd_ex e)), c.ld, c.ls⟩
theorem CB.setd (c : CB K H od os n H' d st) (i : Nat) (v : Int) : CB K H od os n (upd H' od (.lst ((d.map V.int).set i (.int v)))) (d.set i v) st := by
  obtain ⟨us, h1, h2⟩ := c.ss
  refine ⟨by rw [upd_same, List.map_set], ⟨us, by rw [upd_ne (Ne.symm c.ne)]; exact h1, h2.mono fun v x z => z.upd c.dd⟩, c.ne, by rw [hd_upd]; exact c.ex, by rw [List.length_set]; exact c.ld, c.ls⟩
theorem CB.sets (c : CB K H od os n H' d st) {us : List V} (h1 : H' os = some (.lst us)) (h2 : LL (StV K H') us st) (i : Nat) {v : V} {x : Option (Nat × Int)} (hv : StV K H' v x) : CB K H od os n (upd H' os (.lst (us.set i v))) d (st.set i x) := by
  refine ⟨by rw [upd_ne c.ne]; exact c.dd, ⟨_, upd_same, (h2.mono fun v x z => z.upd h1).set (hv.upd h1)⟩, c.ne, ?_, c.ld, by rw [List.length_set]; exact c.ls⟩
  rw [hd_new (Ne.symm c.ne), hd_upd]
  exact c.ex
def gd (d : List Int) (i : Nat) : Int := d.getD i 0
def gs (st : List (Option (Nat × Int))) (i : Nat) : Option (Nat × Int) := st.getD i none
theorem gd_at {i : Nat} (h : i < d.length) : (d.map V.int)[i]? = some (.int (gd d i)) := by
  rw [List.getElem?_map]
  unfold gd
  rw [List.getD_eq_getElem?_getD, List.getElem?_eq_getElem h]; rfl
theorem gs_at {i : Nat} (h : i < st.length) : st[i]? = some (gs st i) := by
  unfold gs
  rw [List.getD_eq_getElem?_getD, List.getElem?_eq_getElem h]; rfl
theorem gd_set {i : Nat} {v : Int} (h : i < d.length) : gd (d.set i v) = put (gd d) i v := by
  funext j
  unfold gd put
  dsimp only
  rw [List.getD_eq_getElem?_getD, List.getD_eq_getElem?_getD, List.getElem?_set]
  by_cases c : i = j
  · subst c; rw [if_pos rfl, if_pos h, if_pos rfl]; rfl
  · rw [if_neg c, if_neg (fun z => c z.symm)]
theorem gs_set {i : Nat} {v : Option (Nat × Int)} (h : i < st.length) : gs (st.set i v) = put (gs st) i v := by
  funext j
  unfold gs put
  dsimp only
  rw [List.getD_eq_getElem?_getD, List.getD_eq_getElem?_getD, List.getElem?_set]
  by_cases c : i = j
  · subst c; rw [if_pos rfl, if_pos h, if_pos rfl]; rfl
  · rw [if_neg c, if_neg (fun z => c z.symm)]
/-- steps[cell], where it is told -/
theorem CB.step (c : CB K H od os n H' d st) {i : Nat} {t : Nat} {s : Int} (hi : i < n) (e : gs st i = some (t, s)) : ∃ us r, H' os = some (.lst us) ∧ us[i]? = some (.ref r) ∧ SqT K H' r [.int (t : Nat), .int s] := by
  obtain ⟨us, h1, h2⟩ := c.ss
  obtain ⟨v, h3, h4⟩ := h2.2 i _ (gs_at (by rw [c.ls]; exact hi))
  rw [e] at h4
  obtain ⟨r, rfl, h5⟩ := h4
  exact ⟨us, r, h1, h3, h5⟩
end
def spCircle (K : PySem.W.Frag) : Sp := fun vs H Q _ => ∃ (a f : Addr) (A : List Arcs), vs = [.ref a, .ref f] ∧ NestAt K H a A ∧ CsL.Wt H f (A.length : Int) ∧ 0 < A.length ∧ A.length ≤ 1000 ∧ (∀ i p, p ∈ Ar A i → p.1 < A.length) ∧
  (∀ d : Nat → Int, (∀ i t s, (t, s) ∈ Ar A i → d i ≤ d t + ((A.length : Int) * s - 1)) → RetV .non H Q) ∧
  (∀ l p us H', Circ A l → l.length ≤ A.length → H p = none → Ex H H' → H' p = some (.lst us) → LL (ArcV K H') us l → Q (.ref p) H')
theorem sc_circle_below : FnScope ["arcs", "weight", "many", "dues", "steps", "last", "step", "cell", "target", "shift", "circle"] ["arcs", "weight"] (defScope sCircleBelow) := ⟨rfl, rfl, rfl, by decide +kernel, rfl, by decide +kernel, by decide +kernel⟩
-- slots 0 arcs, 1 weight, 2 many, 3 dues, 4 steps, 5 last, 6 step, 7 cell, 8 target, 9 shift, 10 circle
theorem c_circle_below (T : Top K mg) : Callee P w K mg base "circle_below" ["arcs", "weight"] 3 (spCircle K) := by
  refine ok_of (N := ["arcs", "weight", "many", "dues", "steps", "last", "step", "cell", "target", "shift", "circle"]) T (List.mem_of_getElem? (i := 14) rfl) sc_circle_below (fun _ _ _ _ _ _ us hl => match us, hl with | [_, _], _ => rfl) (fun vs H Q E h => ?len) (fun cdv A outer s H vs Q E f hr h => ?_)
  case len => first | (obtain ⟨_, rfl, _⟩ := h; rfl) | (obtain ⟨_, _, rfl, _⟩ := h; rfl) | (obtain ⟨_, _, _, rfl, _⟩ := h; rfl) | (obtain ⟨_, _, _, _, rfl, _⟩ := h; rfl) | (obtain ⟨_, _, _, _, _, rfl, _⟩ := h; rfl) | (obtain ⟨_, _, _, _, _, _, rfl, _⟩ := h; rfl) | (obtain ⟨_, _, _, _, _, _, _, rfl, _⟩ := h; rfl) | (obtain ⟨_, _, _, _, _, _, _, _, rfl, _⟩ := h; rfl) | (obtain ⟨_, _, _, _, _, _, _, _, _, rfl, _⟩ := h; rfl) | (obtain ⟨_, _, _, _, _, _, _, _, _, _, rfl, _⟩ := h; rfl) | (obtain ⟨_, _, _, _, _, _, _, _, _, _, _, rfl, _⟩ := h; rfl) | (obtain ⟨_, _, _, _, _, _, _, _, _, _, _, _, rfl, _⟩ := h; rfl)
  refine ⟨_, (pss_cons (ps_set (i := 2) sc_circle_below.nd rfl (.inl rfl) (x_len K rfl rfl T.len (pa_cons (pv 0) pa_nil)))
      (pss_cons (ps_setLc (i := 3) (own := [("cell", 7)]) (g := gName 7) (tt := tYes) rfl sc_circle_below.nd rfl rfl (sw_true rfl rfl rfl (by decide +kernel)) (x_piL K rfl (pv 0)) (blkOk_by (N := ["arcs", "weight", "many", "dues", "steps", "last", "step", "cell", "target", "shift", "circle"]) (sc := defScope sCircleBelow) (by decide +kernel)) (fun _ _ _ _ _ => (pg_name (i := 7) sc_circle_below.nd rfl (.inl rfl))) (fun _ _ _ _ _ => pts_nil) (fun _ _ _ _ _ => pe_int))
      (pss_cons (ps_setLc (i := 4) (own := [("cell", 7)]) (g := gName 7) (tt := tYes) rfl sc_circle_below.nd rfl rfl (sw_true rfl rfl rfl (by decide +kernel)) (x_piL K rfl (pv 0)) (blkOk_by (N := ["arcs", "weight", "many", "dues", "steps", "last", "step", "cell", "target", "shift", "circle"]) (sc := defScope sCircleBelow) (by decide +kernel)) (fun _ _ _ _ _ => (pg_name (i := 7) sc_circle_below.nd rfl (.inl rfl))) (fun _ _ _ _ _ => pts_nil) (fun _ _ _ _ _ => pe_non))
      (pss_cons (ps_set (i := 5) sc_circle_below.nd rfl (.inl rfl) pe_non)
      (pss_cons (ps_for PassesOwn.never rfl (pi_range1 rfl T.range (pa_cons (pe_op op_add (pv 2) pe_int) pa_nil)) (pg_name (i := 6) sc_circle_below.nd rfl (.inl rfl))
        (pss_cons (ps_set (i := 5) sc_circle_below.nd rfl (.inl rfl) pe_non)
        (pss_cons (ps_for PassesOwn.never rfl (pi_range1 rfl T.range (pa_cons (pv 2) pa_nil)) (pg_name (i := 7) sc_circle_below.nd rfl (.inl rfl))
          (pss_one (ps_for PassesOwn.never rfl (x_piL K rfl (x_ixL K rfl (pv 0) (pv 7))) (x_tup K rfl rfl (pgs_cons (pg_name (i := 8) sc_circle_below.nd rfl (.inl rfl)) (pgs_cons (pg_name (i := 9) sc_circle_below.nd rfl (.inl rfl)) pgs_nil)))
            (pss_one (ps_if (pt_cmpR op_lt (pe_op op_add (x_ixL K rfl (pv 3) (pv 8)) (CsL.x_weight (i := 1) hr (pv 9))) (x_ixL K rfl (pv 3) (pv 7)) (nomark _))
              (pss_cons (ps_asg (pe_op op_add (x_ixL K rfl (pv 3) (pv 8)) (CsL.x_weight (i := 1) hr (pv 9))) (pg_sub (pv 3) (pv 7) set_list))
              (pss_cons (ps_asg (pe_tup (pa_cons (pv 8) (pa_cons (pv 9) pa_nil))) (pg_sub (pv 4) (pv 7) set_list))
              (pss_one (ps_set (i := 5) sc_circle_below.nd rfl (.inl rfl) (pv 7)))))
              pss_nil)))))
        (pss_one (ps_if (pt_cmpR op_isN (pv 5) pe_non (nomark _))
          (pss_one (ps_ret pe_non))
          pss_nil)))))
      (pss_cons (ps_for PassesOwn.never rfl (pi_range1 rfl T.range (pa_cons (pv 2) pa_nil)) (pg_name (i := 6) sc_circle_below.nd rfl (.inl rfl))
        (pss_one (ps_set (i := 5) sc_circle_below.nd rfl (.inl rfl) (x_ixT K rfl (x_ixL K rfl (pv 4) (pv 5)) pe_int))))
      (pss_cons (ps_set (i := 10) sc_circle_below.nd rfl (.inl rfl) (pe_lst pa_nil))
      (pss_cons (ps_set (i := 7) sc_circle_below.nd rfl (.inl rfl) (pv 5))
      (pss_one (ps_while PassesOwn.never (pt_val pe_bl)
        (pss_cons (x_app K rfl (pe_bm PySem.F.plainAttrs_list PySem.F.slot_list_append PySem.F.type_list_append mt_append (pv 10) (pa_cons (pe_tup (pa_cons (pv 7) (pa_cons (x_ixT K rfl (x_ixL K rfl (pv 4) (pv 7)) pe_int) pa_nil))) pa_nil)))
        (pss_cons (ps_set (i := 7) sc_circle_below.nd rfl (.inl rfl) (x_ixT K rfl (x_ixL K rfl (pv 4) (pv 7)) pe_int))
        (pss_one (ps_if (pt_cmpR op_eq (pv 7) (pv 5) (nomark _))
          (pss_one (ps_ret (pv 10)))
          pss_nil)))))))))))))), ?_⟩
  obtain ⟨a, f, A, rfl, hA, W, n0, n1, hT, kN, kC⟩ := h
  obtain ⟨ws, w1, w2, w3⟩ := hA.at_
  have mulok : ∀ s : Int, CMul (A.length : Int) s := fun s => .inl ⟨by omega, by omega⟩
  refine q_asg (v := .int (A.length : Nat)) (ev_is (ev_len (ev_var rfl) w1) (by rw [w2])) fun H1 e1 => ?_
  refine q_asgL (xs := (List.replicate A.length (0 : Int)).map V.int) ?_ fun od H2 nod e2 h2 => ?_
  · have e0 : (List.replicate A.length (0 : Int)).map V.int = A.map fun _ => V.int 0 := by rw [List.map_replicate]; exact (List.map_const' ..).symm
    rw [e0]
    exact el_lcMap _ (ev_var rfl) (ex_l e1 w1) w2 (by omega) fun i u y hu hy => ⟨_, fun H1 e Q q => q, rfl, ev_c⟩
  refine q_asgL (xs := (List.replicate A.length V.non)) ?_ fun os H3 nos e3 h3 => ?_
  · have e0 : List.replicate A.length V.non = A.map fun _ => V.non := (List.map_const' ..).symm
    rw [e0]
    exact el_lcMap _ (ev_var rfl) (ex_l (e1.trans e2) w1) w2 (by omega) fun i u y hu hy => ⟨_, fun H1 e Q q => q, rfl, ev_c⟩
  have nod' : H od = none := fresh_back e1 nod
  have nos' : H os = none := fresh_back (e1.trans e2) nos
  have e13 := (e1.trans e2).trans e3
  have neq : od ≠ os := ne_of_none h2 nos
  have cb0 : CB K H od os A.length H3 (List.replicate A.length 0) (List.replicate A.length none) := by
    refine ⟨e3 _ _ h2, ⟨_, h3, by rw [List.length_replicate, List.length_replicate], fun i x hx => ?_⟩, neq, ex_in (ex_in e13 nod') nos', List.length_replicate, List.length_replicate⟩
    have hi := (List.getElem?_eq_some_iff.mp hx).1
    rw [List.length_replicate] at hi
    rw [List.getElem?_replicate, if_pos hi] at hx
    cases hx
    exact ⟨.non, by rw [List.getElem?_replicate, if_pos hi], rfl⟩
  have gd0 : gd (List.replicate A.length 0) = fun _ => 0 := by
    funext i; unfold gd
    rw [List.getD_eq_getElem?_getD, List.getElem?_replicate]
    split <;> rfl
  have gs0 : gs (List.replicate A.length none) = fun _ => none := by
    funext i; unfold gs
    rw [List.getD_eq_getElem?_getD, List.getElem?_replicate]
    split <;> rfl
  refine q_asg ev_c fun H4 e4 => ?_
  let wf : Int → Int := fun s => (A.length : Int) * s - 1
  refine q_forR1 (n := ((A.length + 1 : Nat) : Int)) (ea_cons (ev_op (ev_var rfl) ev_c rv_I0) ea_nil) ⟨by omega, by omega⟩
    (fun r σ H' => ∃ (last : Option Nat) (u1 u2 u3 u4 u5 : Option V) (d : List Int) (st : List (Option (Nat × Int))), σ = [some (.ref a), some (.ref f), some (.int (A.length : Nat)), some (.ref od), some (.ref os), some (av last), u1, u2, u3, u4, u5] ∧ CB K H od os A.length H' d st ∧
      BF A wf (gd d) (gs st) (r + 1) 0 0 none ∧ (0 < r → ∃ l, last = some l ∧ BF A wf (gd d) (gs st) r A.length 0 (some l)))
    (fun H5 e5 => ⟨none, _, _, _, _, _, _, _, rfl, cb0.mono (e4.trans e5), by rw [gd0, gs0]; exact BF.start, fun z => absurd z (Nat.lt_irrefl 0)⟩) (fun r σ H' hr' hp => ?_) (fun σ H' hp => ?_)
  · obtain ⟨last, u1, u2, u3, u4, u5, d, st, rfl, cb, bf, _⟩ := hp
    refine q_asg ev_c fun H5 e5 => ?_
    refine q_forR1 (n := (A.length : Nat)) (ea_cons (ev_var rfl) ea_nil) ⟨by omega, by omega⟩
      (fun c σ H' => ∃ (last : Option Nat) (u2 u3 u4 u5 : Option V) (d : List Int) (st : List (Option (Nat × Int))), σ = [some (.ref a), some (.ref f), some (.int (A.length : Nat)), some (.ref od), some (.ref os), some (av last), some (.int (r : Nat)), u2, u3, u4, u5] ∧ CB K H od os A.length H' d st ∧
        BF A wf (gd d) (gs st) (r + 1) c 0 last)
      (fun H6 e6 => ⟨none, _, _, _, _, _, _, rfl, cb.mono (e5.trans e6), bf⟩) (fun c σ H' hc hp => ?_) (fun σ H' hp => ?_)
    · clear cb bf
      obtain ⟨last, u2, u3, u4, u5, d, st, rfl, cb, bf⟩ := hp
      have hc : c < A.length := by omega
      obtain ⟨bb, hb1, hb2⟩ := w3 c (Ar A c) (by unfold Ar; rw [List.getD_eq_getElem?_getD, List.getElem?_eq_getElem hc]; rfl)
      obtain ⟨as, a1, a2, a3⟩ := hb2.at_
      have eH := cb.exx
      refine s_forL (ev_ixL (i := c) (ev_var rfl) (ev_var rfl) (ex_l eH w1) hb1) (ex_l eH a1)
        (fun q σ H' => ∃ (last : Option Nat) (u3 u4 u5 : Option V) (d : List Int) (st : List (Option (Nat × Int))), σ = [some (.ref a), some (.ref f), some (.int (A.length : Nat)), some (.ref od), some (.ref os), some (av last), some (.int (r : Nat)), some (.int (c : Nat)), u3, u4, u5] ∧ CB K H od os A.length H' d st ∧
          BF A wf (gd d) (gs st) (r + 1) c q last)
        (fun H6 e6 => ⟨last, _, _, _, _, _, rfl, cb.mono e6, bf⟩) (fun q σ H' _ p => ?_) (fun q y σ H' hy hp => ?_) (fun σ H' hp => ?_)
      · obtain ⟨_, _, _, _, _, _, _, z, _⟩ := p
        exact ex_l z.exx a1
      · clear cb bf eH
        obtain ⟨last, u3, u4, u5, d, st, rfl, cb, bf⟩ := hp
        have hq : q < (Ar A c).length := by have := (List.getElem?_eq_some_iff.mp hy).1; omega
        obtain ⟨⟨t, s⟩, eq⟩ := CsM.at_of hq
        obtain ⟨r2, t1, t2⟩ := a3 q _ eq
        rw [hy] at t1; cases t1
        have eH := cb.exx
        refine g_two (ex_t eH t2) ?_
        have ht : t < A.length := hT c _ (List.mem_of_getElem? eq)
        have htd : t < d.length := by rw [cb.ld]; exact ht
        have hcd : c < d.length := by rw [cb.ld]; exact hc
        -- dues[target] + weight(shift)
        have sum : ∀ (Hx : Hp), Ex H' Hx → Ev (tOp (rI0 fun i j => .int (i + j)) (tOp (rIxL K) (tVar 3) (tVar 8)) (CsL.tWt 1 (tVar 9))) [some (.ref a), some (.ref f), some (.int (A.length : Nat)), some (.ref od), some (.ref os), some (av last), some (.int (r : Nat)), some (.int (c : Nat)), some (.int (t : Nat)), some (.int s), u5] Hx (.int (gd d t + wf s)) := fun Hx ex =>
          ev_op (ev_ixL (i := t) (ev_var rfl) (ev_var rfl) (sq_of (ex _ _ cb.dd)) (gd_at htd)) (ev_wt (n := (A.length : Int)) (s := s) rfl (W.mono (eH.trans ex)) (ev_var rfl) (mulok s)) rv_I0
        refine s_when (b := decide (gd d t + wf s < gd d c)) (et_test (ev_op (sum H' (Ex.refl _)) (ev_ixL (i := c) (ev_var rfl) (ev_var rfl) (sq_of cb.dd) (gd_at hcd)) rv_I0)) (fun hb H6 e6 => ?_) (fun hb H6 e6 => ?_)
        · have lt := of_decide_eq_true hb
          refine q_setL (j := c) (e6 _ _ cb.dd) (sum H6 e6) (ev_var rfl) (ev_var rfl) (by rw [List.length_map]; exact hcd) fun H7 e7 => ?_
          have cb7 := (cb.mono (e6.trans e7)).setd c (gd d t + wf s)
          obtain ⟨us, s1, s2⟩ := cb7.ss
          refine q_setP (j := c) s1 (ep_tup (Pd := fun vs _ => vs = [.int (t : Nat), .int s]) (eap_of (ea_cons (ev_var rfl) (ea_cons (ev_var rfl) ea_nil)) fun _ _ => rfl) (fun vs H2 e => by rw [e]; show 2 ≤ 100000; decide)) (ev_var rfl) (ev_var rfl) (by rw [s2.1, cb7.ls]; exact hc) fun v H8 H9 e8 hv e9 => ?_
          obtain ⟨p, vs, Hp0, rfl, rfl, _, _, rfl⟩ := hv
          have cb9 := cb7.mono (e8.trans e9)
          have cbf := cb9.sets ((e8.trans e9) _ _ s1) (s2.mono fun v x z => z.mono (e8.trans e9)) c (v := .ref p) (x := some (t, s)) ⟨p, rfl, ex_t e9 (st_of upd_same)⟩
          refine s_asg (v := av (some c)) (ev_var rfl) fun H10 e10 => ?_
          refine ⟨some c, _, _, _, _, _, rfl, cbf.mono e10, ?_⟩
          rw [gd_set hcd, gs_set (by rw [cb.ls]; exact hc)]
          exact bf.yes eq lt
        · exact ⟨last, _, _, _, _, _, rfl, cb.mono e6, bf.no eq (of_decide_eq_false hb)⟩
      · clear cb bf
        obtain ⟨last, u3, u4, u5, d, st, rfl, cb, bf⟩ := hp
        rw [a2] at bf
        exact ⟨last, _, _, _, _, _, _, rfl, cb, bf.cell (Nat.le_refl _)⟩
    · clear cb bf
      obtain ⟨last, u2, u3, u4, u5, d, st, rfl, cb, bf⟩ := hp
      rw [show (((A.length : Nat) : Int)).toNat = A.length by omega] at bf
      cases last with
      | none =>
        refine s_when (et_isN (ev_var rfl)) (fun _ H6 e6 => s_ret ev_c fun H7 e7 => kN (gd d) (bf.feas (Nat.le_refl _)) H7 ((cb.exx.trans e6).trans e7)) (fun hb => by cases hb)
      | some l =>
        refine s_when (et_isN (ev_var rfl)) (fun hb => by cases hb) (fun _ H6 e6 => ?_)
        exact ⟨some l, _, _, _, _, _, d, st, rfl, cb.mono e6, bf.next (Nat.le_refl _), fun _ => ⟨l, rfl, bf⟩⟩
  · obtain ⟨last, u1, u2, u3, u4, u5, d, st, rfl, cb, _, hot⟩ := hp
    rw [show (((A.length + 1 : Nat) : Int)).toNat = A.length + 1 by omega] at hot
    obtain ⟨l, rfl, bf⟩ := hot (Nat.succ_pos _)
    obtain ⟨ch, p, p0, p1, ep⟩ := bf.chase hT
    -- along the steps
    refine q_forR1 (n := (A.length : Nat)) (ea_cons (ev_var rfl) ea_nil) ⟨by omega, by omega⟩
      (fun i σ H' => ∃ (u1 u2 u3 u4 u5 : Option V), σ = [some (.ref a), some (.ref f), some (.int (A.length : Nat)), some (.ref od), some (.ref os), some (nv (iter (nx (gs st)) i l)), u1, u2, u3, u4, u5] ∧ CB K H od os A.length H' d st)
      (fun H5 e5 => ⟨_, _, _, _, _, rfl, cb.mono e5⟩) (fun i σ H' hi hp => ?_) (fun σ H' hp => ?_)
    · clear cb
      obtain ⟨u1, u2, u3, u4, u5, rfl, cb⟩ := hp
      obtain ⟨b1, s, b2⟩ := ch i
      obtain ⟨us, r2, s1, s2, s3⟩ := cb.step b1 b2
      refine s_asg (v := nv (iter (nx (gs st)) (i + 1) l)) (ev_ixT (i := 0) (ev_ixL (i := iter (nx (gs st)) i l) (ev_var rfl) (ev_var rfl) (sq_of s1) s2) ev_c s3 rfl) fun H6 e6 => ⟨_, _, _, _, _, rfl, cb.mono e6⟩
    · clear cb
      obtain ⟨u1, u2, u3, u4, u5, rfl, cb⟩ := hp
      rw [show (((A.length : Nat) : Int)).toNat = A.length by omega]
      refine q_asgL (el_lst ea_nil (by decide)) fun oc H5 noc e5 h5 => ?_
      refine q_asg (ev_var rfl) fun H6 e6 => ?_
      have cb6 := cb.mono (e5.trans e6)
      have noc' : H oc = none := fresh_back cb.exx noc
      have noc2 : oc ≠ od := fun z => by rw [z, cb.dd] at noc; cases noc
      have noc3 : oc ≠ os := fun z => by
        obtain ⟨us, s1, _⟩ := cb.ss
        rw [z, s1] at noc; cases noc
      let v := iter (nx (gs st)) A.length l
      refine s_while (fun m σ H' => ∃ (k : Nat) (u1 u3 u4 : Option V) (vs : List V), m = p - k ∧ k < p ∧ σ = [some (.ref a), some (.ref f), some (.int (A.length : Nat)), some (.ref od), some (.ref os), some (nv v), u1, some (nv (iter (nx (gs st)) k v)), u3, u4, some (.ref oc)] ∧ CB K H od os A.length H' d st ∧
          H' oc = some (.lst vs) ∧ LL (ArcV K H') vs (circL (gs st) v k))
        p ⟨0, _, _, _, [], by omega, p0, rfl, cb6, e6 _ _ h5, LL.nil⟩ (fun m σ H' hw => ?_)
      obtain ⟨k, u1, u3, u4, vs, rfl, hk, rfl, cbk, hoc, hL⟩ := hw
      refine ⟨true, et_val ev_c, fun _ H7 e7 => ?_, fun z => by cases z⟩
      obtain ⟨b1, s, b2⟩ := ch (A.length + k)
      have i1 : iter (nx (gs st)) (A.length + k) l = iter (nx (gs st)) k v := iter_add _ _ _ _
      have i2 : iter (nx (gs st)) (A.length + k + 1) l = iter (nx (gs st)) (k + 1) v := iter_add _ _ A.length (k + 1)
      rw [i1] at b1 b2
      rw [i2] at b2
      have cb7 := cbk.mono e7
      obtain ⟨us, r2, s1, s2, s3⟩ := cb7.step b1 b2
      have eS : sOf (gs st) (iter (nx (gs st)) k v) = s := by unfold sOf; rw [b2]
      have vl : vs.length < 100000 := by
        have := hL.1
        rw [circL_len] at this
        omega
      refine ⟨fun σ2 H2 => ∃ (k' : Nat) (u1 u3 u4 : Option V) (vs : List V), k' = k + 1 ∧ k' < p ∧ σ2 = [some (.ref a), some (.ref f), some (.int (A.length : Nat)), some (.ref od), some (.ref os), some (nv v), u1, some (nv (iter (nx (gs st)) k' v)), u3, u4, some (.ref oc)] ∧ CB K H od os A.length H2 d st ∧
          H2 oc = some (.lst vs) ∧ LL (ArcV K H2) vs (circL (gs st) v k'), fun σ2 H2 hN => ?_, ?_⟩
      · obtain ⟨k', u1, u3, u4, vs, rfl, h1, h2⟩ := hN
        exact ⟨p - (k + 1), by omega, k + 1, u1, u3, u4, vs, rfl, h1, h2⟩
      · refine q_appP (e7 _ _ hoc) (ev_var rfl) (ep_tup (Pd := fun vs _ => vs = [nv (iter (nx (gs st)) k v), .int s]) (eap_of (ea_cons (ev_var rfl) (ea_cons (ev_ixT (i := 1) (ev_ixL (i := iter (nx (gs st)) k v) (ev_var rfl) (ev_var rfl) (sq_of s1) s2) ev_c s3 rfl) ea_nil)) fun _ _ => rfl) (fun vs H2 e => by rw [e]; show 2 ≤ 100000; decide)) vl fun x H8 e8 hv => ?_
        obtain ⟨q, xs, Hq, rfl, rfl, _, _, rfl⟩ := hv
        generalize hH8 : upd Hq q (.tup [nv (iter (nx (gs st)) k v), .int s]) = H8 at e8
        have tq : SqT K H8 q [nv (iter (nx (gs st)) k v), .int s] := st_of (by rw [← hH8, upd_same])
        have hoc8 := e8 _ _ (e7 _ _ hoc)
        have cb8 := cb7.mono e8
        -- the circle's list is another one than the two
        have cb9 : CB K H od os A.length (upd H8 oc (.lst (vs ++ [.ref q]))) d st := by
          obtain ⟨us, z1, z2⟩ := cb8.ss
          refine ⟨by rw [upd_ne (Ne.symm noc2)]; exact cb8.dd, ⟨us, by rw [upd_ne (Ne.symm noc3)]; exact z1, z2.mono fun v x z => z.upd hoc8⟩, cb8.ne, ?_, cb8.ld, cb8.ls⟩
          rw [hd_new noc2, hd_new noc3]
          exact Ex.mut cb8.ex noc'
        have hL9 : LL (ArcV K (upd H8 oc (.lst (vs ++ [.ref q])))) (vs ++ [.ref q]) (circL (gs st) v (k + 1)) := by
          rw [circL_succ, eS]
          refine LL.snoc (hL.mono fun v x z => ?_) ⟨q, rfl, sqt_upd hoc8 tq⟩
          obtain ⟨r3, z1, z2⟩ := z.mono (e7.trans e8)
          exact ⟨r3, z1, sqt_upd hoc8 z2⟩
        have hoc9 : (upd H8 oc (.lst (vs ++ [.ref q]))) oc = some (.lst (vs ++ [.ref q])) := upd_same
        generalize upd H8 oc (.lst (vs ++ [.ref q])) = H9 at cb9 hL9 hoc9
        obtain ⟨us9, r9, t1, t2, t3⟩ := cb9.step b1 b2
        refine q_asg (v := nv (iter (nx (gs st)) (k + 1) v)) (ev_ixT (i := 0) (ev_ixL (i := iter (nx (gs st)) k v) (ev_var rfl) (ev_var rfl) (sq_of t1) t2) ev_c t3 rfl) fun H10 e10 => ?_
        have ee : decide (nv (iter (nx (gs st)) (k + 1) v) = nv v) = decide (iter (nx (gs st)) (k + 1) v = v) := by
          unfold nv
          by_cases c : iter (nx (gs st)) (k + 1) v = v
          · rw [c]; simp
          · rw [decide_eq_false c, decide_eq_false (fun z => c (by have := V.int.inj z; omega))]
        refine s_when (b := decide (iter (nx (gs st)) (k + 1) v = v)) (et_is (et_test (ev_op (ev_var rfl) (ev_var rfl) (rv_eq rfl))) ee) (fun hb H11 e11 => ?_) (fun hb H11 e11 => ?_)
        · have hp2 := of_decide_eq_true hb
          refine s_ret (ev_var rfl) fun H12 e12 => ?_
          have e912 := (e10.trans e11).trans e12
          refine kC (circL (gs st) v (k + 1)) oc _ H12 (bf.circ hT (Nat.succ_pos _) (by omega) hp2) (by rw [circL_len]; omega) noc' (cb9.exx.trans e912) (e912 _ _ hoc9) (hL9.mono fun v x z => z.mono e912)
        · have hp2 := of_decide_eq_false hb
          have kp : k + 1 < p := Nat.lt_of_le_of_ne hk fun z => hp2 (by rw [z]; exact ep)
          exact ⟨k + 1, _, _, _, _, rfl, kp, rfl, cb9.mono (e10.trans e11), (e10.trans e11) _ _ hoc9, hL9.mono fun v x z => z.mono (e10.trans e11)⟩
end
end CsW

set_option Elab.async false
set_option linter.all false
set_option maxRecDepth 100000
set_option maxHeartbeats 4000000
namespace CsW
open PySem PySem.Spec PyProof.Rows L2 Evl CsTop CsM
/-! ### what stands while tables change -/
structure Keep (K : PySem.W.Frag) (H H' : Hp) : Prop where
  l : ∀ a xs, SqL K H a xs → SqL K H' a xs
  t : ∀ a xs, SqT K H a xs → SqT K H' a xs
section
variable {K : PySem.W.Frag} {H H' H2 : Hp}
theorem Keep.of_ex (e : Ex H H') : Keep K H H' := ⟨fun _ _ h => ex_l e h, fun _ _ h => ex_t e h⟩
theorem Keep.of_tab (e : LamX.ExtN H H') : Keep K H H' := by
  have rd : ∀ a u, (∀ ps, u ≠ .tbl ps) → Rd H a u → Rd H' a u := fun a u n h => by
    rcases h with h | ⟨o, h⟩
    · exact .inl (e a _ h n)
    · exact .inr ⟨o, e a _ h (fun ps z => by cases z)⟩
  refine ⟨fun a xs h => ?_, fun a xs h => ?_⟩
  · rcases h with h | h
    · exact .inl (rd a _ (fun ps z => by cases z) h)
    · exact .inr h
  · rcases h with h | h
    · exact .inl (rd a _ (fun ps z => by cases z) h)
    · exact .inr h
theorem Keep.trans (a : Keep K H H') (b : Keep K H' H2) : Keep K H H2 := ⟨fun x y h => b.l x y (a.l x y h), fun x y h => b.t x y (a.t x y h)⟩
theorem ArcsAt.keep {a : Addr} {l : Arcs} (e : Keep K H H') (h : ArcsAt K H a l) : ArcsAt K H' a l := by
  obtain ⟨vs, h1, h2, h3⟩ := h
  exact ⟨vs, e.l _ _ h1, h2, fun i x hx => by
    obtain ⟨v, h4, r, h5, h6⟩ := h3 i x hx
    exact ⟨v, h4, r, h5, e.t _ _ h6⟩⟩
theorem FmR.keep {r : Addr} {f : Fm} (e : Keep K H H') (h : FmR K H r f) : FmR K H' r f := by
  cases f with
  | amt m => exact e.t _ _ h
  | lo l =>
    obtain ⟨b, h1, h2⟩ := h
    exact ⟨b, e.t _ _ h1, h2.keep e⟩
  | hi l =>
    obtain ⟨b, h1, h2⟩ := h
    exact ⟨b, e.t _ _ h1, h2.keep e⟩
  | wh j a k => exact e.t _ _ h
theorem FlAt.keep {a : Addr} {fl : List Fm} (e : Keep K H H') (h : FlAt K H a fl) : FlAt K H' a fl := by
  obtain ⟨vs, h1, h2, h3⟩ := h
  exact ⟨vs, e.l _ _ h1, h2, fun i x hx => by
    obtain ⟨v, h4, r, h5, h6⟩ := h3 i x hx
    exact ⟨v, h4, r, h5, h6.keep e⟩⟩
theorem NestAt.keep {a : Addr} {A : List Arcs} (e : Keep K H H') (h : NestAt K H a A) : NestAt K H' a A := by
  obtain ⟨vs, h1, h2, h3⟩ := h
  exact ⟨vs, e.l _ _ h1, h2, fun i x hx => by
    obtain ⟨v, h4, r, h5, h6⟩ := h3 i x hx
    exact ⟨v, h4, r, h5, h6.keep e⟩⟩
theorem Ams.keep {a : Addr} {x : List Am} (e : Keep K H H') (h : Ams K H a x) : Ams K H' a x := e.l _ _ h
/-- all that was tracked stands, but for tables; the table at T is one still -/
structure Go (T : Addr) (q : Str) (H H' : Hp) : Prop where
  ext : LamX.ExtN H H'
  tab : LamX.TabS H' T q
theorem Go.keep {T : Addr} {q : Str} (g : Go T q H H') : Keep K H H' := .of_tab g.ext
theorem Go.refl {T : Addr} {q : Str} (h : LamX.TabS H T q) : Go T q H H := ⟨LamX.ExtN.refl H, h⟩
theorem Go.trans {T : Addr} {q : Str} (g : Go T q H H') (g2 : Go T q H' H2) : Go T q H H2 := ⟨g.ext.trans g2.ext, g2.tab⟩
theorem Go.ex {T : Addr} {q : Str} (g : Go T q H H') (e : Ex H' H2) : Go T q H H2 := ⟨g.ext.trans (LamX.ExtN.of e), g.tab.ext e⟩
theorem Go.of {T : Addr} {q : Str} (h : LamX.TabS H T q) (e : Ex H H') : Go T q H H' := (Go.refl h).ex e
/-- a list of one's own changes -/
theorem Go.mut {T : Addr} {q : Str} {o : Addr} {us ys : List V} (g : Go T q H H') (n : H o = none) (ho : H' o = some (.lst us)) : Go T q H (upd H' o (.lst ys)) := by
  obtain ⟨ps, h1, h2, h3⟩ := g.tab
  have nT : T ≠ o := fun z => by rw [z, ho] at h1; cases h1
  refine ⟨fun b u e k => ?_, ps, by rw [upd_ne nT]; exact h1, h2, fun p c hc => ?_⟩
  · rw [upd_ne (ne_of_none e n)]; exact g.ext b u e k
  · obtain ⟨c', z1, z2⟩ := h3 p c hc
    have nc : c' ≠ o := fun z => by rw [z, ho] at z2; cases z2
    exact ⟨c', z1, by rw [upd_ne nc]; exact z2⟩
end
section
variable {K : PySem.W.Frag} {σ : L2.St} {H : Hp} {te : TE} {ta : TA}
/-- [e for cell in range(n)], its elements told by what they are -/
theorem ep_lcR {α : Type} {l : List α} {j : Nat} {vs : List Nat} (Pd : Hp → V → α → Prop) (mono : ∀ H H' v x, Ex H H' → Pd H v x → Pd H' v x) (h : EvA ta σ H [.int (l.length : Nat)]) (hz : l.length ≤ 40000) (hw : ∀ x, wipe ((wipe σ vs).set j (some x)) vs = wipe σ vs)
    (he : ∀ (i : Nat) (x : α) (Dl : Addr) (acc : List V) (H1 : Hp), l[i]? = some x → Ex H (Hd Dl H1) → H1 Dl = some (.lst acc) → EvP te ((wipe σ vs).set j (some (.int (i : Nat)))) H1 fun v H2 => Pd (Hd Dl H2) v x) :
    EvP (tLc (iRng1 ta) (gName j) tYes te vs) σ H fun v H' => ∃ p us, v = .ref p ∧ H p = none ∧ H' p = some (.lst us) ∧ LL (Pd (Hd p H')) us l := fun H0 e Q q => h H0 e _ fun H1 e1 => ⟨(l.length : Nat), rfl, by omega, by omega, fun Dl hD =>
  lc_range (lo := 0) (n := ((l.length : Nat) : Int).toNat) (fun i H' => Ex H1 (Hd Dl H') ∧ ∃ us, H' Dl = some (.lst us) ∧ LL (Pd (Hd Dl H')) us (l.take i))
    ⟨by rw [hd_upd]; exact ex_in (Ex.refl _) hD, [], upd_same, LL.nil⟩ (fun i H' hi p => by
      obtain ⟨p1, us, p2, p3⟩ := p
      have e0 : (0 : Int) + (i : Int) = (i : Nat) := Int.zero_add _
      have hi' : i < l.length := by omega
      obtain ⟨x, hx⟩ := CsM.at_of hi'
      show wipe ((wipe σ vs).set j (some (.int ((0 : Int) + (i : Int))))) vs = wipe σ vs ∧ tYes ((wipe σ vs).set j (some (.int ((0 : Int) + (i : Int))))) H' _
      rw [e0]
      refine ⟨hw _, ?_⟩
      show te ((wipe σ vs).set j (some (.int (i : Nat)))) H' _
      refine he i x Dl us H' hx ((e.trans e1).trans p1) p2 H' (Ex.refl _) _ fun v H2 e2 hv => ⟨us, e2 _ _ p2, sz_lt (by
        have := p3.1
        rw [List.length_take] at this
        omega), by rw [hd_upd]; exact p1.trans (hd_ex e2), _, upd_same, ?_⟩
      rw [hd_upd, take_snoc hx]
      exact (p3.mono fun v x z => mono _ _ v x (hd_ex e2) z).snoc hv)
    (fun H' p => by
      obtain ⟨p1, us, p2, p3⟩ := p
      rw [show (((l.length : Nat) : Int)).toNat = l.length by omega, List.take_of_length_le (Nat.le_refl _)] at p3
      exact q _ H' (e1.trans (p1.trans ex_hd)) ⟨Dl, us, rfl, fresh_back (e.trans e1) hD, p2, p3⟩)⟩
end
def lamQ : Str := "least_with" ++ ".<locals>." ++ "<lambda>"
section
variable {P : Program} {w : World} {K : PySem.W.Frag} {mg : Str → Option Value} {base : Heap}
def spLeastWith (K : PySem.W.Frag) (tb : Addr) : Sp := fun vs H Q _ => ∃ (a b : Addr) (pl : List Fm) (ch : List Am), vs = [.ref a, .ref b] ∧ FlAt K H a pl ∧ Ams K H b ch ∧ SOk pl ∧ Plain pl ∧ ChOk pl ch ∧ LamX.TabS H tb lamQ ∧
  ∀ (z : List Am) (p : Addr) (H' : Hp), z.length = pl.length → IsLeast (msheet pl ch) (CsM.fn z) → (∀ o u, H o = some u → (∀ ps, u ≠ .tbl ps) → p ≠ o) → Go tb lamQ H H' → H' p = some (.lst (z.map av)) → Q (.ref p) H'
theorem extN_hd {H H' : Hp} {o : Addr} (e : LamX.ExtN H H') : LamX.ExtN (Hd o H) (Hd o H') := fun b u h n => by
  have nb : b ≠ o := fun z => by rw [z, hd_self] at h; cases h
  rw [hd_ne nb] at h ⊢
  exact e b u h n
theorem sqt_out {H : Hp} {cc r : Addr} {o : Obj} {xs : List V} (hc : H cc = some (.frz o (.own cc))) (h : SqT K H r xs) : SqT K (CsL.out cc H) r xs := by
  rcases h with (z | ⟨oo, z⟩) | z
  · exact .inl (.inl (by rw [CsL.out_ne (fun y => by rw [y, hc] at z; cases z)]; exact z))
  · exact .inl (.inr ⟨oo, by rw [CsL.out_ne (fun y => by rw [y, hc] at z; cases z)]; exact z⟩)
  · exact .inr z
theorem lam_free : ∀ y ∈ CsL.lamScope.names, y.2 = .free → y.1 = ("many" : Str) := by decide +kernel
theorem lam_many : (("many" : Str), NameKind.free) ∈ CsL.lamScope.names := by decide +kernel
theorem sc_least_with : FnScope ["plain", "choices", "many", "arcs", "noughts", "open_arcs", "circle", "cell"] ["plain", "choices"] (defScope sLeastWith) := ⟨rfl, rfl, rfl, by decide +kernel, rfl, by decide +kernel, by decide +kernel⟩
theorem hfr_least : ∀ y ∈ CsL.lamScope.names, y.2 = .free → (defScope sLeastWith).names.lookup y.1 = some .cell := by decide +kernel
theorem c_least_with (T : Top K mg) (TB0 : LamX.TabB base mg (He.cT K ("least_with", none)).1 (He.cT K ("least_with", none)).2) (C_told_arcs : Callee P w K mg base "told_arcs" ["plain", "choices", "word"] 2 (spTold K)) (C_circle_below : Callee P w K mg base "circle_below" ["arcs", "weight"] 3 (spCircle K))
    (C_rounds_down : Callee P w K mg base "rounds_down" ["plain", "arcs", "noughts"] 2 (spRounds K)) (C_nought_cell : Callee P w K mg base "nought_cell" ["circle"] 1 (spNought K)) :
    Callee P w K mg base "least_with" ["plain", "choices"] 4 (spLeastWith K (He.cT K ("least_with", none)).2) := by
  have hm : mkD "least_with" sLeastWith ∈ CsTop.fn := List.mem_of_getElem? (i := 17) rfl
  obtain ⟨fd, F⟩ := T.defs _ hm
  have g := T.glo _ hm
  refine ⟨_, fd, ?_, g, F.kp, F.bindsN fun _ _ _ _ _ _ us hl => match us, hl with | [_, _], _ => rfl⟩
  obtain ⟨oc, od, dV, kV, doc, pm, an, cdv, ct, osl, rfl, lk, hcd, _, _⟩ := F.ex
  obtain ⟨cc0, rfl⟩ := He.codeIn_ref hcd
  have ec : (He.cT K ("least_with", none)).1 = cc0 := He.codeOf_eq (p := (("least_with" : Str), none)) lk rfl
  rw [ec] at TB0
  generalize (He.cT K ("least_with", none)).2 = tb at TB0
  obtain ⟨fC, fdC, FC, mC, kC, bC⟩ := C_circle_below.ex
  refine L2.fn_of (N := ["plain", "choices", "many", "arcs", "noughts", "open_arcs", "circle", "cell"]) lk hcd sc_least_with (fun vs H Q E h => ?len) fun A outer s H vs Q E hr h => ?_
  case len =>
    obtain ⟨_, _, _, _, rfl, _⟩ := h
    rfl
  suffices hh : ∃ t, PSs (cxOf CX0 P w K mg base ["plain", "choices", "many", "arcs", "noughts", "open_arcs", "circle", "cell"] "least_with" (defScope sLeastWith) (He.ga K "least_with") (.ref cc0) A outer s H E).nox (defBody sLeastWith) t ∧ t { nx := fun _ H' => Q .non H', rt := Q } (start ["plain", "choices", "many", "arcs", "noughts", "open_arcs", "circle", "cell"] vs) H by
    obtain ⟨t, h1, h2⟩ := hh
    exact ⟨t, h1.nox, h2⟩
  have TB : LamX.TabB (cxOf CX0 P w K mg base ["plain", "choices", "many", "arcs", "noughts", "open_arcs", "circle", "cell"] "least_with" (defScope sLeastWith) (He.ga K "least_with") (.ref cc0) A outer s H E).nox.base (cxOf CX0 P w K mg base ["plain", "choices", "many", "arcs", "noughts", "open_arcs", "circle", "cell"] "least_with" (defScope sLeastWith) (He.ga K "least_with") (.ref cc0) A outer s H E).nox.mg cc0 tb := TB0
  have hfr : ∀ y ∈ CsL.lamScope.names, y.2 = .free → (cxOf CX0 P w K mg base ["plain", "choices", "many", "arcs", "noughts", "open_arcs", "circle", "cell"] "least_with" (defScope sLeastWith) (He.ga K "least_with") (.ref cc0) A outer s H E).nox.env.scope.names.lookup y.1 = some .cell := hfr_least
  refine ⟨_, (pss_cons (ps_set (i := 2) sc_least_with.nd rfl (.inr rfl) (x_len K rfl rfl T.len (pa_cons (pv 0) pa_nil)))
      (pss_cons (ps_set (i := 3) sc_least_with.nd rfl (.inr rfl) (x_call C_told_arcs hr (pa_cons (pv 0) (pa_cons (pv 1) (pa_cons pe_str pa_nil)))))
      (pss_cons (ps_set (i := 4) sc_least_with.nd rfl (.inr rfl) (pe_lst pa_nil))
      (pss_one (ps_while PassesOwn.never (pt_val pe_bl)
        (pss_cons (ps_setLc (i := 5) (own := [("cell", 7)]) (g := gName 7) (tt := tYes) rfl sc_least_with.nd rfl rfl (sw_true rfl rfl rfl (by decide +kernel)) (pi_range1 rfl T.range (pa_cons (pv 2) pa_nil)) (blkOk_by (N := ["plain", "choices", "many", "arcs", "noughts", "open_arcs", "circle", "cell"]) (sc := defScope sLeastWith) (by decide +kernel)) (fun _ _ _ _ _ => (pg_name (i := 7) sc_least_with.nd rfl (.inl rfl))) (fun _ _ _ _ _ => pts_nil) (fun _ _ _ _ _ => (pe_ifExp (pt_cmpR (o_in K rfl) (pv 7) (pv 4) rfl) (pe_lst pa_nil) (x_ixL K rfl (pv 3) (pv 7)))))
        (pss_cons (ps_set (i := 6) sc_least_with.nd rfl (.inl rfl) (CsL.x_callX (i := 2) FC mC kC bC hr (pa_cons (pv 5) (pa_cons (CsL.x_lam TB rfl hfr) pa_nil)) rfl rfl rfl))
        (pss_cons (ps_if (pt_cmpR op_isN (pv 6) pe_non (nomark _))
          (pss_one (ps_ret (x_call C_rounds_down hr (pa_cons (pv 0) (pa_cons (pv 3) (pa_cons (pv 4) pa_nil))))))
          pss_nil)
        (pss_one (x_app K rfl (pe_bm PySem.F.plainAttrs_list PySem.F.slot_list_append PySem.F.type_list_append mt_append (pv 4) (pa_cons (x_call C_nought_cell hr (pa_cons (pv 6) pa_nil)) pa_nil)))))))))))), ?_⟩
  generalize hcells : (cxOf CX0 P w K mg base ["plain", "choices", "many", "arcs", "noughts", "open_arcs", "circle", "cell"] "least_with" (defScope sLeastWith) (He.ga K "least_with") (.ref cc0) A outer s H E).nox.env.cells = cells
  obtain ⟨a, b, pl, ch, rfl, hf, hC, so, pn, co, hT, k⟩ := h
  obtain ⟨vs, v1, v2, v3⟩ := hf.at_
  obtain ⟨x, hx⟩ := exists_least (msheet_wf so.wf co)
  have len := so.len
  have pos := so.pos
  refine q_asg (v := .int (pl.length : Nat)) (ev_is (ev_len (ev_var rfl) v1) (by rw [v2])) fun H1 e1 => ?_
  refine q_asgP (Pd := fun v H2 => ∃ p, v = .ref p ∧ NestAt K H2 p (tolds pl ch)) (ep_call (Pd := fun vs _ => vs = [.ref a, .ref b, .str (Str.ofString "greatest")]) (eap_of (ea_cons (ev_var rfl) (ea_cons (ev_var rfl) (ea_cons ev_c ea_nil))) fun _ _ => rfl) fun vs H2 e2 hv Q q =>
    ⟨a, b, pl, ch, hv, hf.mono (e1.trans e2), hC.mono (e1.trans e2), so, co, fun p H3 _ e3 hn => q _ H3 e3 ⟨p, rfl, hn⟩⟩) fun v H2 e2 hv => ?_
  obtain ⟨ra, rfl, hA2⟩ := hv
  refine q_asgL (el_lst ea_nil (by decide)) fun on H3 non e3 h3 => ?_
  have non' : H on = none := fresh_back (e1.trans e2) non
  have e13 := (e1.trans e2).trans e3
  refine s_while (fun m σ H' => ∃ (N : List Nat) (u5 u6 u7 : Option V), m = pl.length - N.length ∧ σ = [some (.ref a), some (.ref b), some (.int (pl.length : Nat)), some (.ref ra), some (.ref on), u5, u6, u7] ∧ H' on = some (.lst (N.map nv)) ∧ Go tb lamQ H H' ∧ NestAt K (Hd on H') ra (tolds pl ch) ∧ N.Nodup ∧
      ∀ i ∈ N, i < pl.length ∧ x i = some 0) pl.length ⟨[], _, _, _, rfl, rfl, h3, .of hT e13, hA2.mono (ex_in e3 non), List.nodup_nil, fun i hi => by cases hi⟩ (fun m σ H' hw => ?_)
  obtain ⟨N, u5, u6, u7, rfl, rfl, hon, hg, hA, nd, hN⟩ := hw
  refine ⟨true, et_val ev_c, fun _ H4 e4 => ?_, fun z => by cases z⟩
  have hon4 := e4 _ _ hon
  have hg4 := hg.ex e4
  have hA4 : NestAt K (Hd on H4) ra (tolds pl ch) := hA.mono (hd_ex e4)
  have Nlen : N.length ≤ pl.length := nodup_len _ _ nd fun i hi => (hN i hi).1
  refine ⟨fun σ H' => ∃ (N2 : List Nat) (u5 u6 u7 : Option V), N2.length = N.length + 1 ∧ σ = [some (.ref a), some (.ref b), some (.int (pl.length : Nat)), some (.ref ra), some (.ref on), u5, u6, u7] ∧ H' on = some (.lst (N2.map nv)) ∧ Go tb lamQ H H' ∧ NestAt K (Hd on H') ra (tolds pl ch) ∧ N2.Nodup ∧
      ∀ i ∈ N2, i < pl.length ∧ x i = some 0, fun σ2 H2 hN2 => ?_, ?_⟩
  · obtain ⟨N2, u5, u6, u7, hl, h1, h2, h3, h4, h5, h6⟩ := hN2
    have := nodup_len _ _ h5 fun i hi => (h6 i hi).1
    exact ⟨pl.length - N2.length, by omega, N2, u5, u6, u7, rfl, h1, h2, h3, h4, h5, h6⟩
  -- open_arcs
  have ol : (opens (tolds pl ch) N).length = pl.length := by rw [opens_len, tolds_len]
  obtain ⟨ws, w1, w2, w3⟩ := hA4.at_
  refine q_asgP (ep_lcR (l := opens (tolds pl ch) N) (fun H v l => NestV K H v l) (fun H H' v l e ⟨bb, z1, z2⟩ => ⟨bb, z1, z2.mono e⟩) (ea_cons (ev_is (ev_var rfl) (by rw [ol])) ea_nil) (by rw [ol]; omega) (fun x => rfl) (fun i l Dl acc H5 hl e5 hD => ?_)) fun v H5 e5 hv => ?_
  · have hi := CsM.lt_of hl
    rw [ol] at hi
    have hil : i < (tolds pl ch).length := by rw [tolds_len]; exact hi
    rw [opens_at hil] at hl
    have hl := Option.some.inj hl
    refine ep_if (et_in (i := i) (ev_var rfl) (ev_var rfl) (ex_l (e5.trans ex_hd) (sq_of hon4))) (fun hb => ?_) (fun hb => ?_)
    · rw [if_pos (of_decide_eq_true hb)] at hl
      subst hl
      refine (ep_L (el_lst ea_nil (by decide))).imp fun v H6 e6 hv => ?_
      obtain ⟨p, rfl, n1, n2⟩ := hv
      have np : p ≠ Dl := fun z => by rw [z, hD] at n1; cases n1
      exact ⟨p, rfl, [], sq_of (by rw [hd_ne np]; exact n2), LL.nil⟩
    · rw [if_neg (of_decide_eq_false hb)] at hl
      subst hl
      obtain ⟨bb, b1, b2⟩ := w3 i (Ar (tolds pl ch) i) (by unfold Ar; rw [List.getD_eq_getElem?_getD, List.getElem?_eq_getElem hil]; rfl)
      exact ep_of (ev_ixL (i := i) (ev_var rfl) (ev_var rfl) (ex_l (ex_hd.trans (e5.trans ex_hd)) w1) b1) fun H6 e6 => ⟨bb, rfl, b2.mono (ex_hd.trans (e5.trans (hd_ex e6)))⟩
  obtain ⟨op, us, rfl, nop, hop, hLo⟩ := hv
  have hO5 : NestAt K H5 op (opens (tolds pl ch) N) := ⟨us, sq_of hop, hLo.1, fun i l hl => by
    obtain ⟨v, z1, bb, z2, z3⟩ := hLo.2 i l hl
    exact ⟨v, z1, bb, z2, z3.mono ex_hd⟩⟩
  have hon5 := e5 _ _ hon4
  have hg5 := hg4.ex e5
  have hA5 : NestAt K (Hd on H5) ra (tolds pl ch) := hA4.mono (hd_ex e5)
  have hN0 : ∀ i, i < pl.length → i ∈ N → x i = some 0 := fun i _ hi => (hN i hi).2
  -- circle_below(open_arcs, the lambda)
  refine ⟨.ref op, rfl, hg5.tab, fun f c' pm ctv H6 eN tab6 nf hf6 hc6 => ⟨(pl.length : Nat), rfl, fun cc o tk hcc ncc hd => ?_⟩⟩
  have keep67 : ∀ b u, H6 b = some u → (upd H6 cc (.frz o (.own cc))) b = some u := fun b u e => by rw [upd_ne (ne_of_none e ncc)]; exact e
  have k56 : Keep K H5 H6 := .of_tab eN
  have hW : CsL.Wt (upd H6 cc (.frz o (.own cc))) f ((opens (tolds pl ch) N).length : Int) := by
    rw [ol]
    have hfree : ∀ y ∈ CsL.lamScope.names, y.2 = .free → ∃ c, cells.lookup y.1 = some c := fun y hy e => ⟨cc, by rw [lam_free y hy e]; exact hcc⟩
    refine ⟨lamQ, cloFrom cells CsL.lamScope.names [], c', pm, ctv, cc, o, tk, keep67 _ _ hf6, keep67 _ _ hc6, NdefX.clo_has hfree lam_many hcc, fun y c hy => ?_, upd_same, hd⟩
    rcases cloFrom_mem (PySem.mem_of_lookup hy) with z | ⟨z, _⟩
    · cases z
    · exact lam_free _ z rfl
  have hO7 : NestAt K (upd H6 cc (.frz o (.own cc))) op (opens (tolds pl ch) N) := (hO5.keep k56).mono keep67
  -- what stands behind the call
  have back : ∀ H8, Ex (upd H6 cc (.frz o (.own cc))) H8 → Go tb lamQ H5 (CsL.out cc H8) := fun H8 e8 => by
    have e68 : ∀ b u, H6 b = some u → (CsL.out cc H8) b = some u := fun b u e => by
      rw [CsL.out_ne (ne_of_none e ncc)]
      exact e8 _ _ (keep67 _ _ e)
    exact ⟨fun b u e n => e68 _ _ (eN b u e n), tab6.ext e68⟩
  refine ⟨op, f, opens (tolds pl ch) N, rfl, hO7, hW, by rw [ol]; exact pos, by rw [ol]; exact len, fun i p hp => by rw [ol]; exact (told_min so.wf pn co (Ar_opens hp).2).1, fun d hd8 => fun H8 e8 => ?_, fun l p us8 H8 hCc hl np e8 hp8 hL8 => ?_⟩
  · -- no circle: rounds_down
    have hg8 := back H8 e8
    rw [ol] at hd8
    obtain ⟨rk, hR⟩ := rdh_of so.wf pn co hx hN0 hd8
    have hon9 := hg8.ext _ _ hon5 (fun ps z => by cases z)
    have hA9 : NestAt K (CsL.out cc H8) ra (tolds pl ch) := (hA5.keep (.of_tab (extN_hd hg8.ext))).mono ex_hd
    have hgo := hg5.trans hg8
    refine s_when (D := { nx := _, ct := _, bk := _, rt := _ }) (et_isN (x := .non) (ev_var rfl)) (fun _ H10 e10 => ?_) (fun hb => by cases hb)
    refine s_retP (Pd := fun v H' => ∃ (z : List Am) (p : Addr), v = .ref p ∧ z.length = pl.length ∧ (∀ i, i < pl.length → CsM.fn z i = x i) ∧ H10 p = none ∧ H' p = some (.lst (z.map av))) (ep_call (Pd := fun vs _ => vs = [.ref a, .ref ra, .ref on]) (eap_of (ea_cons (ev_var rfl) (ea_cons (ev_var rfl) (ea_cons (ev_var rfl) ea_nil))) fun _ _ => rfl) fun vs H11 e11 hv Q q =>
      ⟨a, ra, on, pl, tolds pl ch, N, x, rk, hv, hf.keep ((hgo.ex e10).ex e11).keep, hA9.mono (e10.trans e11), sq_of ((e10.trans e11) _ _ hon9), so, tolds_len pl ch, hR, fun z hz hzx p H' hp e hp' => q _ H' e ⟨z, p, rfl, hz, hzx, fresh_back e11 hp, hp'⟩⟩) fun v H11 e11 hv => ?_
    obtain ⟨z, p, rfl, hz, hzx, np, hp⟩ := hv
    have hgo10 := hgo.ex e10
    refine k z p H11 hz (hx.congr (msheet_wf so.wf co) fun i hi => ?_) (fun o u ho nt z => ?_) (hgo10.ex e11) hp
    · rw [msheet_len] at hi
      exact (hzx i hi).symm
    · rw [z, hgo10.ext o u ho nt] at np; cases np
  · -- a circle: one more cell with 0
    have hg8 := back H8 e8
    have hon9 := hg8.ext _ _ hon5 (fun ps z => by cases z)
    have hA9 : NestAt K (Hd on (CsL.out cc H8)) ra (tolds pl ch) := hA5.keep (.of_tab (extN_hd hg8.ext))
    have hgo := hg5.trans hg8
    have hcc8 : H8 cc = some (.frz o (.own cc)) := e8 _ _ upd_same
    have npc : p ≠ cc := fun z => by rw [z, upd_same] at np; cases np
    have hC9 : ArcsAt K (CsL.out cc H8) p l := ⟨us8, sq_of (by rw [CsL.out_ne npc]; exact hp8), hL8.1, fun i y hy => by
      obtain ⟨v, z1, r, z2, z3⟩ := hL8.2 i y hy
      exact ⟨v, z1, r, z2, sqt_out hcc8 z3⟩⟩
    refine s_when (D := { nx := _, ct := _, bk := _, rt := _ }) (et_isN (x := .ref p) (ev_var rfl)) (fun hb => by cases hb) (fun _ H10 e10 => ?_)
    have hll : l.length ≤ 1000 := by rw [ol] at hl; omega
    refine s_appP (e10 _ _ hon9) (ev_var rfl) (Pd := fun v _ => ∃ best found, v = nv found ∧ Best l l.length best found) (ep_call (Pd := fun vs _ => vs = [.ref p]) (eap_of (ea_cons (ev_var rfl) ea_nil) fun _ _ => rfl) fun vs H11 e11 hv Q q =>
      ⟨p, l, hv, hC9.mono (e10.trans e11), hCc.ne, hll, fun best found hB H12 e12 => q _ H12 e12 ⟨best, found, rfl, hB⟩⟩) (by rw [List.length_map]; omega) fun v H11 e11 hv => ?_
    obtain ⟨best, found, rfl, hB⟩ := hv
    have x0 := zero_cell (msheet_wf so.wf co) hx hCc (fun c p hp => (told_min so.wf pn co (Ar_opens hp).2).2) hB
    obtain ⟨pp, hpp⟩ := hB.arc hCc
    have hfl := Ar_lt hpp
    rw [ol] at hfl
    have e911 := e10.trans e11
    refine ⟨N ++ [found], _, _, _, by rw [List.length_append]; rfl, rfl, by rw [upd_same, List.map_append]; rfl, (hgo.ex e911).mut non' (e911 _ _ hon9), by rw [hd_upd]; exact hA9.mono (hd_ex e911), ?_, fun i hi => ?_⟩
    · refine List.nodup_append.mpr ⟨nd, by simp, fun i hi j hj z => ?_⟩
      rw [List.mem_singleton.mp hj] at z
      exact (Ar_opens hpp).1 (z ▸ hi)
    · rcases List.mem_append.mp hi with hi | hi
      · exact hN i hi
      · rw [List.mem_singleton.mp hi]
        exact ⟨hfl, x0⟩
end
end CsW

set_option Elab.async false
set_option linter.all false
set_option maxRecDepth 100000
set_option maxHeartbeats 4000000
namespace CsW
open PySem PySem.Spec PyProof.Rows L2 Evl CsTop CsM
/-! ### two lists of amounts compared -/
def dAv : Am → PyData
  | none => .none
  | some n => .int n
theorem eqv_av (a b : Am) : PyData.eqv (dAv a) (dAv b) = decide (a = b) := by
  cases a with
  | none => cases b with
    | none => simp [dAv, PyData.eqv]
    | some b => simp [dAv, PyData.eqv]
  | some a => cases b with
    | none => simp [dAv, PyData.eqv]
    | some b =>
      show ((a : Int) == (b : Int)) = decide (some a = some b)
      by_cases c : a = b
      · subst c; simp
      · have c2 : ¬ (a : Int) = (b : Int) := by omega
        simp [c, c2]
theorem eqv_avs : ∀ l r : List Am, PyData.eqvAll (l.map dAv) (r.map dAv) = decide (l = r)
  | [], [] => by simp [PyData.eqvAll]
  | [], b :: r => by simp [PyData.eqvAll]
  | a :: l, [] => by simp [PyData.eqvAll]
  | a :: l, b :: r => by
    rw [List.map_cons, List.map_cons, PyData.eqvAll, eqv_av, eqv_avs l r]
    by_cases c : a = b
    · by_cases d : l = r
      · simp [c, d]
      · simp [c, d]
    · simp [c]
theorem lay_avs : ∀ l : List Am, PyData.canLayAll0 (l.map dAv) = true ∧ PyData.depthAll (l.map dAv) ≤ 1
  | [] => ⟨rfl, Nat.zero_le _⟩
  | a :: l => by
    obtain ⟨h1, h2⟩ := lay_avs l
    rw [List.map_cons]
    constructor
    · rw [PyData.canLayAll0, h1]
      cases a <;> rfl
    · rw [PyData.depthAll]
      cases a with
      | none =>
        have : (dAv none).depth ≤ 1 := by show PyData.depth .none ≤ 1; simp [PyData.depth]
        omega
      | some a =>
        have : (dAv (some a)).depth ≤ 1 := by show PyData.depth (.int a) ≤ 1; simp [PyData.depth]
        omega
theorem shaped_avs (l : List Am) : SeqAt.shaped (.list (l.map dAv)) = true := by
  obtain ⟨h1, h2⟩ := lay_avs l
  unfold SeqAt.shaped
  rw [PyData.canLay0, h1]
  have : (PyData.list (l.map dAv)).depth ≤ 64 := by
    rw [PyData.depth]
    omega
  simp [this]
section
variable {K : PySem.W.Frag} {σ : L2.St} {H : Hp} {ta tb : TE} {a b : Addr} {l r : List Am}
theorem dp_avs : ∀ l : List Am, DpAll K H (l.map av) (l.map dAv)
  | [] => .nil
  | a :: l => .cons (by cases a with
    | none => exact .non
    | some n => exact .int _) (dp_avs l)
theorem et_eqL (ha : Ev ta σ H (.ref a)) (hb : Ev tb σ H (.ref b)) (hl : Ams K H a l) (hr : Ams K H b r) : EvT (tTest (tOp (rEqD K) ta tb)) σ H (decide (l = r)) := by
  refine et_is (et_test (ev_op ha hb (z := .bl (PyData.eqv (.list (l.map dAv)) (.list (r.map dAv)))) fun H1 e Q q => ⟨_, _, .lst (ex_l e hl) (dp_avs l), .lst (ex_l e hr) (dp_avs r), shaped_avs l, shaped_avs r, q H1 (Ex.refl _)⟩)) ?_
  rw [PyData.eqv, eqv_avs]
theorem et_neL (ha : Ev ta σ H (.ref a)) (hb : Ev tb σ H (.ref b)) (hl : Ams K H a l) (hr : Ams K H b r) : EvT (tTest (tOp (rNeD K) ta tb)) σ H (!decide (l = r)) := by
  refine et_is (et_test (ev_op ha hb (z := .bl (!PyData.eqv (.list (l.map dAv)) (.list (r.map dAv)))) fun H1 e Q q => ⟨_, _, .lst (ex_l e hl) (dp_avs l), .lst (ex_l e hr) (dp_avs r), shaped_avs l, shaped_avs r, q H1 (Ex.refl _)⟩)) ?_
  rw [PyData.eqv, eqv_avs]
theorem nv_av (P : List Nat) : P.map nv = (P.map some).map av := by rw [List.map_map]; rfl
theorem et_eqN {P R : List Nat} (ha : Ev ta σ H (.ref a)) (hb : Ev tb σ H (.ref b)) (hl : SqL K H a (P.map nv)) (hr : SqL K H b (R.map nv)) : EvT (tTest (tOp (rEqD K) ta tb)) σ H (decide (P = R)) := by
  rw [nv_av] at hl hr
  refine et_is (et_eqL ha hb hl hr) ?_
  by_cases c : P = R
  · subst c; simp
  · rw [decide_eq_false c, decide_eq_false]
    intro z
    exact c ((List.map_inj_right (fun x y h => Option.some.inj h)).mp z)
/-- amount == flat_value(..) -/
theorem et_eqA {x y : Am} (ha : Ev ta σ H (av x)) (hb : Ev tb σ H (av y)) : EvT (tTest (tOp rEq ta tb)) σ H (decide (x = y)) := by
  refine et_is (et_test (ev_op ha hb (rv_eq ?_))) ?_
  · cases x <;> cases y <;> rfl
  · cases x with
    | none => cases y <;> simp [av]
    | some x => cases y with
      | none => simp [av]
      | some y =>
        by_cases c : x = y
        · subst c; simp
        · have c2 : ¬ (x : Int) = (y : Int) := by omega
          simp [av, c, c2]
end
end CsW

set_option Elab.async false
set_option linter.all false
set_option maxRecDepth 100000
set_option maxHeartbeats 4000000
namespace CsW
open PySem PySem.Spec PyProof.Rows L2 Evl CsTop CsM
section
variable {P : Program} {w : World} {K : PySem.W.Frag} {mg : Str → Option Value} {base : Heap}
theorem q_callR {σ : L2.St} {H : Hp} {D : Ends} {tz : TS} {sp : Sp} {E : XK} {t : TA} {vs : List V} {i : Nat} (h : EvA t σ H vs) (k : ∀ H1, Ex H H1 → sp vs H1 (fun v H2 => tz D (σ.set i (some v)) H2) E) : tSeq (tAsg (tCall sp [] E t) (gName i)) tz D σ H :=
  h H (Ex.refl H) _ fun H1 e1 => by
    rw [List.append_nil]
    exact k H1 e1
def far (H : Hp) (p : Addr) : Prop := ∀ o u, H o = some u → (∀ ps, u ≠ .tbl ps) → p ≠ o
theorem far_of {tb : Addr} {q : Str} {H H' : Hp} {p : Addr} (g : Go tb q H H') (n : H' p = none) : far H p := fun o u ho nt z => by
  rw [z, g.ext o u ho nt] at n; cases n
theorem far_back {tb : Addr} {q : Str} {H H' : Hp} {p : Addr} (g : Go tb q H H') (n : far H' p) : far H p := fun o u ho nt => n o u (g.ext o u ho nt) nt
def spSettled (K : PySem.W.Frag) (tb : Addr) : Sp := fun vs H Q _ => ∃ (a : Addr) (pl : List Fm), vs = [.ref a] ∧ FlAt K H a pl ∧ SOk pl ∧ Plain pl ∧ LamX.TabS H tb lamQ ∧
  ∀ (z : List Am) (r p c : Addr) (H' : Hp), z.length = pl.length → IsLeast pl (CsM.fn z) → far H p → Go tb lamQ H H' → H' r = some (.tup [.ref p, .ref c]) → H' p = some (.lst (z.map av)) → Q (.ref r) H'
theorem ev_fval {σ : L2.St} {H : Hp} {ta tb : TE} {r b : Addr} {g : Fm} {x : List Am} (ha : Ev ta σ H (.ref r)) (hb : Ev tb σ H (.ref b)) (hf : FmR K H r g) (hx : Ams K H b x) (w : FOk x.length g) (hl : (arcsF g).length ≤ 1000) :
    Ev (tCall (spFlatValue K) [] E0 (tCons ta (tCons tb tNil))) σ H (av (val g (CsM.fn x))) :=
  ev_callV (ea_cons ha (ea_cons hb ea_nil)) fun H1 e Q q => ⟨_, _, _, _, rfl, hf.mono e, hx.mono e, w, hl, q⟩
theorem sc_settled_least : FnScope ["plain", "choices", "found", "better", "cell", "formula", "place", "target", "shift", "amount"] ["plain"] (defScope sSettledLeast) := ⟨rfl, rfl, rfl, by decide +kernel, rfl, by decide +kernel, by decide +kernel⟩
-- slots 0 plain, 1 choices, 2 found, 3 better, 4 cell, 5 formula, 6 place, 7 target, 8 shift, 9 amount
theorem c_settled_least (T : Top K mg) (C_least_with : Callee P w K mg base "least_with" ["plain", "choices"] 4 (spLeastWith K tb)) (C_shifted : Callee P w K mg base "shifted" ["a", "c"] 1 spShifted) (C_at_most : Callee P w K mg base "at_most" ["a", "b"] 1 spAtMost) (C_flat_value : Callee P w K mg base "flat_value" ["formula", "x"] 3 (spFlatValue K)) : Callee P w K mg base "settled_least" ["plain"] 5 (spSettled K tb) := by
  refine ok_of (N := ["plain", "choices", "found", "better", "cell", "formula", "place", "target", "shift", "amount"]) T (List.mem_of_getElem? (i := 18) rfl) sc_settled_least (fun _ _ _ _ _ _ us hl => match us, hl with | [_], _ => rfl) (fun vs H Q E h => ?len) (fun cdv A outer s H vs Q E f hr h => ?_)
  case len => first | (obtain ⟨_, rfl, _⟩ := h; rfl) | (obtain ⟨_, _, rfl, _⟩ := h; rfl) | (obtain ⟨_, _, _, rfl, _⟩ := h; rfl) | (obtain ⟨_, _, _, _, rfl, _⟩ := h; rfl) | (obtain ⟨_, _, _, _, _, rfl, _⟩ := h; rfl) | (obtain ⟨_, _, _, _, _, _, rfl, _⟩ := h; rfl) | (obtain ⟨_, _, _, _, _, _, _, rfl, _⟩ := h; rfl) | (obtain ⟨_, _, _, _, _, _, _, _, rfl, _⟩ := h; rfl) | (obtain ⟨_, _, _, _, _, _, _, _, _, rfl, _⟩ := h; rfl) | (obtain ⟨_, _, _, _, _, _, _, _, _, _, rfl, _⟩ := h; rfl) | (obtain ⟨_, _, _, _, _, _, _, _, _, _, _, rfl, _⟩ := h; rfl) | (obtain ⟨_, _, _, _, _, _, _, _, _, _, _, _, rfl, _⟩ := h; rfl)
  refine ⟨_, (pss_cons (ps_setLc (i := 1) (own := [("formula", 5)]) (g := gName 5) (tt := tYes) rfl sc_settled_least.nd rfl rfl (sw_true rfl rfl rfl (by decide +kernel)) (x_piL K rfl (pv 0)) (blkOk_by (N := ["plain", "choices", "found", "better", "cell", "formula", "place", "target", "shift", "amount"]) (sc := defScope sSettledLeast) (by decide +kernel)) (fun _ _ _ _ _ => (pg_name (i := 5) sc_settled_least.nd rfl (.inl rfl))) (fun _ _ _ _ _ => pts_nil) (fun _ _ _ _ _ => (pe_ifExp (pt_cmpR op_eq (x_ixT K rfl (pv 5) pe_int) pe_str (nomark _)) pe_int pe_non)))
      (pss_one (ps_while PassesOwn.never (pt_val pe_bl)
        (pss_cons (ps_set (i := 2) sc_settled_least.nd rfl (.inl rfl) (x_call C_least_with hr (pa_cons (pv 0) (pa_cons (pv 1) pa_nil))))
        (pss_cons (ps_set (i := 3) sc_settled_least.nd rfl (.inl rfl) (x_list K rfl rfl T.list (pa_cons (pv 1) pa_nil)))
        (pss_cons (ps_for PassesOwn.never rfl (x_enum K rfl rfl T.enumerate (pa_cons (pv 0) pa_nil)) (x_tup K rfl rfl (pgs_cons (pg_name (i := 4) sc_settled_least.nd rfl (.inl rfl)) (pgs_cons (pg_name (i := 5) sc_settled_least.nd rfl (.inl rfl)) pgs_nil)))
          (pss_one (ps_if (pt_cmpR op_eq (x_ixT K rfl (pv 5) pe_int) pe_str (nomark _))
            (pss_one (ps_for PassesOwn.never rfl (x_enum K rfl rfl T.enumerate (pa_cons (x_ixT K rfl (pv 5) pe_int) pa_nil)) (x_tup K rfl rfl (pgs_cons (pg_name (i := 6) sc_settled_least.nd rfl (.inl rfl)) (pgs_cons (x_tup K rfl rfl (pgs_cons (pg_name (i := 7) sc_settled_least.nd rfl (.inl rfl)) (pgs_cons (pg_name (i := 8) sc_settled_least.nd rfl (.inl rfl)) pgs_nil))) pgs_nil)))
              (pss_cons (ps_set (i := 9) sc_settled_least.nd rfl (.inl rfl) (x_call C_shifted hr (pa_cons (x_ixL K rfl (pv 2) (pv 7)) (pa_cons (pv 8) pa_nil))))
              (pss_one (ps_if ((pw_and (pt_not (pt_val (x_call C_at_most hr (pa_cons (pv 9) (pa_cons (x_ixL K rfl (pv 2) (pv 4)) pa_nil))))) (pw_and1 (pt_cmpR op_eq (pv 9) (x_call C_flat_value hr (pa_cons (pv 5) (pa_cons (pv 2) pa_nil))) (nomark _))))).pt
                (pss_one (ps_asg (pv 6) (pg_sub (pv 3) (pv 4) set_list)))
                pss_nil)))))
            pss_nil)))
        (pss_cons (ps_if (pt_cmpR (o_eqD K rfl hr) (pv 3) (pv 1) (nomark _))
          (pss_one (ps_ret (pe_tup (pa_cons (pv 2) (pa_cons (pv 1) pa_nil)))))
          pss_nil)
        (pss_one (ps_set (i := 1) sc_settled_least.nd rfl (.inl rfl) (pv 3)))))))))), ?_⟩
  obtain ⟨a, pl, rfl, hf, so, pn, hT, k⟩ := h
  obtain ⟨vs, v1, v2, v3⟩ := hf.at_
  obtain ⟨M, S, bd⟩ := so.bd
  have len := so.len
  refine q_asgL (xs := (ch0 pl).map av) ?_ fun bc H1 nbc e1 h1 => ?_
  · have e0 : (ch0 pl).map av = pl.map fun f => if isHi f then V.int 0 else .non := by
      unfold ch0; rw [List.map_map]
      refine List.map_congr_left fun f _ => ?_
      cases f <;> rfl
    rw [e0]
    refine el_lcMap _ (ev_var rfl) v1 v2 (by omega) fun i u f hu hfi => ?_
    obtain ⟨r, h1, h2⟩ := v3 i f hfi
    rw [hu] at h1; cases h1
    refine ⟨_, fun H1 e Q q => q, rfl, ?_⟩
    refine ev_if (et_hi (g := f) (ev_kind (ev_var rfl) h2)) (fun hb => ?_) (fun hb => ?_)
    · rw [if_pos hb]; exact ev_c
    · rw [if_neg (by rw [hb]; decide)]; exact ev_c
  refine s_while (fun m σ H' => ∃ (ch : List Am) (bc : Addr) (x : Nat → Am) (u2 u3 u4 u5 u6 u7 u8 u9 : Option V), m = pl.length * (M + pl.length * S + 1) - wsum (M + pl.length * S) pl.length x ∧ IsLeast (msheet pl ch) x ∧ σ = [some (.ref a), some (.ref bc), u2, u3, u4, u5, u6, u7, u8, u9] ∧ Go tb lamQ H H' ∧ Ams K H' bc ch ∧ ChOk pl ch)
    (pl.length * (M + pl.length * S + 1) - wsum (M + pl.length * S) pl.length (Classical.choose (exists_least (msheet_wf so.wf (ch0_ok so.wf)))))
    ⟨ch0 pl, bc, _, _, _, _, _, _, _, _, _, rfl, Classical.choose_spec (exists_least (msheet_wf so.wf (ch0_ok so.wf))), rfl, .of hT e1, sq_of h1, ch0_ok so.wf⟩ (fun m σ H' hw => ?_)
  clear nbc h1 e1
  obtain ⟨ch, bc, x0, u2, u3, u4, u5, u6, u7, u8, u9, rfl, hx0, rfl, hg, hC, co⟩ := hw
  refine ⟨true, et_val ev_c, fun _ H4 e4 => ?_, fun z => by cases z⟩
  have hg4 := hg.ex e4
  refine ⟨fun σ H' => ∃ (ch : List Am) (bc : Addr) (x : Nat → Am) (u2 u3 u4 u5 u6 u7 u8 u9 : Option V), wsum (M + pl.length * S) pl.length x0 < wsum (M + pl.length * S) pl.length x ∧ IsLeast (msheet pl ch) x ∧ σ = [some (.ref a), some (.ref bc), u2, u3, u4, u5, u6, u7, u8, u9] ∧ Go tb lamQ H H' ∧ Ams K H' bc ch ∧ ChOk pl ch, fun σ2 H2 hN => ?_, ?_⟩
  · obtain ⟨ch, bc, x, u2, u3, u4, u5, u6, u7, u8, u9, h1, h2, h3⟩ := hN
    have := wsum_cap (M + pl.length * S) pl.length x
    exact ⟨_, by omega, ch, bc, x, u2, u3, u4, u5, u6, u7, u8, u9, rfl, h2, h3⟩
  refine q_callR (vs := [.ref a, .ref bc]) (ea_cons (ev_var rfl) (ea_cons (ev_var rfl) ea_nil)) fun H5 e5 => ⟨a, bc, pl, ch, rfl, hf.keep (hg4.ex e5).keep, hC.mono (e4.trans e5), so, pn, co, (hg4.ex e5).tab, fun z p H6 hz hzl hfar hg6 hp => ?_⟩
  have hgo := (hg4.ex e5).trans hg6
  have hC6 : Ams K H6 bc ch := (hC.mono (e4.trans e5)).keep hg6.keep
  have hf6 := hf.keep hgo.keep
  have v16 := hgo.keep.l _ _ v1
  have farp : far H p := far_back (hg4.ex e5) hfar
  refine q_asgL (el_list (ev_var rfl) hC6) fun ob H7 nob e7 hb7 => ?_
  refine q_forE (ea_cons (ev_var rfl) ea_nil) (ex_l e7 v16) (fun i σ H' => ∃ (b : List Am) (u4 u5 u6 u7 u8 u9 : Option V), σ = [some (.ref a), some (.ref bc), some (.ref p), some (.ref ob), u4, u5, u6, u7, u8, u9] ∧ H' ob = some (.lst (b.map av)) ∧ Ex H6 (Hd ob H') ∧ BI pl ch b (CsM.fn z) i 0)
    (fun H8 e8 => ⟨ch, _, _, _, _, _, _, rfl, e8 _ _ hb7, ex_in (e7.trans e8) nob, BI.start co.len⟩) (fun i σ H' _ q => ?_) (fun i y σ H' pt hy hq npt => ?_) (fun σ H' hq => ?_)
  · obtain ⟨_, _, _, _, _, _, _, _, _, e, _⟩ := q
    exact ex_l (e.trans ex_hd) v16
  · obtain ⟨b, w4, w5, w6, w7, w8, w9, rfl, hob, eb, hB⟩ := hq
    have hi : i < pl.length := by have := (List.getElem?_eq_some_iff.mp hy).1; omega
    have ef := CsM.at_fat hi
    obtain ⟨rr, hr2, hR⟩ := v3 i _ ef
    rw [hy] at hr2; cases hr2
    have nob2 : ob ≠ pt := ne_of_none hob npt
    refine g_two (st_of upd_same) ?_
    have hob2 : (upd H' pt (.tup [.int (i : Nat), .ref rr])) ob = some (.lst (b.map av)) := by rw [upd_ne nob2]; exact hob
    have eb2 : Ex H6 (Hd ob (upd H' pt (.tup [.int (i : Nat), .ref rr]))) := eb.trans (hd_ex (Ex.new npt))
    generalize upd H' pt (.tup [.int (i : Nat), .ref rr]) = H8 at hob2 eb2
    have R6 : FmR K H6 rr (fat pl i) := hR.keep hgo.keep
    have e68 := eb2.trans ex_hd
    refine s_when (et_hi (g := fat pl i) (ev_kind (ev_var rfl) (R6.mono e68))) (fun hb H9 e9 => ?_) (fun hb H9 e9 => ?_)
    · cases hg : fat pl i with
      | amt m => rw [hg] at hb; cases hb
      | lo l => rw [hg] at hb; cases hb
      | wh j m t => rw [hg] at hb; cases hb
      | hi l =>
        rw [hg] at ef R6
        obtain ⟨bb, t1, t2⟩ := id R6
        obtain ⟨as, a1, a2, a3⟩ := t2.at_
        have wl := so.wf.at ef
        have al := so.al _ (List.mem_of_getElem? ef)
        have e69 := e68.trans e9
        refine s_forE (ea_cons (ev_ixT (i := 1) (ev_var rfl) ev_c (ex_t e69 t1) rfl) ea_nil) (ex_l e69 a1) (fun q σ H' => ∃ (b : List Am) (u6 u7 u8 u9 : Option V), σ = [some (.ref a), some (.ref bc), some (.ref p), some (.ref ob), some (.int (i : Nat)), some (.ref rr), u6, u7, u8, u9] ∧ H' ob = some (.lst (b.map av)) ∧ Ex H6 (Hd ob H') ∧ BI pl ch b (CsM.fn z) i q)
          (fun H10 e10 => ⟨b, _, _, _, _, rfl, e10 _ _ (e9 _ _ hob2), eb2.trans (hd_ex (e9.trans e10)), hB⟩) (fun q σ H' _ z => ?_) (fun q y2 σ H' pt2 hy2 hq npt2 => ?_) (fun σ H' hq => ?_)
        · obtain ⟨_, _, _, _, _, _, _, e, _⟩ := z
          exact ex_l (e.trans ex_hd) a1
        · clear hB hob
          obtain ⟨b, w6, w7, w8, w9, rfl, hob, eb, hB⟩ := hq
          have hql : q < l.length := by have := (List.getElem?_eq_some_iff.mp hy2).1; omega
          obtain ⟨⟨t, s⟩, eq⟩ := CsM.at_of hql
          obtain ⟨r2, t3, t4⟩ := a3 q _ eq
          rw [hy2] at t3; cases t3
          have nob3 : ob ≠ pt2 := ne_of_none hob npt2
          have e6a : Ex H6 (upd H' pt2 (.tup [.int (q : Nat), .ref r2])) := (eb.trans ex_hd).trans (Ex.new npt2)
          refine g_nest (st_of upd_same) (ex_t e6a t4) ?_
          have hob3 : (upd H' pt2 (.tup [.int (q : Nat), .ref r2])) ob = some (.lst (b.map av)) := by rw [upd_ne nob3]; exact hob
          have eb3 : Ex H6 (Hd ob (upd H' pt2 (.tup [.int (q : Nat), .ref r2]))) := eb.trans (hd_ex (Ex.new npt2))
          generalize upd H' pt2 (.tup [.int (q : Nat), .ref r2]) = H10 at hob3 eb3 e6a
          have ht : t < z.length := by rw [hz]; exact wl.2 _ (List.mem_of_getElem? eq)
          have hiz : i < z.length := by rw [hz]; exact hi
          refine q_asg (v := av (sh (CsM.fn z t) s)) (ev_shift (ev_am (ev_var rfl) (ev_var rfl) (ex_l e6a (sq_of hp)) ht) (ev_var rfl)) fun H11 e11 => ?_
          have e6b := e6a.trans e11
          refine s_when (b := !am (sh (CsM.fn z t) s) (CsM.fn z i) && decide (sh (CsM.fn z t) s = val (.hi l) (CsM.fn z))) (et_and (et_not (et_most (a := sh (CsM.fn z t) s) (b := CsM.fn z i) (ev_var rfl) (ev_am (ev_var rfl) (ev_var rfl) (ex_l e6b (sq_of hp)) hiz))) (fun _ => et_eqA (x := sh (CsM.fn z t) s) (y := val (.hi l) (CsM.fn z)) (ev_var rfl) (ev_fval (g := .hi l) (ev_var rfl) (ev_var rfl) (R6.mono e6b) (ex_l e6b (sq_of hp)) (by rw [hz]; exact wl) al))) (fun hc H12 e12 => ?_) (fun hc H12 e12 => ?_)
          · obtain ⟨c1, c2⟩ := Bool.and_eq_true_iff.mp hc
            have cnd : Cnd (CsM.fn z) i l q := ⟨(t, s), eq, fun y => (by rw [show am (sh (CsM.fn z t) s) (CsM.fn z i) = true from y] at c1; cases c1), of_decide_eq_true c2⟩
            have hib : i < (b.map av).length := by rw [List.length_map, hB.len]; exact hi
            refine s_setL (v := av (some q)) (j := i) (e12 _ _ (e11 _ _ hob3)) (ev_var rfl) (ev_var rfl) (ev_var rfl) hib fun H13 e13 => ?_
            exact ⟨b.set i (some q), _, _, _, _, rfl, by rw [upd_same, map_set_av], by rw [hd_upd]; exact eb3.trans (hd_ex ((e11.trans e12).trans e13)), hB.yes ef cnd⟩
          · refine ⟨b, _, _, _, _, rfl, e12 _ _ (e11 _ _ hob3), eb3.trans (hd_ex (e11.trans e12)), hB.no ef fun cnd => ?_⟩
            obtain ⟨p2, q1, q2, q3⟩ := cnd
            rw [eq] at q1; cases q1
            have c1 : am (sh (CsM.fn z t) s) (CsM.fn z i) = false := am_f.mpr q2
            rw [c1, decide_eq_true q3] at hc; cases hc
        · clear hB hob
          obtain ⟨b, w6, w7, w8, w9, rfl, hob, eb, hB⟩ := hq
          rw [a2] at hB
          exact ⟨b, _, _, _, _, _, _, rfl, hob, eb, hB.cell ef (Nat.le_refl _)⟩
    · exact ⟨b, _, _, _, _, _, _, rfl, e9 _ _ hob2, eb2.trans (hd_ex e9), hB.skip ef fun l z => by rw [z] at hb; cases hb⟩
  · obtain ⟨b, w4, w5, w6, w7, w8, w9, rfl, hob, eb, hB⟩ := hq
    rw [v2] at hB
    have e6 := eb.trans ex_hd
    have hgo' := hgo.ex e6
    refine q_when (et_eqL (l := b) (r := ch) (ev_var rfl) (ev_var rfl) (sq_of hob) (hC6.mono e6)) (fun hb H8 e8 => ?_) (fun hb H8 e8 => ?_)
    · have hbc := of_decide_eq_true hb
      subst hbc
      refine s_retP (ep_tup (Pd := fun vs _ => vs = [.ref p, .ref bc]) (eap_of (ea_cons (ev_var rfl) (ea_cons (ev_var rfl) ea_nil)) fun _ _ => rfl) (fun vs H2 e => by rw [e]; show 2 ≤ 100000; decide)) fun v H9 e9 hv => ?_
      obtain ⟨r, us, Hr, rfl, rfl, er, nr, rfl⟩ := hv
      have il := pol_done so.wf pn co hzl (hB.none so.wf co hzl)
      refine k z r p bc _ hz il farp ((hgo'.ex e8).ex e9) upd_same (e9 _ _ (e8 _ _ (e6 _ _ hp)))
    · have hne := of_decide_eq_false hb
      refine s_asg (v := .ref ob) (ev_var rfl) fun H9 e9 => ?_
      have co' := hB.ok co
      obtain ⟨x', hx'⟩ := exists_least (msheet_wf so.wf co')
      have fall := pol_falls so.wf pn co co' bd hzl hx' hB.imp hne
      have es : wsum (M + pl.length * S) pl.length (CsM.fn z) = wsum (M + pl.length * S) pl.length x0 := wsum_ext fun i hi => hzl.uniq hx0 i (by rw [msheet_len]; exact hi)
      rw [es] at fall
      exact ⟨b, ob, x', _, _, _, _, _, _, _, _, fall, hx', rfl, hgo'.ex (e8.trans e9), ex_l (e8.trans e9) (sq_of hob), co'⟩
end
end CsW

set_option Elab.async false
set_option linter.all false
set_option maxRecDepth 100000
set_option maxHeartbeats 4000000
namespace CsW
open PySem PySem.Spec PyProof.Rows L2 Evl CsTop CsM
theorem sok_open {fl : List Fm} (s : SOk fl) (P : List Nat) : SOk (osheet fl P) := by
  obtain ⟨M, S, bd⟩ := s.bd
  refine ⟨osheet_wf s.wf P, by rw [osheet_len]; exact s.pos, by rw [osheet_len]; exact s.len, fun f hf => ?_, M, S, osheet_bd bd P⟩
  obtain ⟨i, hi⟩ := List.mem_iff_getElem?.mp hf
  have h1 := CsM.lt_of hi
  rw [osheet_len] at h1
  obtain ⟨g, eg⟩ := CsM.at_of h1
  rw [osheet_at eg] at hi
  have al := s.al g (List.mem_of_getElem? eg)
  cases g with
  | wh j a k =>
    have h2 : (if decide (i ∈ P) = true then Fm.hi [(k, 0)] else .amt (some 0)) = f := Option.some.inj hi
    by_cases c : decide (i ∈ P) = true
    · rw [if_pos c] at h2; subst h2; show 1 ≤ 1000; decide
    · rw [if_neg c] at h2; subst h2; exact Nat.zero_le _
  | amt a => cases hi; exact al
  | lo l => cases hi; exact al
  | hi l => cases hi; exact al
section
variable {P : Program} {w : World} {K : PySem.W.Frag} {mg : Str → Option Value} {base : Heap}
/-- at_most(flat[cell][2], x[flat[cell][1]]), the cell a condition -/
theorem et_cond {σ : L2.St} {H : Hp} {tf tc tx : TE} {a b : Addr} {fl : List Fm} {x : List Am} {c : Nat} (hf : FlAt K H a fl) (hx : Ams K H b x) (hl : x.length = fl.length) (w : Wf fl) (hc : c ∈ conds fl) (ha : Ev tf σ H (.ref a)) (hb : Ev tc σ H (nv c)) (hxe : Ev tx σ H (.ref b)) :
    EvT (tB (tCall spAtMost [] E0 (tCons (tOp (rIxT K) (tOp (rIxL K) tf tc) (tC (.int 2))) (tCons (tOp (rIxL K) tx (tOp (rIxT K) (tOp (rIxL K) tf tc) (tC (.int 1)))) tNil)))) σ H (holds fl (CsM.fn x) c) := by
  obtain ⟨j, m, t, e⟩ := conds_mem.mp hc
  obtain ⟨vs, v1, v2, v3⟩ := hf.at_
  obtain ⟨r, hr, hR⟩ := v3 c _ e
  have hR : SqT K H r [.str "when", .int j, .int m, .int t] := hR
  rw [holds_at e]
  have wj := (w.at e).1
  have eF : Ev (tOp (rIxL K) tf tc) σ H (.ref r) := ev_ixL (i := c) ha hb v1 hr
  exact et_most (a := some m) (b := CsM.fn x j) (ev_ixT (i := 2) eF ev_c hR rfl) (ev_am hxe (ev_ixT (i := 1) eF ev_c hR rfl) hx (by rw [hl]; exact wj))
def spFulfilled (K : PySem.W.Frag) : Sp := fun vs H Q _ => ∃ (a b : Addr) (fl : List Fm) (x : List Am), vs = [.ref a, .ref b] ∧ FlAt K H a fl ∧ Ams K H b x ∧ SOk fl ∧ x.length = fl.length ∧ RetL (((conds fl).filter (holds fl (CsM.fn x))).map nv) H Q
theorem sc_fulfilled : FnScope ["flat", "x", "found", "cell"] ["flat", "x"] (defScope sFulfilled) := ⟨rfl, rfl, rfl, by decide +kernel, rfl, by decide +kernel, by decide +kernel⟩
-- slots 0 flat, 1 x, 2 found, 3 cell
theorem c_fulfilled (T : Top K mg) (C_conditions_of : Callee P w K mg base "conditions_of" ["flat"] 1 (spCondsOf K)) (C_at_most : Callee P w K mg base "at_most" ["a", "b"] 1 spAtMost) : Callee P w K mg base "fulfilled" ["flat", "x"] 2 (spFulfilled K) := by
  refine ok_of (N := ["flat", "x", "found", "cell"]) T (List.mem_of_getElem? (i := 26) rfl) sc_fulfilled (fun _ _ _ _ _ _ us hl => match us, hl with | [_, _], _ => rfl) (fun vs H Q E h => ?len) (fun cdv A outer s H vs Q E f hr h => ?_)
  case len => first | (obtain ⟨_, rfl, _⟩ := h; rfl) | (obtain ⟨_, _, rfl, _⟩ := h; rfl) | (obtain ⟨_, _, _, rfl, _⟩ := h; rfl) | (obtain ⟨_, _, _, _, rfl, _⟩ := h; rfl) | (obtain ⟨_, _, _, _, _, rfl, _⟩ := h; rfl) | (obtain ⟨_, _, _, _, _, _, rfl, _⟩ := h; rfl) | (obtain ⟨_, _, _, _, _, _, _, rfl, _⟩ := h; rfl) | (obtain ⟨_, _, _, _, _, _, _, _, rfl, _⟩ := h; rfl) | (obtain ⟨_, _, _, _, _, _, _, _, _, rfl, _⟩ := h; rfl) | (obtain ⟨_, _, _, _, _, _, _, _, _, _, rfl, _⟩ := h; rfl) | (obtain ⟨_, _, _, _, _, _, _, _, _, _, _, rfl, _⟩ := h; rfl) | (obtain ⟨_, _, _, _, _, _, _, _, _, _, _, _, rfl, _⟩ := h; rfl)
  refine ⟨_, (pss_cons (ps_set (i := 2) sc_fulfilled.nd rfl (.inl rfl) (pe_lst pa_nil))
      (pss_cons (ps_for PassesOwn.never rfl (x_piL K rfl (x_call C_conditions_of hr (pa_cons (pv 0) pa_nil))) (pg_name (i := 3) sc_fulfilled.nd rfl (.inl rfl))
        (pss_one (ps_if (pt_val (x_call C_at_most hr (pa_cons (x_ixT K rfl (x_ixL K rfl (pv 0) (pv 3)) pe_int) (pa_cons (x_ixL K rfl (pv 1) (x_ixT K rfl (x_ixL K rfl (pv 0) (pv 3)) pe_int)) pa_nil))))
          (pss_one (x_app K rfl (pe_bm PySem.F.plainAttrs_list PySem.F.slot_list_append PySem.F.type_list_append mt_append (pv 2) (pa_cons (pv 3) pa_nil))))
          pss_nil)))
      (pss_one (ps_ret (pv 2))))), ?_⟩
  obtain ⟨a, b, fl, x, rfl, hf, hx, so, hl, k⟩ := h
  have len := so.len
  have cl := conds_len fl
  refine q_asgL (el_lst ea_nil (by decide)) fun o H1 no e1 h1 => ?_
  refine q_forNLn (xs := (conds fl).map nv) (el_callL (ea_cons (ev_var rfl) ea_nil) fun H2 e2 Q q => ⟨a, fl, rfl, hf.mono (e1.trans e2), so, q⟩) (fun p i σ H' => ∃ u, σ = [some (.ref a), some (.ref b), some (.ref o), u] ∧ H' o = some (.lst ((((conds fl).take i).filter (holds fl (CsM.fn x))).map nv)) ∧ Ex H (Hd o H') ∧ p ≠ o ∧ SqL K H' p ((conds fl).map nv))
    (fun p H2 np e2 h2 => ⟨_, rfl, e2 _ _ h1, ex_in (e1.trans e2) no, fun z => (by rw [z, h1] at np; cases np), sq_of h2⟩) (fun p i σ H' _ q => ?_) (fun p i y σ H' hy q => ?_) (fun p σ H' q => ?_)
  · obtain ⟨_, _, _, _, _, h⟩ := q
    exact h
  · obtain ⟨u, rfl, ho, eb, np, hp⟩ := q
    rw [List.getElem?_map] at hy
    cases ec : (conds fl)[i]? with
    | none => rw [ec] at hy; cases hy
    | some c =>
      rw [ec] at hy; cases hy
      have hc := List.mem_of_getElem? ec
      have eH := eb.trans ex_hd
      have keep : ∀ H2 us, Ex H' H2 → SqL K (upd H2 o (.lst us)) p ((conds fl).map nv) := fun H2 us e => by
        rcases ex_l e hp with (z | ⟨oo, z⟩) | z
        · exact .inl (.inl (by rw [upd_ne np]; exact z))
        · exact .inl (.inr ⟨oo, by rw [upd_ne np]; exact z⟩)
        · exact .inr z
      refine s_when (et_cond (hf.mono eH) (hx.mono eH) hl so.wf hc (ev_var rfl) (ev_var rfl) (ev_var rfl)) (fun hb H2 e2 => ?_) (fun hb H2 e2 => ?_)
      · refine s_app (e2 _ _ ho) (ev_var rfl) (ev_var rfl) (by
          rw [List.length_map]
          have := List.length_filter_le (holds fl (CsM.fn x)) ((conds fl).take i)
          rw [List.length_take] at this
          omega) fun H3 e3 => ?_
        refine ⟨_, rfl, ?_, by rw [hd_upd]; exact eb.trans (hd_ex (e2.trans e3)), np, keep _ _ (e2.trans e3)⟩
        rw [upd_same, take_snoc ec, List.filter_append, List.map_append]
        congr 2
        rw [List.filter_cons, if_pos hb]; rfl
      · refine ⟨_, rfl, ?_, eb.trans (hd_ex e2), np, ex_l e2 hp⟩
        rw [take_snoc ec, List.filter_append, List.filter_cons, if_neg (by rw [hb]; decide)]
        show H2 o = some (.lst ((((conds fl).take i).filter (holds fl (CsM.fn x)) ++ []).map nv))
        rw [List.append_nil]
        exact e2 _ _ ho
  · obtain ⟨u, rfl, ho, eb, np, hp⟩ := q
    rw [List.length_map, List.take_of_length_le (Nat.le_refl _)] at ho
    exact s_ret (ev_var rfl) fun H2 e2 => k o H2 no (eb.trans (ex_hd.trans e2)) (e2 _ _ ho)
/-- f(..)[0] given to a name -/
theorem q_ixCall {σ : L2.St} {H : Hp} {D : Ends} {tz : TS} {sp : Sp} {E : XK} {t : TA} {Pd : List V → Hp → Prop} {i : Nat} (h : EvAP t σ H Pd)
    (k : ∀ vs H1, Ex H H1 → Pd vs H1 → sp vs H1 (fun v H2 => ∃ r xs y, v = .ref r ∧ SqT K H2 r xs ∧ xs[0]? = some y ∧ tz D (σ.set i (some y)) H2) E) : tSeq (tAsg (tOp (rIxT K) (tCall sp [] E t) (tC (.int 0))) (gName i)) tz D σ H := by
  refine h H (Ex.refl H) _ fun vs H1 e1 hp => ?_
  have e : (fun (v : V) (H2 : Hp) => ∃ r xs y, v = .ref r ∧ SqT K H2 r xs ∧ xs[0]? = some y ∧ tz D (σ.set i (some y)) H2) = fun v H2 => (tC (.int 0)) σ H2 fun y H3 => rIxT K v y H3 fun x H4 => gName i x σ H4 (tz D) := by
    funext v H2
    apply propext
    constructor
    · rintro ⟨r, xs, y, h1, h2, h3, h4⟩
      exact ⟨r, xs, 0, y, h1, rfl, h2, atI_nat (j := 0) h3, h4⟩
    · rintro ⟨r, xs, j, y, h1, h2, h3, h4, h5⟩
      have ej : j = ((0 : Nat) : Int) := (V.int.inj h2).symm
      subst ej
      refine ⟨r, xs, y, h1, h3, ?_, h5⟩
      cases xs with
      | nil => simp [atI, ixN] at h4
      | cons z l =>
        rw [atI_nat (j := 0) (v := z) rfl] at h4
        exact h4
  show sp (vs ++ []) H1 (fun v H2 => (tC (.int 0)) σ H2 fun y H3 => rIxT K v y H3 fun x H4 => gName i x σ H4 (tz D)) E
  rw [List.append_nil, ← e]
  exact k vs H1 e1 hp
/-- opened(flat, places) as an argument -/
theorem ep_opened {σ : L2.St} {H : Hp} {ta tb : TE} {a b : Addr} {fl : List Fm} {pl : List Nat} (ha : Ev ta σ H (.ref a)) (hb : Ev tb σ H (.ref b)) (hf : FlAt K H a fl) (hP : SqL K H b (pl.map nv)) (so : SOk fl) :
    EvP (tCall (spOpened K) [] E0 (tCons ta (tCons tb tNil))) σ H fun v H2 => ∃ p, v = .ref p ∧ FlAt K H2 p (osheet fl pl) :=
  ep_call (Pd := fun vs _ => vs = [.ref a, .ref b]) (eap_of (ea_cons ha (ea_cons hb ea_nil)) fun _ _ => rfl) fun vs H1 e hv Q q =>
    ⟨a, b, fl, pl, hv, hf.mono e, ex_l e hP, so, fun p H' _ e' h => q _ H' e' ⟨p, rfl, h⟩⟩
def spStagesB (K : PySem.W.Frag) (tb : Addr) : Sp := fun vs H Q _ => ∃ (a : Addr) (fl : List Fm), vs = [.ref a] ∧ FlAt K H a fl ∧ SOk fl ∧ LamX.TabS H tb lamQ ∧
  ∀ (z : List Am) (us : List V) (p r xa : Addr) (y : V) (H' : Hp), z.length = fl.length → IsLeast fl (CsM.fn z) → far H xa → Go tb lamQ H H' → H' p = some (.lst (us ++ [.ref r])) → SqT K H' r [y, .ref xa] → H' xa = some (.lst (z.map av)) → Q (.ref p) H'
theorem sc_stages_from_below : FnScope ["flat", "places", "stages", "x", "later"] ["flat"] (defScope sStagesFromBelow) := ⟨rfl, rfl, rfl, by decide +kernel, rfl, by decide +kernel, by decide +kernel⟩
-- slots 0 flat, 1 places, 2 stages, 3 x, 4 later
theorem c_stages_from_below (T : Top K mg) (C_opened : Callee P w K mg base "opened" ["flat", "places"] 1 (spOpened K)) (C_settled_least : Callee P w K mg base "settled_least" ["plain"] 5 (spSettled K tb)) (C_fulfilled : Callee P w K mg base "fulfilled" ["flat", "x"] 2 (spFulfilled K)) : Callee P w K mg base "stages_from_below" ["flat"] 6 (spStagesB K tb) := by
  refine ok_of (N := ["flat", "places", "stages", "x", "later"]) T (List.mem_of_getElem? (i := 27) rfl) sc_stages_from_below (fun _ _ _ _ _ _ us hl => match us, hl with | [_], _ => rfl) (fun vs H Q E h => ?len) (fun cdv A outer s H vs Q E f hr h => ?_)
  case len => first | (obtain ⟨_, rfl, _⟩ := h; rfl) | (obtain ⟨_, _, rfl, _⟩ := h; rfl) | (obtain ⟨_, _, _, rfl, _⟩ := h; rfl) | (obtain ⟨_, _, _, _, rfl, _⟩ := h; rfl) | (obtain ⟨_, _, _, _, _, rfl, _⟩ := h; rfl) | (obtain ⟨_, _, _, _, _, _, rfl, _⟩ := h; rfl) | (obtain ⟨_, _, _, _, _, _, _, rfl, _⟩ := h; rfl) | (obtain ⟨_, _, _, _, _, _, _, _, rfl, _⟩ := h; rfl) | (obtain ⟨_, _, _, _, _, _, _, _, _, rfl, _⟩ := h; rfl) | (obtain ⟨_, _, _, _, _, _, _, _, _, _, rfl, _⟩ := h; rfl) | (obtain ⟨_, _, _, _, _, _, _, _, _, _, _, rfl, _⟩ := h; rfl) | (obtain ⟨_, _, _, _, _, _, _, _, _, _, _, _, rfl, _⟩ := h; rfl)
  refine ⟨_, (pss_cons (ps_set (i := 1) sc_stages_from_below.nd rfl (.inl rfl) (pe_lst pa_nil))
      (pss_cons (ps_set (i := 2) sc_stages_from_below.nd rfl (.inl rfl) (pe_lst pa_nil))
      (pss_one (ps_while PassesOwn.never (pt_val pe_bl)
        (pss_cons (ps_set (i := 3) sc_stages_from_below.nd rfl (.inl rfl) (x_ixT K rfl (x_call C_settled_least hr (pa_cons (x_call C_opened hr (pa_cons (pv 0) (pa_cons (pv 1) pa_nil))) pa_nil)) pe_int))
        (pss_cons (x_app K rfl (pe_bm PySem.F.plainAttrs_list PySem.F.slot_list_append PySem.F.type_list_append mt_append (pv 2) (pa_cons (pe_tup (pa_cons (pv 1) (pa_cons (pv 3) pa_nil))) pa_nil)))
        (pss_cons (ps_set (i := 4) sc_stages_from_below.nd rfl (.inl rfl) (x_call C_fulfilled hr (pa_cons (pv 0) (pa_cons (pv 3) pa_nil))))
        (pss_cons (ps_if (pt_cmpR (o_eqD K rfl hr) (pv 4) (pv 1) (nomark _))
          (pss_one (ps_ret (pv 2)))
          pss_nil)
        (pss_one (ps_set (i := 1) sc_stages_from_below.nd rfl (.inl rfl) (pv 4))))))))))), ?_⟩
  obtain ⟨a, fl, rfl, hf, so, hT, k⟩ := h
  have len := so.len
  have cl := conds_len fl
  refine q_asgL (el_lst ea_nil (by decide)) fun p0 H1 np0 e1 h1 => q_asgL (el_lst ea_nil (by decide)) fun os H2 nos e2 h2 => ?_
  have nos' : H os = none := fresh_back e1 nos
  refine s_while (fun m σ H' => ∃ (pl : List Nat) (pc : Addr) (us : List V) (u3 u4 : Option V), m = fl.length - pl.length ∧ pl.length ≤ fl.length ∧ us.length ≤ pl.length ∧ σ = [some (.ref a), some (.ref pc), some (.ref os), u3, u4] ∧ H' os = some (.lst us) ∧ Go tb lamQ H H' ∧ SqL K (Hd os H') pc (pl.map nv) ∧ StB fl pl)
    fl.length ⟨[], p0, [], _, _, rfl, Nat.zero_le _, Nat.le_refl _, rfl, h2, .of hT (e1.trans e2), ex_l (ex_in e2 nos) (sq_of h1), StB.start⟩ (fun m σ H' hw => ?_)
  obtain ⟨pl, pc, us, u3, u4, rfl, hpl, hul, rfl, hos, hg, hP, st⟩ := hw
  refine ⟨true, et_val ev_c, fun _ H4 e4 => ?_, fun z => by cases z⟩
  refine ⟨fun σ H' => ∃ (pl2 : List Nat) (pc : Addr) (us : List V) (u3 u4 : Option V), pl.length < pl2.length ∧ pl2.length ≤ fl.length ∧ us.length ≤ pl2.length ∧ σ = [some (.ref a), some (.ref pc), some (.ref os), u3, u4] ∧ H' os = some (.lst us) ∧ Go tb lamQ H H' ∧ SqL K (Hd os H') pc (pl2.map nv) ∧ StB fl pl2, fun σ2 H2 hN => ?_, ?_⟩
  · obtain ⟨pl2, pc, us, u3, u4, h0, h1, h2⟩ := hN
    exact ⟨_, by omega, pl2, pc, us, u3, u4, rfl, h1, h2⟩
  have hg4 := hg.ex e4
  have hos4 := e4 _ _ hos
  have hP4 : SqL K (Hd os H4) pc (pl.map nv) := ex_l (hd_ex e4) hP
  refine q_ixCall (Pd := fun vs H' => ∃ p, vs = [.ref p] ∧ FlAt K H' p (osheet fl pl)) (eap_consP (ep_opened (ev_var rfl) (ev_var rfl) (hf.keep hg4.keep) (ex_l ex_hd hP4) so) fun v H5 e5 hv => eap_of ea_nil fun H6 e6 => ?_) fun vs H5 e5 hv => ?_
  · obtain ⟨p, rfl, hp⟩ := hv
    exact ⟨p, rfl, hp.mono e6⟩
  obtain ⟨op, rfl, hO⟩ := hv
  have hg5 := hg4.ex e5
  refine ⟨op, osheet fl pl, rfl, hO, sok_open so pl, osheet_plain fl pl, hg5.tab, fun z r xa c H6 hz hzl hfar hg6 hr hxa => ⟨r, [.ref xa, .ref c], .ref xa, rfl, st_of hr, rfl, ?_⟩⟩
  rw [osheet_len] at hz
  have hgo := hg5.trans hg6
  have hos5 := e5 _ _ hos4
  have hos6 := hg6.ext _ _ hos5 (fun ps z => by cases z)
  have nxo : xa ≠ os := hfar _ _ hos5 (fun ps z => by cases z)
  have farx : far H xa := far_back hg5 hfar
  have hP6 : SqL K (Hd os H6) pc (pl.map nv) := (Keep.of_tab (extN_hd hg6.ext)).l _ _ (ex_l (hd_ex e5) hP4)
  refine q_appP hos6 (ev_var rfl) (ep_tup (Pd := fun vs _ => vs = [.ref pc, .ref xa]) (eap_of (ea_cons (ev_var rfl) (ea_cons (ev_var rfl) ea_nil)) fun _ _ => rfl) (fun vs H2 e => by rw [e]; show 2 ≤ 100000; decide)) (by omega) fun v H7 e7 hv => ?_
  obtain ⟨r2, vs2, Hr, rfl, rfl, er, nr, rfl⟩ := hv
  generalize hH7 : upd Hr r2 (.tup [.ref pc, .ref xa]) = H7 at e7
  have tr : SqT K H7 r2 [.ref pc, .ref xa] := st_of (by rw [← hH7, upd_same])
  have hos7 := e7 _ _ hos6
  have hg8 : Go tb lamQ H (upd H7 os (.lst (us ++ [.ref r2]))) := (hgo.ex e7).mut nos' hos7
  have hos8 : (upd H7 os (.lst (us ++ [.ref r2]))) os = some (.lst (us ++ [.ref r2])) := upd_same
  have hxa8 : (upd H7 os (.lst (us ++ [.ref r2]))) xa = some (.lst (z.map av)) := by rw [upd_ne nxo]; exact e7 _ _ hxa
  have tr8 : SqT K (upd H7 os (.lst (us ++ [.ref r2]))) r2 [.ref pc, .ref xa] := sqt_upd hos7 tr
  have hP8 : SqL K (Hd os (upd H7 os (.lst (us ++ [.ref r2])))) pc (pl.map nv) := by rw [hd_upd]; exact ex_l (hd_ex e7) hP6
  generalize upd H7 os (.lst (us ++ [.ref r2])) = H8 at hg8 hos8 hxa8 tr8 hP8
  have hx8 : Ams K H8 xa z := sq_of hxa8
  refine q_asgL (el_callL (ea_cons (ev_var rfl) (ea_cons (ev_var rfl) ea_nil)) fun H9 e9 Q q => ⟨a, xa, fl, z, rfl, hf.keep (hg8.ex e9).keep, hx8.mono e9, so, hz, q⟩) fun lc H9 nlc e9 hlc => ?_
  have nlo : lc ≠ os := fun z => by rw [z, hos8] at nlc; cases nlc
  refine q_when (et_eqN (P := (conds fl).filter (holds fl (CsM.fn z))) (R := pl) (ev_var rfl) (ev_var rfl) (sq_of hlc) (ex_l (ex_hd.trans e9) hP8)) (fun hb H10 e10 => ?_) (fun hb H10 e10 => ?_)
  · refine s_ret (ev_var rfl) fun H11 e11 => ?_
    have e8b := (e9.trans e10).trans e11
    exact k z us os r2 xa _ H11 hz (st.done hzl (of_decide_eq_true hb)) farx (hg8.ex e8b) (e8b _ _ hos8) (ex_t e8b tr8) (e8b _ _ hxa8)
  · have hne := of_decide_eq_false hb
    refine s_asg (v := .ref lc) (ev_var rfl) fun H11 e11 => ?_
    have e8b := (e9.trans e10).trans e11
    have fall := st.falls hzl hne
    have l2 := List.length_filter_le (holds fl (CsM.fn z)) (conds fl)
    refine ⟨_, lc, us ++ [.ref r2], _, _, fall, by omega, by rw [List.length_append, List.length_singleton]; omega, rfl, e8b _ _ hos8, hg8.ex e8b, sq_of ?_, st.next so.wf hzl⟩
    rw [hd_ne nlo]
    exact (e10.trans e11) _ _ hlc
def spFlatLeast (K : PySem.W.Frag) (tb : Addr) : Sp := fun vs H Q _ => ∃ (a : Addr) (fl : List Fm), vs = [.ref a] ∧ FlAt K H a fl ∧ SOk fl ∧ LamX.TabS H tb lamQ ∧
  ∀ (z : List Am) (p : Addr) (H' : Hp), z.length = fl.length → IsLeast fl (CsM.fn z) → far H p → Go tb lamQ H H' → H' p = some (.lst (z.map av)) → Q (.ref p) H'
theorem sc_flat_least : FnScope ["flat"] ["flat"] (defScope sFlatLeast) := ⟨rfl, rfl, rfl, by decide +kernel, rfl, by decide +kernel, by decide +kernel⟩
-- slots 0 flat
theorem c_flat_least (T : Top K mg) (C_stages_from_below : Callee P w K mg base "stages_from_below" ["flat"] 6 (spStagesB K tb)) : Callee P w K mg base "flat_least" ["flat"] 7 (spFlatLeast K tb) := by
  refine ok_of (N := ["flat"]) T (List.mem_of_getElem? (i := 28) rfl) sc_flat_least (fun _ _ _ _ _ _ us hl => match us, hl with | [_], _ => rfl) (fun vs H Q E h => ?len) (fun cdv A outer s H vs Q E f hr h => ?_)
  case len => first | (obtain ⟨_, rfl, _⟩ := h; rfl) | (obtain ⟨_, _, rfl, _⟩ := h; rfl) | (obtain ⟨_, _, _, rfl, _⟩ := h; rfl) | (obtain ⟨_, _, _, _, rfl, _⟩ := h; rfl) | (obtain ⟨_, _, _, _, _, rfl, _⟩ := h; rfl) | (obtain ⟨_, _, _, _, _, _, rfl, _⟩ := h; rfl) | (obtain ⟨_, _, _, _, _, _, _, rfl, _⟩ := h; rfl) | (obtain ⟨_, _, _, _, _, _, _, _, rfl, _⟩ := h; rfl) | (obtain ⟨_, _, _, _, _, _, _, _, _, rfl, _⟩ := h; rfl) | (obtain ⟨_, _, _, _, _, _, _, _, _, _, rfl, _⟩ := h; rfl) | (obtain ⟨_, _, _, _, _, _, _, _, _, _, _, rfl, _⟩ := h; rfl) | (obtain ⟨_, _, _, _, _, _, _, _, _, _, _, _, rfl, _⟩ := h; rfl)
  refine ⟨_, (pss_one (ps_ret (x_ixT K rfl (x_ixL K rfl (x_call C_stages_from_below hr (pa_cons (pv 0) pa_nil)) (pe_un un_neg pe_int)) pe_int))), ?_⟩
  obtain ⟨a, fl, rfl, hf, so, hT, k⟩ := h
  refine ⟨.ref a, rfl, a, fl, rfl, hf, so, hT, fun z us p r xa y H' hz hzl hfar hg hp hr hxa => ?_⟩
  refine ⟨1, rfl, p, us ++ [.ref r], -1, .ref r, rfl, rfl, sq_of hp, atI_last _ _, ?_⟩
  exact ⟨r, [y, .ref xa], 1, .ref xa, rfl, rfl, hr, atI_nat (j := 1) rfl, k z xa H' hz hzl hfar hg hxa⟩
end
end CsW

set_option Elab.async false
set_option linter.all false
set_option maxRecDepth 100000
set_option maxHeartbeats 4000000
namespace CsW
open PySem PySem.Spec PyProof.Rows L2 Evl CsTop CsM
section
variable {K : PySem.W.Frag} {σ : L2.St} {H H' : Hp} {ta tb te : TE} {t : TT} {D : Ends} {tz tu : TS}
/-- a comprehension over a list that a call has just made -/
theorem el_lcMapP {α : Type} {l : List α} {tl : TE} {g : TG} {vs : List Nat} (gv : α → V) {Pd : V → Hp → Prop} (h : EvP tl σ H Pd) (hz : l.length ≤ 40000)
    (hp : ∀ v H1, Ex H H1 → Pd v H1 → ∃ a xs, v = V.ref a ∧ SqL K H1 a xs ∧ xs.length = l.length ∧ ∀ (i : Nat) (x : V) (y : α), xs[i]? = some x → l[i]? = some y → ∃ σ2, (∀ H2, Ex H1 H2 → ∀ Q : L2.St → Hp → Prop, Q σ2 H2 → g x (wipe σ vs) H2 Q) ∧ wipe σ2 vs = wipe σ vs ∧ Ev te σ2 H1 (gv y)) :
    EvL (tLc (iList K tl) g tYes te vs) σ H (l.map gv) := fun H0 e Q q => h H0 e _ fun v H1 e1 hv => by
  obtain ⟨a, xs, rfl, h1, h2, h3⟩ := hp v H1 (e.trans e1) hv
  have z : EvL (tLc (iList K (tC (.ref a))) g tYes te vs) σ H1 (l.map gv) := el_lcMap gv ev_c h1 h2 hz h3
  exact z H1 (Ex.refl _) _ fun p H2 hn e2 hh => q p H2 (fresh_back e1 hn) (e1.trans e2) hh
theorem av_none (a : Am) : decide (av a = .non) = decide (a = none) := by cases a <;> simp [av]
theorem nav_none (a : Am) : (!decide (av a = .non)) = decide (a ≠ none) := by cases a <;> simp [av]
theorem et_some {a : Am} (h : Ev ta σ H (av a)) : EvT (tTest (tOp (fun x y H Q => y = .non ∧ Q (.bl (!decide (x = .non))) H) ta (tC .non))) σ H (decide (a ≠ none)) := et_is (et_notN h) (nav_none a)
theorem et_none {a : Am} (h : Ev ta σ H (av a)) : EvT (tTest (tOp (fun x y H Q => y = .non ∧ Q (.bl (decide (x = .non))) H) ta (tC .non))) σ H (decide (a = none)) := et_is (et_isN h) (av_none a)
/-- the ranks put down so far -/
theorem put_fn {h : List Am} {P : List Nat} {v : Am} {i c : Nat} {z : List Am} (hz : ∀ j, CsM.fn z j = if j ∈ P.take i then v else CsM.fn h j) (e : P[i]? = some c) (hc : c < z.length) (j : Nat) : CsM.fn (z.set c v) j = if j ∈ P.take (i + 1) then v else CsM.fn h j := by
  rw [CsM.fn_set hc, take_snoc e]
  by_cases d : j = c
  · subst d; simp
  · rw [if_neg d, hz j]
    by_cases d2 : j ∈ P.take i
    · rw [if_pos d2, if_pos (List.mem_append_left _ d2)]
    · rw [if_neg d2, if_neg]
      intro y
      rcases List.mem_append.mp y with y | y
      · exact d2 y
      · exact d (List.mem_singleton.mp y)
theorem fresh_take {pl : List Fm} {h : Nat → Am} {i : Nat} (b : Bool) (hb : b = (decide (h i = none) && fits h (fat pl i))) :
    ((List.range (i + 1)).filter fun i => decide (h i = none) && fits h (fat pl i)) = ((List.range i).filter fun i => decide (h i = none) && fits h (fat pl i)) ++ (if b = true then [i] else []) := by
  rw [List.range_succ, List.filter_append]
  congr 1
  rw [hb]
  cases c : (decide (h i = none) && fits h (fat pl i)) with
  | true => simp [c]
  | false => simp [c]
end
section
variable {P : Program} {w : World} {K : PySem.W.Frag} {mg : Str → Option Value} {base : Heap}
def spHeld (K : PySem.W.Frag) : Sp := fun vs H Q _ => ∃ (a : Addr) (pl : List Fm), vs = [.ref a] ∧ FlAt K H a pl ∧ SOk pl ∧ ∀ h : List Am, h.length = pl.length → HR pl (CsM.fn h) pl.length → Closed pl (CsM.fn h) → RetL (h.map av) H Q
theorem sc_held_ranks : FnScope ["plain", "ranks", "rank", "fresh", "cell", "formula", "held", "fits", "target", "shift"] ["plain"] (defScope sHeldRanks) := ⟨rfl, rfl, rfl, by decide +kernel, rfl, by decide +kernel, by decide +kernel⟩
-- slots 0 plain, 1 ranks, 2 rank, 3 fresh, 4 cell, 5 formula, 6 held, 7 fits, 8 target, 9 shift
theorem c_held_ranks (T : Top K mg) (C_arcs_of : Callee P w K mg base "arcs_of" ["flat", "cell"] 1 (spArcsOf K)) : Callee P w K mg base "held_ranks" ["plain"] 3 (spHeld K) := by
  refine ok_of (N := ["plain", "ranks", "rank", "fresh", "cell", "formula", "held", "fits", "target", "shift"]) T (List.mem_of_getElem? (i := 19) rfl) sc_held_ranks (fun _ _ _ _ _ _ us hl => match us, hl with | [_], _ => rfl) (fun vs H Q E h => ?len) (fun cdv A outer s H vs Q E f hr h => ?_)
  case len => first | (obtain ⟨_, rfl, _⟩ := h; rfl) | (obtain ⟨_, _, rfl, _⟩ := h; rfl) | (obtain ⟨_, _, _, rfl, _⟩ := h; rfl) | (obtain ⟨_, _, _, _, rfl, _⟩ := h; rfl) | (obtain ⟨_, _, _, _, _, rfl, _⟩ := h; rfl) | (obtain ⟨_, _, _, _, _, _, rfl, _⟩ := h; rfl) | (obtain ⟨_, _, _, _, _, _, _, rfl, _⟩ := h; rfl) | (obtain ⟨_, _, _, _, _, _, _, _, rfl, _⟩ := h; rfl) | (obtain ⟨_, _, _, _, _, _, _, _, _, rfl, _⟩ := h; rfl) | (obtain ⟨_, _, _, _, _, _, _, _, _, _, rfl, _⟩ := h; rfl) | (obtain ⟨_, _, _, _, _, _, _, _, _, _, _, rfl, _⟩ := h; rfl) | (obtain ⟨_, _, _, _, _, _, _, _, _, _, _, _, rfl, _⟩ := h; rfl)
  refine ⟨_, (pss_cons (ps_set (i := 1) sc_held_ranks.nd rfl (.inr rfl) (pe_lc (own := [("formula", 5)]) (g := gName 5) (tt := tYes) rfl sc_held_ranks.nd (x_piL K rfl (pv 0)) (blkOk_by (N := ["plain", "ranks", "rank", "fresh", "cell", "formula", "held", "fits", "target", "shift"]) (sc := defScope sHeldRanks) (by decide +kernel)) (fun _ _ _ _ _ => (pg_name (i := 5) sc_held_ranks.nd rfl (.inl rfl))) (fun _ _ _ _ _ => pts_nil) (fun _ _ _ _ _ => (pe_ifExp ((pw_and (pt_cmpR op_eq (x_ixT K rfl (pv 5) pe_int) pe_str (nomark _)) (pw_and1 (pt_cmpR op_notN (x_ixT K rfl (pv 5) pe_int) pe_non (nomark _))))).pt pe_int pe_non))))
      (pss_cons (ps_for PassesOwn.never rfl (pi_range2 rfl T.range (pa_cons pe_int (pa_cons (pe_op op_add (x_len K rfl rfl T.len (pa_cons (pv 0) pa_nil)) pe_int) pa_nil))) (pg_name (i := 2) sc_held_ranks.nd rfl (.inl rfl))
        (pss_cons (ps_set (i := 3) sc_held_ranks.nd rfl (.inl rfl) (pe_lst pa_nil))
        (pss_cons (ps_for PassesOwn.never rfl (x_enum K rfl rfl T.enumerate (pa_cons (pv 0) pa_nil)) (x_tup K rfl rfl (pgs_cons (pg_name (i := 4) sc_held_ranks.nd rfl (.inl rfl)) (pgs_cons (pg_name (i := 5) sc_held_ranks.nd rfl (.inl rfl)) pgs_nil)))
          (pss_cons (ps_setLc (i := 6) (own := [("target", 8), ("shift", 9)]) (g := gTup K 2 (gCons (gName 8) (gCons (gName 9) (gNil)))) (tt := tYes) rfl sc_held_ranks.nd rfl rfl (sw_true rfl rfl rfl (by decide +kernel)) (x_piL K rfl (x_call C_arcs_of hr (pa_cons (pv 0) (pa_cons (pv 4) pa_nil)))) (blkOk_by (N := ["plain", "ranks", "rank", "fresh", "cell", "formula", "held", "fits", "target", "shift"]) (sc := defScope sHeldRanks) (by decide +kernel)) (fun _ _ _ _ _ => (x_tup K rfl rfl (pgs_cons (pg_name (i := 8) sc_held_ranks.nd rfl (.inl rfl)) (pgs_cons (pg_name (i := 9) sc_held_ranks.nd rfl (.inl rfl)) pgs_nil)))) (fun _ _ _ _ _ => pts_nil) (fun _ _ _ _ _ => (pe_cmpR op_notN (x_ixL K rfl (pv 1) (pv 8)) pe_non (nomark _))))
          (pss_cons (ps_set (i := 7) sc_held_ranks.nd rfl (.inl rfl) (pe_ifExp (pt_cmpR op_eq (x_ixT K rfl (pv 5) pe_int) pe_str (nomark _)) (x_any K rfl rfl rfl T.any (pa_cons (pv 6) pa_nil)) (pe_and (pe_cmpR op_eq (x_ixT K rfl (pv 5) pe_int) pe_str (nomark _)) (pe_one (x_all K rfl rfl rfl T.all (pa_cons (pv 6) pa_nil))))))
          (pss_one (ps_if ((pw_and (pt_cmpR op_isN (x_ixL K rfl (pv 1) (pv 4)) pe_non (nomark _)) (pw_and1 (pt_val (pv 7))))).pt
            (pss_one (x_app K rfl (pe_bm PySem.F.plainAttrs_list PySem.F.slot_list_append PySem.F.type_list_append mt_append (pv 3) (pa_cons (pv 4) pa_nil))))
            pss_nil)))))
        (pss_one (ps_for PassesOwn.never rfl (x_piL K rfl (pv 3)) (pg_name (i := 4) sc_held_ranks.nd rfl (.inl rfl))
          (pss_one (ps_asg (pv 2) (pg_sub (pv 1) (pv 4) set_list))))))))
      (pss_one (ps_ret (pv 1))))), ?_⟩
  obtain ⟨a, pl, rfl, hf, so, k⟩ := h
  obtain ⟨vs, v1, v2, v3⟩ := hf.at_
  have len := so.len
  refine q_asgL (xs := (hstart pl).map av) ?_ fun o H1 no e1 h1 => ?_
  · unfold hstart; rw [List.map_map]
    refine el_lcMap _ (ev_var rfl) v1 v2 (by omega) fun i u f hu hfi => ?_
    obtain ⟨r, h1, h2⟩ := v3 i f hfi
    rw [hu] at h1; cases h1
    refine ⟨_, fun H1 e Q q => q, rfl, ?_⟩
    cases f with
    | amt m =>
      have h2' : SqT K H r [.str (Str.ofString "amount"), av m] := h2
      refine ev_if (et_and (et_am (g := .amt m) (ev_kind (ev_var rfl) h2)) fun _ => et_some (a := m) (ev_ixT (i := 1) (ev_var rfl) ev_c h2' rfl)) (fun hb => ?_) (fun hb => ?_)
      · cases m with
        | none => cases hb
        | some m => exact ev_c
      · cases m with
        | none => exact ev_c
        | some m => cases hb
    | lo l => exact ev_if (et_and (et_am (g := .lo l) (ev_kind (ev_var rfl) h2)) (b := false) fun hb => by cases hb) (fun hb => by cases hb) fun _ => ev_c
    | hi l => exact ev_if (et_and (et_am (g := .hi l) (ev_kind (ev_var rfl) h2)) (b := false) fun hb => by cases hb) (fun hb => by cases hb) fun _ => ev_c
    | wh j m t => exact ev_if (et_and (et_am (g := .wh j m t) (ev_kind (ev_var rfl) h2)) (b := false) fun hb => by cases hb) (fun hb => by cases hb) fun _ => ev_c
  refine q_forR2 (lo := 1) (n := ((pl.length + 1 : Nat) : Int)) (ea_cons ev_c (ea_cons (ev_op (ev_len (ev_var rfl) (ex_l e1 v1)) ev_c (by rw [v2]; exact rv_I0)) ea_nil)) ⟨by omega, by omega, by omega, by omega⟩
    (fun r σ H' => ∃ (h : List Am) (u2 u3 u4 u5 u6 u7 u8 u9 : Option V), σ = [some (.ref a), some (.ref o), u2, u3, u4, u5, u6, u7, u8, u9] ∧ H' o = some (.lst (h.map av)) ∧ Ex H (Hd o H') ∧ h.length = pl.length ∧ HR pl (CsM.fn h) r ∧ (Closed pl (CsM.fn h) ∨ r ≤ nums pl.length (CsM.fn h)))
    (fun H2 e2 => ⟨_, _, _, _, _, _, _, _, _, rfl, e2 _ _ h1, ex_in (e1.trans e2) no, List.length_map .., HR.start, .inr (Nat.zero_le _)⟩) (fun r σ H' hr hp => ?_) (fun σ H' hp => ?_)
  · obtain ⟨h, u2, u3, u4, u5, u6, u7, u8, u9, rfl, ho, eb, hl, hR, hC⟩ := hp
    have er : (1 : Int) + (r : Int) = ((r + 1 : Nat) : Int) := by omega
    rw [er]
    refine q_asgL (el_lst ea_nil (by decide)) fun f H2 nf e2 h2 => ?_
    have nfo : f ≠ o := fun z => by rw [z, ho] at nf; cases nf
    have nHf : Hd o H' f = none := by rw [hd_ne nfo]; exact nf
    have eH2 : Ex H (Hd f (Hd o H2)) := eb.trans (ex_in (hd_ex e2) nHf)
    refine q_forE (ea_cons (ev_var rfl) ea_nil) (ex_l ((eH2.trans ex_hd).trans ex_hd) v1) (fun i σ H' => ∃ (u4 u5 u6 u7 u8 u9 : Option V), σ = [some (.ref a), some (.ref o), some (.int ((r + 1 : Nat) : Int)), some (.ref f), u4, u5, u6, u7, u8, u9] ∧ H' o = some (.lst (h.map av)) ∧ H' f = some (.lst (((List.range i).filter fun i => decide (CsM.fn h i = none) && fits (CsM.fn h) (fat pl i)).map nv)) ∧ Ex H (Hd f (Hd o H')))
      (fun H3 e3 => ⟨_, _, _, _, _, _, rfl, e3 _ _ (e2 _ _ ho), e3 _ _ h2, eH2.trans (hd_ex (hd_ex e3))⟩) (fun i σ H' _ p => ?_) (fun i y σ H' p hy hp np => ?_) (fun σ H' hp => ?_)
    · obtain ⟨_, _, _, _, _, _, _, _, _, e⟩ := p
      exact ex_l ((e.trans ex_hd).trans ex_hd) v1
    · clear u4 u5 u6 u7 u8 u9
      obtain ⟨u4, u5, u6, u7, u8, u9, rfl, ho, hf2, eb⟩ := hp
      have hi : i < pl.length := by have := (List.getElem?_eq_some_iff.mp hy).1; omega
      have ef := CsM.at_fat hi
      obtain ⟨rr, hr2, hR2⟩ := v3 i _ ef
      rw [hy] at hr2; cases hr2
      have wf := so.wf.at ef
      have al := so.al _ (List.mem_of_getElem? ef)
      refine g_two (st_of upd_same) ?_
      have nop : o ≠ p := ne_of_none ho np
      have nfp : f ≠ p := ne_of_none hf2 np
      have ho3 : (upd H' p (.tup [.int (i : Nat), .ref rr])) o = some (.lst (h.map av)) := by rw [upd_ne nop]; exact ho
      have hf3 : (upd H' p (.tup [.int (i : Nat), .ref rr])) f = some (.lst (((List.range i).filter fun i => decide (CsM.fn h i = none) && fits (CsM.fn h) (fat pl i)).map nv)) := by rw [upd_ne nfp]; exact hf2
      have eb3 : Ex H (Hd f (Hd o (upd H' p (.tup [.int (i : Nat), .ref rr])))) := eb.trans (hd_ex (hd_ex (Ex.new np)))
      generalize upd H' p (.tup [.int (i : Nat), .ref rr]) = H3 at ho3 hf3 eb3
      have e03 := (eb3.trans ex_hd).trans ex_hd
      refine q_asgL (el_lcMapP (l := arcsF (fat pl i)) (fun p => V.bl (decide (CsM.fn h p.1 ≠ none))) (ep_arcs (c := i) (ev_var rfl) (ev_var rfl) (hf.mono e03) hi) (by omega) fun v H4 e4 hv => ?_) fun hd H4 nhd e4 hhd => ?_
      · obtain ⟨p2, us, rfl, np2, hp2, hL⟩ := hv
        refine ⟨p2, us, rfl, sq_of hp2, hL.1, fun q x y hx hy2 => ?_⟩
        obtain ⟨x', x1, r2, rfl, x2⟩ := hL.2 q y hy2
        rw [hx] at x1; cases x1
        refine ⟨_, fun H5 e5 Q qq => g_two (ex_t e5 x2) qq, rfl, ?_⟩
        refine ev_is (ev_notN (ev_am (ev_var rfl) (ev_var rfl) (sq_of (e4 _ _ ho3)) ?_)) (congrArg V.bl (nav_none _))
        have hm := List.mem_of_getElem? hy2
        rw [hl]
        cases hg : fat pl i with
        | amt m => rw [hg] at hm; cases hm
        | lo l => rw [hg] at hm wf; exact wf.2 _ hm
        | hi l => rw [hg] at hm wf; exact wf.2 _ hm
        | wh j m t =>
          rw [hg] at hm wf
          have e3 := List.mem_singleton.mp hm
          rw [e3]; exact wf.2
      have eHd : (arcsF (fat pl i)).map (fun p => V.bl (decide (CsM.fn h p.1 ≠ none))) = ((arcsF (fat pl i)).map fun p => decide (CsM.fn h p.1 ≠ none)).map V.bl := by rw [List.map_map]; rfl
      rw [eHd] at hhd
      have e04 := e03.trans e4
      have R4 := hR2.mono e04
      refine q_asg (v := .bl (fits (CsM.fn h) (fat pl i))) (ev_if (et_lo (g := fat pl i) (ev_kind (ev_var rfl) R4)) (fun hb => ?_) (fun hb => ?_)) fun H5 e5 => ?_
      · refine ev_is (ev_anyR (ev_var rfl) (sq_of hhd)) (congrArg V.bl ?_)
        cases hg : fat pl i with
        | amt m => rw [hg] at hb; cases hb
        | lo l => unfold fits; rw [List.any_map]; rfl
        | hi l => rw [hg] at hb; cases hb
        | wh j m t => rw [hg] at hb; cases hb
      · refine ev_is (ev_andV (a := isHi (fat pl i)) (b := ((arcsF (fat pl i)).map fun p => decide (CsM.fn h p.1 ≠ none)).all id) (ev_is (ev_op (ev_kind (ev_var rfl) R4) ev_c (rv_eq rfl)) (congrArg V.bl ?_)) fun _ => ev_allR (ev_var rfl) (sq_of hhd)) (congrArg V.bl ?_)
        · have e6 : decide (V.str (kind (fat pl i)) = V.str (Str.ofString "greatest")) = decide (kind (fat pl i) = Str.ofString "greatest") := by simp
          exact e6.trans (k_hi _)
        · cases hg : fat pl i with
          | amt m => rfl
          | lo l => rw [hg] at hb; cases hb
          | hi l => unfold fits; show (true && _) = _; rw [Bool.true_and, List.all_map]; rfl
          | wh j m t => rfl
      have fr := fresh_take (pl := pl) (h := CsM.fn h) (i := i) _ rfl
      have hil : i < h.length := by rw [hl]; exact hi
      refine s_when (b := decide (CsM.fn h i = none) && fits (CsM.fn h) (fat pl i)) (et_and (et_none (ev_am (ev_var rfl) (ev_var rfl) (sq_of ((e4.trans e5) _ _ ho3)) hil)) fun _ => et_val (ev_var rfl)) (fun hb H6 e6 => ?_) (fun hb H6 e6 => ?_)
      · have e36 := (e4.trans e5).trans e6
        refine s_app (e36 _ _ hf3) (ev_var rfl) (ev_var rfl) ?_ fun H7 e7 => ?_
        · have z1 := List.length_filter_le (fun i => decide (CsM.fn h i = none) && fits (CsM.fn h) (fat pl i)) (List.range i)
          rw [List.length_range] at z1
          rw [List.length_map]; omega
        · refine ⟨_, _, _, _, _, _, rfl, by rw [upd_ne (Ne.symm nfo)]; exact (e36.trans e7) _ _ ho3, ?_, ?_⟩
          · rw [upd_same, fr, if_pos hb, List.map_append]; rfl
          · rw [hd_new nfo, hd_upd]; exact eb3.trans (hd_ex (hd_ex (e36.trans e7)))
      · have e36 := (e4.trans e5).trans e6
        refine ⟨_, _, _, _, _, _, rfl, e36 _ _ ho3, ?_, eb3.trans (hd_ex (hd_ex e36))⟩
        rw [fr, if_neg (by rw [hb]; decide), List.append_nil]
        exact e36 _ _ hf3
    · clear u4 u5 u6 u7 u8 u9
      obtain ⟨u4, u5, u6, u7, u8, u9, rfl, ho, hf2, eb⟩ := hp
      rw [v2] at hf2
      have hf2 : H' f = some (.lst ((fresh pl (CsM.fn h)).map nv)) := hf2
      refine s_forLn (ev_var rfl) (sq_of hf2) (fun i σ H' => ∃ (z : List Am) (u4 u5 u6 u7 u8 u9 : Option V), σ = [some (.ref a), some (.ref o), some (.int ((r + 1 : Nat) : Int)), some (.ref f), u4, u5, u6, u7, u8, u9] ∧ H' o = some (.lst (z.map av)) ∧ H' f = some (.lst ((fresh pl (CsM.fn h)).map nv)) ∧ Ex H (Hd f (Hd o H')) ∧ z.length = pl.length ∧ ∀ j, CsM.fn z j = if j ∈ (fresh pl (CsM.fn h)).take i then some (r + 1) else CsM.fn h j)
        (fun H3 e3 => ⟨h, _, _, _, _, _, _, rfl, e3 _ _ ho, e3 _ _ hf2, eb.trans (hd_ex (hd_ex e3)), hl, fun j => by rw [if_neg (by simp)]⟩) (fun i σ H' _ p => ?_) (fun i y σ H' hy hp => ?_) (fun σ H' hp => ?_)
      · obtain ⟨_, _, _, _, _, _, _, _, _, h, _⟩ := p
        exact sq_of h
      · clear u4 u5 u6 u7 u8 u9 ho hf2 eb
        obtain ⟨z, u4, u5, u6, u7, u8, u9, rfl, ho, hf2, eb, zl, hz⟩ := hp
        rw [List.getElem?_map] at hy
        cases ec : (fresh pl (CsM.fn h))[i]? with
        | none => rw [ec] at hy; cases hy
        | some c =>
          rw [ec] at hy; cases hy
          obtain ⟨g, eg, _, _⟩ := fresh_mem.mp (List.mem_of_getElem? ec)
          have hc : c < z.length := by rw [zl]; exact CsM.lt_of eg
          refine s_setL (v := av (some (r + 1))) (j := c) ho (ev_var rfl) (ev_var rfl) (ev_var rfl) (by rw [List.length_map]; exact hc) fun H3 e3 => ?_
          refine ⟨z.set c (some (r + 1)), _, _, _, _, _, _, rfl, by rw [upd_same, map_set_av], by rw [upd_ne nfo]; exact e3 _ _ hf2, by rw [hd_upd]; exact eb.trans (hd_ex (hd_ex e3)), by rw [List.length_set]; exact zl, put_fn hz ec hc⟩
      · clear u4 u5 u6 u7 u8 u9 ho hf2 eb
        obtain ⟨z, u4, u5, u6, u7, u8, u9, rfl, ho, hf2, eb, zl, hz⟩ := hp
        rw [List.length_map, List.take_of_length_le (Nat.le_refl _)] at hz
        obtain ⟨n1, n2⟩ := hR.next hC hz
        exact ⟨z, _, _, _, _, _, _, _, _, rfl, ho, eb.trans ex_hd, zl, n1, n2⟩
  · obtain ⟨h, u2, u3, u4, u5, u6, u7, u8, u9, rfl, ho, eb, hl, hR, hC⟩ := hp
    have er : (((pl.length + 1 : Nat) : Int) - 1).toNat = pl.length := by omega
    rw [er] at hR hC
    exact s_ret (ev_var rfl) fun H2 e2 => k h hl hR (closed_of hC) o H2 no (eb.trans (ex_hd.trans e2)) (e2 _ _ ho)
def spIsLess : Sp := fun vs H Q _ => ∃ (a : Am) (o : Nat), vs = [av a, .int o] ∧ RetV (.bl (match a with | none => false | some q => decide (q < o))) H Q
theorem sc_is_less : FnScope ["rank", "other"] ["rank", "other"] (defScope sIsLess) := ⟨rfl, rfl, rfl, by decide +kernel, rfl, by decide +kernel, by decide +kernel⟩
-- slots 0 rank, 1 other
theorem c_is_less (T : Top K mg) : Callee P w K mg base "is_less" ["rank", "other"] 1 spIsLess := by
  refine ok_of (N := ["rank", "other"]) T (List.mem_of_getElem? (i := 20) rfl) sc_is_less (fun _ _ _ _ _ _ us hl => match us, hl with | [_, _], _ => rfl) (fun vs H Q E h => ?len) (fun cdv A outer s H vs Q E f hr h => ?_)
  case len => first | (obtain ⟨_, rfl, _⟩ := h; rfl) | (obtain ⟨_, _, rfl, _⟩ := h; rfl) | (obtain ⟨_, _, _, rfl, _⟩ := h; rfl) | (obtain ⟨_, _, _, _, rfl, _⟩ := h; rfl) | (obtain ⟨_, _, _, _, _, rfl, _⟩ := h; rfl) | (obtain ⟨_, _, _, _, _, _, rfl, _⟩ := h; rfl) | (obtain ⟨_, _, _, _, _, _, _, rfl, _⟩ := h; rfl) | (obtain ⟨_, _, _, _, _, _, _, _, rfl, _⟩ := h; rfl) | (obtain ⟨_, _, _, _, _, _, _, _, _, rfl, _⟩ := h; rfl) | (obtain ⟨_, _, _, _, _, _, _, _, _, _, rfl, _⟩ := h; rfl) | (obtain ⟨_, _, _, _, _, _, _, _, _, _, _, rfl, _⟩ := h; rfl) | (obtain ⟨_, _, _, _, _, _, _, _, _, _, _, _, rfl, _⟩ := h; rfl)
  refine ⟨_, (pss_one (ps_ret (pe_and (pe_cmpR op_notN (pv 0) pe_non (nomark _)) (pe_one (pe_cmpR op_lt (pv 0) (pv 1) (nomark _)))))), ?_⟩
  obtain ⟨a, o, rfl, k⟩ := h
  cases a with
  | none => exact s_ret (ev_andV (a := false) (b := false) (ev_is (ev_notN (x := .non) (ev_var rfl)) (by simp)) fun hb => by cases hb) k
  | some q =>
    refine s_ret (ev_is (ev_andV (a := true) (b := decide ((q : Int) < (o : Int))) (ev_is (ev_notN (x := .int q) (ev_var rfl)) (by simp)) fun hb => ev_op (ev_var rfl) (ev_var rfl) rv_I0) (congrArg V.bl ?_)) k
    show (true && decide ((q : Int) < (o : Int))) = decide (q < o)
    rw [Bool.true_and]
    by_cases c : q < o
    · rw [decide_eq_true c, decide_eq_true (by omega)]
    · rw [decide_eq_false c, decide_eq_false (by omega)]
/-- the place that held_arc hands back -/
def Arc1 (h : Nat → Am) (r : Nat) (l : Arcs) (q : Nat) : Prop := ∃ p q', l[q]? = some p ∧ h p.1 = some q' ∧ q' < r
def spHeldArc (K : PySem.W.Frag) : Sp := fun vs H Q _ => ∃ (a b : Addr) (l : Arcs) (h : List Am) (r : Nat), vs = [.ref a, .ref b, .int r] ∧ FmR K H a (.lo l) ∧ Ams K H b h ∧ (∀ p ∈ l, p.1 < h.length) ∧ (∃ q, Arc1 (CsM.fn h) r l q) ∧ ∀ q, Arc1 (CsM.fn h) r l q → RetV (nv q) H Q
theorem sc_held_arc : FnScope ["formula", "held", "rank", "place", "target", "shift"] ["formula", "held", "rank"] (defScope sHeldArc) := ⟨rfl, rfl, rfl, by decide +kernel, rfl, by decide +kernel, by decide +kernel⟩
-- slots 0 formula, 1 held, 2 rank, 3 place, 4 target, 5 shift
theorem c_held_arc (T : Top K mg) (C_is_less : Callee P w K mg base "is_less" ["rank", "other"] 1 spIsLess) : Callee P w K mg base "held_arc" ["formula", "held", "rank"] 2 (spHeldArc K) := by
  refine ok_of (N := ["formula", "held", "rank", "place", "target", "shift"]) T (List.mem_of_getElem? (i := 22) rfl) sc_held_arc (fun _ _ _ _ _ _ us hl => match us, hl with | [_, _, _], _ => rfl) (fun vs H Q E h => ?len) (fun cdv A outer s H vs Q E f hr h => ?_)
  case len => first | (obtain ⟨_, rfl, _⟩ := h; rfl) | (obtain ⟨_, _, rfl, _⟩ := h; rfl) | (obtain ⟨_, _, _, rfl, _⟩ := h; rfl) | (obtain ⟨_, _, _, _, rfl, _⟩ := h; rfl) | (obtain ⟨_, _, _, _, _, rfl, _⟩ := h; rfl) | (obtain ⟨_, _, _, _, _, _, rfl, _⟩ := h; rfl) | (obtain ⟨_, _, _, _, _, _, _, rfl, _⟩ := h; rfl) | (obtain ⟨_, _, _, _, _, _, _, _, rfl, _⟩ := h; rfl) | (obtain ⟨_, _, _, _, _, _, _, _, _, rfl, _⟩ := h; rfl) | (obtain ⟨_, _, _, _, _, _, _, _, _, _, rfl, _⟩ := h; rfl) | (obtain ⟨_, _, _, _, _, _, _, _, _, _, _, rfl, _⟩ := h; rfl) | (obtain ⟨_, _, _, _, _, _, _, _, _, _, _, _, rfl, _⟩ := h; rfl)
  refine ⟨_, (pss_cons (ps_for PassesOwn.never rfl (x_enum K rfl rfl T.enumerate (pa_cons (x_ixT K rfl (pv 0) pe_int) pa_nil)) (x_tup K rfl rfl (pgs_cons (pg_name (i := 3) sc_held_arc.nd rfl (.inl rfl)) (pgs_cons (x_tup K rfl rfl (pgs_cons (pg_name (i := 4) sc_held_arc.nd rfl (.inl rfl)) (pgs_cons (pg_name (i := 5) sc_held_arc.nd rfl (.inl rfl)) pgs_nil))) pgs_nil)))
        (pss_one (ps_if (pt_val (x_call C_is_less hr (pa_cons (x_ixL K rfl (pv 1) (pv 4)) (pa_cons (pv 2) pa_nil))))
          (pss_one (ps_ret (pv 3)))
          pss_nil)))
      (pss_one (ps_ret pe_non))), ?_⟩
  obtain ⟨a, b, l, h, r, rfl, hf, hh, hl, ⟨q0, hq0⟩, k⟩ := h
  obtain ⟨bb, t1, t2⟩ := id hf
  obtain ⟨as, a1, a2, a3⟩ := t2.at_
  refine q_forE (ea_cons (ev_ixT (i := 1) (ev_var rfl) ev_c t1 rfl) ea_nil) a1 (fun q σ H' => ∃ (u3 u4 u5 : Option V), σ = [some (.ref a), some (.ref b), some (.int (r : Nat)), u3, u4, u5] ∧ Ex H H' ∧ ∀ j, j < q → ¬ Arc1 (CsM.fn h) r l j)
    (fun H1 e1 => ⟨_, _, _, rfl, e1, fun j hj => by omega⟩) (fun q σ H' _ z => ?_) (fun q y σ H' pt hy hq npt => ?_) (fun σ H' hq => ?_)
  · obtain ⟨_, _, _, _, e, _⟩ := z
    exact ex_l e a1
  · obtain ⟨u3, u4, u5, rfl, eb, hn⟩ := hq
    have hql : q < l.length := by have := (List.getElem?_eq_some_iff.mp hy).1; omega
    obtain ⟨⟨t, s⟩, eq⟩ := CsM.at_of hql
    obtain ⟨r2, t3, t4⟩ := a3 q _ eq
    rw [hy] at t3; cases t3
    have e2 : Ex H (upd H' pt (.tup [.int (q : Nat), .ref r2])) := eb.trans (Ex.new npt)
    refine g_nest (st_of upd_same) (ex_t e2 t4) ?_
    generalize upd H' pt (.tup [.int (q : Nat), .ref r2]) = H2 at e2
    have ht : t < h.length := hl _ (List.mem_of_getElem? eq)
    refine s_when (et_val (ev_callV (z := .bl (match CsM.fn h t with | none => false | some q => decide (q < r))) (ea_cons (ev_am (ev_var rfl) (ev_var rfl) (hh.mono e2) ht) (ea_cons (ev_var rfl) ea_nil)) fun H3 e3 Q qq => ⟨CsM.fn h t, r, rfl, qq⟩)) (fun hb H3 e3 => ?_) (fun hb H3 e3 => ?_)
    · refine s_ret (ev_var rfl) fun H4 e4 => k q ?_ H4 ((e2.trans e3).trans e4)
      cases ex : CsM.fn h t with
      | none => rw [ex] at hb; cases hb
      | some q' => rw [ex] at hb; exact ⟨(t, s), q', eq, ex, of_decide_eq_true hb⟩
    · refine ⟨_, _, _, rfl, e2.trans e3, fun j hj => ?_⟩
      by_cases c : j < q
      · exact hn j c
      · have ej : j = q := by omega
        subst ej
        rintro ⟨p, q', z1, z2, z3⟩
        rw [eq] at z1; cases z1
        have z2 : CsM.fn h t = some q' := z2
        rw [z2] at hb
        have := of_decide_eq_false hb
        exact this z3
  · obtain ⟨u3, u4, u5, rfl, eb, hn⟩ := hq
    obtain ⟨p, q', z1, z2⟩ := hq0
    exact absurd ⟨p, q', z1, z2⟩ (hn q0 (by rw [a2]; exact CsM.lt_of z1))
end
end CsW

set_option Elab.async false
set_option linter.all false
set_option maxRecDepth 100000
set_option maxHeartbeats 4000000
namespace CsW
open PySem PySem.Spec PyProof.Rows L2 Evl CsTop CsM
section
variable {K : PySem.W.Frag} {σ : L2.St} {H H' : Hp} {ta tb te td ty : TE} {t : TT} {D : Ends} {tz tu : TS}
theorem hu_of {k : Nat} {A : Around} (r : Room k A) : A.units + 1 < cLine := by have := r.units; omega
theorem ev_dget {a : Addr} {kvs : List (Key × V)} {k : Key} {v : V} (hd : Ev td σ H (.ref a)) (hy : Ev ty σ H (kV k)) (hv : H a = some (.dK kvs)) (l : valV kvs k = some v) : Ev (tDGet td ty) σ H v := fun H1 e Q q =>
  hd H1 e _ fun H2 e2 => hy H2 (e.trans e2) _ fun H3 e3 => ⟨a, v, rfl, by rw [← l]; exact DGet.k (((e.trans e2).trans e3) _ _ hv), q H3 (e2.trans e3)⟩
theorem q_asgT {i j : Nat} {p : Addr} {a b : V} (h : Ev te σ H (.ref p)) (ht : SqT K H p [a, b]) (k : ∀ H1, Ex H H1 → tz D ((σ.set i (some a)).set j (some b)) H1) : tSeq (tAsg te (gTup K 2 (gCons (gName i) (gCons (gName j) gNil)))) tz D σ H :=
  h H (Ex.refl H) _ fun H1 e => g_two (ex_t e ht) (k H1 e)
theorem max_oth {f : Fm} {q c : Nat} (h : isLo f = false) : maxF f (some q) c = f := by
  cases f with
  | lo l => cases h
  | _ => rfl
theorem is_lo {f : Fm} (h : isLo f = true) : ∃ l, f = .lo l := by
  cases f with
  | lo l => exact ⟨l, rfl⟩
  | amt a => cases h
  | hi l => cases h
  | wh j a k => cases h
end
section
variable {P : Program} {w : World} {K : PySem.W.Frag} {mg : Str → Option Value} {base : Heap}
def spSolution (K : PySem.W.Frag) : Sp := fun vs H Q _ => ∃ (a b c : Addr) (pl : List Fm) (h : List Am) (kvs : List (Key × V)) (ch rk : Nat → Nat) (x : Nat → Am), vs = [.ref a, .ref b, .ref c] ∧ FlAt K H a pl ∧ SOk pl ∧ Plain pl ∧ Ams K H b h ∧ h.length = pl.length ∧ H c = some (.dK kvs) ∧
  (∀ (i : Nat) (l : Arcs), pl[i]? = some (.lo l) → CsM.fn h i ≠ none → valV kvs (.inl (i : Int)) = some (nv (ch i))) ∧ (∀ (i : Nat) (l : Arcs), pl[i]? = some (.lo l) → CsM.fn h i ≠ none → ∃ p, l[ch i]? = some p ∧ CsM.fn h p.1 ≠ none) ∧
  RSH pl (CsM.fn h) ch x rk ∧ ∀ z : List Am, z.length = pl.length → (∀ i, i < pl.length → CsM.fn z i = x i) → RetL (z.map av) H Q
theorem sc_solution_with : FnScope ["plain", "held", "choices", "found", "step", "cell", "formula", "target", "shift", "rank"] ["plain", "held", "choices"] (defScope sSolutionWith) := ⟨rfl, rfl, rfl, by decide +kernel, rfl, by decide +kernel, by decide +kernel⟩
-- slots 0 plain, 1 held, 2 choices, 3 found, 4 step, 5 cell, 6 formula, 7 target, 8 shift, 9 rank
theorem c_solution_with (T : Top K mg) (C_shifted : Callee P w K mg base "shifted" ["a", "c"] 1 spShifted) (C_flat_value : Callee P w K mg base "flat_value" ["formula", "x"] 3 (spFlatValue K)) : Callee P w K mg base "solution_with" ["plain", "held", "choices"] 4 (spSolution K) := by
  refine ok_of (N := ["plain", "held", "choices", "found", "step", "cell", "formula", "target", "shift", "rank"]) T (List.mem_of_getElem? (i := 21) rfl) sc_solution_with (fun _ _ _ _ _ _ us hl => match us, hl with | [_, _, _], _ => rfl) (fun vs H Q E h => ?len) (fun cdv A outer s H vs Q E f hr h => ?_)
  case len => first | (obtain ⟨_, rfl, _⟩ := h; rfl) | (obtain ⟨_, _, rfl, _⟩ := h; rfl) | (obtain ⟨_, _, _, rfl, _⟩ := h; rfl) | (obtain ⟨_, _, _, _, rfl, _⟩ := h; rfl) | (obtain ⟨_, _, _, _, _, rfl, _⟩ := h; rfl) | (obtain ⟨_, _, _, _, _, _, rfl, _⟩ := h; rfl) | (obtain ⟨_, _, _, _, _, _, _, rfl, _⟩ := h; rfl) | (obtain ⟨_, _, _, _, _, _, _, _, rfl, _⟩ := h; rfl) | (obtain ⟨_, _, _, _, _, _, _, _, _, rfl, _⟩ := h; rfl) | (obtain ⟨_, _, _, _, _, _, _, _, _, _, rfl, _⟩ := h; rfl) | (obtain ⟨_, _, _, _, _, _, _, _, _, _, _, rfl, _⟩ := h; rfl) | (obtain ⟨_, _, _, _, _, _, _, _, _, _, _, _, rfl, _⟩ := h; rfl)
  refine ⟨_, (pss_cons (ps_setLc (i := 3) (own := [("rank", 9)]) (g := gName 9) (tt := tYes) rfl sc_solution_with.nd rfl rfl (sw_true rfl rfl rfl (by decide +kernel)) (x_piL K rfl (pv 1)) (blkOk_by (N := ["plain", "held", "choices", "found", "step", "cell", "formula", "target", "shift", "rank"]) (sc := defScope sSolutionWith) (by decide +kernel)) (fun _ _ _ _ _ => (pg_name (i := 9) sc_solution_with.nd rfl (.inl rfl))) (fun _ _ _ _ _ => pts_nil) (fun _ _ _ _ _ => (pe_ifExp (pt_cmpR op_notN (pv 9) pe_non (nomark _)) pe_int pe_non)))
      (pss_cons (ps_for PassesOwn.never rfl (pi_range1 rfl T.range (pa_cons (pe_op op_add (x_len K rfl rfl T.len (pa_cons (pv 0) pa_nil)) pe_int) pa_nil)) (pg_name (i := 4) sc_solution_with.nd rfl (.inl rfl))
        (pss_one (ps_for PassesOwn.never rfl (x_enum K rfl rfl T.enumerate (pa_cons (pv 0) pa_nil)) (x_tup K rfl rfl (pgs_cons (pg_name (i := 5) sc_solution_with.nd rfl (.inl rfl)) (pgs_cons (pg_name (i := 6) sc_solution_with.nd rfl (.inl rfl)) pgs_nil)))
          (pss_one (ps_if ((pw_and (pt_cmpR op_notN (x_ixL K rfl (pv 1) (pv 5)) pe_non (nomark _)) (pw_and1 (pt_cmpR op_eq (x_ixT K rfl (pv 6) pe_int) pe_str (nomark _))))).pt
            (pss_cons (ps_asg (x_ixL K rfl (x_ixT K rfl (pv 6) pe_int) (pe_dget (hu_of hr) (pv 2) (pv 5) (fun _ _ => rfl))) (x_tup K rfl rfl (pgs_cons (pg_name (i := 7) sc_solution_with.nd rfl (.inl rfl)) (pgs_cons (pg_name (i := 8) sc_solution_with.nd rfl (.inl rfl)) pgs_nil))))
            (pss_one (ps_asg (x_call C_shifted hr (pa_cons (x_ixL K rfl (pv 3) (pv 7)) (pa_cons (pv 8) pa_nil))) (pg_sub (pv 3) (pv 5) set_list))))
            (pss_one (ps_if (pt_cmpR op_notN (x_ixL K rfl (pv 1) (pv 5)) pe_non (nomark _))
              (pss_one (ps_asg (x_call C_flat_value hr (pa_cons (pv 6) (pa_cons (pv 3) pa_nil))) (pg_sub (pv 3) (pv 5) set_list)))
              pss_nil)))))))
      (pss_one (ps_ret (pv 3))))), ?_⟩
  obtain ⟨a, b, c, pl, h, kvs, ch, rk, x, rfl, hf, so, pn, hb, hl, hk, hv, hok, R, k⟩ := h
  obtain ⟨vs, v1, v2, v3⟩ := hf.at_
  have len := so.len
  refine q_asgL (xs := (sstart h).map av) ?_ fun o H1 no e1 h1 => ?_
  · unfold sstart; rw [List.map_map]
    refine el_lcMap _ (ev_var rfl) hb (List.length_map ..) (by omega) fun i u y hu hy => ?_
    rw [List.getElem?_map, hy] at hu; cases hu
    refine ⟨_, fun H1 e Q q => q, rfl, ?_⟩
    refine ev_if (et_some (a := y) (ev_var rfl)) (fun hb => ?_) (fun hb => ?_)
    · cases y with
      | none => cases hb
      | some y => exact ev_c
    · cases y with
      | none => exact ev_c
      | some y => cases hb
  refine q_forR1 (n := ((pl.length + 1 : Nat) : Int)) (ea_cons (ev_op (ev_len (ev_var rfl) (ex_l e1 v1)) ev_c (by rw [v2]; exact rv_I0)) ea_nil) ⟨by omega, by omega⟩
    (fun r σ H' => ∃ (u4 u5 u6 u7 u8 u9 : Option V) (z : List Am), σ = [some (.ref a), some (.ref b), some (.ref c), some (.ref o), u4, u5, u6, u7, u8, u9] ∧ H' o = some (.lst (z.map av)) ∧ Ex H (Hd o H') ∧ RS pl.length (CsM.fn h) x rk z r 0)
    (fun H2 e2 => ⟨_, _, _, _, _, _, _, rfl, e2 o _ h1, ex_in (e1.trans e2) no, RS.start R hl⟩) (fun r σ H' hr hp => ?_) (fun σ H' hp => ?_)
  · obtain ⟨u4, u5, u6, u7, u8, u9, z, rfl, ho, eb, hD⟩ := hp
    refine s_forE (ea_cons (ev_var rfl) ea_nil) (ex_l (eb.trans ex_hd) v1)
      (fun i σ H' => ∃ (u4 u5 u6 u7 u8 u9 : Option V) (z : List Am), σ = [some (.ref a), some (.ref b), some (.ref c), some (.ref o), u4, u5, u6, u7, u8, u9] ∧ H' o = some (.lst (z.map av)) ∧ Ex H (Hd o H') ∧ RS pl.length (CsM.fn h) x rk z r i)
      (fun H2 e2 => ⟨_, _, _, _, _, _, _, rfl, e2 o _ ho, eb.trans (hd_ex e2), hD⟩) (fun i σ H' _ p => ?_) (fun i y σ H' p hy hp np => ?_) (fun σ H' hp => ?_)
    · obtain ⟨_, _, _, _, _, _, _, _, _, e, _⟩ := p
      exact ex_l (e.trans ex_hd) v1
    · clear u4 u5 u6 u7 u8 u9 ho eb hD
      obtain ⟨u4, u5, u6, u7, u8, u9, z, rfl, ho, eb, hD⟩ := hp
      have hi : i < pl.length := by have := (List.getElem?_eq_some_iff.mp hy).1; omega
      have ef := CsM.at_fat hi
      obtain ⟨rr, hr2, hR⟩ := v3 i _ ef
      rw [hy] at hr2; cases hr2
      have wf := so.wf.at ef
      have al := so.al _ (List.mem_of_getElem? ef)
      have nop : o ≠ p := ne_of_none ho np
      refine g_two (st_of upd_same) ?_
      have ho2 : (upd H' p (.tup [.int (i : Nat), .ref rr])) o = some (.lst (z.map av)) := by rw [upd_ne nop]; exact ho
      have eb2 : Ex H (Hd o (upd H' p (.tup [.int (i : Nat), .ref rr]))) := eb.trans (hd_ex (Ex.new np))
      generalize upd H' p (.tup [.int (i : Nat), .ref rr]) = H2 at ho2 eb2
      have e02 := eb2.trans ex_hd
      have R2 := hR.mono e02
      have hil : i < h.length := by rw [hl]; exact hi
      have hiz : i < z.length := by rw [hD.len]; exact hi
      have hib : i < (z.map av).length := by rw [List.length_map]; exact hiz
      refine s_if (b := decide (CsM.fn h i ≠ none) && isLo (fat pl i)) (et_and (et_some (ev_am (ev_var rfl) (ev_var rfl) (hb.mono e02) hil)) fun _ => et_lo (g := fat pl i) (ev_kind (ev_var rfl) R2)) (fun hb2 H3 e3 => ?_) (fun hb2 H3 e3 => ?_)
      · obtain ⟨c1, c2⟩ := Bool.and_eq_true_iff.mp hb2
        have c1 := of_decide_eq_true c1
        obtain ⟨l, el⟩ := is_lo c2
        rw [el] at ef R2 wf
        obtain ⟨p0, q1, q2⟩ := hok i l ef c1
        obtain ⟨bb, t1, t2⟩ := R2.mono e3
        obtain ⟨as, a1, a2, a3⟩ := t2.at_
        obtain ⟨r2, t3, t4⟩ := a3 _ p0 q1
        have e03 := e02.trans e3
        refine q_asgT (ev_ixL (i := ch i) (ev_ixT (i := 1) (ev_var rfl) ev_c t1 rfl) (ev_dget (k := .inl (i : Int)) (ev_var rfl) (ev_var rfl) (e03 _ _ hk) (hv i l ef c1)) a1 t3) t4 fun H4 e4 => ?_
        have ht : p0.1 < z.length := by rw [hD.len]; exact wf.2 _ (List.mem_of_getElem? q1)
        refine s_setL (v := av (sh (CsM.fn z p0.1) p0.2)) (j := i) ((e3.trans e4) _ _ ho2) (ev_shift (ev_am (ev_var rfl) (ev_var rfl) (sq_of ((e3.trans e4) _ _ ho2)) ht) (ev_var rfl)) (ev_var rfl) (ev_var rfl) hib fun H5 e5 => ?_
        refine ⟨_, _, _, _, _, _, z.set i (sh (CsM.fn z p0.1) p0.2), rfl, by rw [upd_same, map_set_av], by rw [hd_upd]; exact eb2.trans (hd_ex ((e3.trans e4).trans e5)), ?_⟩
        cases eh : CsM.fn h i with
        | none => exact absurd eh c1
        | some q =>
          have ex := xsheet_at (h := CsM.fn h) (ch := ch) ef
          rw [eh, max_lo q1] at ex
          have := RS.put pn R hD hi c1 ex
          rw [one_hi] at this
          exact this
      · refine s_when (b := decide (CsM.fn h i ≠ none)) (et_some (ev_am (ev_var rfl) (ev_var rfl) (hb.mono (e02.trans e3)) hil)) (fun hb3 H4 e4 => ?_) (fun hb3 H4 e4 => ?_)
        · rw [hb3, Bool.true_and] at hb2
          have c1 := of_decide_eq_true hb3
          have e04 := (e02.trans e3).trans e4
          refine s_setL (v := av (val (fat pl i) (CsM.fn z))) (j := i) ((e3.trans e4) _ _ ho2) (ev_fval (g := fat pl i) (ev_var rfl) (ev_var rfl) (R2.mono (e3.trans e4)) (sq_of ((e3.trans e4) _ _ ho2)) (by rw [hD.len]; exact wf) al) (ev_var rfl) (ev_var rfl) hib fun H5 e5 => ?_
          refine ⟨_, _, _, _, _, _, z.set i (val (fat pl i) (CsM.fn z)), rfl, by rw [upd_same, map_set_av], by rw [hd_upd]; exact eb2.trans (hd_ex ((e3.trans e4).trans e5)), ?_⟩
          cases eh : CsM.fn h i with
          | none => exact absurd eh c1
          | some q =>
            have ex := xsheet_at (h := CsM.fn h) (ch := ch) ef
            rw [eh, max_oth hb2] at ex
            exact RS.put pn R hD hi c1 ex
        · refine ⟨_, _, _, _, _, _, z, rfl, (e3.trans e4) _ _ ho2, eb2.trans (hd_ex (e3.trans e4)), hD.skip ?_⟩
          exact Classical.byContradiction fun y => (of_decide_eq_false hb3) y
    · clear u4 u5 u6 u7 u8 u9 ho eb hD
      obtain ⟨u4, u5, u6, u7, u8, u9, z, rfl, ho, eb, hD⟩ := hp
      rw [v2] at hD
      exact ⟨_, _, _, _, _, _, z, rfl, ho, eb, hD.next⟩
  · obtain ⟨u4, u5, u6, u7, u8, u9, z, rfl, ho, eb, hD⟩ := hp
    rw [show (((pl.length + 1 : Nat) : Int)).toNat = pl.length + 1 by omega] at hD
    exact s_ret (ev_var rfl) fun H2 e2 => k z hD.len (RS.all R hD) o H2 no (eb.trans (ex_hd.trans e2)) (e2 o _ ho)
end
end CsW

set_option Elab.async false
set_option linter.all false
set_option maxRecDepth 100000
set_option maxHeartbeats 4000000
namespace CsW
open PySem PySem.Spec PyProof.Rows L2 Evl CsTop CsM
/-! ### the dict of choices -/
def dk (L : List Nat) (ch : Nat → Nat) : List (Key × V) := L.map fun (c : Nat) => ((.inl (c : Int) : Key), nv (ch c))

theorem key_ne {c d : Nat} (h : c ≠ d) : ¬ ((.inl (c : Int) : Key) = .inl (d : Int)) := fun z => by
  injection z with z
  exact h (by omega)
theorem dk_val {ch : Nat → Nat} {c : Nat} : ∀ {L : List Nat}, valV (dk L ch) (.inl (c : Int)) = if c ∈ L then some (nv (ch c)) else none
  | [] => rfl
  | d :: L => by
    unfold dk
    rw [List.map_cons]
    by_cases e : d = c
    · subst e
      rw [valV_pos rfl]; simp
    · rw [valV_neg (key_ne e)]
      have ih := dk_val (ch := ch) (c := c) (L := L)
      unfold dk at ih
      rw [ih]
      have : ¬ c = d := fun z => e z.symm
      simp [this]
theorem dk_ext {ch b : Nat → Nat} {L : List Nat} (h : ∀ c ∈ L, ch c = b c) : dk L ch = dk L b := by
  unfold dk
  exact List.map_congr_left fun c hc => by rw [h c hc]
theorem dk_put {ch : Nat → Nat} {L : List Nat} {c q : Nat} (h : c ∈ L) : putK (dk L ch) (.inl (c : Int)) (nv q) = dk L (setF ch c q) := by
  unfold putK
  have e : ((dk L ch).any fun kv => decide (kv.1 = (.inl (c : Int) : Key))) = true := by
    rw [valV_any, dk_val, if_pos h]; rfl
  rw [if_pos e]
  unfold dk
  rw [List.map_map]
  refine List.map_congr_left fun d _ => ?_
  show (if ((.inl (d : Int) : Key) = .inl (c : Int)) then ((.inl (d : Int) : Key), nv q) else ((.inl (d : Int) : Key), nv (ch d))) = _
  by_cases y : d = c
  · subst y; rw [if_pos rfl, setF_same]
  · rw [if_neg (key_ne y), setF_ne y]
theorem dk_new {ch : Nat → Nat} {L : List Nat} {c q : Nat} (h : c ∉ L) : putK (dk L ch) (.inl (c : Int)) (nv q) = dk (L ++ [c]) (setF ch c q) := by
  rw [putK_new _ (by rw [dk_val, if_neg h])]
  unfold dk
  rw [List.map_append]
  congr 1
  · exact List.map_congr_left fun d hd => by rw [setF_ne (fun z => by rw [z] at hd; exact h hd)]
  · rw [List.map_cons, List.map_nil, setF_same]
theorem dk_len {L : List Nat} {ch : Nat → Nat} : (dk L ch).length = L.length := List.length_map ..
section
variable {X : Cx}
def rEqDK : R2 := fun x y H Q => ∃ (a c : Addr) (L : List Nat) (b ch : Nat → Nat), x = .ref a ∧ y = .ref c ∧ H a = some (.dK (dk L b)) ∧ H c = some (.dK (dk L ch)) ∧ Q (.bl (L.all fun i => decide (b i = ch i))) H
theorem hits_dk {A : Around} {s : Shared} {L0 : List Nat} {ch b : Nat → Nat} {vb : List (Key × Value)} (rb : KV (dk L0 ch) vb) : ∀ {L : List Nat} {va : List (Key × Value)}, (∀ c ∈ L, c ∈ L0) → KV (dk L b) va → PySem.W.KeqHits A s vb va (L.all fun i => decide (b i = ch i))
  | [], va, _, ra => by
    cases ra
    exact .nil
  | c :: L, va, hs, ra => by
    cases ra with
    | cons h t =>
      rename_i q qs
      obtain ⟨h1, h2⟩ := h
      obtain ⟨k, v⟩ := q
      have h1 : (.inl (c : Int) : Key) = k := h1
      subst h1
      have rr : RelO (some (nv (ch c))) (valueAt vb (.inl (c : Int))) := by
        have := rb.val (.inl (c : Int))
        rw [dk_val, if_pos (hs c List.mem_cons_self)] at this
        exact this
      obtain ⟨y, hy, ry⟩ := rr.some_of
      obtain ⟨t1, rfl⟩ := (show ∃ t, v = Value.int ((b c : Nat) : Int) t from h2)
      obtain ⟨t2, rfl⟩ := (show ∃ t, y = Value.int ((ch c : Nat) : Int) t from ry)
      have q := SeqAt.EqAt.int_int (A := A) (s := s) ((b c : Nat) : Int) t1 ((ch c : Nat) : Int) t2
      have e : (((b c : Nat) : Int) == ((ch c : Nat) : Int)) = decide (b c = ch c) := by
        by_cases y : b c = ch c
        · rw [y]; simp
        · have : ¬ ((b c : Nat) : Int) = ((ch c : Nat) : Int) := by omega
          simp [y, this]
      rw [e] at q
      exact .hit hy q (hits_dk rb (fun d hd => hs d (List.mem_cons_of_mem _ hd)) t)
theorem op_eqDK (hu : X.A.units + 1 < cLine) : OpR X (compareOp .Eq) rEqDK := by
  intro pins s σ H x y v u Q I rx ry h
  obtain ⟨a, c, L, b, ch, rfl, rfl, ea, eb, q⟩ := h
  obtain rfl : v = Value.ref a := rx
  obtain rfl : u = Value.ref c := ry
  obtain ⟨_, ya, va, ra, da⟩ := (show ObjOk X.prog X.w H s.heap a (.dK (dk L b)) from I.hok a _ ea)
  obtain ⟨_, yb, vb, rb, db⟩ := (show ObjOk X.prog X.w H s.heap c (.dK (dk L ch)) from I.hok c _ eb)
  have hl : va.length = vb.length := by rw [← ra.length, ← rb.length, dk_len, dk_len]
  exact PySem.W.keq_eq (knd := mixKind X.prog X.w) (r := L.all fun i => decide (b i = ch i)) ya yb da db (by omega) (fun _ => hits_dk rb (fun _ h => h) ra) (fin_bl I q (by simp [hl]))
def rDictD : List V → Hp → VK → Prop := fun xs H Q => ∃ (a : Addr) (kvs : List (Key × V)), xs = [.ref a] ∧ Rd H a (.dK kvs) ∧ ∀ p, H p = none → Q (.ref p) (upd H p (.dK kvs))
theorem x_dict {e : Expr} {es : List Expr} {t : TA} {pos p : Pos} (hg : Gl X "dict") (hm : X.mg "dict" = none) (ha : PA X (e :: es) t) (he : starEach (e :: es) X.env = (false, eval e X.env) :: starEach es X.env := by rfl) (hpl : (backTo pos (starEach es X.env)).any (·.1) = false := by rfl) :
    PE X (.Call (.Name "dict" p) (e :: es) [] pos) (tCB rDictD t) := pe_callTy call_dictD hg hm (by decide +kernel) ha (he := he) (hpl := hpl)
end
section
variable {K : PySem.W.Frag} {σ : L2.St} {H H' : Hp} {ta tb te td ty tl tk tv : TE} {t : TT} {D : Ends} {tz tu : TS}
theorem et_eqDK {a c : Addr} {L : List Nat} {b ch : Nat → Nat} (ha : Ev ta σ H (.ref a)) (hb : Ev tb σ H (.ref c)) (h1 : H a = some (.dK (dk L b))) (h2 : H c = some (.dK (dk L ch))) : EvT (tTest (tOp rEqDK ta tb)) σ H (L.all fun i => decide (b i = ch i)) :=
  et_test (ev_op ha hb fun H1 e Q q => ⟨a, c, L, b, ch, rfl, rfl, e _ _ h1, e _ _ h2, q H1 (Ex.refl _)⟩)
theorem q_dictD {i : Nat} {a : Addr} {kvs : List (Key × V)} (h : Ev te σ H (.ref a)) (hd : H a = some (.dK kvs)) (k : ∀ p H1, H p = none → Ex H H1 → H1 p = some (.dK kvs) → tz D (σ.set i (some (.ref p))) H1) : tSeq (tAsg (tCB rDictD (tCons te tNil)) (gName i)) tz D σ H :=
  h H (Ex.refl H) _ fun H1 e1 => ⟨a, kvs, rfl, .inl (e1 _ _ hd), fun p hp => k p _ (fresh_back e1 hp) (e1.trans (Ex.new hp)) upd_same⟩
theorem s_dput {a : Addr} {L : List Nat} {ch : Nat → Nat} {c q : Nat} (hv : Ev tv σ H (nv q)) (hd : Ev td σ H (.ref a)) (hy : Ev ty σ H (nv c)) (ha : H a = some (.dK (dk L ch))) (hc : c ∈ L) (hl : L.length < 100000) (k : ∀ H1, Ex H H1 → D.nx σ (upd H1 a (.dK (dk L (setF ch c q))))) : sDPut td ty tv D σ H :=
  hv H (Ex.refl H) _ fun H1 e1 => hd H1 e1 _ fun H2 e2 => hy H2 (e1.trans e2) _ fun H3 e3 => ⟨a, _, rfl, DPut.k (k := .inl (c : Int)) (((e1.trans e2).trans e3) _ _ ha) (by rw [dk_len]; exact sz_lt hl), by
    rw [dk_put hc]
    exact k H3 ((e1.trans e2).trans e3)⟩
/-- {c: f(c) for c in L} -/
theorem q_dc {a : Addr} {L : List Nat} {j i : Nat} {vs : List Nat} (Pc : Nat → Nat → Prop) (h : Ev tl σ H (.ref a)) (hx : SqL K H a (L.map nv)) (nd : L.Nodup) (hz : L.length ≤ 40000) (hw : ∀ x, wipe ((wipe σ vs).set j (some x)) vs = wipe σ vs)
    (hs : ∀ c, c ∈ L → Ev tk ((wipe σ vs).set j (some (nv c))) H (nv c) ∧ EvP tv ((wipe σ vs).set j (some (nv c))) H fun v _ => ∃ q, v = nv q ∧ Pc c q)
    (k : ∀ p H1 ch, H p = none → Ex H H1 → H1 p = some (.dK (dk L ch)) → (∀ c ∈ L, Pc c (ch c)) → tz D (σ.set i (some (.ref p))) H1) : tSeq (tAsg (tDc (iList K tl) (gName j) tYes tk tv vs) (gName i)) tz D σ H :=
  h H (Ex.refl H) _ fun H1 e1 => ⟨a, rfl, ⟨_, ex_l e1 hx⟩, fun Dl hD => by
    refine ⟨fun i m H' => m = L.length - i ∧ i ≤ L.length ∧ Ex H1 H' ∧ ∃ ch, H' Dl = some (.dK (dk (L.take i) ch)) ∧ ∀ c ∈ L.take i, Pc c (ch c), ⟨_, rfl, Nat.zero_le _, Ex.new hD, fun _ => 0, upd_same, fun c hc => (by cases hc)⟩, ?_⟩
    rintro i m H' ⟨rfl, hi, eb, ch, hd, hp⟩
    have hL : SqL K H' a (L.map nv) := ex_l (e1.trans eb) hx
    by_cases hlt : i < L.length
    · obtain ⟨c, ec⟩ := CsM.at_of hlt
      have em : (L.map nv)[i]? = some (nv c) := by rw [List.getElem?_map, ec]; rfl
      have hc : c ∈ L := List.mem_of_getElem? ec
      have hn : c ∉ L.take i := fun y => by
        have nd2 : (L.take i ++ L.drop i).Nodup := by rw [List.take_append_drop]; exact nd
        have md : c ∈ L.drop i := List.mem_of_getElem? (i := 0) (by rw [List.getElem?_drop]; exact ec)
        exact (List.nodup_append.mp nd2).2.2 c y c md rfl
      refine .inr ⟨⟨_, _, hL, em⟩, fun H' => i + 1 ≤ L.length ∧ Ex H1 H' ∧ ∃ ch, H' Dl = some (.dK (dk (L.take (i + 1)) ch)) ∧ ∀ c ∈ L.take (i + 1), Pc c (ch c), fun H' p => ⟨_, by omega, rfl, p⟩, fun x H2 y => ?_⟩
      obtain ⟨rfl, y⟩ := y
      have ey := y _ hL
      rw [em] at ey; cases ey
      obtain ⟨s1, s2⟩ := hs c hc
      refine ⟨hw (nv c), ?_⟩
      refine s1 _ (e1.trans eb) _ fun H3 e3 => s2 _ ((e1.trans eb).trans e3) _ fun v H4 e4 hv => ?_
      obtain ⟨q, rfl, hq⟩ := hv
      refine ⟨_, .inl (c : Int), rfl, e4 _ _ (e3 _ _ hd), ?_, hlt, ?_, ?_⟩
      · rw [dk_len, List.length_take]
        exact sz_lt (by omega)
      · exact Ex.mut ((eb.trans e3).trans e4) hD
      · refine ⟨setF ch c q, by rw [upd_same, dk_new hn, take_snoc ec], fun d hd2 => ?_⟩
        rw [take_snoc ec] at hd2
        rcases List.mem_append.mp hd2 with y | y
        · rw [setF_ne (fun z => by rw [z] at y; exact hn y)]
          exact hp d y
        · rw [List.mem_singleton.mp y, setF_same]
          exact hq
    · have ei : i = L.length := by omega
      subst ei
      rw [List.take_of_length_le (Nat.le_refl _)] at hd hp
      exact .inl ⟨⟨_, hL, by rw [List.length_map]; exact Nat.le_refl _⟩, k Dl H' ch (fresh_back e1 hD) (e1.trans eb) hd hp⟩⟩
end
section
variable {X : Cx}
/-- name = {..} on one line, the name a local (the lists' rule, turned to dicts) -/
theorem ps_setDc {i : Nat} {y : Str} {py : Pos} {kx vx tg iter : Expr} {ifs : List Expr} {scope : Scope} {own : List (Str × Nat)} {pos spos : Pos} {wi : TI} {g : TG} {tt : TT} {tk tv : TE} (hc : X.calm = true) (hN : X.N.Nodup) (hy : X.N[i]? = some y) (hyl : X.env.scope.names.lookup y = some .local)
    (hsw : swapsWith (.DictComp kx vx [⟨tg, iter, ifs, 0⟩] scope pos) (some (.Name y py)) spos.line X.env = pure true) (hi : PI X tg iter wi) (ok : BlkOk X.N X.env.scope scope own)
    (hg : ∀ (s : Shared) (H : Hp) (C : Addr) (cl : List (Str × Addr)) (fp : List Addr), PG (X.blk s H scope (compEnvC scope cl C X.env) fp) tg g) (ht : ∀ (s : Shared) (H : Hp) (C : Addr) (cl : List (Str × Addr)) (fp : List Addr), PTs (X.blk s H scope (compEnvC scope cl C X.env) fp) ifs tt)
    (hk : ∀ (s : Shared) (H : Hp) (C : Addr) (cl : List (Str × Addr)) (fp : List Addr), PE (X.blk s H scope (compEnvC scope cl C X.env) fp) kx tk)
    (he : ∀ (s : Shared) (H : Hp) (C : Addr) (cl : List (Str × Addr)) (fp : List Addr), PE (X.blk s H scope (compEnvC scope cl C X.env) fp) vx tv) (hs : ∀ x, foldedSetIterable iter X.env x = pure x := by intro _; rfl) :
    PS X (.Assign [.Name y py] (.DictComp kx vx [⟨tg, iter, ifs, 0⟩] scope pos) spos) (tAsg (tDc wi g tt tk tv (own.map (·.2))) (gName i)) := by
  refine ⟨fun pins s σ H D I h => ?_⟩
  rw [exec_Assign_Name_used _ _ _ _ hsw]
  refine wpAny_bind (wpAny_standAt (wpAny_bind ?_))
  show wpAny _ X.A (do let _ ← comprehension (.DictComp kx vx [⟨tg, iter, ifs, 0⟩] scope pos) scope X.env (firstIterPos [⟨tg, iter, ifs, 0⟩] pos) newDict false (eval iter X.env) (some (assign (.Name y py) X.env))) _ _ s
  have h : tDc wi g tt tk tv (own.map (·.2)) σ H (fun x H1 => gName i x σ H1 D.nx) := h
  refine wpAny_bind (thn (dc_core (Qf := fun _ s' => SP X pins D .next s') hc hN I hi ok hg ht hk he hs h fun L C s' m H' I' q hn f => ?_) fun _ s' hq => wpAny_pure (wpAny_pure hq))
  show wpAny _ _ (assign (.Name y py) X.env (.ref L)) _ _ _
  refine wpAny_assign_Name (store_ok2 (v := V.ref L) I' hN hy (.inl hyl) rfl (fun s2 I2 ⟨a, sb, ha⟩ => ?_) (.inr hyl))
  obtain ⟨f0, f1, f2, f3, f4, f5⟩ := f
  have haC : C ≠ a := by
    rcases ha with z | z
    · rw [z]; exact f1
    · exact fun e => f4 y a z e.symm
  refine ⟨m, hn.sameBut sb haC, fun h3 sb3 => ?_⟩
  exact ⟨_, H', I2.turned (t' := s2.toks) (fun b o hb e => (sb3.2 b hb).trans e) f0 f1 f3 f4 f5, q⟩
theorem swD_true {kx vx : Expr} {gs : List Comprehension} {scope : Scope} {pos py : Pos} {y : Str} {l : Nat} {env : Env} (hk : env.scope.kind = .function) (hy : env.scope.names.lookup y = some .local) (hl : (py.line == pos.line) = true)
    (ha : (scope.names.any fun (n, k) => n == y && (k == .local || k == .cell)) = false) : swapsWith (.DictComp kx vx gs scope pos) (some (.Name y py)) l env = pure true := by
  have ky : env.kindOf y = some .local := hy
  have hb : env.blockKind = .function := by unfold Env.blockKind; rw [hk]; rfl
  unfold swapsWith
  simp only [hb, ky, ha, Expr.pos, hl]
  rfl
end
end CsW

set_option Elab.async false
set_option linter.all false
set_option maxRecDepth 100000
set_option maxHeartbeats 4000000
namespace CsW
open PySem PySem.Spec PyProof.Rows L2 Evl CsTop CsM
/-- the held cells with "least" -/
def leasts (pl : List Fm) (h : Nat → Am) : List Nat := (List.range pl.length).filter fun i => decide (h i ≠ none) && isLo (fat pl i)
theorem leasts_mem {pl : List Fm} {h : Nat → Am} {i : Nat} : i ∈ leasts pl h ↔ ∃ l, pl[i]? = some (.lo l) ∧ h i ≠ none := by
  unfold leasts
  rw [List.mem_filter, List.mem_range]
  constructor
  · intro ⟨h1, h2⟩
    obtain ⟨f, e⟩ := CsM.at_of h1
    rw [fat_at e] at h2
    obtain ⟨h3, h4⟩ := Bool.and_eq_true_iff.mp h2
    obtain ⟨l, rfl⟩ := is_lo h4
    exact ⟨l, e, of_decide_eq_true h3⟩
  · intro ⟨l, e, h1⟩
    exact ⟨CsM.lt_of e, by rw [fat_at e, decide_eq_true h1]; rfl⟩
theorem leasts_nd {pl : List Fm} {h : Nat → Am} : (leasts pl h).Nodup := List.Pairwise.filter _ List.nodup_range
theorem leasts_len (pl : List Fm) (h : Nat → Am) : (leasts pl h).length ≤ pl.length := by
  have := List.length_filter_le (fun i => decide (h i ≠ none) && isLo (fat pl i)) (List.range pl.length)
  rw [List.length_range] at this
  exact this
section
variable {P : Program} {w : World} {K : PySem.W.Frag} {mg : Str → Option Value} {base : Heap}
def spGreatP (K : PySem.W.Frag) : Sp := fun vs H Q _ => ∃ (a : Addr) (pl : List Fm), vs = [.ref a] ∧ FlAt K H a pl ∧ SOk pl ∧ Plain pl ∧ ∀ z : List Am, z.length = pl.length → IsGreat pl (CsM.fn z) → RetL (z.map av) H Q
theorem sc_greatest_plain : FnScope ["plain", "held", "least", "choices", "found", "better", "cell", "place", "target", "shift", "amount"] ["plain"] (defScope sGreatestPlain) := ⟨rfl, rfl, rfl, by decide +kernel, rfl, by decide +kernel, by decide +kernel⟩
-- slots 0 plain, 1 held, 2 least, 3 choices, 4 found, 5 better, 6 cell, 7 place, 8 target, 9 shift, 10 amount
theorem c_greatest_plain (T : Top K mg) (C_held_ranks : Callee P w K mg base "held_ranks" ["plain"] 3 (spHeld K)) (C_held_arc : Callee P w K mg base "held_arc" ["formula", "held", "rank"] 2 (spHeldArc K)) (C_solution_with : Callee P w K mg base "solution_with" ["plain", "held", "choices"] 4 (spSolution K)) (C_shifted : Callee P w K mg base "shifted" ["a", "c"] 1 spShifted) (C_at_most : Callee P w K mg base "at_most" ["a", "b"] 1 spAtMost) (C_flat_value : Callee P w K mg base "flat_value" ["formula", "x"] 3 (spFlatValue K)) : Callee P w K mg base "greatest_plain" ["plain"] 5 (spGreatP K) := by
  refine ok_of (N := ["plain", "held", "least", "choices", "found", "better", "cell", "place", "target", "shift", "amount"]) T (List.mem_of_getElem? (i := 23) rfl) sc_greatest_plain (fun _ _ _ _ _ _ us hl => match us, hl with | [_], _ => rfl) (fun vs H Q E h => ?len) (fun cdv A outer s H vs Q E f hr h => ?_)
  case len => first | (obtain ⟨_, rfl, _⟩ := h; rfl) | (obtain ⟨_, _, rfl, _⟩ := h; rfl) | (obtain ⟨_, _, _, rfl, _⟩ := h; rfl) | (obtain ⟨_, _, _, _, rfl, _⟩ := h; rfl) | (obtain ⟨_, _, _, _, _, rfl, _⟩ := h; rfl) | (obtain ⟨_, _, _, _, _, _, rfl, _⟩ := h; rfl) | (obtain ⟨_, _, _, _, _, _, _, rfl, _⟩ := h; rfl) | (obtain ⟨_, _, _, _, _, _, _, _, rfl, _⟩ := h; rfl) | (obtain ⟨_, _, _, _, _, _, _, _, _, rfl, _⟩ := h; rfl) | (obtain ⟨_, _, _, _, _, _, _, _, _, _, rfl, _⟩ := h; rfl) | (obtain ⟨_, _, _, _, _, _, _, _, _, _, _, rfl, _⟩ := h; rfl) | (obtain ⟨_, _, _, _, _, _, _, _, _, _, _, _, rfl, _⟩ := h; rfl)
  refine ⟨_, (pss_cons (ps_set (i := 1) sc_greatest_plain.nd rfl (.inr rfl) (x_call C_held_ranks hr (pa_cons (pv 0) pa_nil)))
      (pss_cons (ps_setLc (i := 2) (own := [("cell", 6)]) (g := gName 6) rfl sc_greatest_plain.nd rfl rfl (sw_true rfl rfl rfl (by decide +kernel)) (pi_range1 rfl T.range (pa_cons (x_len K rfl rfl T.len (pa_cons (pv 0) pa_nil)) pa_nil)) (blkOk_by (N := ["plain", "held", "least", "choices", "found", "better", "cell", "place", "target", "shift", "amount"]) (sc := defScope sGreatestPlain) (by decide +kernel)) (fun _ _ _ _ _ => (pg_name (i := 6) sc_greatest_plain.nd rfl (.inl rfl))) (fun _ _ _ _ _ => (pts_one ((pw_and (pt_cmpR op_notN (x_ixL K rfl (pv 1) (pv 6)) pe_non (nomark _)) (pw_and1 (pt_cmpR op_eq (x_ixT K rfl (x_ixL K rfl (pv 0) (pv 6)) pe_int) pe_str (nomark _))))).pt)) (fun _ _ _ _ _ => (pv 6)))
      (pss_cons (ps_setDc (i := 3) (own := [("cell", 6)]) (g := gName 6) (tt := tYes) rfl sc_greatest_plain.nd rfl rfl (swD_true rfl rfl rfl (by decide +kernel)) (x_piL K rfl (pv 2)) (blkOk_by (N := ["plain", "held", "least", "choices", "found", "better", "cell", "place", "target", "shift", "amount"]) (sc := defScope sGreatestPlain) (by decide +kernel)) (fun _ _ _ _ _ => (pg_name (i := 6) sc_greatest_plain.nd rfl (.inl rfl))) (fun _ _ _ _ _ => pts_nil) (fun _ _ _ _ _ => (pv 6)) (fun _ _ _ _ _ => (x_call C_held_arc hr (pa_cons (x_ixL K rfl (pv 0) (pv 6)) (pa_cons (pv 1) (pa_cons (x_ixL K rfl (pv 1) (pv 6)) pa_nil))))))
      (pss_one (ps_while PassesOwn.never (pt_val pe_bl)
        (pss_cons (ps_set (i := 4) sc_greatest_plain.nd rfl (.inl rfl) (x_call C_solution_with hr (pa_cons (pv 0) (pa_cons (pv 1) (pa_cons (pv 3) pa_nil)))))
        (pss_cons (ps_set (i := 5) sc_greatest_plain.nd rfl (.inl rfl) (x_dict rfl T.dict (pa_cons (pv 3) pa_nil)))
        (pss_cons (ps_for PassesOwn.never rfl (x_piL K rfl (pv 2)) (pg_name (i := 6) sc_greatest_plain.nd rfl (.inl rfl))
          (pss_one (ps_for PassesOwn.never rfl (x_enum K rfl rfl T.enumerate (pa_cons (x_ixT K rfl (x_ixL K rfl (pv 0) (pv 6)) pe_int) pa_nil)) (x_tup K rfl rfl (pgs_cons (pg_name (i := 7) sc_greatest_plain.nd rfl (.inl rfl)) (pgs_cons (x_tup K rfl rfl (pgs_cons (pg_name (i := 8) sc_greatest_plain.nd rfl (.inl rfl)) (pgs_cons (pg_name (i := 9) sc_greatest_plain.nd rfl (.inl rfl)) pgs_nil))) pgs_nil)))
            (pss_cons (ps_set (i := 10) sc_greatest_plain.nd rfl (.inl rfl) (x_call C_shifted hr (pa_cons (x_ixL K rfl (pv 4) (pv 8)) (pa_cons (pv 9) pa_nil))))
            (pss_one (ps_if ((pw_and (pt_not (pt_val (x_call C_at_most hr (pa_cons (x_ixL K rfl (pv 4) (pv 6)) (pa_cons (pv 10) pa_nil))))) (pw_and1 (pt_cmpR op_eq (pv 10) (x_call C_flat_value hr (pa_cons (x_ixL K rfl (pv 0) (pv 6)) (pa_cons (pv 4) pa_nil))) (nomark _))))).pt
              (pss_one (ps_dput (hu_of hr) (pv 5) (pv 6) (pv 7) rfl))
              pss_nil))))))
        (pss_cons (ps_if (pt_cmpR (op_eqDK (hu_of hr)) (pv 5) (pv 3) (nomark _))
          (pss_one (ps_ret (pv 4)))
          pss_nil)
        (pss_one (ps_set (i := 3) sc_greatest_plain.nd rfl (.inl rfl) (pv 5)))))))))))), ?_⟩
  obtain ⟨a, pl, rfl, hf, so, pn, k⟩ := h
  obtain ⟨vs, v1, v2, v3⟩ := hf.at_
  obtain ⟨M, S, bd⟩ := so.bd
  have len := so.len
  refine q_callR (vs := [.ref a]) (ea_cons (ev_var rfl) ea_nil) fun H0 e0 => ⟨a, pl, rfl, hf.mono e0, so, fun h hl hR hC b H1 nb e1 h1 => ?_⟩
  have e01 := e0.trans e1
  have hb1 : Ams K H1 b h := sq_of h1
  refine q_asgL (xs := (leasts pl (CsM.fn h)).map nv) ?_ fun la H2 nla e2 h2 => ?_
  · have e0 : (leasts pl (CsM.fn h)).map nv = given ((vs.length : Int)).toNat (fun i => decide (CsM.fn h i ≠ none) && isLo (fat pl i)) nv := by
      unfold leasts given
      rw [v2]; rfl
    rw [e0]
    refine el_lcR1 (n := (vs.length : Int)) _ _ (ea_cons (ev_len (ev_var rfl) (ex_l e01 v1)) ea_nil) ⟨by omega, by omega⟩ (fun x => rfl) (fun i H1 e hi => ?_) (fun i H1 e hi _ => ev_var rfl)
    obtain ⟨r, r1, r2⟩ := v3 i _ (CsM.at_fat (by omega))
    exact et_and (et_some (ev_am (ev_var rfl) (ev_var rfl) (hb1.mono e) (by omega))) fun _ => et_lo (ev_kind (ev_ixL (i := i) (ev_var rfl) (ev_var rfl) (ex_l (e01.trans e) v1) r1) (r2.mono (e01.trans e)))
  have e02 := e01.trans e2
  have ln := leasts_len pl (CsM.fn h)
  refine q_dc (L := leasts pl (CsM.fn h)) (fun c q => ∃ l r, pl[c]? = some (.lo l) ∧ CsM.fn h c = some r ∧ Arc1 (CsM.fn h) r l q) (ev_var rfl) (sq_of h2) leasts_nd (by omega) (fun x => rfl) (fun c hc => ⟨ev_var rfl, ?_⟩) fun cc H3 ch ncc e3 h3 hch => ?_
  · obtain ⟨l, ec, hh⟩ := leasts_mem.mp hc
    cases eh : CsM.fn h c with
    | none => exact absurd eh hh
    | some r =>
      obtain ⟨rr, r1, r2⟩ := v3 c _ ec
      have hcl := CsM.lt_of ec
      have wl := so.wf.at ec
      obtain ⟨p, hp, q', hq1, hq2⟩ := hR.lo c l r ec eh
      obtain ⟨j, hj⟩ := List.mem_iff_getElem?.mp hp
      refine ep_call (Pd := fun vs _ => vs = [.ref rr, .ref b, .int (r : Nat)]) (eap_of (ea_cons (ev_ixL (i := c) (ev_var rfl) (ev_var rfl) (ex_l e02 v1) r1) (ea_cons (ev_var rfl) (ea_cons (ev_is (ev_am (ev_var rfl) (ev_var rfl) (hb1.mono e2) (by omega)) (by rw [eh]; rfl)) ea_nil))) fun _ _ => rfl) fun vs' H4 e4 hv Q q => ?_
      subst hv
      exact ⟨rr, b, l, h, r, rfl, r2.mono (e02.trans e4), hb1.mono (e2.trans e4), fun p hp => by rw [hl]; exact wl.2 p hp, ⟨j, p, q', hj, hq1, hq2⟩, fun q2 hq2 H5 e5 => q _ _ e5 ⟨q2, rfl, l, r, ec, rfl, hq2⟩⟩
  have e03 := e02.trans e3
  have hb3 := hb1.mono (e2.trans e3)
  have xp : XPol pl (CsM.fn h) ch := XPol.start so.wf pn hR bd fun i l q el hq => by
    obtain ⟨l2, r, z1, z2, p, q', z3, z4, z5⟩ := hch i (leasts_mem.mpr ⟨l, el, by rw [hq]; simp⟩)
    rw [el] at z1; cases z1
    rw [hq] at z2; cases z2
    exact ⟨p, q', z3, z4, z5⟩
  have hla3 : SqL K H3 la ((leasts pl (CsM.fn h)).map nv) := ex_l e3 (sq_of h2)
  obtain ⟨x1, hx1⟩ := exists_least (xsheet_wf so.wf xp.ok)
  refine s_while (fun m σ H' => ∃ (ch : Nat → Nat) (cc : Addr) (x : Nat → Am) (u4 u5 u6 u7 u8 u9 u10 : Option V), m = ssum pl.length x ∧ IsLeast (xsheet pl (CsM.fn h) ch) x ∧ σ = [some (.ref a), some (.ref b), some (.ref la), some (.ref cc), u4, u5, u6, u7, u8, u9, u10] ∧ Ex H3 H' ∧ H' cc = some (.dK (dk (leasts pl (CsM.fn h)) ch)) ∧ XPol pl (CsM.fn h) ch)
    (ssum pl.length x1) ⟨ch, cc, x1, _, _, _, _, _, _, _, rfl, hx1, rfl, Ex.refl _, h3, xp⟩ (fun m σ H' hw => ?_)
  clear hx1 x1 xp hch h3 ncc
  obtain ⟨ch, cc, x0, u4, u5, u6, u7, u8, u9, u10, rfl, hx0, rfl, e4, hc4, xp⟩ := hw
  refine ⟨true, et_val ev_c, fun _ H5 e5 => ?_, fun z => by cases z⟩
  refine ⟨fun σ H' => ∃ (b2 : Nat → Nat) (cc : Addr) (x : Nat → Am) (u4 u5 u6 u7 u8 u9 u10 : Option V), ssum pl.length x < ssum pl.length x0 ∧ IsLeast (xsheet pl (CsM.fn h) b2) x ∧ σ = [some (.ref a), some (.ref b), some (.ref la), some (.ref cc), u4, u5, u6, u7, u8, u9, u10] ∧ Ex H3 H' ∧ H' cc = some (.dK (dk (leasts pl (CsM.fn h)) b2)) ∧ XPol pl (CsM.fn h) b2, fun σ2 H2 hN => ?_, ?_⟩
  · obtain ⟨b2, cc, x, u4, u5, u6, u7, u8, u9, u10, h1, h2⟩ := hN
    exact ⟨_, h1, b2, cc, x, u4, u5, u6, u7, u8, u9, u10, rfl, h2⟩
  obtain ⟨rk, RSh⟩ := rsh_of so.wf xp hx0
  have e35 := e4.trans e5
  refine q_callR (vs := [.ref a, .ref b, .ref cc]) (ea_cons (ev_var rfl) (ea_cons (ev_var rfl) (ea_cons (ev_var rfl) ea_nil))) fun H6 e6 => ?_
  have e36 := e35.trans e6
  refine ⟨a, b, cc, pl, h, _, ch, rk, x0, rfl, hf.mono (e03.trans e36), so, pn, hb3.mono e36, hl, e6 _ _ (e5 _ _ hc4), fun i l el hh => by rw [dk_val, if_pos (leasts_mem.mpr ⟨l, el, hh⟩)], xp.ok, RSh, fun z hz hzx p H7 np e7 hp => ?_⟩
  have e37 := e36.trans e7
  have np0 : H p = none := fresh_back (e03.trans e36) np
  have hzl : IsLeast (xsheet pl (CsM.fn h) ch) (CsM.fn z) := IsLeast.congr (xsheet_wf so.wf xp.ok) hx0 fun i hi => (hzx i (by rw [xsheet_len] at hi; exact hi)).symm
  have es : ssum pl.length (CsM.fn z) = ssum pl.length x0 := ssum_ext hzx
  have hc7 := e7 _ _ (e6 _ _ (e5 _ _ hc4))
  clear hc4
  refine q_dictD (ev_var rfl) hc7 fun ob H8 nob e8 hb8 => ?_
  have e38 := e37.trans e8
  refine q_forLn (ev_var rfl) (ex_l e38 hla3) (fun i σ H' => ∃ (b2 : Nat → Nat) (u6 u7 u8 u9 u10 : Option V), σ = [some (.ref a), some (.ref b), some (.ref la), some (.ref cc), some (.ref p), some (.ref ob), u6, u7, u8, u9, u10] ∧ H' ob = some (.dK (dk (leasts pl (CsM.fn h)) b2)) ∧ Ex H7 (Hd ob H') ∧ GI pl (CsM.fn h) ch b2 (CsM.fn z) fun c _ => c ∈ (leasts pl (CsM.fn h)).take i)
    (fun H9 e9 => ⟨ch, _, _, _, _, _, rfl, e9 _ _ hb8, ex_in (e8.trans e9) nob, GI.start.mono fun i q l _ _ y => by cases y⟩) (fun i σ H' _ q => ?_) (fun i y σ H' hy hq => ?_) (fun σ H' hq => ?_)
  · obtain ⟨_, _, _, _, _, _, _, _, e, _⟩ := q
    exact ex_l (e37.trans (e.trans ex_hd)) hla3
  · clear u6 u7 u8 u9 u10
    obtain ⟨b2, u6, u7, u8, u9, u10, rfl, hob, eb, hG⟩ := hq
    rw [List.getElem?_map] at hy
    cases ec : (leasts pl (CsM.fn h))[i]? with
    | none => rw [ec] at hy; cases hy
    | some c =>
      rw [ec] at hy; cases hy
      have hcm := List.mem_of_getElem? ec
      obtain ⟨l, ef, hh⟩ := leasts_mem.mp hcm
      obtain ⟨rr, r1, r2⟩ := v3 c _ ef
      have hci := CsM.lt_of ef
      have e7b := eb.trans ex_hd
      have R7 : FmR K H7 rr (.lo l) := r2.mono (e03.trans e37)
      have V7 := ex_l (e03.trans e37) v1
      obtain ⟨bb, t1, t2⟩ := id R7
      obtain ⟨as, a1, a2, a3⟩ := t2.at_
      have wl := so.wf.at ef
      have al := so.al _ (List.mem_of_getElem? ef)
      have tk := take_snoc ec
      refine s_forE (ea_cons (ev_ixT (i := 1) (ev_ixL (i := c) (ev_var rfl) (ev_var rfl) (ex_l e7b V7) r1) ev_c (ex_t e7b t1) rfl) ea_nil) (ex_l e7b a1) (fun q σ H' => ∃ (b2 : Nat → Nat) (u7 u8 u9 u10 : Option V), σ = [some (.ref a), some (.ref b), some (.ref la), some (.ref cc), some (.ref p), some (.ref ob), some (.int (c : Nat)), u7, u8, u9, u10] ∧ H' ob = some (.dK (dk (leasts pl (CsM.fn h)) b2)) ∧ Ex H7 (Hd ob H') ∧ GI pl (CsM.fn h) ch b2 (CsM.fn z) fun i' q' => i' ∈ (leasts pl (CsM.fn h)).take i ∨ (i' = c ∧ q' < q))
        (fun H10 e10 => ⟨b2, _, _, _, _, rfl, e10 _ _ hob, eb.trans (hd_ex e10), hG.mono fun i' q' l' _ _ y => ?_⟩) (fun q σ H' _ z => ?_) (fun q y2 σ H' pt2 hy2 hq npt2 => ?_) (fun σ H' hq => ?_)
      · rcases y with y | ⟨_, y⟩
        · exact y
        · omega
      · obtain ⟨_, _, _, _, _, _, _, e, _⟩ := z
        exact ex_l (e.trans ex_hd) a1
      · clear hG hob u7 u8 u9 u10
        obtain ⟨b2, u7, u8, u9, u10, rfl, hob, eb, hG⟩ := hq
        have hql : q < l.length := by have := (List.getElem?_eq_some_iff.mp hy2).1; omega
        obtain ⟨⟨t, s⟩, eq⟩ := CsM.at_of hql
        obtain ⟨r3, t3, t4⟩ := a3 q _ eq
        rw [hy2] at t3; cases t3
        have nob3 : ob ≠ pt2 := ne_of_none hob npt2
        have e7a : Ex H7 (upd H' pt2 (.tup [.int (q : Nat), .ref r3])) := (eb.trans ex_hd).trans (Ex.new npt2)
        refine g_nest (st_of upd_same) (ex_t e7a t4) ?_
        have hob3 : (upd H' pt2 (.tup [.int (q : Nat), .ref r3])) ob = some (.dK (dk (leasts pl (CsM.fn h)) b2)) := by rw [upd_ne nob3]; exact hob
        have eb3 : Ex H7 (Hd ob (upd H' pt2 (.tup [.int (q : Nat), .ref r3]))) := eb.trans (hd_ex (Ex.new npt2))
        generalize upd H' pt2 (.tup [.int (q : Nat), .ref r3]) = H10 at hob3 eb3 e7a
        have ht : t < z.length := by rw [hz]; exact wl.2 _ (List.mem_of_getElem? eq)
        have hiz : c < z.length := by rw [hz]; exact hci
        refine q_asg (v := av (sh (CsM.fn z t) s)) (ev_shift (ev_am (ev_var rfl) (ev_var rfl) (ex_l e7a (sq_of hp)) ht) (ev_var rfl)) fun H11 e11 => ?_
        have e7c := e7a.trans e11
        have mono : ∀ b3, GI pl (CsM.fn h) ch b3 (CsM.fn z) (fun i' q' => (i' ∈ (leasts pl (CsM.fn h)).take i ∨ (i' = c ∧ q' < q)) ∨ (i' = c ∧ q' = q)) → GI pl (CsM.fn h) ch b3 (CsM.fn z) fun i' q' => i' ∈ (leasts pl (CsM.fn h)).take i ∨ (i' = c ∧ q' < q + 1) := fun b3 g => g.mono fun i' q' l' _ _ y => by
          rcases y with y | ⟨y1, y2⟩
          · exact .inl (.inl y)
          · by_cases y3 : q' = q
            · exact .inr ⟨y1, y3⟩
            · exact .inl (.inr ⟨y1, by omega⟩)
        refine s_when (b := !am (CsM.fn z c) (sh (CsM.fn z t) s) && decide (sh (CsM.fn z t) s = val (.lo l) (CsM.fn z))) (et_and (et_not (et_most (a := CsM.fn z c) (b := sh (CsM.fn z t) s) (ev_am (ev_var rfl) (ev_var rfl) (ex_l e7c (sq_of hp)) hiz) (ev_var rfl))) (fun _ => et_eqA (x := sh (CsM.fn z t) s) (y := val (.lo l) (CsM.fn z)) (ev_var rfl) (ev_fval (g := .lo l) (ev_ixL (i := c) (ev_var rfl) (ev_var rfl) (ex_l e7c V7) r1) (ev_var rfl) (R7.mono e7c) (ex_l e7c (sq_of hp)) (by rw [hz]; exact wl) al))) (fun hc H12 e12 => ?_) (fun hc H12 e12 => ?_)
        · obtain ⟨c1, c2⟩ := Bool.and_eq_true_iff.mp hc
          have cnd : XCnd (CsM.fn z) c l q := ⟨(t, s), eq, fun y => (by rw [show am (CsM.fn z c) (sh (CsM.fn z t) s) = true from y] at c1; cases c1), of_decide_eq_true c2⟩
          refine s_dput (q := q) (c := c) (ev_var rfl) (ev_var rfl) (ev_var rfl) (e12 _ _ (e11 _ _ hob3)) hcm (by omega) fun H13 e13 => ?_
          exact ⟨setF b2 c q, _, _, _, _, rfl, upd_same, by rw [hd_upd]; exact eb3.trans (hd_ex ((e11.trans e12).trans e13)), mono _ (hG.yes ef cnd)⟩
        · refine ⟨b2, _, _, _, _, rfl, e12 _ _ (e11 _ _ hob3), eb3.trans (hd_ex (e11.trans e12)), mono _ (hG.no ef fun cnd => ?_)⟩
          obtain ⟨p2, q1, q2, q3⟩ := cnd
          rw [eq] at q1; cases q1
          have c1 : am (CsM.fn z c) (sh (CsM.fn z t) s) = false := am_f.mpr q2
          rw [c1, decide_eq_true q3] at hc; cases hc
      · clear hG hob u7 u8 u9 u10
        obtain ⟨b2, u7, u8, u9, u10, rfl, hob, eb, hG⟩ := hq
        refine ⟨b2, _, _, _, _, _, rfl, hob, eb, hG.mono fun i' q' l' el' hq' y => ?_⟩
        rw [tk] at y
        rcases List.mem_append.mp y with y | y
        · exact .inl y
        · have ey := List.mem_singleton.mp y
          subst ey
          rw [ef] at el'; cases el'
          exact .inr ⟨rfl, by rw [a2]; exact hq'⟩
  · clear u6 u7 u8 u9 u10
    obtain ⟨b2, u6, u7, u8, u9, u10, rfl, hob, eb, hG⟩ := hq
    rw [List.length_map, List.take_of_length_le (Nat.le_refl _)] at hG
    have e7b := eb.trans ex_hd
    refine q_when (et_eqDK (ev_var rfl) (ev_var rfl) hob (e7b _ _ hc7)) (fun hb H8 e8 => ?_) (fun hb H8 e8 => ?_)
    · have beq : ∀ (i : Nat) (l : Arcs), pl[i]? = some (.lo l) → CsM.fn h i ≠ none → b2 i = ch i := fun i l el hh => of_decide_eq_true (List.all_eq_true.mp hb i (leasts_mem.mpr ⟨l, el, hh⟩))
      have no := hG.none so.wf xp hzl (fun i q l el hh _ => leasts_mem.mpr ⟨l, el, hh⟩) beq
      have ig := xp.done so.wf pn hR hC hzl no
      exact s_ret (ev_var rfl) fun H9 e9 => k z hz ig p H9 np0 ((((e03.trans e37).trans e7b).trans e8).trans e9) (e9 _ _ (e8 _ _ (e7b _ _ hp)))
    · refine s_asg (v := .ref ob) (ev_var rfl) fun H9 e9 => ?_
      obtain ⟨xp2, _⟩ := xp.next so.wf hzl hG.imp
      obtain ⟨x', hx'⟩ := exists_least (xsheet_wf so.wf xp2.ok)
      have ne : ∃ (i : Nat) (l : Arcs), pl[i]? = some (.lo l) ∧ CsM.fn h i ≠ none ∧ b2 i ≠ ch i := Classical.byContradiction fun y => by
        have : ((leasts pl (CsM.fn h)).all fun i => decide (b2 i = ch i)) = true := List.all_eq_true.mpr fun i hi => by
          obtain ⟨l, el, hh⟩ := leasts_mem.mp hi
          exact decide_eq_true (Classical.byContradiction fun y2 => y ⟨i, l, el, hh, y2⟩)
        rw [this] at hb; cases hb
      have fall := xp.falls so.wf hzl hG.imp hx' ne
      rw [es] at fall
      exact ⟨b2, ob, x', _, _, _, _, _, _, _, fall, hx', rfl, ((e37.trans e7b).trans e8).trans e9, e9 _ _ (e8 _ _ hob), xp2⟩
end
end CsW

set_option Elab.async false
set_option linter.all false
set_option maxRecDepth 100000
set_option maxHeartbeats 4000000
namespace CsW
open PySem PySem.Spec PyProof.Rows L2 Evl CsTop CsM
theorem given_filter (P : List Nat) (p : Nat → Bool) : given P.length (fun i => p (P.getD i 0)) (fun i => nv (P.getD i 0)) = (P.filter p).map nv := by
  have e : P = (List.range P.length).map fun i => P.getD i 0 := by
    apply List.ext_getElem?; intro i
    rw [List.getElem?_map]
    by_cases c : i < P.length
    · rw [List.getElem?_range c, List.getElem?_eq_getElem c]
      show _ = some (P.getD i 0)
      rw [List.getD_eq_getElem?_getD, List.getElem?_eq_getElem c]; rfl
    · rw [List.getElem?_eq_none (by omega), List.getElem?_eq_none (by rw [List.length_range]; omega)]; rfl
  unfold given
  conv => rhs; rw [e, List.filter_map, List.map_map]
  rfl
theorem osheet_pos {fl : List Fm} (P : List Nat) : (osheet fl P).length = fl.length := osheet_len fl P
section
variable {P : Program} {w : World} {K : PySem.W.Frag} {mg : Str → Option Value} {base : Heap}
theorem q_callRP {σ : L2.St} {H : Hp} {D : Ends} {tz : TS} {sp : Sp} {E : XK} {t : TA} {Pd : List V → Hp → Prop} {i : Nat} (h : EvAP t σ H Pd) (k : ∀ vs H1, Ex H H1 → Pd vs H1 → sp vs H1 (fun v H2 => tz D (σ.set i (some v)) H2) E) : tSeq (tAsg (tCall sp [] E t) (gName i)) tz D σ H :=
  h H (Ex.refl H) _ fun vs H1 e1 hv => by
    rw [List.append_nil]
    exact k vs H1 e1 hv
def spStagesA (K : PySem.W.Frag) : Sp := fun vs H Q _ => ∃ (a : Addr) (fl : List Fm), vs = [.ref a] ∧ FlAt K H a fl ∧ SOk fl ∧
  ∀ (z : List Am) (us : List V) (p r xa : Addr) (y : V) (H' : Hp), z.length = fl.length → IsGreat fl (CsM.fn z) → H xa = none → Ex H H' → H' p = some (.lst (us ++ [.ref r])) → SqT K H' r [y, .ref xa] → H' xa = some (.lst (z.map av)) → Q (.ref p) H'
theorem sc_stages_from_above : FnScope ["flat", "places", "stages", "found", "left", "cell"] ["flat"] (defScope sStagesFromAbove) := ⟨rfl, rfl, rfl, by decide +kernel, rfl, by decide +kernel, by decide +kernel⟩
-- slots 0 flat, 1 places, 2 stages, 3 found, 4 left, 5 cell
theorem c_stages_from_above (T : Top K mg) (C_conditions_of : Callee P w K mg base "conditions_of" ["flat"] 1 (spCondsOf K)) (C_opened : Callee P w K mg base "opened" ["flat", "places"] 1 (spOpened K)) (C_greatest_plain : Callee P w K mg base "greatest_plain" ["plain"] 5 (spGreatP K)) (C_at_most : Callee P w K mg base "at_most" ["a", "b"] 1 spAtMost) : Callee P w K mg base "stages_from_above" ["flat"] 6 (spStagesA K) := by
  refine ok_of (N := ["flat", "places", "stages", "found", "left", "cell"]) T (List.mem_of_getElem? (i := 24) rfl) sc_stages_from_above (fun _ _ _ _ _ _ us hl => match us, hl with | [_], _ => rfl) (fun vs H Q E h => ?len) (fun cdv A outer s H vs Q E f hr h => ?_)
  case len => first | (obtain ⟨_, rfl, _⟩ := h; rfl) | (obtain ⟨_, _, rfl, _⟩ := h; rfl) | (obtain ⟨_, _, _, rfl, _⟩ := h; rfl) | (obtain ⟨_, _, _, _, rfl, _⟩ := h; rfl) | (obtain ⟨_, _, _, _, _, rfl, _⟩ := h; rfl) | (obtain ⟨_, _, _, _, _, _, rfl, _⟩ := h; rfl) | (obtain ⟨_, _, _, _, _, _, _, rfl, _⟩ := h; rfl) | (obtain ⟨_, _, _, _, _, _, _, _, rfl, _⟩ := h; rfl) | (obtain ⟨_, _, _, _, _, _, _, _, _, rfl, _⟩ := h; rfl) | (obtain ⟨_, _, _, _, _, _, _, _, _, _, rfl, _⟩ := h; rfl) | (obtain ⟨_, _, _, _, _, _, _, _, _, _, _, rfl, _⟩ := h; rfl) | (obtain ⟨_, _, _, _, _, _, _, _, _, _, _, _, rfl, _⟩ := h; rfl)
  refine ⟨_, (pss_cons (ps_set (i := 1) sc_stages_from_above.nd rfl (.inl rfl) (x_call C_conditions_of hr (pa_cons (pv 0) pa_nil)))
      (pss_cons (ps_set (i := 2) sc_stages_from_above.nd rfl (.inl rfl) (pe_lst pa_nil))
      (pss_one (ps_while PassesOwn.never (pt_val pe_bl)
        (pss_cons (ps_set (i := 3) sc_stages_from_above.nd rfl (.inr rfl) (x_call C_greatest_plain hr (pa_cons (x_call C_opened hr (pa_cons (pv 0) (pa_cons (pv 1) pa_nil))) pa_nil)))
        (pss_cons (x_app K rfl (pe_bm PySem.F.plainAttrs_list PySem.F.slot_list_append PySem.F.type_list_append mt_append (pv 2) (pa_cons (pe_tup (pa_cons (pv 1) (pa_cons (pv 3) pa_nil))) pa_nil)))
        (pss_cons (ps_setLc (i := 4) (own := [("cell", 5)]) (g := gName 5) rfl sc_stages_from_above.nd rfl rfl (sw_true rfl rfl rfl (by decide +kernel)) (x_piL K rfl (pv 1)) (blkOk_by (N := ["flat", "places", "stages", "found", "left", "cell"]) (sc := defScope sStagesFromAbove) (by decide +kernel)) (fun _ _ _ _ _ => (pg_name (i := 5) sc_stages_from_above.nd rfl (.inl rfl))) (fun _ _ _ _ _ => (pts_one (pt_val (x_call C_at_most hr (pa_cons (x_ixT K rfl (x_ixL K rfl (pv 0) (pv 5)) pe_int) (pa_cons (x_ixL K rfl (pv 3) (x_ixT K rfl (x_ixL K rfl (pv 0) (pv 5)) pe_int)) pa_nil)))))) (fun _ _ _ _ _ => (pv 5)))
        (pss_cons (ps_if (pt_cmpR (o_eqD K rfl hr) (pv 4) (pv 1) (nomark _))
          (pss_one (ps_ret (pv 2)))
          pss_nil)
        (pss_one (ps_set (i := 1) sc_stages_from_above.nd rfl (.inl rfl) (pv 4))))))))))), ?_⟩
  obtain ⟨a, fl, rfl, hf, so, k⟩ := h
  have len := so.len
  have cl := conds_len fl
  refine q_asgL (el_callL (ea_cons (ev_var rfl) ea_nil) fun H2 e2 Q q => ⟨a, fl, rfl, hf.mono e2, so, q⟩) fun p0 H1 np0 e1 h1 => q_asgL (el_lst ea_nil (by decide)) fun os H2 nos e2 h2 => ?_
  have nos' : H os = none := fresh_back e1 nos
  refine s_while (fun m σ H' => ∃ (pl : List Nat) (pc : Addr) (us : List V) (u3 u4 u5 : Option V), m = pl.length ∧ pl.length ≤ fl.length ∧ us.length + pl.length ≤ fl.length ∧ σ = [some (.ref a), some (.ref pc), some (.ref os), u3, u4, u5] ∧ H' os = some (.lst us) ∧ Ex H (Hd os H') ∧ SqL K (Hd os H') pc (pl.map nv) ∧ StA fl pl)
    (conds fl).length ⟨conds fl, p0, [], _, _, _, rfl, cl, by rw [List.length_nil]; omega, rfl, h2, ex_in (e1.trans e2) nos', ex_l (ex_in e2 nos) (sq_of h1), StA.start⟩ (fun m σ H' hw => ?_)
  obtain ⟨pl, pc, us, u3, u4, u5, rfl, hpl, hul, rfl, hos, hg, hP, st⟩ := hw
  refine ⟨true, et_val ev_c, fun _ H4 e4 => ?_, fun z => by cases z⟩
  refine ⟨fun σ H' => ∃ (pl2 : List Nat) (pc : Addr) (us : List V) (u3 u4 u5 : Option V), pl2.length < pl.length ∧ pl2.length ≤ fl.length ∧ us.length + pl2.length ≤ fl.length ∧ σ = [some (.ref a), some (.ref pc), some (.ref os), u3, u4, u5] ∧ H' os = some (.lst us) ∧ Ex H (Hd os H') ∧ SqL K (Hd os H') pc (pl2.map nv) ∧ StA fl pl2, fun σ2 H2 hN => ?_, ?_⟩
  · obtain ⟨pl2, pc, us, u3, u4, u5, h0, h1⟩ := hN
    exact ⟨_, h0, pl2, pc, us, u3, u4, u5, rfl, h1⟩
  have hos4 := e4 _ _ hos
  have hg4 := hg.trans (hd_ex e4)
  have hP4 : SqL K (Hd os H4) pc (pl.map nv) := ex_l (hd_ex e4) hP
  refine q_callRP (Pd := fun vs H' => ∃ p, vs = [.ref p] ∧ FlAt K H' p (osheet fl pl)) (eap_consP (ep_opened (ev_var rfl) (ev_var rfl) (hf.mono (hg4.trans ex_hd)) (ex_l ex_hd hP4) so) fun v H5 e5 hv => eap_of ea_nil fun H6 e6 => ?_) fun vs H5 e5 hv => ?_
  · obtain ⟨p, rfl, hp⟩ := hv
    exact ⟨p, rfl, hp.mono e6⟩
  obtain ⟨op, rfl, hO⟩ := hv
  refine ⟨op, osheet fl pl, rfl, hO, sok_open so pl, osheet_plain fl pl, fun z hz hzl xa H6 nxa e6 hxa => ?_⟩
  rw [osheet_len] at hz
  have e46 := e5.trans e6
  have nxo : xa ≠ os := fun y => by rw [y, e5 _ _ hos4] at nxa; cases nxa
  have nxH : H xa = none := fresh_back ((hg4.trans ex_hd).trans e5) nxa
  have hos6 := e46 _ _ hos4
  have hg6 := hg4.trans (hd_ex e46)
  have hP6 := ex_l (hd_ex e46) hP4
  refine q_appP hos6 (ev_var rfl) (ep_tup (Pd := fun vs _ => vs = [.ref pc, .ref xa]) (eap_of (ea_cons (ev_var rfl) (ea_cons (ev_var rfl) ea_nil)) fun _ _ => rfl) (fun vs H2 e => by rw [e]; show 2 ≤ 100000; decide)) (by omega) fun v H7 e7 hv => ?_
  obtain ⟨r2, vs2, Hr, rfl, rfl, er, nr, rfl⟩ := hv
  generalize hH7 : upd Hr r2 (.tup [.ref pc, .ref xa]) = H7 at e7
  have tr : SqT K H7 r2 [.ref pc, .ref xa] := st_of (by rw [← hH7, upd_same])
  have hos7 := e7 _ _ hos6
  have hg8 : Ex H (Hd os (upd H7 os (.lst (us ++ [.ref r2])))) := by rw [hd_upd]; exact hg6.trans (hd_ex e7)
  have hos8 : (upd H7 os (.lst (us ++ [.ref r2]))) os = some (.lst (us ++ [.ref r2])) := upd_same
  have hxa8 : (upd H7 os (.lst (us ++ [.ref r2]))) xa = some (.lst (z.map av)) := by rw [upd_ne nxo]; exact e7 _ _ hxa
  have tr8 : SqT K (upd H7 os (.lst (us ++ [.ref r2]))) r2 [.ref pc, .ref xa] := sqt_upd hos7 tr
  have hP8 : SqL K (Hd os (upd H7 os (.lst (us ++ [.ref r2])))) pc (pl.map nv) := by rw [hd_upd]; exact ex_l (hd_ex e7) hP6
  generalize upd H7 os (.lst (us ++ [.ref r2])) = H8 at hg8 hos8 hxa8 tr8 hP8
  have hx8 : Ams K H8 xa z := sq_of hxa8
  have eH8 := hg8.trans ex_hd
  have hP8b := ex_l ex_hd hP8
  refine q_asgL (xs := (pl.filter (holds fl (CsM.fn z))).map nv) ?_ fun lc H9 nlc e9 hlc => ?_
  · rw [← given_filter]
    have cell : ∀ (i : Nat) (x : V), (pl.map nv)[i]? = some x → x = nv (pl.getD i 0) ∧ pl.getD i 0 ∈ pl := fun i x hx => by
      rw [List.getElem?_map] at hx
      cases ec : pl[i]? with
      | none => rw [ec] at hx; cases hx
      | some c =>
        rw [ec] at hx
        have e : pl.getD i 0 = c := by rw [List.getD_eq_getElem?_getD, ec]; rfl
        rw [e]
        exact ⟨(Option.some.inj hx).symm, List.mem_of_getElem? ec⟩
    have hlm : pl.length = (pl.map nv).length := (List.length_map ..).symm
    rw [hlm]
    refine el_lcL _ _ (ev_var rfl) hP8b (by rw [List.length_map]; omega) (fun x => rfl) (fun i x H1 e hx => ?_) (fun i x H1 e hx _ => ?_)
    · obtain ⟨rfl, hm⟩ := cell i x hx
      exact et_cond (hf.mono (eH8.trans e)) (hx8.mono e) hz so.wf (st.sub _ hm) (ev_var rfl) (ev_var rfl) (ev_var rfl)
    · obtain ⟨rfl, hm⟩ := cell i x hx
      exact ev_var rfl
  have nlo : lc ≠ os := fun z => by rw [z, hos8] at nlc; cases nlc
  refine q_when (et_eqN (P := pl.filter (holds fl (CsM.fn z))) (R := pl) (ev_var rfl) (ev_var rfl) (sq_of hlc) (ex_l (ex_hd.trans e9) hP8)) (fun hb H10 e10 => ?_) (fun hb H10 e10 => ?_)
  · refine s_ret (ev_var rfl) fun H11 e11 => ?_
    have e8b := (e9.trans e10).trans e11
    exact k z us os r2 xa _ H11 hz (st.done hzl (of_decide_eq_true hb)) nxH (eH8.trans e8b) (e8b _ _ hos8) (ex_t e8b tr8) (e8b _ _ hxa8)
  · have hne := of_decide_eq_false hb
    refine s_asg (v := .ref lc) (ev_var rfl) fun H11 e11 => ?_
    have e8b := (e9.trans e10).trans e11
    have fall := StA.falls hne
    have l2 := List.length_filter_le (holds fl (CsM.fn z)) pl
    refine ⟨_, lc, us ++ [.ref r2], _, _, _, fall, by omega, by rw [List.length_append, List.length_singleton]; omega, rfl, e8b _ _ hos8, hg8.trans (hd_ex e8b), sq_of ?_, st.next so.wf hzl⟩
    rw [hd_ne nlo]
    exact (e10.trans e11) _ _ hlc
def spFlatGreat (K : PySem.W.Frag) : Sp := fun vs H Q _ => ∃ (a : Addr) (fl : List Fm), vs = [.ref a] ∧ FlAt K H a fl ∧ SOk fl ∧
  ∀ (z : List Am) (p : Addr) (H' : Hp), z.length = fl.length → IsGreat fl (CsM.fn z) → H p = none → Ex H H' → H' p = some (.lst (z.map av)) → Q (.ref p) H'
theorem sc_flat_greatest : FnScope ["flat"] ["flat"] (defScope sFlatGreatest) := ⟨rfl, rfl, rfl, by decide +kernel, rfl, by decide +kernel, by decide +kernel⟩
-- slots 0 flat
theorem c_flat_greatest (T : Top K mg) (C_stages_from_above : Callee P w K mg base "stages_from_above" ["flat"] 6 (spStagesA K)) : Callee P w K mg base "flat_greatest" ["flat"] 7 (spFlatGreat K) := by
  refine ok_of (N := ["flat"]) T (List.mem_of_getElem? (i := 25) rfl) sc_flat_greatest (fun _ _ _ _ _ _ us hl => match us, hl with | [_], _ => rfl) (fun vs H Q E h => ?len) (fun cdv A outer s H vs Q E f hr h => ?_)
  case len => first | (obtain ⟨_, rfl, _⟩ := h; rfl) | (obtain ⟨_, _, rfl, _⟩ := h; rfl) | (obtain ⟨_, _, _, rfl, _⟩ := h; rfl) | (obtain ⟨_, _, _, _, rfl, _⟩ := h; rfl) | (obtain ⟨_, _, _, _, _, rfl, _⟩ := h; rfl) | (obtain ⟨_, _, _, _, _, _, rfl, _⟩ := h; rfl) | (obtain ⟨_, _, _, _, _, _, _, rfl, _⟩ := h; rfl) | (obtain ⟨_, _, _, _, _, _, _, _, rfl, _⟩ := h; rfl) | (obtain ⟨_, _, _, _, _, _, _, _, _, rfl, _⟩ := h; rfl) | (obtain ⟨_, _, _, _, _, _, _, _, _, _, rfl, _⟩ := h; rfl) | (obtain ⟨_, _, _, _, _, _, _, _, _, _, _, rfl, _⟩ := h; rfl) | (obtain ⟨_, _, _, _, _, _, _, _, _, _, _, _, rfl, _⟩ := h; rfl)
  refine ⟨_, (pss_one (ps_ret (x_ixT K rfl (x_ixL K rfl (x_call C_stages_from_above hr (pa_cons (pv 0) pa_nil)) (pe_un un_neg pe_int)) pe_int))), ?_⟩
  obtain ⟨a, fl, rfl, hf, so, k⟩ := h
  refine ⟨.ref a, rfl, a, fl, rfl, hf, so, fun z us p r xa y H' hz hzl hnx e hp hr hxa => ?_⟩
  refine ⟨1, rfl, p, us ++ [.ref r], -1, .ref r, rfl, rfl, sq_of hp, atI_last _ _, ?_⟩
  exact ⟨r, [y, .ref xa], 1, .ref xa, rfl, rfl, hr, atI_nat (j := 1) rfl, k z xa H' hz hzl hnx e hxa⟩
end
end CsW

set_option Elab.async false
set_option linter.all false
set_option maxRecDepth 100000
set_option maxHeartbeats 4000000
namespace CsW
open PySem PySem.Spec PyProof.Rows L2 Evl CsTop CsM
/-! ### the stream of drawn numbers: one list that changes -/
def Sm (sa sc : Addr) (H : Hp) : Prop := ∃ (i : Nat) (v : Int), H sa = some (.lst [.ref sc, .int i, .int v])
structure SG (sa sc : Addr) (H H' : Hp) : Prop where
  ex : Ex (Hd sa H) (Hd sa H')
  sm : Sm sa sc H'
section
variable {sa sc : Addr} {H H' H2 : Hp} {K : PySem.W.Frag}
theorem SG.refl (s : Sm sa sc H) : SG sa sc H H := ⟨Ex.refl _, s⟩
theorem SG.trans (a : SG sa sc H H') (b : SG sa sc H' H2) : SG sa sc H H2 := ⟨a.ex.trans b.ex, b.sm⟩
theorem Sm.mono (s : Sm sa sc H) (e : Ex H H') : Sm sa sc H' := by
  obtain ⟨i, v, h⟩ := s
  exact ⟨i, v, e _ _ h⟩
theorem SG.of (s : Sm sa sc H) (e : Ex H H') : SG sa sc H H' := ⟨hd_ex e, s.mono e⟩
theorem SG.go (a : SG sa sc H H') (e : Ex H' H2) : SG sa sc H H2 := a.trans (.of a.sm e)
theorem Sm.some (s : Sm sa sc H) : H sa ≠ none := by
  obtain ⟨i, v, h⟩ := s
  rw [h]; simp
theorem SG.back (g : SG sa sc H H') {p : Addr} (h : H' p = none) : H p = none := by
  have n : p ≠ sa := fun z => g.sm.some (z ▸ h)
  have := fresh_back g.ex (p := p) (by rw [hd_ne n]; exact h)
  rw [hd_ne n] at this
  exact this
theorem SG.at (g : SG sa sc H H') {p : Addr} {u : HO} (n : p ≠ sa) (h : H p = some u) : H' p = some u := by
  have := g.ex p u (by rw [hd_ne n]; exact h)
  rw [hd_ne n] at this
  exact this
/-- another list of one's own changes -/
theorem SG.mut (g : SG sa sc H H') {o : Addr} {u : HO} (h : H o = none) (n : o ≠ sa) : SG sa sc H (upd H' o u) := by
  refine ⟨?_, ?_⟩
  · rw [hd_new n]
    exact Ex.mut g.ex (by rw [hd_ne n]; exact h)
  · obtain ⟨i, v, hs⟩ := g.sm
    exact ⟨i, v, by rw [upd_ne (Ne.symm n)]; exact hs⟩
theorem SG.new (g : SG sa sc H H') {o : Addr} {u : HO} (h : H' o = none) : SG sa sc H (upd H' o u) := g.go (Ex.new h)
end
/-- what is new since H -/
def Nw (H H' : Hp) : Hp := fun b => if H b = none then H' b else none
section
variable {sa sc o : Addr} {H H' H2 : Hp}
theorem nw_at {p : Addr} (h : H p = none) : Nw H H' p = H' p := if_pos h
theorem nw_old {p : Addr} (h : H p ≠ none) : Nw H H' p = none := if_neg h
theorem nw_ex : Ex (Nw H H') H' := fun b u h => by
  by_cases c : H b = none
  · rw [nw_at c] at h; exact h
  · rw [nw_old c] at h; cases h
theorem nw_mono (e : Ex H' H2) : Ex (Nw H H') (Nw H H2) := fun b u h => by
  by_cases c : H b = none
  · rw [nw_at c] at h ⊢; exact e b u h
  · rw [nw_old c] at h; cases h
theorem nw_hd (h : H o ≠ none) : Ex (Nw H H') (Hd o H') := fun b u hb => by
  by_cases c : H b = none
  · have n : b ≠ o := fun z => h (z ▸ c)
    rw [nw_at c] at hb
    rw [hd_ne n]; exact hb
  · rw [nw_old c] at hb; cases hb
/-- new since later is new since before -/
theorem nw_since (h : ∀ p, H2 p = none → H p = none) : Ex (Nw H2 H') (Nw H H') := fun b u hb => by
  by_cases c : H2 b = none
  · rw [nw_at c] at hb; rw [nw_at (h b c)]; exact hb
  · rw [nw_old c] at hb; cases hb
theorem nw_sg (s : H sa ≠ none) (g : SG sa sc H' H2) : Ex (Nw H H') (Nw H H2) := fun b u hb => by
  by_cases c : H b = none
  · have n : b ≠ sa := fun z => s (z ▸ c)
    rw [nw_at c] at hb ⊢
    exact g.at n hb
  · rw [nw_old c] at hb; cases hb
theorem nw_sgo (s : H sa ≠ none) (g : SG sa sc H' H2) : Ex (Nw H (Hd o H')) (Nw H (Hd o H2)) := fun b u hb => by
  by_cases c : H b = none
  · have n : b ≠ sa := fun z => s (z ▸ c)
    rw [nw_at c] at hb ⊢
    by_cases d : b = o
    · subst d; rw [hd_self] at hb; cases hb
    · rw [hd_ne d] at hb ⊢
      exact g.at n hb
  · rw [nw_old c] at hb; cases hb
theorem nw_oex : Ex (Nw H (Hd o H')) (Nw H H') := nw_mono ex_hd
end
/-! ### readings that draw -/
def EvD (sa sc : Addr) (te : TE) (σ : L2.St) (H : Hp) (Pd : V → Hp → Prop) : Prop := ∀ H1, SG sa sc H H1 → ∀ Q : VK, (∀ v H2, SG sa sc H1 H2 → Pd v H2 → Q v H2) → te σ H1 Q
def EvAD (sa sc : Addr) (ta : TA) (σ : L2.St) (H : Hp) (Pd : List V → Hp → Prop) : Prop := ∀ H1, SG sa sc H H1 → ∀ Q : List V → Hp → Prop, (∀ vs H2, SG sa sc H1 H2 → Pd vs H2 → Q vs H2) → ta σ H1 Q
section
variable {sa sc : Addr} {σ : L2.St} {H H' : Hp} {te ta tb : TE} {tr : TA} {v : V} {D : Ends} {tz tu : TS} {K : PySem.W.Frag}
theorem ed_ev (h : ∀ H1, Ev te σ H1 v) : EvD sa sc te σ H fun x _ => x = v := fun H1 g Q q => h H1 H1 (Ex.refl _) Q fun H2 e => q v H2 (.of g.sm e) rfl
theorem ed_p {Pd : V → Hp → Prop} (h : ∀ H1, SG sa sc H H1 → EvP te σ H1 Pd) : EvD sa sc te σ H Pd := fun H1 g Q q => h H1 g H1 (Ex.refl _) Q fun v H2 e hp => q v H2 (.of g.sm e) hp
theorem ead_nil {Pd : List V → Hp → Prop} (h : ∀ H1, SG sa sc H H1 → Pd [] H1) : EvAD sa sc tNil σ H Pd := fun H1 g Q q => q [] H1 (.refl g.sm) (h H1 g)
theorem ead_cons {Pv : V → Hp → Prop} {Pd : List V → Hp → Prop} (h : EvD sa sc te σ H Pv) (hr : ∀ v H1, SG sa sc H H1 → Pv v H1 → EvAD sa sc tr σ H1 fun vs H2 => Pd (v :: vs) H2) : EvAD sa sc (tCons te tr) σ H Pd := fun H1 g Q q =>
  h H1 g _ fun v H2 g2 hv => hr v H2 (g.trans g2) hv H2 (.refl g2.sm) _ fun vs H3 g3 hp => q (v :: vs) H3 (g2.trans g3) hp
theorem ed_op {r : R2} {Pa Pb Pd : V → Hp → Prop} (ha : EvD sa sc ta σ H Pa) (hb : ∀ x H1, SG sa sc H H1 → Pa x H1 → EvD sa sc tb σ H1 fun y H2 => Pb y H2 ∧ ∀ Q : VK, (∀ z H3, SG sa sc H2 H3 → Pd z H3 → Q z H3) → r x y H2 Q) : EvD sa sc (tOp r ta tb) σ H Pd := fun H1 g Q q =>
  ha H1 g _ fun x H2 g2 hx => hb x H2 (g.trans g2) hx H2 (.refl g2.sm) _ fun y H3 g3 hy => hy.2 Q fun z H4 g4 hz => q z H4 ((g2.trans g3).trans g4) hz
theorem ed_tup {Pd : List V → Hp → Prop} (h : EvAD sa sc tr σ H Pd) (hl : ∀ vs H2, Pd vs H2 → vs.length ≤ 100000) : EvD sa sc (tTup tr) σ H fun v H3 => ∃ p vs H2, v = .ref p ∧ Pd vs H2 ∧ SG sa sc H H2 ∧ H2 p = none ∧ H3 = upd H2 p (.tup vs) := fun H1 g Q q =>
  h H1 g _ fun vs H2 g2 hp => ⟨sz_of (hl vs H2 hp), fun p hpn => q _ _ (g2.new hpn) ⟨p, vs, H2, rfl, hp, g.trans g2, hpn, rfl⟩⟩
theorem ed_call {sp : Sp} {E : XK} {Pd : List V → Hp → Prop} {Pv : V → Hp → Prop} (h : EvAD sa sc tr σ H Pd) (hs : ∀ vs H1, SG sa sc H H1 → Pd vs H1 → ∀ Q : VK, (∀ v H2, SG sa sc H1 H2 → Pv v H2 → Q v H2) → sp vs H1 Q E) : EvD sa sc (tCall sp [] E tr) σ H Pv := fun H1 g Q q =>
  h H1 g _ fun vs H2 g2 hp => by
    rw [List.append_nil]
    exact hs vs H2 (g.trans g2) hp Q fun v H3 g3 hv => q v H3 (g2.trans g3) hv
theorem EvD.imp {Pd Pd' : V → Hp → Prop} (h : EvD sa sc te σ H Pd) (k : ∀ v H', SG sa sc H H' → Pd v H' → Pd' v H') : EvD sa sc te σ H Pd' := fun H1 g Q q => h H1 g Q fun v H2 g2 hp => q v H2 g2 (k v H2 (g.trans g2) hp)
theorem s_asgD {i : Nat} {Pd : V → Hp → Prop} (s : Sm sa sc H) (h : EvD sa sc te σ H Pd) (k : ∀ v H1, SG sa sc H H1 → Pd v H1 → D.nx (σ.set i (some v)) H1) : tAsg te (gName i) D σ H := h H (.refl s) _ fun v H1 g hp => k v H1 g hp
theorem q_asgD {i : Nat} {Pd : V → Hp → Prop} (s : Sm sa sc H) (h : EvD sa sc te σ H Pd) (k : ∀ v H1, SG sa sc H H1 → Pd v H1 → tz D (σ.set i (some v)) H1) : tSeq (tAsg te (gName i)) tz D σ H := h H (.refl s) _ fun v H1 g hp => k v H1 g hp
theorem s_retD {Pd : V → Hp → Prop} (s : Sm sa sc H) (h : EvD sa sc te σ H Pd) (k : ∀ v H1, SG sa sc H H1 → Pd v H1 → D.rt v H1) : tRet te D σ H := h H (.refl s) _ fun v H1 g hp => k v H1 g hp
theorem s_appD {l : Addr} {xs : List V} {Pd : V → Hp → Prop} (s : Sm sa sc H) (n : l ≠ sa) (hl : H l = some (.lst xs)) (ha : ∀ H1, Ev ta σ H1 (.ref l)) (h : EvD sa sc te σ H Pd) (hz : xs.length < 100000) (k : ∀ v H1, SG sa sc H H1 → Pd v H1 → D.nx σ (upd H1 l (.lst (xs ++ [v])))) :
    tDrop (tBM K "list" rAppend ta (tCons te tNil)) D σ H := ha H H (Ex.refl H) _ fun H1 e1 =>
  ⟨Or.inl ⟨rfl, xs, sq_of (e1 l _ hl)⟩, h H1 (.of s e1) _ fun v H2 g2 hp => ⟨l, xs, v, rfl, rfl, g2.at n (e1 l _ hl), sz_lt hz, k v H2 ((SG.of s e1).trans g2) hp⟩⟩
/-- a test that draws: the drawn number against nought -/
theorem q_whenD {n : Nat → Prop} (s : Sm sa sc H) (h : EvD sa sc te σ H fun v _ => ∃ i, n i ∧ v = nv i) (h1 : ∀ H1, SG sa sc H H1 → tu { D with nx := tz D } σ H1) (h2 : ∀ H1, SG sa sc H H1 → tz D σ H1) : tSeq (tIfS (tTest (tOp rEq te (tC (.int 0)))) tu tNext) tz D σ H :=
  h H (.refl s) _ fun v H1 g hv => by
    obtain ⟨i, _, rfl⟩ := hv
    refine ⟨rfl, _, rfl, ?_⟩
    cases decide (nv i = .int 0) with
    | true => exact h1 H1 g
    | false => exact h2 H1 g
theorem s_whenD {n : Nat → Prop} (s : Sm sa sc H) (h : EvD sa sc te σ H fun v _ => ∃ i, n i ∧ v = nv i) (h1 : ∀ H1, SG sa sc H H1 → tu D σ H1) (h2 : ∀ H1, SG sa sc H H1 → D.nx σ H1) : tIfS (tTest (tOp rEq te (tC (.int 0)))) tu tNext D σ H :=
  h H (.refl s) _ fun v H1 g hv => by
    obtain ⟨i, _, rfl⟩ := hv
    refine ⟨rfl, _, rfl, ?_⟩
    cases decide (nv i = .int 0) with
    | true => exact h1 H1 g
    | false => exact h2 H1 g
end
section
variable {P : Program} {w : World} {K : PySem.W.Frag} {mg : Str → Option Value} {base : Heap}
theorem rc_int {i : Int} {H : Hp} : RC rInt [.int i] H (.int i) := fun H1 _ Q q => .inl ⟨i, rfl, q H1 (Ex.refl _)⟩
theorem ev_int {σ : L2.St} {H : Hp} {te : TE} {i : Int} (h : Ev te σ H (.int i)) : Ev (tCB rInt (tCons te tNil)) σ H (.int i) := ev_cb (ea_cons h ea_nil) rc_int
def spDraw (K : PySem.W.Frag) : Sp := fun vs H Q _ => ∃ (sa sc : Addr) (l : List Int) (m : Nat), vs = [.ref sa, .int m] ∧ 0 < m ∧ m < 1000000 ∧ SqL K (Hd sa H) sc (l.map V.int) ∧ Sm sa sc H ∧ ∀ (n : Nat) H', n < m → SG sa sc H H' → Q (nv n) H'
theorem sc_law_draw : FnScope ["_law_stream", "_law_many", "_law_cell", "_law_mixed", "_law_other", "_law_value_here"] ["_law_stream", "_law_many"] (defScope sLawDraw) := ⟨rfl, rfl, rfl, by decide +kernel, rfl, by decide +kernel, by decide +kernel⟩
-- slots 0 _law_stream, 1 _law_many, 2 _law_cell, 3 _law_mixed, 4 _law_other, 5 _law_value_here
theorem c_law_draw (T : Top K mg) : Callee P w K mg base "_law_draw" ["_law_stream", "_law_many"] 1 (spDraw K) := by
  refine ok_of (N := ["_law_stream", "_law_many", "_law_cell", "_law_mixed", "_law_other", "_law_value_here"]) T (List.mem_of_getElem? (i := 29) rfl) sc_law_draw (fun _ _ _ _ _ _ us hl => match us, hl with | [_, _], _ => rfl) (fun vs H Q E h => ?len) (fun cdv A outer s H vs Q E f hr h => ?_)
  case len => first | (obtain ⟨_, rfl, _⟩ := h; rfl) | (obtain ⟨_, _, rfl, _⟩ := h; rfl) | (obtain ⟨_, _, _, rfl, _⟩ := h; rfl) | (obtain ⟨_, _, _, _, rfl, _⟩ := h; rfl) | (obtain ⟨_, _, _, _, _, rfl, _⟩ := h; rfl) | (obtain ⟨_, _, _, _, _, _, rfl, _⟩ := h; rfl) | (obtain ⟨_, _, _, _, _, _, _, rfl, _⟩ := h; rfl) | (obtain ⟨_, _, _, _, _, _, _, _, rfl, _⟩ := h; rfl) | (obtain ⟨_, _, _, _, _, _, _, _, _, rfl, _⟩ := h; rfl) | (obtain ⟨_, _, _, _, _, _, _, _, _, _, rfl, _⟩ := h; rfl) | (obtain ⟨_, _, _, _, _, _, _, _, _, _, _, rfl, _⟩ := h; rfl) | (obtain ⟨_, _, _, _, _, _, _, _, _, _, _, _, rfl, _⟩ := h; rfl)
  refine ⟨_, (pss_cut (ps_if (pt_cmpR op_lt (x_ixL K rfl (pv 0) pe_int) (pv 1) (nomark _))
        (pss_cons (ps_set (i := 2) sc_law_draw.nd rfl (.inl rfl) pe_int)
        (pss_cut (ps_if (pt_cmpR op_lt (x_ixL K rfl (pv 0) pe_int) (x_len K rfl rfl T.len (pa_cons (x_ixL K rfl (pv 0) pe_int) pa_nil)) (nomark _))
          (pss_one (ps_set (i := 2) sc_law_draw.nd rfl (.inl rfl) (x_ixL K rfl (x_ixL K rfl (pv 0) pe_int) (x_ixL K rfl (pv 0) pe_int))))
          pss_nil)
        (pss_cons (ps_asg (pe_op op_add (x_ixL K rfl (pv 0) pe_int) pe_int) (pg_sub (pv 0) pe_int set_list))
        (pss_cons (ps_asg (pv 2) (pg_sub (pv 0) pe_int set_list))
        (pss_one (ps_if (pt_cmpR op_lt (pv 2) (pe_op op_pow pe_int pe_int) (nomark _))
          (pss_cons (ps_set (i := 3) sc_law_draw.nd rfl (.inl rfl) (pe_op op_mod (x_int rfl T.int (pa_cons (pe_op op_add (pe_op op_mul (pv 2) pe_int) (pe_op op_mul (x_ixL K rfl (pv 0) pe_int) pe_int)) pa_nil)) pe_int))
          (pss_cons (ps_set (i := 4) sc_law_draw.nd rfl (.inl rfl) (pe_op op_mod (x_int rfl T.int (pa_cons (pe_op op_add (pe_op op_add (pe_op op_mul (pv 3) pe_int) (pe_op op_mul (pv 2) pe_int)) pe_int) pa_nil)) pe_int))
          (pss_one (ps_asg (pe_op op_add (pe_op op_add (pe_op op_mul (pv 4) pe_int) (pv 3)) (pe_op op_pow pe_int pe_int)) (pg_sub (pv 0) pe_int set_list)))))
          pss_nil))))))
        pss_nil)
      (pss_cons (ps_set (i := 5) sc_law_draw.nd rfl (.inl rfl) (pe_op op_mod (x_int rfl T.int (pa_cons (x_ixL K rfl (pv 0) pe_int) pa_nil)) (pv 1)))
      (pss_cons (ps_asg (pe_op op_fdiv (x_int rfl T.int (pa_cons (x_ixL K rfl (pv 0) pe_int) pa_nil)) (pv 1)) (pg_sub (pv 0) pe_int set_list))
      (pss_one (ps_ret (pv 5)))))), ?_⟩
  obtain ⟨sa, sc, l, m, rfl, m0, m1, hS, ⟨i, v, hs⟩, k⟩ := h
  refine q_cut (M := fun σ H' => ∃ u2 u3 u4 u5, σ = [some (.ref sa), some (.int (m : Nat)), u2, u3, u4, u5] ∧ SG sa sc H H') ?_ (fun σ' H' hM => ?_)
  · refine s_when (et_test (ev_op (ev_ixL (i := 2) (ev_var rfl) ev_c (sq_of hs) rfl) (ev_var rfl) rv_I0)) (fun hb H1 e1 => ?_) (fun hb H1 e1 => ⟨_, _, _, _, rfl, .of ⟨i, v, hs⟩ e1⟩)
    refine q_asg ev_c fun H2 e2 => ?_
    refine q_cut (M := fun σ H' => ∃ c : Int, σ = [some (.ref sa), some (.int (m : Nat)), some (.int c), none, none, none] ∧ Ex H H') ?_ (fun σ' H3 hM => ?_)
    · have e02 := e1.trans e2
      have h2 := e02 _ _ hs
      refine s_when (b := decide ((i : Int) < (l.length : Int))) (et_test (ev_op (ev_ixL (i := 1) (ev_var rfl) ev_c (sq_of h2) rfl) (ev_is (ev_len (ev_ixL (i := 0) (ev_var rfl) ev_c (sq_of h2) rfl) (ex_l (ex_hd.trans e02) hS)) (by rw [List.length_map])) rv_I0)) (fun hb H4 e4 => ?_) (fun hb H4 e4 => ⟨0, rfl, e02.trans e4⟩)
      have hil : i < l.length := by have := of_decide_eq_true hb; omega
      obtain ⟨c, hc⟩ := CsM.at_of hil
      have h4 := e4 _ _ h2
      exact s_asg (v := .int c) (ev_ixL (i := i) (ev_ixL (i := 0) (ev_var rfl) ev_c (sq_of h4) rfl) (ev_ixL (i := 1) (ev_var rfl) ev_c (sq_of h4) rfl) (ex_l (ex_hd.trans (e02.trans e4)) hS) (by rw [List.getElem?_map, hc]; rfl)) fun H5 e5 => ⟨c, rfl, (e02.trans e4).trans e5⟩
    · obtain ⟨c, rfl, e3⟩ := hM
      have h3 := e3 _ _ hs
      refine q_setL (j := 1) (v := .int ((i + 1 : Nat) : Int)) h3 (ev_is (ev_op (ev_ixL (i := 1) (ev_var rfl) ev_c (sq_of h3) rfl) ev_c rv_I0) (congrArg V.int (by omega))) (ev_var rfl) ev_c (by show 1 < 3; decide) fun H4 e4 => ?_
      have g5 : SG sa sc H (upd H4 sa (.lst ([V.ref sc, .int (i : Nat), .int v].set 1 (.int ((i + 1 : Nat) : Int))))) := ⟨by rw [hd_upd]; exact hd_ex (e3.trans e4), i + 1, v, upd_same⟩
      have h5 : (upd H4 sa (.lst ([V.ref sc, .int (i : Nat), .int v].set 1 (.int ((i + 1 : Nat) : Int))))) sa = some (.lst [.ref sc, .int ((i + 1 : Nat) : Int), .int v]) := upd_same
      generalize upd H4 sa (.lst ([V.ref sc, .int (i : Nat), .int v].set 1 (.int ((i + 1 : Nat) : Int)))) = H5 at g5 h5
      refine q_setL (j := 2) (v := .int c) h5 (ev_var rfl) (ev_var rfl) ev_c (by show 2 < 3; decide) fun H6 e6 => ?_
      have g7 : SG sa sc H (upd H6 sa (.lst ([V.ref sc, .int ((i + 1 : Nat) : Int), .int v].set 2 (.int c)))) := ⟨by rw [hd_upd]; exact g5.ex.trans (hd_ex e6), i + 1, c, upd_same⟩
      have h7 : (upd H6 sa (.lst ([V.ref sc, .int ((i + 1 : Nat) : Int), .int v].set 2 (.int c)))) sa = some (.lst [.ref sc, .int ((i + 1 : Nat) : Int), .int c]) := upd_same
      generalize upd H6 sa (.lst ([V.ref sc, .int ((i + 1 : Nat) : Int), .int v].set 2 (.int c))) = H7 at g7 h7
      refine s_when (et_test (ev_op (ev_var rfl) (ev_op ev_c ev_c (rv_I ⟨by decide, by decide, by decide⟩)) rv_I0)) (fun hb H8 e8 => ?_) (fun hb H8 e8 => ⟨_, _, _, _, rfl, g7.go e8⟩)
      have h8 := e8 _ _ h7
      refine q_asg (ev_op (ev_int (ev_op (ev_op (ev_var rfl) ev_c (rv_I (.inr ⟨by decide, by decide⟩))) (ev_op (ev_ixL (i := 1) (ev_var rfl) ev_c (sq_of h8) rfl) ev_c (rv_I (.inr ⟨by decide, by decide⟩))) rv_I0)) ev_c (rv_I (by decide))) fun H9 e9 => ?_
      refine q_asg (ev_op (ev_int (ev_op (ev_op (ev_op (ev_var rfl) ev_c (rv_I (.inr ⟨by decide, by decide⟩))) (ev_op (ev_var rfl) ev_c (rv_I (.inr ⟨by decide, by decide⟩))) rv_I0) ev_c rv_I0)) ev_c (rv_I (by decide))) fun H10 e10 => ?_
      refine s_setL (j := 2) ((e9.trans e10) _ _ h8) (ev_op (ev_op (ev_op (ev_var rfl) ev_c (rv_I (.inr ⟨by decide, by decide⟩))) (ev_var rfl) rv_I0) (ev_op ev_c ev_c (rv_I ⟨by decide, by decide, by decide⟩)) rv_I0) (ev_var rfl) ev_c (by show 2 < 3; decide) fun H11 e11 => ?_
      exact ⟨_, _, _, _, rfl, by rw [hd_upd]; exact g7.ex.trans (hd_ex (((e8.trans e9).trans e10).trans e11)), i + 1, _, upd_same⟩
  · clear i v hs
    obtain ⟨u2, u3, u4, u5, rfl, g⟩ := hM
    obtain ⟨i, v, hs⟩ := g.sm
    have mp : (0 : Int) < (m : Int) := by omega
    refine q_asg (v := nv (v % (m : Int)).toNat) (ev_is (ev_op (ev_int (ev_ixL (i := 2) (ev_var rfl) ev_c (sq_of hs) rfl)) (ev_var rfl) (rv_I mp)) ?_) fun H1 e1 => ?_
    · have := Int.emod_nonneg v (b := (m : Int)) (by omega)
      show V.int (v % (m : Int)) = V.int (((v % (m : Int)).toNat : Nat) : Int)
      rw [Int.toNat_of_nonneg this]
    have h1 := e1 _ _ hs
    refine q_setL (j := 2) h1 (ev_op (ev_int (ev_ixL (i := 2) (ev_var rfl) ev_c (sq_of h1) rfl)) (ev_var rfl) (rv_I ⟨mp, by omega⟩)) (ev_var rfl) ev_c (by show 2 < 3; decide) fun H2 e2 => ?_
    refine s_ret (ev_var rfl) fun H3 e3 => k _ H3 ?_ ?_
    · have := Int.emod_lt_of_pos v mp
      have := Int.emod_nonneg v (b := (m : Int)) (by omega)
      omega
    · refine SG.go (H' := upd H2 sa _) ⟨?_, i, _, upd_same⟩ e3
      rw [hd_upd]; exact g.ex.trans (hd_ex (e1.trans e2))
end
end CsW

set_option Elab.async false
set_option linter.all false
set_option maxRecDepth 100000
set_option maxHeartbeats 4000000
namespace CsW
open PySem PySem.Spec PyProof.Rows L2 Evl CsTop CsM
section
variable {sa sc o : Addr} {σ : L2.St} {H H' H1 H2 : Hp} {te ta tb tl : TE} {tr : TA} {v : V} {D : Ends} {tz tu : TS} {K : PySem.W.Frag} {l : List Int}
theorem nw_sinceO (h : ∀ p, H1 p = none → H p = none) (ho : H1 o ≠ none) : Ex (Nw H1 H2) (Nw H (Hd o H2)) := fun b u hb => by
  by_cases c : H1 b = none
  · have n : b ≠ o := fun z => ho (z ▸ c)
    rw [nw_at c] at hb
    rw [nw_at (h b c), hd_ne n]; exact hb
  · rw [nw_old c] at hb; cases hb
theorem ed_draw {i m : Nat} (hi : σ[i]? = some (some (.ref sa))) (hm : ∀ H1, Ev te σ H1 (.int (m : Nat))) (m0 : 0 < m) (m1 : m < 1000000) (hS : SqL K (Hd sa H) sc (l.map V.int)) : EvD sa sc (tCall (spDraw K) [] E0 (tCons (tVar i) (tCons te tNil))) σ H fun v _ => ∃ n, n < m ∧ v = nv n :=
  ed_call (Pd := fun vs _ => vs = [.ref sa, .int (m : Nat)]) (ead_cons (ed_ev fun _ => ev_var hi) fun v H1 g hv => ead_cons (ed_ev hm) fun v2 H2 g2 hv2 => ead_nil fun _ _ => by rw [hv, hv2]) fun vs H1 g hv Q q =>
    ⟨sa, sc, l, m, hv, m0, m1, ex_l g.ex hS, g.sm, fun n H2 hn g2 => q _ H2 g2 ⟨n, hn, rfl⟩⟩
theorem ed_ixLit {xs : List V} (h : ∀ H1, EvA tr σ H1 xs) (hl : xs.length ≤ 100000) (hd : ∀ H1, SG sa sc H H1 → EvD sa sc tb σ H1 fun v _ => ∃ n, n < xs.length ∧ v = nv n) : EvD sa sc (tOp (rIxL K) (tLst tr) tb) σ H fun v _ => v ∈ xs :=
  ed_op (Pa := fun x H1 => ∃ p, x = .ref p ∧ p ≠ sa ∧ H1 p = some (.lst xs)) (Pb := fun _ _ => True) (ed_p fun H1 g => (ep_L (el_lst (h H1) hl)).imp fun v H2 e hv => by
    obtain ⟨p, rfl, n1, h1⟩ := hv
    exact ⟨p, rfl, fun z => g.sm.some (z ▸ n1), h1⟩) fun x H1 g hx => (hd H1 g).imp fun v H2 g2 hv => by
    obtain ⟨p, rfl, np, hp⟩ := hx
    obtain ⟨n, hn, rfl⟩ := hv
    obtain ⟨y, hy⟩ := CsM.at_of hn
    exact ⟨trivial, fun Q q => ⟨p, xs, (n : Nat), y, rfl, rfl, sq_of (g2.at np hp), atI_nat hy, q y H2 (.refl g2.sm) (List.mem_of_getElem? hy)⟩⟩
theorem q_forRD {j : Nat} {Pn : Nat → Prop} (s : Sm sa sc H) (h : EvAD sa sc tr σ H fun vs _ => ∃ n, vs = [nv n] ∧ Pn n) (k : ∀ n H1, Pn n → SG sa sc H H1 → tSeq (tFor (iRng1 (tCons (tC (nv n)) tNil)) (gName j) tu) tz D σ H1) : tSeq (tFor (iRng1 tr) (gName j) tu) tz D σ H :=
  h H (.refl s) _ fun vs H1 g hv => by
    obtain ⟨n, rfl, hn⟩ := hv
    exact k n H1 hn g
/-- [e for i in range(n)], its elements drawn -/
theorem ed_lcR {α : Type} {n j : Nat} {vs : List Nat} (s : Sm sa sc H) (Pd : Hp → V → α → Prop) (mono : ∀ H H' v x, Ex H H' → Pd H v x → Pd H' v x) (h : ∀ H1, EvA tr σ H1 [nv n]) (hz : n ≤ 40000) (hw : ∀ x, wipe ((wipe σ vs).set j (some x)) vs = wipe σ vs)
    (he : ∀ (i : Nat) (H1 : Hp), i < n → SG sa sc H H1 → EvD sa sc te ((wipe σ vs).set j (some (nv i))) H1 fun v H2 => ∃ x : α, Pd (Nw H1 H2) v x) :
    EvD sa sc (tLc (iRng1 tr) (gName j) tYes te vs) σ H fun v H2 => ∃ p us l, v = .ref p ∧ H p = none ∧ H2 p = some (.lst us) ∧ l.length = n ∧ LL (Pd (Nw H (Hd p H2))) us l := fun H0 g0 Q q => h H0 H0 (Ex.refl _) _ fun H1 e1 => ⟨(n : Nat), rfl, by omega, by omega, fun Dl hD => by
  have g1 : SG sa sc H H1 := g0.go e1
  have nD : Dl ≠ sa := fun z => g1.sm.some (z ▸ hD)
  have hD0 : H Dl = none := g1.back hD
  refine lc_range (lo := 0) (n := ((n : Nat) : Int).toNat) (fun i H' => SG sa sc H1 H' ∧ ∃ us l, H' Dl = some (.lst us) ∧ l.length = i ∧ LL (Pd (Nw H (Hd Dl H'))) us l)
    ⟨.new (.refl g1.sm) hD, [], [], upd_same, rfl, LL.nil⟩ (fun i H' hi p => ?_) (fun H' p => ?_)
  · obtain ⟨p1, us, l, p2, p3, p4⟩ := p
    have e0 : (0 : Int) + (i : Int) = (i : Nat) := Int.zero_add _
    show wipe ((wipe σ vs).set j (some (.int ((0 : Int) + (i : Int))))) vs = wipe σ vs ∧ tYes ((wipe σ vs).set j (some (.int ((0 : Int) + (i : Int))))) H' _
    rw [e0]
    refine ⟨hw _, ?_⟩
    have gH := g1.trans p1
    refine he i H' (by omega) gH H' (.refl gH.sm) _ fun v H2 g2 hv => ?_
    obtain ⟨x, hx⟩ := hv
    have hD2 := g2.at nD p2
    refine ⟨us, hD2, sz_lt (by have := p4.1; omega), (p1.trans g2).mut hD nD, us ++ [v], l ++ [x], upd_same, by rw [List.length_append, List.length_singleton, p3], ?_⟩
    rw [hd_upd]
    exact (p4.mono fun v x z => mono _ _ v x (nw_sgo s.some g2) z).snoc (mono _ _ v x (nw_sinceO (fun p hp => gH.back hp) (by rw [p2]; simp)) hx)
  · obtain ⟨p1, us, l, p2, p3, p4⟩ := p
    rw [show (((n : Nat) : Int)).toNat = n by omega] at p3
    exact q _ H' ((SG.of g0.sm e1).trans p1) ⟨Dl, us, l, rfl, hD0, p2, p3, p4⟩⟩
/-- [e for x in xs], its elements drawn -/
theorem ed_lcL {α : Type} {a : Addr} {xs : List V} {j : Nat} {vs : List Nat} (s : Sm sa sc H) (Pd : Hp → V → α → Prop) (mono : ∀ H H' v x, Ex H H' → Pd H v x → Pd H' v x) (h : ∀ H1, Ev tl σ H1 (.ref a)) (hx : SqL K (Hd sa H) a xs) (hz : xs.length ≤ 40000) (hw : ∀ x, wipe ((wipe σ vs).set j (some x)) vs = wipe σ vs)
    (he : ∀ (i : Nat) (y : V) (H1 : Hp), xs[i]? = some y → SG sa sc H H1 → EvD sa sc te ((wipe σ vs).set j (some y)) H1 fun v H2 => ∃ x : α, Pd (Nw H1 H2) v x) :
    EvD sa sc (tLc (iList K tl) (gName j) tYes te vs) σ H fun v H2 => ∃ p us l, v = .ref p ∧ H p = none ∧ H2 p = some (.lst us) ∧ l.length = xs.length ∧ LL (Pd (Nw H (Hd p H2))) us l := fun H0 g0 Q q => h H0 H0 (Ex.refl _) _ fun H1 e1 => ⟨a, rfl, ⟨xs, ex_l ((g0.go e1).ex.trans ex_hd) hx⟩, fun Dl hD => by
  have g1 : SG sa sc H H1 := g0.go e1
  have nD : Dl ≠ sa := fun z => g1.sm.some (z ▸ hD)
  have hD0 : H Dl = none := g1.back hD
  refine lc_list (xs := xs) (fun i H' => SG sa sc H1 H' ∧ ∃ us l, H' Dl = some (.lst us) ∧ l.length = i ∧ LL (Pd (Nw H (Hd Dl H'))) us l)
    ⟨.new (.refl g1.sm) hD, [], [], upd_same, rfl, LL.nil⟩ (fun i H' _ p => ex_l ((g1.trans p.1).ex.trans ex_hd) hx) (fun i y H' hy p => ?_) (fun H' p => ?_)
  · obtain ⟨p1, us, l, p2, p3, p4⟩ := p
    refine ⟨hw y, ?_⟩
    have gH := g1.trans p1
    refine he i y H' hy gH H' (.refl gH.sm) _ fun v H2 g2 hv => ?_
    obtain ⟨x, hx⟩ := hv
    have hD2 := g2.at nD p2
    have := (List.getElem?_eq_some_iff.mp hy).1
    refine ⟨us, hD2, sz_lt (by have := p4.1; omega), (p1.trans g2).mut hD nD, us ++ [v], l ++ [x], upd_same, by rw [List.length_append, List.length_singleton, p3], ?_⟩
    rw [hd_upd]
    exact (p4.mono fun v x z => mono _ _ v x (nw_sgo s.some g2) z).snoc (mono _ _ v x (nw_sinceO (fun p hp => gH.back hp) (by rw [p2]; simp)) hx)
  · obtain ⟨p1, us, l, p2, p3, p4⟩ := p
    exact q _ H' ((SG.of g0.sm e1).trans p1) ⟨Dl, us, l, rfl, hD0, p2, p3, p4⟩⟩
end
section
variable {P : Program} {w : World} {K : PySem.W.Frag} {mg : Str → Option Value} {base : Heap}
def spAmount (K : PySem.W.Frag) : Sp := fun vs H Q _ => ∃ (sa sc : Addr) (l : List Int) (m : Nat), vs = [.ref sa, .int m] ∧ 0 < m ∧ m < 1000000 ∧ SqL K (Hd sa H) sc (l.map V.int) ∧ Sm sa sc H ∧ ∀ (a : Am) H', (∀ u, a = some u → u < m) → SG sa sc H H' → Q (av a) H'
theorem sc_law_amount : FnScope ["_law_stream", "_law_most_here"] ["_law_stream", "_law_most_here"] (defScope sLawAmount) := ⟨rfl, rfl, rfl, by decide +kernel, rfl, by decide +kernel, by decide +kernel⟩
-- slots 0 _law_stream, 1 _law_most_here
theorem c_law_amount (T : Top K mg) (C_law_draw : Callee P w K mg base "_law_draw" ["_law_stream", "_law_many"] 1 (spDraw K)) : Callee P w K mg base "_law_amount" ["_law_stream", "_law_most_here"] 2 (spAmount K) := by
  refine ok_of (N := ["_law_stream", "_law_most_here"]) T (List.mem_of_getElem? (i := 30) rfl) sc_law_amount (fun _ _ _ _ _ _ us hl => match us, hl with | [_, _], _ => rfl) (fun vs H Q E h => ?len) (fun cdv A outer s H vs Q E f hr h => ?_)
  case len => first | (obtain ⟨_, rfl, _⟩ := h; rfl) | (obtain ⟨_, _, rfl, _⟩ := h; rfl) | (obtain ⟨_, _, _, rfl, _⟩ := h; rfl) | (obtain ⟨_, _, _, _, rfl, _⟩ := h; rfl) | (obtain ⟨_, _, _, _, _, rfl, _⟩ := h; rfl) | (obtain ⟨_, _, _, _, _, _, rfl, _⟩ := h; rfl) | (obtain ⟨_, _, _, _, _, _, _, rfl, _⟩ := h; rfl) | (obtain ⟨_, _, _, _, _, _, _, _, rfl, _⟩ := h; rfl) | (obtain ⟨_, _, _, _, _, _, _, _, _, rfl, _⟩ := h; rfl) | (obtain ⟨_, _, _, _, _, _, _, _, _, _, rfl, _⟩ := h; rfl) | (obtain ⟨_, _, _, _, _, _, _, _, _, _, _, rfl, _⟩ := h; rfl) | (obtain ⟨_, _, _, _, _, _, _, _, _, _, _, _, rfl, _⟩ := h; rfl)
  refine ⟨_, (pss_cons (ps_if (pt_cmpR op_eq (x_call C_law_draw hr (pa_cons (pv 0) (pa_cons pe_int pa_nil))) pe_int (nomark _))
        (pss_one (ps_ret pe_non))
        pss_nil)
      (pss_one (ps_ret (x_call C_law_draw hr (pa_cons (pv 0) (pa_cons (pv 1) pa_nil)))))), ?_⟩
  obtain ⟨sa, sc, l, m, rfl, m0, m1, hS, sm, k⟩ := h
  refine q_whenD sm (ed_draw (m := 12) rfl (fun _ => ev_c) (by omega) (by omega) hS) (fun H1 g1 => ?_) (fun H1 g1 => ?_)
  · exact s_retD g1.sm (ed_ev fun _ => ev_c) fun v H2 g2 hv => by
      subst hv
      exact k none H2 (fun u hu => by cases hu) (g1.trans g2)
  · exact s_retD g1.sm (ed_draw rfl (fun _ => ev_var rfl) m0 m1 (ex_l g1.ex hS)) fun v H2 g2 hv => by
      obtain ⟨n, hn, rfl⟩ := hv
      exact k (some n) H2 (fun u hu => by cases hu; exact hn) (g1.trans g2)
theorem ed_amount {sa sc : Addr} {σ : L2.St} {H : Hp} {te : TE} {l : List Int} {i m : Nat} (hi : σ[i]? = some (some (.ref sa))) (hm : ∀ H1, Ev te σ H1 (.int (m : Nat))) (m0 : 0 < m) (m1 : m < 1000000) (hS : SqL K (Hd sa H) sc (l.map V.int)) : EvD sa sc (tCall (spAmount K) [] E0 (tCons (tVar i) (tCons te tNil))) σ H fun v _ => ∃ a : Am, v = av a ∧ ∀ u, a = some u → u < m :=
  ed_call (Pd := fun vs _ => vs = [.ref sa, .int (m : Nat)]) (ead_cons (ed_ev fun _ => ev_var hi) fun v H1 g hv => ead_cons (ed_ev hm) fun v2 H2 g2 hv2 => ead_nil fun _ _ => by rw [hv, hv2]) fun vs H1 g hv Q q =>
    ⟨sa, sc, l, m, hv, m0, m1, ex_l g.ex hS, g.sm, fun a H2 hn g2 => q _ H2 g2 ⟨a, rfl, hn⟩⟩
/-- arcs that the law draws -/
def ArcP (n : Nat) (l : Arcs) : Prop := l ≠ [] ∧ l.length ≤ 6 ∧ ∀ q ∈ l, q.1 < n ∧ q.2 ≤ 5
def spArcs (K : PySem.W.Frag) : Sp := fun vs H Q _ => ∃ (sa sc : Addr) (l : List Int) (n : Nat), vs = [.ref sa, .int n] ∧ 0 < n ∧ n < 1000000 ∧ SqL K (Hd sa H) sc (l.map V.int) ∧ Sm sa sc H ∧
  ∀ p us as H', H p = none → H' p = some (.lst us) → LL (ArcV K (Nw H H')) us as → ArcP n as → SG sa sc H H' → Q (.ref p) H'
theorem sc_law_arcs : FnScope ["_law_stream", "_law_many", "_law_found", "_law_turn"] ["_law_stream", "_law_many"] (defScope sLawArcs) := ⟨rfl, rfl, rfl, by decide +kernel, rfl, by decide +kernel, by decide +kernel⟩
-- slots 0 _law_stream, 1 _law_many, 2 _law_found, 3 _law_turn
theorem c_law_arcs (T : Top K mg) (C_law_draw : Callee P w K mg base "_law_draw" ["_law_stream", "_law_many"] 1 (spDraw K)) : Callee P w K mg base "_law_arcs" ["_law_stream", "_law_many"] 2 (spArcs K) := by
  refine ok_of (N := ["_law_stream", "_law_many", "_law_found", "_law_turn"]) T (List.mem_of_getElem? (i := 31) rfl) sc_law_arcs (fun _ _ _ _ _ _ us hl => match us, hl with | [_, _], _ => rfl) (fun vs H Q E h => ?len) (fun cdv A outer s H vs Q E f hr h => ?_)
  case len => first | (obtain ⟨_, rfl, _⟩ := h; rfl) | (obtain ⟨_, _, rfl, _⟩ := h; rfl) | (obtain ⟨_, _, _, rfl, _⟩ := h; rfl) | (obtain ⟨_, _, _, _, rfl, _⟩ := h; rfl) | (obtain ⟨_, _, _, _, _, rfl, _⟩ := h; rfl) | (obtain ⟨_, _, _, _, _, _, rfl, _⟩ := h; rfl) | (obtain ⟨_, _, _, _, _, _, _, rfl, _⟩ := h; rfl) | (obtain ⟨_, _, _, _, _, _, _, _, rfl, _⟩ := h; rfl) | (obtain ⟨_, _, _, _, _, _, _, _, _, rfl, _⟩ := h; rfl) | (obtain ⟨_, _, _, _, _, _, _, _, _, _, rfl, _⟩ := h; rfl) | (obtain ⟨_, _, _, _, _, _, _, _, _, _, _, rfl, _⟩ := h; rfl) | (obtain ⟨_, _, _, _, _, _, _, _, _, _, _, _, rfl, _⟩ := h; rfl)
  refine ⟨_, (pss_cons (ps_set (i := 2) sc_law_arcs.nd rfl (.inl rfl) (pe_lst pa_nil))
      (pss_cons (ps_for PassesOwn.never rfl (pi_range1 rfl T.range (pa_cons (x_ixL K rfl (pe_lst (pa_cons pe_int (pa_cons pe_int (pa_cons pe_int (pa_cons pe_int (pa_cons pe_int (pa_cons pe_int pa_nil))))))) (x_call C_law_draw hr (pa_cons (pv 0) (pa_cons pe_int pa_nil)))) pa_nil)) (pg_name (i := 3) sc_law_arcs.nd rfl (.inl rfl))
        (pss_one (x_app K rfl (pe_bm PySem.F.plainAttrs_list PySem.F.slot_list_append PySem.F.type_list_append mt_append (pv 2) (pa_cons (pe_tup (pa_cons (x_call C_law_draw hr (pa_cons (pv 0) (pa_cons (pv 1) pa_nil))) (pa_cons (x_ixL K rfl (pe_lst (pa_cons pe_int (pa_cons pe_int (pa_cons (pe_un un_neg pe_int) (pa_cons pe_int (pa_cons pe_int (pa_cons (pe_un un_neg pe_int) (pa_cons pe_int (pa_cons (pe_un un_neg pe_int) (pa_cons pe_int pa_nil)))))))))) (x_call C_law_draw hr (pa_cons (pv 0) (pa_cons pe_int pa_nil)))) pa_nil))) pa_nil)))))
      (pss_one (ps_ret (pv 2))))), ?_⟩
  obtain ⟨sa, sc, l, n, rfl, n0, n1, hS, sm, k⟩ := h
  refine q_asgL (el_lst ea_nil (by decide)) fun o H1 no e1 h1 => ?_
  have nos : o ≠ sa := fun z => sm.some (z ▸ no)
  have g1 : SG sa sc H H1 := .of sm e1
  refine q_forRD (Pn := fun m => 1 ≤ m ∧ m ≤ 6) g1.sm (ead_cons (ed_ixLit (xs := [.int 1, .int 2, .int 2, .int 3, .int 2, .int 6]) (fun _ => ea_cons ev_c (ea_cons ev_c (ea_cons ev_c (ea_cons ev_c (ea_cons ev_c (ea_cons ev_c ea_nil)))))) (by decide) fun H2 g2 => ed_draw (m := 6) rfl (fun _ => ev_c) (by omega) (by omega) (ex_l (g1.trans g2).ex hS)) fun v H2 g2 hv => ead_nil fun _ _ => ?_) fun m H2 hm g2 => ?_
  · simp only [List.mem_cons, List.not_mem_nil, or_false] at hv
    rcases hv with rfl | rfl | rfl | rfl | rfl | rfl
    · exact ⟨1, rfl, by omega, by omega⟩
    · exact ⟨2, rfl, by omega, by omega⟩
    · exact ⟨2, rfl, by omega, by omega⟩
    · exact ⟨3, rfl, by omega, by omega⟩
    · exact ⟨2, rfl, by omega, by omega⟩
    · exact ⟨6, rfl, by omega, by omega⟩
  have g12 := g1.trans g2
  refine q_forR1 (n := (m : Nat)) (ea_cons ev_c ea_nil) ⟨by omega, by omega⟩ (fun i σ H' => ∃ (u : Option V) (us : List V) (as : Arcs), σ = [some (.ref sa), some (.int (n : Nat)), some (.ref o), u] ∧ SG sa sc H H' ∧ H' o = some (.lst us) ∧ LL (ArcV K (Nw H (Hd o H'))) us as ∧ as.length = i ∧ ∀ q ∈ as, q.1 < n ∧ q.2 ≤ 5)
    (fun H3 e3 => ⟨_, [], [], rfl, g12.go e3, e3 _ _ (g2.at nos h1), LL.nil, rfl, fun q hq => by cases hq⟩) (fun i σ H' hi hp => ?_) (fun σ H' hp => ?_)
  · obtain ⟨u, us, as, rfl, g, ho, hL, hl, hP⟩ := hp
    refine s_appD g.sm nos ho (fun _ => ev_var rfl) (ed_tup (Pd := fun vs _ => ∃ (t : Nat) (c : Int), vs = [.int t, .int c] ∧ t < n ∧ c ≤ 5) (ead_cons (ed_draw rfl (fun _ => ev_var rfl) n0 n1 (ex_l g.ex hS)) fun v1 H3 g3 hv1 => ead_cons (ed_ixLit (xs := [.int 0, .int 1, .int (-1), .int 2, .int 0, .int (-2), .int 5, .int (-4), .int 3]) (fun _ => ea_cons ev_c (ea_cons ev_c (ea_cons (ev_un ev_c ru_neg) (ea_cons ev_c (ea_cons ev_c (ea_cons (ev_un ev_c ru_neg) (ea_cons ev_c (ea_cons (ev_un ev_c ru_neg) (ea_cons ev_c ea_nil))))))))) (by decide) fun H4 g4 => ed_draw (m := 9) rfl (fun _ => ev_c) (by omega) (by omega) (ex_l ((g.trans g3).trans g4).ex hS)) fun v2 H4 g4 hv2 => ead_nil fun _ _ => ?_) fun vs H3 hv => ?_) (by have := hL.1; omega) fun v H3 g3 hv => ?_
    · obtain ⟨t, ht, rfl⟩ := hv1
      simp only [List.mem_cons, List.not_mem_nil, or_false] at hv2
      rcases hv2 with rfl | rfl | rfl | rfl | rfl | rfl | rfl | rfl | rfl <;> exact ⟨t, _, rfl, ht, by omega⟩
    · obtain ⟨t, c, rfl, _⟩ := hv
      show 2 ≤ 100000; decide
    · obtain ⟨p, vs, H4, rfl, ⟨t, c, rfl, ht, hc⟩, g4, np, rfl⟩ := hv
      have npo : p ≠ o := fun z => by rw [z, g4.at nos ho] at np; cases np
      have gp := g.trans g3
      have e5 : Ex (Nw H (Hd o H')) (Nw H (Hd o (upd H4 p (.tup [.int (t : Nat), .int c])))) := nw_sgo sm.some g3
      refine ⟨_, us ++ [.ref p], as ++ [(t, c)], rfl, gp.mut no nos, upd_same, ?_, by rw [List.length_append, List.length_singleton, hl], fun q hq => ?_⟩
      · rw [hd_upd]
        refine (hL.mono fun v x z => z.mono e5).snoc ⟨p, rfl, st_of ?_⟩
        rw [nw_at ((g.trans g4).back np), hd_ne npo, upd_same]
      · rcases List.mem_append.mp hq with y | y
        · exact hP q y
        · rw [List.mem_singleton.mp y]; exact ⟨ht, hc⟩
  · obtain ⟨u, us, as, rfl, g, ho, hL, hl, hP⟩ := hp
    refine s_ret (ev_var rfl) fun H3 e3 => k o us as H3 no (e3 _ _ ho) (hL.mono fun v x z => z.mono (nw_oex.trans (nw_mono e3))) ⟨?_, by omega, hP⟩ (g.go e3)
    intro z
    rw [z, List.length_nil] at hl
    omega
theorem ed_arcs {sa sc : Addr} {σ : L2.St} {H : Hp} {te : TE} {l : List Int} {i n : Nat} (hi : σ[i]? = some (some (.ref sa))) (hm : ∀ H1, Ev te σ H1 (.int (n : Nat))) (n0 : 0 < n) (n1 : n < 1000000) (hS : SqL K (Hd sa H) sc (l.map V.int)) :
    EvD sa sc (tCall (spArcs K) [] E0 (tCons (tVar i) (tCons te tNil))) σ H fun v H2 => ∃ p us as, v = .ref p ∧ H p = none ∧ H2 p = some (.lst us) ∧ LL (ArcV K (Nw H H2)) us as ∧ ArcP n as :=
  ed_call (Pd := fun vs _ => vs = [.ref sa, .int (n : Nat)]) (ead_cons (ed_ev fun _ => ev_var hi) fun v H1 g hv => ead_cons (ed_ev hm) fun v2 H2 g2 hv2 => ead_nil fun _ _ => by rw [hv, hv2]) fun vs H1 g hv Q q =>
    ⟨sa, sc, l, n, hv, n0, n1, ex_l g.ex hS, g.sm, fun p us as H2 h1 h2 h3 h4 g2 => q _ H2 g2 ⟨p, us, as, rfl, g.back h1, h2, h3.mono fun v x z => z.mono (nw_since fun p hp => g.back hp), h4⟩⟩
/-- a formula that the law draws -/
structure FmP (n : Nat) (f : Fm) : Prop where
  ok : FOk n f
  al : (arcsF f).length ≤ 6
  num : ∀ u, f = .amt (some u) → u ≤ 12
  sh : ∀ q ∈ arcsF f, q.2 ≤ 5
def spFormula (K : PySem.W.Frag) : Sp := fun vs H Q _ => ∃ (sa sc : Addr) (l : List Int) (n : Nat), vs = [.ref sa, .int n] ∧ 0 < n ∧ n < 1000000 ∧ SqL K (Hd sa H) sc (l.map V.int) ∧ Sm sa sc H ∧
  ∀ v f H', FmV K (Nw H H') v f → FmP n f → SG sa sc H H' → Q v H'
theorem sc_law_formula : FnScope ["_law_stream", "_law_many", "_law_kind"] ["_law_stream", "_law_many"] (defScope sLawFormula) := ⟨rfl, rfl, rfl, by decide +kernel, rfl, by decide +kernel, by decide +kernel⟩
-- slots 0 _law_stream, 1 _law_many, 2 _law_kind
theorem c_law_formula (T : Top K mg) (C_law_draw : Callee P w K mg base "_law_draw" ["_law_stream", "_law_many"] 1 (spDraw K)) (C_law_amount : Callee P w K mg base "_law_amount" ["_law_stream", "_law_most_here"] 2 (spAmount K)) (C_law_arcs : Callee P w K mg base "_law_arcs" ["_law_stream", "_law_many"] 2 (spArcs K)) : Callee P w K mg base "_law_formula" ["_law_stream", "_law_many"] 3 (spFormula K) := by
  refine ok_of (N := ["_law_stream", "_law_many", "_law_kind"]) T (List.mem_of_getElem? (i := 32) rfl) sc_law_formula (fun _ _ _ _ _ _ us hl => match us, hl with | [_, _], _ => rfl) (fun vs H Q E h => ?len) (fun cdv A outer s H vs Q E f hr h => ?_)
  case len => first | (obtain ⟨_, rfl, _⟩ := h; rfl) | (obtain ⟨_, _, rfl, _⟩ := h; rfl) | (obtain ⟨_, _, _, rfl, _⟩ := h; rfl) | (obtain ⟨_, _, _, _, rfl, _⟩ := h; rfl) | (obtain ⟨_, _, _, _, _, rfl, _⟩ := h; rfl) | (obtain ⟨_, _, _, _, _, _, rfl, _⟩ := h; rfl) | (obtain ⟨_, _, _, _, _, _, _, rfl, _⟩ := h; rfl) | (obtain ⟨_, _, _, _, _, _, _, _, rfl, _⟩ := h; rfl) | (obtain ⟨_, _, _, _, _, _, _, _, _, rfl, _⟩ := h; rfl) | (obtain ⟨_, _, _, _, _, _, _, _, _, _, rfl, _⟩ := h; rfl) | (obtain ⟨_, _, _, _, _, _, _, _, _, _, _, rfl, _⟩ := h; rfl) | (obtain ⟨_, _, _, _, _, _, _, _, _, _, _, _, rfl, _⟩ := h; rfl)
  refine ⟨_, (pss_cons (ps_set (i := 2) sc_law_formula.nd rfl (.inl rfl) (x_ixL K rfl (pe_lst (pa_cons pe_str (pa_cons pe_str (pa_cons pe_str (pa_cons pe_str (pa_cons pe_str (pa_cons pe_str (pa_cons pe_str (pa_cons pe_str (pa_cons pe_str pa_nil)))))))))) (x_call C_law_draw hr (pa_cons (pv 0) (pa_cons pe_int pa_nil)))))
      (pss_cons (ps_if (pt_cmpR op_eq (pv 2) pe_str (nomark _))
        (pss_one (ps_ret (pe_tup (pa_cons pe_str (pa_cons (x_call C_law_amount hr (pa_cons (pv 0) (pa_cons pe_int pa_nil))) pa_nil)))))
        pss_nil)
      (pss_cons (ps_if (pt_cmpR op_eq (pv 2) pe_str (nomark _))
        (pss_one (ps_ret (pe_tup (pa_cons pe_str (pa_cons (x_call C_law_draw hr (pa_cons (pv 0) (pa_cons (pv 1) pa_nil))) (pa_cons (pe_op op_add pe_int (x_call C_law_draw hr (pa_cons (pv 0) (pa_cons pe_int pa_nil)))) (pa_cons (x_call C_law_draw hr (pa_cons (pv 0) (pa_cons (pv 1) pa_nil))) pa_nil)))))))
        pss_nil)
      (pss_one (ps_ret (pe_tup (pa_cons (pv 2) (pa_cons (x_call C_law_arcs hr (pa_cons (pv 0) (pa_cons (pv 1) pa_nil))) pa_nil)))))))), ?_⟩
  obtain ⟨sa, sc, l, n, rfl, n0, n1, hS, sm, k⟩ := h
  refine q_asgD (Pd := fun v _ => v ∈ [V.str (Str.ofString "amount"), .str (Str.ofString "amount"), .str (Str.ofString "least"), .str (Str.ofString "least"), .str (Str.ofString "least"), .str (Str.ofString "greatest"), .str (Str.ofString "greatest"), .str (Str.ofString "greatest"), .str (Str.ofString "when")]) sm (ed_ixLit (fun _ => ea_cons ev_c (ea_cons ev_c (ea_cons ev_c (ea_cons ev_c (ea_cons ev_c (ea_cons ev_c (ea_cons ev_c (ea_cons ev_c (ea_cons ev_c ea_nil))))))))) (by decide) fun H2 g2 => ed_draw (m := 9) rfl (fun _ => ev_c) (by omega) (by omega) (ex_l g2.ex hS)) fun v H1 g1 hv => ?_
  have cs : v = .str (Str.ofString "amount") ∨ v = .str (Str.ofString "least") ∨ v = .str (Str.ofString "greatest") ∨ v = .str (Str.ofString "when") := by
    simp only [List.mem_cons, List.not_mem_nil, or_false] at hv
    rcases hv with z | z | z | z | z | z | z | z | z
    · exact .inl z
    · exact .inl z
    · exact .inr (.inl z)
    · exact .inr (.inl z)
    · exact .inr (.inl z)
    · exact .inr (.inr (.inl z))
    · exact .inr (.inr (.inl z))
    · exact .inr (.inr (.inl z))
    · exact .inr (.inr (.inr z))
  clear hv
  rcases cs with rfl | rfl | rfl | rfl
  · refine q_when (et_am (g := .amt none) (ev_var rfl)) (fun _ H2 e2 => ?_) (fun hb => by cases hb)
    have g2 := g1.go e2
    refine s_retD g2.sm (ed_tup (Pd := fun vs _ => ∃ a : Am, vs = [.str (Str.ofString "amount"), av a] ∧ ∀ u, a = some u → u < 12) (ead_cons (ed_ev fun _ => ev_c) fun v1 H3 g3 hv1 => ead_cons (ed_amount (m := 12) rfl (fun _ => ev_c) (by omega) (by omega) (ex_l (g2.trans g3).ex hS)) fun v2 H4 g4 hv2 => ead_nil fun _ _ => ?_) fun vs H3 hv => ?_) fun v H3 g3 hv => ?_
    · obtain ⟨a, rfl, ha⟩ := hv2
      subst hv1
      exact ⟨a, rfl, ha⟩
    · obtain ⟨a, rfl, _⟩ := hv
      show 2 ≤ 100000; decide
    · obtain ⟨p, vs, H4, rfl, ⟨a, rfl, ha⟩, g4, np, rfl⟩ := hv
      refine k _ (.amt a) _ ⟨p, rfl, st_of ?_⟩ ⟨True.intro, Nat.zero_le _, fun u hu => ?_, fun q hq => by cases hq⟩ (g2.trans g3)
      · rw [nw_at ((g2.trans g4).back np), upd_same]
      · cases hu
        exact Nat.le_of_lt (ha u rfl)
  · refine q_when (et_am (g := .lo []) (ev_var rfl)) (fun hb => by cases hb) (fun _ H2 e2 => q_when (et_wh (g := .lo []) (ev_var rfl)) (fun hb => by cases hb) (fun _ H3 e3 => ?_))
    have g2 := (g1.go e2).go e3
    refine s_retD g2.sm (ed_tup (Pd := fun vs H' => ∃ p us as, vs = [.str (Str.ofString "least"), .ref p] ∧ H p = none ∧ H' p = some (.lst us) ∧ LL (ArcV K (Nw H H')) us as ∧ ArcP n as) (ead_cons (ed_ev fun _ => ev_var rfl) fun v1 H3 g3 hv1 => ead_cons (ed_arcs rfl (fun _ => ev_var rfl) n0 n1 (ex_l (g2.trans g3).ex hS)) fun v2 H4 g4 hv2 => ead_nil fun H5 g5 => ?_) fun vs H3 hv => ?_) fun v H3 g3 hv => ?_
    · obtain ⟨p, us, as, rfl, z1, z2, z3, z4⟩ := hv2
      subst hv1
      have b3 := g2.trans g3
      have nps : p ≠ sa := fun z => b3.sm.some (z ▸ z1)
      exact ⟨p, us, as, rfl, b3.back z1, g5.at nps z2, z3.mono fun v x z => z.mono ((nw_since fun p hp => b3.back hp).trans (nw_sg sm.some g5)), z4⟩
    · obtain ⟨p, us, as, rfl, _⟩ := hv
      show 2 ≤ 100000; decide
    · obtain ⟨r, vs, H4, rfl, ⟨p, us, as, rfl, z1, z2, z3, z4⟩, g4, np, rfl⟩ := hv
      have nr : p ≠ r := ne_of_none z2 np
      refine k _ (.lo as) _ ⟨r, rfl, p, st_of ?_, us, sq_of ?_, z3.1, (z3.mono fun v x z => z.mono (nw_mono (Ex.new np))).2⟩ ⟨⟨z4.1, fun q hq => (z4.2.2 q hq).1⟩, z4.2.1, fun u hu => (by cases hu), fun q hq => (z4.2.2 q hq).2⟩ (g2.trans g3)
      · rw [nw_at ((g2.trans g4).back np), upd_same]
      · rw [nw_at z1, upd_ne nr, z2]
  · refine q_when (et_am (g := .hi []) (ev_var rfl)) (fun hb => by cases hb) (fun _ H2 e2 => q_when (et_wh (g := .hi []) (ev_var rfl)) (fun hb => by cases hb) (fun _ H3 e3 => ?_))
    have g2 := (g1.go e2).go e3
    refine s_retD g2.sm (ed_tup (Pd := fun vs H' => ∃ p us as, vs = [.str (Str.ofString "greatest"), .ref p] ∧ H p = none ∧ H' p = some (.lst us) ∧ LL (ArcV K (Nw H H')) us as ∧ ArcP n as) (ead_cons (ed_ev fun _ => ev_var rfl) fun v1 H3 g3 hv1 => ead_cons (ed_arcs rfl (fun _ => ev_var rfl) n0 n1 (ex_l (g2.trans g3).ex hS)) fun v2 H4 g4 hv2 => ead_nil fun H5 g5 => ?_) fun vs H3 hv => ?_) fun v H3 g3 hv => ?_
    · obtain ⟨p, us, as, rfl, z1, z2, z3, z4⟩ := hv2
      subst hv1
      have b3 := g2.trans g3
      have nps : p ≠ sa := fun z => b3.sm.some (z ▸ z1)
      exact ⟨p, us, as, rfl, b3.back z1, g5.at nps z2, z3.mono fun v x z => z.mono ((nw_since fun p hp => b3.back hp).trans (nw_sg sm.some g5)), z4⟩
    · obtain ⟨p, us, as, rfl, _⟩ := hv
      show 2 ≤ 100000; decide
    · obtain ⟨r, vs, H4, rfl, ⟨p, us, as, rfl, z1, z2, z3, z4⟩, g4, np, rfl⟩ := hv
      have nr : p ≠ r := ne_of_none z2 np
      refine k _ (.hi as) _ ⟨r, rfl, p, st_of ?_, us, sq_of ?_, z3.1, (z3.mono fun v x z => z.mono (nw_mono (Ex.new np))).2⟩ ⟨⟨z4.1, fun q hq => (z4.2.2 q hq).1⟩, z4.2.1, fun u hu => (by cases hu), fun q hq => (z4.2.2 q hq).2⟩ (g2.trans g3)
      · rw [nw_at ((g2.trans g4).back np), upd_same]
      · rw [nw_at z1, upd_ne nr, z2]
  · refine q_when (et_am (g := .wh 0 0 0) (ev_var rfl)) (fun hb => by cases hb) (fun _ H2 e2 => q_when (et_wh (g := .wh 0 0 0) (ev_var rfl)) (fun _ H3 e3 => ?_) (fun hb => by cases hb))
    have g2 := (g1.go e2).go e3
    refine s_retD g2.sm (ed_tup (Pd := fun vs _ => ∃ j a t : Nat, vs = [.str (Str.ofString "when"), .int j, .int a, .int t] ∧ j < n ∧ t < n) (ead_cons (ed_ev fun _ => ev_c) fun v1 H3 g3 hv1 => ead_cons (ed_draw rfl (fun _ => ev_var rfl) n0 n1 (ex_l (g2.trans g3).ex hS)) fun v2 H4 g4 hv2 => ead_cons (ed_op (Pb := fun _ _ => True) (Pd := fun v _ => ∃ a : Nat, v = .int a) (ed_ev fun _ => ev_c) fun x H5 g5 hx => (ed_draw (m := 8) rfl (fun _ => ev_c) (by omega) (by omega) (ex_l (((g2.trans g3).trans g4).trans g5).ex hS)).imp fun y H6 g6 hy => ?_) fun v3 H5 g5 hv3 => ead_cons (ed_draw rfl (fun _ => ev_var rfl) n0 n1 (ex_l (((g2.trans g3).trans g4).trans g5).ex hS)) fun v4 H6 g6 hv4 => ead_nil fun _ _ => ?_) fun vs H3 hv => ?_) fun v H3 g3 hv => ?_
    · subst hx
      obtain ⟨a, _, rfl⟩ := hy
      exact ⟨trivial, fun Q q => ⟨1, (a : Nat), rfl, rfl, q _ _ (.refl g6.sm) ⟨1 + a, rfl⟩⟩⟩
    · obtain ⟨j, hj, rfl⟩ := hv2
      obtain ⟨a, rfl⟩ := hv3
      obtain ⟨t, ht, rfl⟩ := hv4
      subst hv1
      exact ⟨j, a, t, rfl, hj, ht⟩
    · obtain ⟨j, a, t, rfl, _⟩ := hv
      show 4 ≤ 100000; decide
    · obtain ⟨p, vs, H4, rfl, ⟨j, a, t, rfl, hj, ht⟩, g4, np, rfl⟩ := hv
      refine k _ (.wh j a t) _ ⟨p, rfl, st_of ?_⟩ ⟨⟨hj, ht⟩, by show 1 ≤ 6; decide, fun u hu => (by cases hu), fun q hq => ?_⟩ (g2.trans g3)
      · rw [nw_at ((g2.trans g4).back np), upd_same]
      · rw [List.mem_singleton.mp hq]; show (0 : Int) ≤ 5; decide
def spFlat (K : PySem.W.Frag) : Sp := fun vs H Q _ => ∃ (sa sc : Addr) (l : List Int), vs = [.ref sa, .int 6] ∧ SqL K (Hd sa H) sc (l.map V.int) ∧ Sm sa sc H ∧
  ∀ p (fl : List Fm) H', H p = none → FlAt K (Nw H H') p fl → 0 < fl.length → fl.length ≤ 12 → (∀ f ∈ fl, FmP fl.length f) → SG sa sc H H' → Q (.ref p) H'
theorem sc_law_flat : FnScope ["_law_stream", "_law_most_here", "_law_many", "_law_cell"] ["_law_stream", "_law_most_here"] (defScope sLawFlat) := ⟨rfl, rfl, rfl, by decide +kernel, rfl, by decide +kernel, by decide +kernel⟩
-- slots 0 _law_stream, 1 _law_most_here, 2 _law_many, 3 _law_cell
theorem c_law_flat (T : Top K mg) (C_law_draw : Callee P w K mg base "_law_draw" ["_law_stream", "_law_many"] 1 (spDraw K)) (C_law_formula : Callee P w K mg base "_law_formula" ["_law_stream", "_law_many"] 3 (spFormula K)) : Callee P w K mg base "_law_flat" ["_law_stream", "_law_most_here"] 4 (spFlat K) := by
  refine ok_of (N := ["_law_stream", "_law_most_here", "_law_many", "_law_cell"]) T (List.mem_of_getElem? (i := 33) rfl) sc_law_flat (fun _ _ _ _ _ _ us hl => match us, hl with | [_, _], _ => rfl) (fun vs H Q E h => ?len) (fun cdv A outer s H vs Q E f hr h => ?_)
  case len => first | (obtain ⟨_, rfl, _⟩ := h; rfl) | (obtain ⟨_, _, rfl, _⟩ := h; rfl) | (obtain ⟨_, _, _, rfl, _⟩ := h; rfl) | (obtain ⟨_, _, _, _, rfl, _⟩ := h; rfl) | (obtain ⟨_, _, _, _, _, rfl, _⟩ := h; rfl) | (obtain ⟨_, _, _, _, _, _, rfl, _⟩ := h; rfl) | (obtain ⟨_, _, _, _, _, _, _, rfl, _⟩ := h; rfl) | (obtain ⟨_, _, _, _, _, _, _, _, rfl, _⟩ := h; rfl) | (obtain ⟨_, _, _, _, _, _, _, _, _, rfl, _⟩ := h; rfl) | (obtain ⟨_, _, _, _, _, _, _, _, _, _, rfl, _⟩ := h; rfl) | (obtain ⟨_, _, _, _, _, _, _, _, _, _, _, rfl, _⟩ := h; rfl) | (obtain ⟨_, _, _, _, _, _, _, _, _, _, _, _, rfl, _⟩ := h; rfl)
  refine ⟨_, (pss_cons (ps_set (i := 2) sc_law_flat.nd rfl (.inr rfl) (pe_op op_add pe_int (x_call C_law_draw hr (pa_cons (pv 0) (pa_cons (pv 1) pa_nil)))))
      (pss_cut (ps_if (pt_cmpR op_eq (x_call C_law_draw hr (pa_cons (pv 0) (pa_cons pe_int pa_nil))) pe_int (nomark _))
        (pss_one (ps_set (i := 2) sc_law_flat.nd rfl (.inr rfl) (pe_op op_add (pv 1) pe_int)))
        pss_nil)
      (pss_one (ps_ret (pe_lc (own := [("_law_cell", 3)]) (g := gName 3) (tt := tYes) rfl sc_law_flat.nd (pi_range1 rfl T.range (pa_cons (pv 2) pa_nil)) (blkOk_by (N := ["_law_stream", "_law_most_here", "_law_many", "_law_cell"]) (sc := defScope sLawFlat) (by decide +kernel)) (fun _ _ _ _ _ => (pg_name (i := 3) sc_law_flat.nd rfl (.inl rfl))) (fun _ _ _ _ _ => pts_nil) (fun _ _ _ _ _ => (x_call C_law_formula hr (pa_cons (pv 0) (pa_cons (pv 2) pa_nil))))))))), ?_⟩
  obtain ⟨sa, sc, l, rfl, hS, sm, k⟩ := h
  refine q_asgD (Pd := fun v _ => ∃ n : Nat, v = nv n ∧ 1 ≤ n ∧ n ≤ 12) sm (ed_op (Pb := fun _ _ => True) (ed_ev fun _ => ev_c) fun x H5 g5 hx => (ed_draw (m := 6) rfl (fun _ => ev_var rfl) (by omega) (by omega) (ex_l g5.ex hS)).imp fun y H6 g6 hy => ?_) fun v H1 g1 hv => ?_
  · subst hx
    obtain ⟨a, ha, rfl⟩ := hy
    exact ⟨trivial, fun Q q => ⟨1, (a : Nat), rfl, rfl, q _ _ (.refl g6.sm) ⟨1 + a, rfl, by omega, by omega⟩⟩⟩
  obtain ⟨n, rfl, n0, n1⟩ := hv
  refine q_cut (M := fun σ H' => ∃ n : Nat, σ = [some (.ref sa), some (.int 6), some (nv n), none] ∧ 1 ≤ n ∧ n ≤ 12 ∧ SG sa sc H H') ?_ (fun σ' H' hM => ?_)
  · refine s_whenD (n := fun i => i < 16) g1.sm ((ed_draw (m := 16) rfl (fun _ => ev_c) (by omega) (by omega) (ex_l g1.ex hS))) (fun H2 g2 => ?_) (fun H2 g2 => ⟨n, rfl, n0, n1, g1.trans g2⟩)
    exact s_asg (v := nv 12) (ev_op (ev_var rfl) ev_c rv_I0) fun H3 e3 => ⟨12, rfl, by omega, by omega, (g1.trans g2).go e3⟩
  · clear g1 n0 n1 n
    obtain ⟨n, rfl, n0, n1, g1⟩ := hM
    refine s_retD g1.sm (ed_lcR (α := Fm) (n := n) g1.sm (fun H v f => FmV K H v f ∧ FmP n f) (fun H H' v x e z => ⟨z.1.mono e, z.2⟩) (fun _ => ea_cons (ev_var rfl) ea_nil) (by omega) (fun x => rfl) fun i H2 hi g2 => ?_) fun v H2 g2 hv => ?_
    · refine ed_call (Pd := fun vs _ => vs = [.ref sa, .int (n : Nat)]) (ead_cons (ed_ev fun _ => ev_var rfl) fun v H1 g hv => ead_cons (ed_ev fun _ => ev_var rfl) fun v2 H2 g2 hv2 => ead_nil fun _ _ => by rw [hv, hv2]; rfl) fun vs H3 g3 hv Q q => ?_
      exact ⟨sa, sc, l, n, hv, by omega, by omega, ex_l ((g1.trans g2).trans g3).ex hS, g3.sm, fun v f H4 z1 z2 g4 => q _ H4 g4 ⟨f, z1.mono (nw_since fun p hp => g3.back hp), z2⟩⟩
    · obtain ⟨p, us, fl, rfl, np, hp, hl, hL⟩ := hv
      have np0 := g1.back np
      refine k p fl H2 np0 ⟨us, sq_of (by rw [nw_at np0]; exact hp), hL.1, (hL.mono fun v x z => z.1.mono ((nw_since fun p hp => g1.back hp).trans nw_oex)).2⟩ (by omega) (by omega) (fun f hf => ?_) (g1.trans g2)
      obtain ⟨i, hi⟩ := List.mem_iff_getElem?.mp hf
      obtain ⟨v, _, _, z⟩ := hL.2 i f hi
      rw [hl]; exact z
end
end CsW

set_option Elab.async false
set_option linter.all false
set_option maxRecDepth 100000
set_option maxHeartbeats 4000000
namespace CsW
open PySem PySem.Spec PyProof.Rows L2 Evl CsTop CsM
section
variable {K : PySem.W.Frag} {σ : L2.St} {H : Hp} {te : TE}
theorem ev_maxN {ns : List Int} {z : Int} (h : EvL te σ H (ns.map V.int)) (hp : 0 < ns.length) (hz : ∀ m ∈ ns, (∀ y ∈ ns, y ≤ m) → m = z) : Ev (tCB (rMax K) (tCons te tNil)) σ H (.int z) := fun H1 e Q q =>
  h H1 e _ fun p H2 np e2 h2 => ⟨p, ns, rfl, sq_of h2, hp, fun m hm hy => by rw [hz m hm hy]; exact q H2 e2⟩
theorem ev_maxP {a : Addr} {ns : List Int} {Pm : Int → Prop} (h : Ev te σ H (.ref a)) (hs : SqL K H a (ns.map V.int)) (hp : 0 < ns.length) (hz : ∀ m ∈ ns, (∀ y ∈ ns, y ≤ m) → Pm m) : EvP (tCB (rMax K) (tCons te tNil)) σ H fun v _ => ∃ m, v = .int m ∧ Pm m := fun H1 e Q q =>
  h H1 e _ fun H2 e2 => ⟨a, ns, rfl, ex_l (e.trans e2) hs, hp, fun m hm hy => q _ H2 e2 ⟨m, rfl, hz m hm hy⟩⟩
theorem rc_intB {k : Bool} {H : Hp} : RC rInt [.bl k] H (.int (if k then 1 else 0)) := fun H1 _ Q q => .inr ⟨k, rfl, q H1 (Ex.refl _)⟩
/-- [p, q][int(b)] -/
theorem ev_pick {ta tb tc : TE} {p q z : V} {b : Bool} (ha : Ev ta σ H p) (hb : Ev tb σ H q) (hc : Ev tc σ H (.bl b)) (hz : z = if b then q else p) : Ev (tOp (rIxL K) (tLst (tCons ta (tCons tb tNil))) (tCB rInt (tCons tc tNil))) σ H z := by
  refine ev_opL1 (xs := [p, q]) (y := .int (if b then 1 else 0)) (el_lst (ea_cons ha (ea_cons hb ea_nil)) (by show 2 ≤ 100000; decide)) (fun H1 e => ev_cb (ea_cons (hc.mono e) ea_nil) rc_intB) fun r H1 hr e => ?_
  cases b with
  | true => exact rv_ixL (i := ((1 : Nat) : Int)) (sq_of hr) (atI_nat (j := 1) (by rw [hz]; rfl))
  | false => exact rv_ixL (i := ((0 : Nat) : Int)) (sq_of hr) (atI_nat (j := 0) (by rw [hz]; rfl))
end
section
variable {P : Program} {w : World} {K : PySem.W.Frag} {mg : Str → Option Value} {base : Heap}
theorem sc_law_most : FnScope ["_law_a", "_law_b"] ["_law_a", "_law_b"] (defScope sLawMost) := ⟨rfl, rfl, rfl, by decide +kernel, rfl, by decide +kernel, by decide +kernel⟩
-- slots 0 _law_a, 1 _law_b
theorem c_law_most (T : Top K mg) : Callee P w K mg base "_law_most" ["_law_a", "_law_b"] 1 spAtMost := by
  refine ok_of (N := ["_law_a", "_law_b"]) T (List.mem_of_getElem? (i := 34) rfl) sc_law_most (fun _ _ _ _ _ _ us hl => match us, hl with | [_, _], _ => rfl) (fun vs H Q E h => ?len) (fun cdv A outer s H vs Q E f hr h => ?_)
  case len => first | (obtain ⟨_, rfl, _⟩ := h; rfl) | (obtain ⟨_, _, rfl, _⟩ := h; rfl) | (obtain ⟨_, _, _, rfl, _⟩ := h; rfl) | (obtain ⟨_, _, _, _, rfl, _⟩ := h; rfl) | (obtain ⟨_, _, _, _, _, rfl, _⟩ := h; rfl) | (obtain ⟨_, _, _, _, _, _, rfl, _⟩ := h; rfl) | (obtain ⟨_, _, _, _, _, _, _, rfl, _⟩ := h; rfl) | (obtain ⟨_, _, _, _, _, _, _, _, rfl, _⟩ := h; rfl) | (obtain ⟨_, _, _, _, _, _, _, _, _, rfl, _⟩ := h; rfl) | (obtain ⟨_, _, _, _, _, _, _, _, _, _, rfl, _⟩ := h; rfl) | (obtain ⟨_, _, _, _, _, _, _, _, _, _, _, rfl, _⟩ := h; rfl) | (obtain ⟨_, _, _, _, _, _, _, _, _, _, _, _, rfl, _⟩ := h; rfl)
  refine ⟨_, (pss_one (ps_ret (pe_or (pe_cmpR op_isN (pv 1) pe_non (nomark _)) (pe_one (pe_and (pe_cmpR op_notN (pv 0) pe_non (nomark _)) (pe_one (pe_cmpR op_le (pv 0) (pv 1) (nomark _)))))))), ?_⟩
  obtain ⟨a, b, rfl, k⟩ := h
  refine s_ret (v := .bl (am a b)) (ev_is (ev_orV (a := decide (b = none)) (b := am a b) (ev_is (ev_op (ev_var rfl) ev_c (rv_val fun _ _ _ q => ⟨rfl, q⟩)) (congrArg V.bl (av_none b))) fun hb => ?_) (congrArg V.bl ?_)) k
  · cases b with
    | none => cases hb
    | some b =>
      cases a with
      | none => exact ev_andV (a := false) (b := false) (ev_is (ev_notN (x := .non) (ev_var rfl)) (by simp)) (fun z => by cases z)
      | some a =>
        refine ev_is (ev_andV (ev_notN (ev_var rfl)) (fun _ => ev_op (ev_var rfl) (ev_var rfl) rv_I0)) ?_
        show V.bl (!decide (V.int (a : Int) = .non) && decide ((a : Int) ≤ (b : Int))) = V.bl (decide (a ≤ b))
        simp
  · cases b with
    | none => cases a <;> rfl
    | some b => simp
theorem sc_law_shift : FnScope ["_law_a", "_law_c"] ["_law_a", "_law_c"] (defScope sLawShift) := ⟨rfl, rfl, rfl, by decide +kernel, rfl, by decide +kernel, by decide +kernel⟩
-- slots 0 _law_a, 1 _law_c
theorem c_law_shift (T : Top K mg) : Callee P w K mg base "_law_shift" ["_law_a", "_law_c"] 1 spShifted := by
  refine ok_of (N := ["_law_a", "_law_c"]) T (List.mem_of_getElem? (i := 35) rfl) sc_law_shift (fun _ _ _ _ _ _ us hl => match us, hl with | [_, _], _ => rfl) (fun vs H Q E h => ?len) (fun cdv A outer s H vs Q E f hr h => ?_)
  case len => first | (obtain ⟨_, rfl, _⟩ := h; rfl) | (obtain ⟨_, _, rfl, _⟩ := h; rfl) | (obtain ⟨_, _, _, rfl, _⟩ := h; rfl) | (obtain ⟨_, _, _, _, rfl, _⟩ := h; rfl) | (obtain ⟨_, _, _, _, _, rfl, _⟩ := h; rfl) | (obtain ⟨_, _, _, _, _, _, rfl, _⟩ := h; rfl) | (obtain ⟨_, _, _, _, _, _, _, rfl, _⟩ := h; rfl) | (obtain ⟨_, _, _, _, _, _, _, _, rfl, _⟩ := h; rfl) | (obtain ⟨_, _, _, _, _, _, _, _, _, rfl, _⟩ := h; rfl) | (obtain ⟨_, _, _, _, _, _, _, _, _, _, rfl, _⟩ := h; rfl) | (obtain ⟨_, _, _, _, _, _, _, _, _, _, _, rfl, _⟩ := h; rfl) | (obtain ⟨_, _, _, _, _, _, _, _, _, _, _, _, rfl, _⟩ := h; rfl)
  refine ⟨_, (pss_cons (ps_if (pt_cmpR op_isN (pv 0) pe_non (nomark _))
        (pss_one (ps_ret pe_non))
        pss_nil)
      (pss_one (ps_ret (x_maxL K rfl rfl rfl T.max (pa_cons (pe_lst (pa_cons pe_int (pa_cons (pe_op op_add (pv 0) (pv 1)) pa_nil))) pa_nil))))), ?_⟩
  obtain ⟨a, c, rfl, k⟩ := h
  refine q_when (et_isN (ev_var rfl)) (fun hb H1 e1 => s_ret ev_c fun H2 e2 => ?_) (fun hb H1 e1 => s_ret (v := av (sh a c)) ?_ fun H2 e2 => k H2 (e1.trans e2))
  · cases a with
    | none => exact k H2 (e1.trans e2)
    | some b => cases hb
  · cases a with
    | none => cases hb
    | some a =>
      refine ev_maxN (ns := [0, (a : Int) + c]) (z := ((((a : Int) + c).toNat : Nat) : Int)) (el_lst (ea_cons ev_c (ea_cons (ev_op (ev_var rfl) (ev_var rfl) rv_I0) ea_nil)) (by show 2 ≤ 100000; decide)) (by show 0 < 2; decide) fun m hm hy => ?_
      have h0 := hy 0 (by simp)
      have h1 := hy ((a : Int) + c) (by simp)
      simp only [List.mem_cons, List.not_mem_nil, or_false] at hm
      omega
def vfold (g : Fm) (f o : Am) : Am := if ((isLo g && am o f) || (isHi g && am f o)) = true then o else f
theorem vfold_lo {l : Arcs} {xs : List Am} : xs.foldl (vfold (.lo l)) (xs.headD none) = lof xs := by
  have e : vfold (.lo l) = fun f o => if am o f then o else f := by
    funext f o
    unfold vfold
    simp [isLo, isHi]
  rw [e]; rfl
theorem vfold_hi {l : Arcs} {xs : List Am} : xs.foldl (vfold (.hi l)) (xs.headD none) = gof xs := by
  have e : vfold (.hi l) = fun f o => if am f o then o else f := by
    funext f o
    unfold vfold
    simp [isLo, isHi]
  rw [e]; rfl
theorem sc_law_value : FnScope ["_law_formula_here", "_law_x", "_law_found", "_law_best", "_law_one", "_law_cell", "_law_shift_here"] ["_law_formula_here", "_law_x"] (defScope sLawValue) := ⟨rfl, rfl, rfl, by decide +kernel, rfl, by decide +kernel, by decide +kernel⟩
-- slots 0 _law_formula_here, 1 _law_x, 2 _law_found, 3 _law_best, 4 _law_one, 5 _law_cell, 6 _law_shift_here
theorem c_law_value (T : Top K mg) (C_law_most : Callee P w K mg base "_law_most" ["_law_a", "_law_b"] 1 spAtMost) (C_law_shift : Callee P w K mg base "_law_shift" ["_law_a", "_law_c"] 1 spShifted) : Callee P w K mg base "_law_value" ["_law_formula_here", "_law_x"] 2 (spFlatValue K) := by
  refine ok_of (N := ["_law_formula_here", "_law_x", "_law_found", "_law_best", "_law_one", "_law_cell", "_law_shift_here"]) T (List.mem_of_getElem? (i := 36) rfl) sc_law_value (fun _ _ _ _ _ _ us hl => match us, hl with | [_, _], _ => rfl) (fun vs H Q E h => ?len) (fun cdv A outer s H vs Q E f hr h => ?_)
  case len => first | (obtain ⟨_, rfl, _⟩ := h; rfl) | (obtain ⟨_, _, rfl, _⟩ := h; rfl) | (obtain ⟨_, _, _, rfl, _⟩ := h; rfl) | (obtain ⟨_, _, _, _, rfl, _⟩ := h; rfl) | (obtain ⟨_, _, _, _, _, rfl, _⟩ := h; rfl) | (obtain ⟨_, _, _, _, _, _, rfl, _⟩ := h; rfl) | (obtain ⟨_, _, _, _, _, _, _, rfl, _⟩ := h; rfl) | (obtain ⟨_, _, _, _, _, _, _, _, rfl, _⟩ := h; rfl) | (obtain ⟨_, _, _, _, _, _, _, _, _, rfl, _⟩ := h; rfl) | (obtain ⟨_, _, _, _, _, _, _, _, _, _, rfl, _⟩ := h; rfl) | (obtain ⟨_, _, _, _, _, _, _, _, _, _, _, rfl, _⟩ := h; rfl) | (obtain ⟨_, _, _, _, _, _, _, _, _, _, _, _, rfl, _⟩ := h; rfl)
  refine ⟨_, (pss_cons (ps_if (pt_cmpR op_eq (x_ixT K rfl (pv 0) pe_int) pe_str (nomark _))
        (pss_one (ps_ret (x_ixT K rfl (pv 0) pe_int)))
        pss_nil)
      (pss_cons (ps_if (pt_cmpR op_eq (x_ixT K rfl (pv 0) pe_int) pe_str (nomark _))
        (pss_cons (ps_if (pt_val (x_call C_law_most hr (pa_cons (x_ixT K rfl (pv 0) pe_int) (pa_cons (x_ixL K rfl (pv 1) (x_ixT K rfl (pv 0) pe_int)) pa_nil))))
          (pss_one (ps_ret (x_ixL K rfl (pv 1) (x_ixT K rfl (pv 0) pe_int))))
          pss_nil)
        (pss_one (ps_ret pe_int)))
        pss_nil)
      (pss_cons (ps_setLc (i := 2) (own := [("_law_cell", 5), ("_law_shift_here", 6)]) (g := gTup K 2 (gCons (gName 5) (gCons (gName 6) (gNil)))) (tt := tYes) rfl sc_law_value.nd rfl rfl (sw_true rfl rfl rfl (by decide +kernel)) (x_piL K rfl (x_ixT K rfl (pv 0) pe_int)) (blkOk_by (N := ["_law_formula_here", "_law_x", "_law_found", "_law_best", "_law_one", "_law_cell", "_law_shift_here"]) (sc := defScope sLawValue) (by decide +kernel)) (fun _ _ _ _ _ => (x_tup K rfl rfl (pgs_cons (pg_name (i := 5) sc_law_value.nd rfl (.inl rfl)) (pgs_cons (pg_name (i := 6) sc_law_value.nd rfl (.inl rfl)) pgs_nil)))) (fun _ _ _ _ _ => pts_nil) (fun _ _ _ _ _ => (x_call C_law_shift hr (pa_cons (x_ixL K rfl (pv 1) (pv 5)) (pa_cons (pv 6) pa_nil)))))
      (pss_cons (ps_set (i := 3) sc_law_value.nd rfl (.inl rfl) (x_ixL K rfl (pv 2) pe_int))
      (pss_cons (ps_for PassesOwn.never rfl (x_piL K rfl (pv 2)) (pg_name (i := 4) sc_law_value.nd rfl (.inl rfl))
        (pss_one (ps_if ((pw_or ((pw_and (pt_cmpR op_eq (x_ixT K rfl (pv 0) pe_int) pe_str (nomark _)) (pw_and1 (pt_val (x_call C_law_most hr (pa_cons (pv 4) (pa_cons (pv 3) pa_nil))))))).pt (pw_or1 ((pw_and (pt_cmpR op_eq (x_ixT K rfl (pv 0) pe_int) pe_str (nomark _)) (pw_and1 (pt_val (x_call C_law_most hr (pa_cons (pv 3) (pa_cons (pv 4) pa_nil))))))).pt))).pt
          (pss_one (ps_set (i := 3) sc_law_value.nd rfl (.inl rfl) (pv 4)))
          pss_nil)))
      (pss_one (ps_ret (pv 3)))))))), ?_⟩
  obtain ⟨r, b, g, x, rfl, hf, hx, wf, hl, k⟩ := h
  by_cases hA : isAm g = true
  · cases g with
    | amt a => exact q_when (et_am (g := .amt a) (ev_kind (ev_var rfl) hf)) (fun _ H2 e2 => s_ret (ev_ixT (i := 1) (ev_var rfl) ev_c (show SqT K H2 r _ from ex_t e2 hf) rfl) fun H3 e3 => k H3 (e2.trans e3)) (fun hb => by cases hb)
    | lo l => cases hA
    | hi l => cases hA
    | wh j a c => cases hA
  refine q_when (et_am (g := g) (ev_kind (ev_var rfl) hf)) (fun hb => absurd hb hA) (fun _ H1 e1 => ?_)
  have hf1 := hf.mono e1
  by_cases hW : isWh g = true
  · cases g with
    | amt a => cases hW
    | lo l => cases hW
    | hi l => cases hW
    | wh j a c =>
      refine q_when (et_wh (g := .wh j a c) (ev_kind (ev_var rfl) hf1)) (fun _ H2 e2 => ?_) (fun hb => by cases hb)
      have e12 := e1.trans e2
      have hR : SqT K H2 r [.str "when", .int j, .int a, .int c] := ex_t e12 hf
      have hX := hx.mono e12
      refine q_when (et_most (a := some a) (b := CsM.fn x j) (ev_ixT (i := 2) (ev_var rfl) ev_c hR rfl) (ev_am (ev_var rfl) (ev_ixT (i := 1) (ev_var rfl) ev_c hR rfl) hX wf.1)) (fun hb H3 e3 => ?_) (fun hb H3 e3 => ?_)
      · rw [show val (.wh j a c) (CsM.fn x) = CsM.fn x c from if_pos hb] at k
        exact s_ret (ev_am (ev_var rfl) (ev_ixT (i := 3) (ev_var rfl) ev_c (ex_t e3 hR) rfl) (hX.mono e3) wf.2) fun H4 e4 => k H4 ((e12.trans e3).trans e4)
      · rw [show val (.wh j a c) (CsM.fn x) = some 0 from if_neg (by rw [hb]; decide)] at k
        exact s_ret ev_c fun H4 e4 => k H4 ((e12.trans e3).trans e4)
  refine q_when (et_wh (g := g) (ev_kind (ev_var rfl) hf1)) (fun hb => absurd hb hW) (fun _ H2 e2 => ?_)
  have e12 := e1.trans e2
  have hf2 := hf.mono e12
  have hx2 := hx.mono e12
  have main : ∃ (l : Arcs) (bb : Addr) (s : Str), SqT K H2 r [.str s, .ref bb] ∧ ArcsAt K H2 bb l ∧ l ≠ [] ∧ (∀ p ∈ l, p.1 < x.length) ∧ l.length ≤ 1000 ∧ val g (CsM.fn x) = (vals l (CsM.fn x)).foldl (vfold g) ((vals l (CsM.fn x)).headD none) := by
    cases g with
    | amt a => exact absurd rfl hA
    | wh j a c => exact absurd rfl hW
    | lo l =>
      obtain ⟨bb, h1, h2⟩ := hf2
      exact ⟨l, bb, _, h1, h2, wf.1, wf.2, hl, vfold_lo.symm⟩
    | hi l =>
      obtain ⟨bb, h1, h2⟩ := hf2
      exact ⟨l, bb, _, h1, h2, wf.1, wf.2, hl, vfold_hi.symm⟩
  obtain ⟨l, bb, s, h1, h2, ne, hp, hz, ev⟩ := main
  rw [ev] at k
  obtain ⟨vs, v1, v2, v3⟩ := h2.at_
  refine q_asgL (xs := (vals l (CsM.fn x)).map av) ?_ fun fa H3 nfa e3 hfa => ?_
  · have e0 : (vals l (CsM.fn x)).map av = l.map fun p => av (sh (CsM.fn x p.1) p.2) := by unfold vals; rw [List.map_map]; rfl
    rw [e0]
    refine el_lcMap _ (ev_ixT (i := 1) (ev_var rfl) ev_c h1 rfl) v1 v2 (by omega) fun i u p hu hpi => ?_
    obtain ⟨rr, t2, t3⟩ := v3 i p hpi
    rw [hu] at t2; cases t2
    exact ⟨_, fun H1 e Q q => g_two (ex_t e t3) q, rfl, ev_shift (ev_am (ev_var rfl) (ev_var rfl) hx2 (hp p (List.mem_of_getElem? hpi))) (ev_var rfl)⟩
  have ne2 : vals l (CsM.fn x) ≠ [] := fun z => ne (List.map_eq_nil_iff.mp z)
  generalize vals l (CsM.fn x) = xs at hfa ne2 k
  have a0 : (xs.map av)[0]? = some (av (xs.headD none)) := by rw [List.getElem?_map, hd0 ne2]; rfl
  refine q_asg (ev_ixL (i := 0) (ev_var rfl) ev_c (sq_of hfa) a0) fun H4 e4 => ?_
  have e14 := (e12.trans e3).trans e4
  refine q_forLn (ev_var rfl) (ex_l e4 (sq_of hfa)) (fun i σ H' => Ex H3 H' ∧ ∃ o5 o6 o7, σ = [some (.ref r), some (.ref b), some (.ref fa), some (av ((xs.take i).foldl (vfold g) (xs.headD none))), o5, o6, o7]) (fun H5 e5 => ⟨e4.trans e5, _, _, _, rfl⟩) (fun i σ H' _ p => ex_l p.1 (sq_of hfa)) (fun i y σ H' hy p => ?_) (fun σ H' p => ?_)
  · obtain ⟨ex, o5, o6, o7, rfl⟩ := p
    rw [List.getElem?_map] at hy
    cases ey : xs[i]? with
    | none => rw [ey] at hy; cases hy
    | some y =>
      rw [ey] at hy; cases hy
      have R := hf.mono ((e12.trans e3).trans ex)
      refine s_when (b := (isLo g && am y ((xs.take i).foldl (vfold g) (xs.headD none))) || (isHi g && am ((xs.take i).foldl (vfold g) (xs.headD none)) y)) (et_or (et_and (et_lo (g := g) (ev_kind (ev_var rfl) R)) fun _ => et_most (ev_var rfl) (ev_var rfl)) fun _ => et_and (et_hi (g := g) (ev_kind (ev_var rfl) R)) fun _ => et_most (ev_var rfl) (ev_var rfl)) (fun hb H5 e5 => s_asg (ev_var rfl) fun H6 e6 => ?_) (fun hb H5 e5 => ?_)
      · refine ⟨(ex.trans e5).trans e6, some (av y), o6, o7, ?_⟩
        rw [fold_take _ _ _ _ _ ey, vfold, if_pos hb]; rfl
      · refine ⟨ex.trans e5, some (av y), o6, o7, ?_⟩
        rw [fold_take _ _ _ _ _ ey, vfold, if_neg (by rw [hb]; decide)]; rfl
  · obtain ⟨ex, o5, o6, o7, rfl⟩ := p
    rw [List.length_map, List.take_of_length_le (Nat.le_refl _)]
    exact s_ret (ev_var rfl) fun H6 e6 => k H6 (((e12.trans e3).trans ex).trans e6)
theorem sc_law_round : FnScope ["_law_flat_here", "_law_x", "_law_formula_here"] ["_law_flat_here", "_law_x"] (defScope sLawRound) := ⟨rfl, rfl, rfl, by decide +kernel, rfl, by decide +kernel, by decide +kernel⟩
-- slots 0 _law_flat_here, 1 _law_x, 2 _law_formula_here
theorem c_law_round (T : Top K mg) (C_law_value : Callee P w K mg base "_law_value" ["_law_formula_here", "_law_x"] 2 (spFlatValue K)) : Callee P w K mg base "_law_round" ["_law_flat_here", "_law_x"] 3 (spFlatValues K) := by
  refine ok_of (N := ["_law_flat_here", "_law_x", "_law_formula_here"]) T (List.mem_of_getElem? (i := 37) rfl) sc_law_round (fun _ _ _ _ _ _ us hl => match us, hl with | [_, _], _ => rfl) (fun vs H Q E h => ?len) (fun cdv A outer s H vs Q E f hr h => ?_)
  case len => first | (obtain ⟨_, rfl, _⟩ := h; rfl) | (obtain ⟨_, _, rfl, _⟩ := h; rfl) | (obtain ⟨_, _, _, rfl, _⟩ := h; rfl) | (obtain ⟨_, _, _, _, rfl, _⟩ := h; rfl) | (obtain ⟨_, _, _, _, _, rfl, _⟩ := h; rfl) | (obtain ⟨_, _, _, _, _, _, rfl, _⟩ := h; rfl) | (obtain ⟨_, _, _, _, _, _, _, rfl, _⟩ := h; rfl) | (obtain ⟨_, _, _, _, _, _, _, _, rfl, _⟩ := h; rfl) | (obtain ⟨_, _, _, _, _, _, _, _, _, rfl, _⟩ := h; rfl) | (obtain ⟨_, _, _, _, _, _, _, _, _, _, rfl, _⟩ := h; rfl) | (obtain ⟨_, _, _, _, _, _, _, _, _, _, _, rfl, _⟩ := h; rfl) | (obtain ⟨_, _, _, _, _, _, _, _, _, _, _, _, rfl, _⟩ := h; rfl)
  refine ⟨_, (pss_one (ps_ret (pe_lc (own := [("_law_formula_here", 2)]) (g := gName 2) (tt := tYes) rfl sc_law_round.nd (x_piL K rfl (pv 0)) (blkOk_by (N := ["_law_flat_here", "_law_x", "_law_formula_here"]) (sc := defScope sLawRound) (by decide +kernel)) (fun _ _ _ _ _ => (pg_name (i := 2) sc_law_round.nd rfl (.inl rfl))) (fun _ _ _ _ _ => pts_nil) (fun _ _ _ _ _ => (x_call C_law_value hr (pa_cons (pv 2) (pa_cons (pv 1) pa_nil))))))), ?_⟩
  obtain ⟨a, b, fl, x, rfl, hf, hx, so, hl, k⟩ := h
  obtain ⟨vs, v1, v2, v3⟩ := hf.at_
  have e0 : (round fl x).map av = fl.map fun f => av (val f (CsM.fn x)) := by unfold round; rw [List.map_map]; rfl
  rw [e0] at k
  refine s_retL (el_lcMap _ (ev_var rfl) v1 v2 (by have := so.len; omega) fun i u f hu hfi => ?_) k
  obtain ⟨rr, t2, t3⟩ := v3 i f hfi
  rw [hu] at t2; cases t2
  exact ⟨_, fun H1 e Q q => q, rfl, ev_fval (ev_var rfl) (ev_var rfl) t3 hx (hl ▸ so.wf.at hfi) (so.al f (List.mem_of_getElem? hfi))⟩
theorem sc_law_all_most : FnScope ["_law_x", "_law_y", "_law_cell"] ["_law_x", "_law_y"] (defScope sLawAllMost) := ⟨rfl, rfl, rfl, by decide +kernel, rfl, by decide +kernel, by decide +kernel⟩
-- slots 0 _law_x, 1 _law_y, 2 _law_cell
theorem c_law_all_most (T : Top K mg) (C_law_most : Callee P w K mg base "_law_most" ["_law_a", "_law_b"] 1 spAtMost) : Callee P w K mg base "_law_all_most" ["_law_x", "_law_y"] 2 (spAllAtMost K) := by
  refine ok_of (N := ["_law_x", "_law_y", "_law_cell"]) T (List.mem_of_getElem? (i := 38) rfl) sc_law_all_most (fun _ _ _ _ _ _ us hl => match us, hl with | [_, _], _ => rfl) (fun vs H Q E h => ?len) (fun cdv A outer s H vs Q E f hr h => ?_)
  case len => first | (obtain ⟨_, rfl, _⟩ := h; rfl) | (obtain ⟨_, _, rfl, _⟩ := h; rfl) | (obtain ⟨_, _, _, rfl, _⟩ := h; rfl) | (obtain ⟨_, _, _, _, rfl, _⟩ := h; rfl) | (obtain ⟨_, _, _, _, _, rfl, _⟩ := h; rfl) | (obtain ⟨_, _, _, _, _, _, rfl, _⟩ := h; rfl) | (obtain ⟨_, _, _, _, _, _, _, rfl, _⟩ := h; rfl) | (obtain ⟨_, _, _, _, _, _, _, _, rfl, _⟩ := h; rfl) | (obtain ⟨_, _, _, _, _, _, _, _, _, rfl, _⟩ := h; rfl) | (obtain ⟨_, _, _, _, _, _, _, _, _, _, rfl, _⟩ := h; rfl) | (obtain ⟨_, _, _, _, _, _, _, _, _, _, _, rfl, _⟩ := h; rfl) | (obtain ⟨_, _, _, _, _, _, _, _, _, _, _, _, rfl, _⟩ := h; rfl)
  refine ⟨_, (pss_one (ps_ret (x_all K rfl rfl rfl T.all (pa_cons (pe_lc (own := [("_law_cell", 2)]) (g := gName 2) (tt := tYes) rfl sc_law_all_most.nd (pi_range1 rfl T.range (pa_cons (x_len K rfl rfl T.len (pa_cons (pv 0) pa_nil)) pa_nil)) (blkOk_by (N := ["_law_x", "_law_y", "_law_cell"]) (sc := defScope sLawAllMost) (by decide +kernel)) (fun _ _ _ _ _ => (pg_name (i := 2) sc_law_all_most.nd rfl (.inl rfl))) (fun _ _ _ _ _ => pts_nil) (fun _ _ _ _ _ => (x_call C_law_most hr (pa_cons (x_ixL K rfl (pv 0) (pv 2)) (pa_cons (x_ixL K rfl (pv 1) (pv 2)) pa_nil))))) pa_nil)))), ?_⟩
  obtain ⟨a, b, x, y, rfl, hx, hy, el, le, k⟩ := h
  refine s_ret (ev_all (bs := (List.range x.length).map fun i => am (CsM.fn x i) (CsM.fn y i)) ?_) k
  have e1 : ((List.range x.length).map fun i => am (CsM.fn x i) (CsM.fn y i)).map V.bl = given ((x.length : Nat) : Int).toNat (fun _ => true) fun i => V.bl (am (CsM.fn x i) (CsM.fn y i)) := by
    rw [given_all, List.map_map]; rfl
  rw [e1]
  refine el_lcR1 _ _ (ea_cons (ev_is (ev_len (ev_var rfl) hx) (by rw [List.length_map])) ea_nil) ⟨by omega, by omega⟩ (fun x => rfl) (fun i H1 e hi => et_yes) (fun i H1 e hi _ => ?_)
  exact ev_callV (ea_cons (ev_am (ev_var rfl) (ev_var rfl) (hx.mono e) (by omega)) (ea_cons (ev_am (ev_var rfl) (ev_var rfl) (hy.mono e) (by omega)) ea_nil)) fun H1 _ Q q => ⟨_, _, rfl, q⟩
/-- cell by cell the lesser, the greater -/
def lesser (x y : List Am) : List Am := (List.range x.length).map fun i => if am (CsM.fn y i) (CsM.fn x i) then CsM.fn y i else CsM.fn x i
def greater (x y : List Am) : List Am := (List.range x.length).map fun i => if am (CsM.fn x i) (CsM.fn y i) then CsM.fn y i else CsM.fn x i
theorem lesser_len (x y : List Am) : (lesser x y).length = x.length := by unfold lesser; rw [List.length_map, List.length_range]
theorem greater_len (x y : List Am) : (greater x y).length = x.length := by unfold greater; rw [List.length_map, List.length_range]
def spLesser (K : PySem.W.Frag) : Sp := fun vs H Q _ => ∃ (a b : Addr) (x y : List Am), vs = [.ref a, .ref b] ∧ Ams K H a x ∧ Ams K H b y ∧ x.length = y.length ∧ x.length ≤ 1000 ∧ RetL ((lesser x y).map av) H Q
def spGreater (K : PySem.W.Frag) : Sp := fun vs H Q _ => ∃ (a b : Addr) (x y : List Am), vs = [.ref a, .ref b] ∧ Ams K H a x ∧ Ams K H b y ∧ x.length = y.length ∧ x.length ≤ 1000 ∧ RetL ((greater x y).map av) H Q
theorem sc_law_lesser : FnScope ["_law_x", "_law_y", "_law_cell"] ["_law_x", "_law_y"] (defScope sLawLesser) := ⟨rfl, rfl, rfl, by decide +kernel, rfl, by decide +kernel, by decide +kernel⟩
-- slots 0 _law_x, 1 _law_y, 2 _law_cell
theorem c_law_lesser (T : Top K mg) (C_law_most : Callee P w K mg base "_law_most" ["_law_a", "_law_b"] 1 spAtMost) : Callee P w K mg base "_law_lesser" ["_law_x", "_law_y"] 2 (spLesser K) := by
  refine ok_of (N := ["_law_x", "_law_y", "_law_cell"]) T (List.mem_of_getElem? (i := 42) rfl) sc_law_lesser (fun _ _ _ _ _ _ us hl => match us, hl with | [_, _], _ => rfl) (fun vs H Q E h => ?len) (fun cdv A outer s H vs Q E f hr h => ?_)
  case len => first | (obtain ⟨_, rfl, _⟩ := h; rfl) | (obtain ⟨_, _, rfl, _⟩ := h; rfl) | (obtain ⟨_, _, _, rfl, _⟩ := h; rfl) | (obtain ⟨_, _, _, _, rfl, _⟩ := h; rfl) | (obtain ⟨_, _, _, _, _, rfl, _⟩ := h; rfl) | (obtain ⟨_, _, _, _, _, _, rfl, _⟩ := h; rfl) | (obtain ⟨_, _, _, _, _, _, _, rfl, _⟩ := h; rfl) | (obtain ⟨_, _, _, _, _, _, _, _, rfl, _⟩ := h; rfl) | (obtain ⟨_, _, _, _, _, _, _, _, _, rfl, _⟩ := h; rfl) | (obtain ⟨_, _, _, _, _, _, _, _, _, _, rfl, _⟩ := h; rfl) | (obtain ⟨_, _, _, _, _, _, _, _, _, _, _, rfl, _⟩ := h; rfl) | (obtain ⟨_, _, _, _, _, _, _, _, _, _, _, _, rfl, _⟩ := h; rfl)
  refine ⟨_, (pss_one (ps_ret (pe_lc (own := [("_law_cell", 2)]) (g := gName 2) (tt := tYes) rfl sc_law_lesser.nd (pi_range1 rfl T.range (pa_cons (x_len K rfl rfl T.len (pa_cons (pv 0) pa_nil)) pa_nil)) (blkOk_by (N := ["_law_x", "_law_y", "_law_cell"]) (sc := defScope sLawLesser) (by decide +kernel)) (fun _ _ _ _ _ => (pg_name (i := 2) sc_law_lesser.nd rfl (.inl rfl))) (fun _ _ _ _ _ => pts_nil) (fun _ _ _ _ _ => (x_ixL K rfl (pe_lst (pa_cons (x_ixL K rfl (pv 0) (pv 2)) (pa_cons (x_ixL K rfl (pv 1) (pv 2)) pa_nil))) (x_int rfl T.int (pa_cons (x_call C_law_most hr (pa_cons (x_ixL K rfl (pv 1) (pv 2)) (pa_cons (x_ixL K rfl (pv 0) (pv 2)) pa_nil))) pa_nil))))))), ?_⟩
  obtain ⟨a, b, x, y, rfl, hx, hy, el, le, k⟩ := h
  have e1 : (lesser x y).map av = given ((x.length : Nat) : Int).toNat (fun _ => true) fun i => av (if am (CsM.fn y i) (CsM.fn x i) then CsM.fn y i else CsM.fn x i) := by
    unfold lesser
    rw [given_all, List.map_map]; rfl
  rw [e1] at k
  refine s_retL (el_lcR1 _ _ (ea_cons (ev_is (ev_len (ev_var rfl) hx) (by rw [List.length_map])) ea_nil) ⟨by omega, by omega⟩ (fun x => rfl) (fun i H1 e hi => et_yes) (fun i H1 e hi _ => ?_)) k
  have rx := ev_am (K := K) (ta := tVar 0) (tb := tVar 2) (σ := (wipe (start ["_law_x", "_law_y", "_law_cell"] [V.ref a, V.ref b]) [2]).set 2 (some (.int (i : Nat)))) (ev_var rfl) (ev_var rfl) (hx.mono e) (by omega : i < x.length)
  have ry := ev_am (K := K) (ta := tVar 1) (tb := tVar 2) (σ := (wipe (start ["_law_x", "_law_y", "_law_cell"] [V.ref a, V.ref b]) [2]).set 2 (some (.int (i : Nat)))) (ev_var rfl) (ev_var rfl) (hy.mono e) (by omega : i < y.length)
  refine ev_pick (b := am (CsM.fn y i) (CsM.fn x i)) rx ry (ev_callV (ea_cons ry (ea_cons rx ea_nil)) fun H1 _ Q q => ⟨_, _, rfl, q⟩) ?_
  split <;> rfl
theorem sc_law_greater : FnScope ["_law_x", "_law_y", "_law_cell"] ["_law_x", "_law_y"] (defScope sLawGreater) := ⟨rfl, rfl, rfl, by decide +kernel, rfl, by decide +kernel, by decide +kernel⟩
-- slots 0 _law_x, 1 _law_y, 2 _law_cell
theorem c_law_greater (T : Top K mg) (C_law_most : Callee P w K mg base "_law_most" ["_law_a", "_law_b"] 1 spAtMost) : Callee P w K mg base "_law_greater" ["_law_x", "_law_y"] 2 (spGreater K) := by
  refine ok_of (N := ["_law_x", "_law_y", "_law_cell"]) T (List.mem_of_getElem? (i := 43) rfl) sc_law_greater (fun _ _ _ _ _ _ us hl => match us, hl with | [_, _], _ => rfl) (fun vs H Q E h => ?len) (fun cdv A outer s H vs Q E f hr h => ?_)
  case len => first | (obtain ⟨_, rfl, _⟩ := h; rfl) | (obtain ⟨_, _, rfl, _⟩ := h; rfl) | (obtain ⟨_, _, _, rfl, _⟩ := h; rfl) | (obtain ⟨_, _, _, _, rfl, _⟩ := h; rfl) | (obtain ⟨_, _, _, _, _, rfl, _⟩ := h; rfl) | (obtain ⟨_, _, _, _, _, _, rfl, _⟩ := h; rfl) | (obtain ⟨_, _, _, _, _, _, _, rfl, _⟩ := h; rfl) | (obtain ⟨_, _, _, _, _, _, _, _, rfl, _⟩ := h; rfl) | (obtain ⟨_, _, _, _, _, _, _, _, _, rfl, _⟩ := h; rfl) | (obtain ⟨_, _, _, _, _, _, _, _, _, _, rfl, _⟩ := h; rfl) | (obtain ⟨_, _, _, _, _, _, _, _, _, _, _, rfl, _⟩ := h; rfl) | (obtain ⟨_, _, _, _, _, _, _, _, _, _, _, _, rfl, _⟩ := h; rfl)
  refine ⟨_, (pss_one (ps_ret (pe_lc (own := [("_law_cell", 2)]) (g := gName 2) (tt := tYes) rfl sc_law_greater.nd (pi_range1 rfl T.range (pa_cons (x_len K rfl rfl T.len (pa_cons (pv 0) pa_nil)) pa_nil)) (blkOk_by (N := ["_law_x", "_law_y", "_law_cell"]) (sc := defScope sLawGreater) (by decide +kernel)) (fun _ _ _ _ _ => (pg_name (i := 2) sc_law_greater.nd rfl (.inl rfl))) (fun _ _ _ _ _ => pts_nil) (fun _ _ _ _ _ => (x_ixL K rfl (pe_lst (pa_cons (x_ixL K rfl (pv 0) (pv 2)) (pa_cons (x_ixL K rfl (pv 1) (pv 2)) pa_nil))) (x_int rfl T.int (pa_cons (x_call C_law_most hr (pa_cons (x_ixL K rfl (pv 0) (pv 2)) (pa_cons (x_ixL K rfl (pv 1) (pv 2)) pa_nil))) pa_nil))))))), ?_⟩
  obtain ⟨a, b, x, y, rfl, hx, hy, el, le, k⟩ := h
  have e1 : (greater x y).map av = given ((x.length : Nat) : Int).toNat (fun _ => true) fun i => av (if am (CsM.fn x i) (CsM.fn y i) then CsM.fn y i else CsM.fn x i) := by
    unfold greater
    rw [given_all, List.map_map]; rfl
  rw [e1] at k
  refine s_retL (el_lcR1 _ _ (ea_cons (ev_is (ev_len (ev_var rfl) hx) (by rw [List.length_map])) ea_nil) ⟨by omega, by omega⟩ (fun x => rfl) (fun i H1 e hi => et_yes) (fun i H1 e hi _ => ?_)) k
  have rx := ev_am (K := K) (ta := tVar 0) (tb := tVar 2) (σ := (wipe (start ["_law_x", "_law_y", "_law_cell"] [V.ref a, V.ref b]) [2]).set 2 (some (.int (i : Nat)))) (ev_var rfl) (ev_var rfl) (hx.mono e) (by omega : i < x.length)
  have ry := ev_am (K := K) (ta := tVar 1) (tb := tVar 2) (σ := (wipe (start ["_law_x", "_law_y", "_law_cell"] [V.ref a, V.ref b]) [2]).set 2 (some (.int (i : Nat)))) (ev_var rfl) (ev_var rfl) (hy.mono e) (by omega : i < y.length)
  refine ev_pick (b := am (CsM.fn x i) (CsM.fn y i)) rx ry (ev_callV (ea_cons rx (ea_cons ry ea_nil)) fun H1 _ Q q => ⟨_, _, rfl, q⟩) ?_
  split <;> rfl
end
end CsW

set_option Elab.async false
set_option linter.all false
set_option maxRecDepth 100000
set_option maxHeartbeats 4000000
namespace CsW
open PySem PySem.Spec PyProof.Rows L2 Evl CsTop CsM
/-! ### the law's own bound and solutions -/
def amN : Fm → Am
  | .amt a => a
  | _ => none
theorem amN_some {f : Fm} {u : Nat} (h : amN f = some u) : f = .amt (some u) := by
  cases f with
  | amt a => exact congrArg Fm.amt h
  | lo l => cases h
  | hi l => cases h
  | wh j a k => cases h
structure NS (fl : List Fm) (i : Nat) (ns : List Int) : Prop where
  zero : (0 : Int) ∈ ns
  le : ∀ y ∈ ns, y ≤ 12
  all : ∀ u : Nat, Fm.amt (some u) ∈ fl.take i → (u : Int) ∈ ns
  len : ns.length ≤ i + 1
structure SS (fl : List Fm) (i : Nat) (ss : List Int) : Prop where
  zero : (0 : Int) ∈ ss
  le : ∀ y ∈ ss, y ≤ 5
  all : ∀ f ∈ fl.take i, (isLo f || isHi f) = true → ∀ q ∈ arcsF f, q.2 ∈ ss
  len : ss.length ≤ 6 * i + 1
section
variable {fl : List Fm} {i : Nat} {ns ss : List Int} {f : Fm}
theorem NS.snoc {u : Nat} (s : NS fl i ns) (e : fl[i]? = some (.amt (some u))) (hu : u ≤ 12) : NS fl (i + 1) (ns ++ [(u : Int)]) := by
  refine ⟨List.mem_append_left _ s.zero, fun y hy => ?_, fun v hv => ?_, by rw [List.length_append, List.length_singleton]; have := s.len; omega⟩
  · rcases List.mem_append.mp hy with z | z
    · exact s.le y z
    · rw [List.mem_singleton.mp z]; omega
  · rw [take_snoc e] at hv
    rcases List.mem_append.mp hv with z | z
    · exact List.mem_append_left _ (s.all v z)
    · have z2 := List.mem_singleton.mp z
      cases z2
      exact List.mem_append_right _ (List.mem_singleton.mpr rfl)
theorem NS.skip (s : NS fl i ns) (e : fl[i]? = some f) (h : amN f = none) : NS fl (i + 1) ns := by
  refine ⟨s.zero, s.le, fun v hv => ?_, by have := s.len; omega⟩
  rw [take_snoc e] at hv
  rcases List.mem_append.mp hv with z | z
  · exact s.all v z
  · rw [← List.mem_singleton.mp z] at h; cases h
theorem SS.snoc (s : SS fl i ss) (e : fl[i]? = some f) (al : (arcsF f).length ≤ 6) (hs : ∀ q ∈ arcsF f, q.2 ≤ 5) : SS fl (i + 1) (ss ++ (arcsF f).map (·.2)) := by
  refine ⟨List.mem_append_left _ s.zero, fun y hy => ?_, fun g hg hk q hq => ?_, by rw [List.length_append, List.length_map]; have := s.len; omega⟩
  · rcases List.mem_append.mp hy with z | z
    · exact s.le y z
    · obtain ⟨q, hq, rfl⟩ := List.mem_map.mp z
      exact hs q hq
  · rw [take_snoc e] at hg
    rcases List.mem_append.mp hg with z | z
    · exact List.mem_append_left _ (s.all g z hk q hq)
    · rw [List.mem_singleton.mp z] at hq
      exact List.mem_append_right _ (List.mem_map.mpr ⟨q, hq, rfl⟩)
theorem SS.skip (s : SS fl i ss) (e : fl[i]? = some f) (h : (isLo f || isHi f) = false) : SS fl (i + 1) ss := by
  refine ⟨s.zero, s.le, fun g hg hk q hq => ?_, by have := s.len; omega⟩
  rw [take_snoc e] at hg
  rcases List.mem_append.mp hg with z | z
  · exact s.all g z hk q hq
  · rw [List.mem_singleton.mp z, h] at hk; cases hk
theorem bd_of {M S : Nat} (n : NS fl fl.length ns) (s : SS fl fl.length ss) (hM : ∀ y ∈ ns, y ≤ (M : Int)) (hS : ∀ y ∈ ss, y ≤ (S : Int)) : Bd fl M S := by
  have et : fl.take fl.length = fl := List.take_of_length_le (Nat.le_refl _)
  refine ⟨fun a ha => ?_, fun l hl p hp => ?_, fun l hl p hp => ?_⟩
  · have := hM _ (n.all a (by rw [et]; exact ha))
    omega
  · exact hS _ (s.all (.lo l) (by rw [et]; exact hl) rfl p hp)
  · exact hS _ (s.all (.hi l) (by rw [et]; exact hl) rfl p hp)
end
section
variable {K : PySem.W.Frag} {σ : L2.St} {H : Hp} {te ta tb : TE} {tr : TA} {D : Ends} {tz tu : TS}
theorem q_parP {i j : Nat} {Pd : List V → Hp → Prop} (h : EvAP tr σ H Pd) (k : ∀ vs H1, Ex H H1 → Pd vs H1 → ∃ v w, vs = [v, w] ∧ tz D ((σ.set i (some v)).set j (some w)) H1) : tSeq (tPar i j tr) tz D σ H := h H (Ex.refl H) _ fun vs H1 e hv => k vs H1 e hv
theorem el_cat {l : Addr} {xs zs : List V} (ha : Ev ta σ H (.ref l)) (hl : H l = some (.lst xs)) (hb : EvL tb σ H zs) (hz : xs.length + zs.length ≤ 100000) : EvL (tOp rCat ta tb) σ H (xs ++ zs) := fun H1 e Q q =>
  ha H1 e _ fun H2 e2 => hb H2 (e.trans e2) _ fun p H3 np e3 h3 => ⟨l, p, xs, zs, rfl, rfl, e3 _ _ (e2 _ _ (e _ _ hl)), h3, sz_of hz, fun r hr => q r _ (fresh_back (e2.trans e3) hr) ((e2.trans e3).trans (Ex.new hr)) upd_same⟩
theorem ep_op {r : R2} {Pa Pd : V → Hp → Prop} (ha : EvP ta σ H Pa) (hb : ∀ x H1, Ex H H1 → Pa x H1 → EvP tb σ H1 fun y H2 => ∀ Q : VK, (∀ z H3, Ex H2 H3 → Pd z H3 → Q z H3) → r x y H2 Q) : EvP (tOp r ta tb) σ H Pd := fun H1 e Q q =>
  ha H1 e _ fun x H2 e2 hx => hb x H2 (e.trans e2) hx H2 (Ex.refl _) _ fun y H3 e3 hy => hy Q fun z H4 e4 hz => q z H4 ((e2.trans e3).trans e4) hz
end
section
variable {P : Program} {w : World} {K : PySem.W.Frag} {mg : Str → Option Value} {base : Heap}
/-- a sheet that the law draws -/
structure ShP (fl : List Fm) : Prop where
  so : SOk fl
  len : fl.length ≤ 12
  fm : ∀ f ∈ fl, FmP fl.length f
def spBound (K : PySem.W.Frag) : Sp := fun vs H Q _ => ∃ (a : Addr) (fl : List Fm), vs = [.ref a] ∧ FlAt K H a fl ∧ ShP fl ∧ ∀ M S : Nat, Bd fl M S → M ≤ 12 → S ≤ 5 → RetV (.int ((M + fl.length * S : Nat) : Int)) H Q
theorem sc_law_bound : FnScope ["_law_flat_here", "_law_numbers", "_law_shifts", "_law_formula_here", "_law_arc"] ["_law_flat_here"] (defScope sLawBound) := ⟨rfl, rfl, rfl, by decide +kernel, rfl, by decide +kernel, by decide +kernel⟩
-- slots 0 _law_flat_here, 1 _law_numbers, 2 _law_shifts, 3 _law_formula_here, 4 _law_arc
theorem c_law_bound (T : Top K mg) : Callee P w K mg base "_law_bound" ["_law_flat_here"] 1 (spBound K) := by
  refine ok_of (N := ["_law_flat_here", "_law_numbers", "_law_shifts", "_law_formula_here", "_law_arc"]) T (List.mem_of_getElem? (i := 39) rfl) sc_law_bound (fun _ _ _ _ _ _ us hl => match us, hl with | [_], _ => rfl) (fun vs H Q E h => ?len) (fun cdv A outer s H vs Q E f hr h => ?_)
  case len => first | (obtain ⟨_, rfl, _⟩ := h; rfl) | (obtain ⟨_, _, rfl, _⟩ := h; rfl) | (obtain ⟨_, _, _, rfl, _⟩ := h; rfl) | (obtain ⟨_, _, _, _, rfl, _⟩ := h; rfl) | (obtain ⟨_, _, _, _, _, rfl, _⟩ := h; rfl) | (obtain ⟨_, _, _, _, _, _, rfl, _⟩ := h; rfl) | (obtain ⟨_, _, _, _, _, _, _, rfl, _⟩ := h; rfl) | (obtain ⟨_, _, _, _, _, _, _, _, rfl, _⟩ := h; rfl) | (obtain ⟨_, _, _, _, _, _, _, _, _, rfl, _⟩ := h; rfl) | (obtain ⟨_, _, _, _, _, _, _, _, _, _, rfl, _⟩ := h; rfl) | (obtain ⟨_, _, _, _, _, _, _, _, _, _, _, rfl, _⟩ := h; rfl) | (obtain ⟨_, _, _, _, _, _, _, _, _, _, _, _, rfl, _⟩ := h; rfl)
  refine ⟨_, (pss_cons (ps_par (i := 1) (j := 2) rfl sc_law_bound.nd rfl rfl (by decide) rfl rfl (pa_cons (pe_lst (pa_cons pe_int pa_nil)) (pa_cons (pe_lst (pa_cons pe_int pa_nil)) pa_nil)) rfl)
      (pss_cons (ps_for PassesOwn.never rfl (x_piL K rfl (pv 0)) (pg_name (i := 3) sc_law_bound.nd rfl (.inl rfl))
        (pss_cut (ps_if ((pw_and (pt_cmpR op_eq (x_ixT K rfl (pv 3) pe_int) pe_str (nomark _)) (pw_and1 (pt_cmpR op_notN (x_ixT K rfl (pv 3) pe_int) pe_non (nomark _))))).pt
          (pss_one (x_app K rfl (pe_bm PySem.F.plainAttrs_list PySem.F.slot_list_append PySem.F.type_list_append mt_append (pv 1) (pa_cons (x_ixT K rfl (pv 3) pe_int) pa_nil))))
          pss_nil)
        (pss_one (ps_if ((pw_or (pt_cmpR op_eq (x_ixT K rfl (pv 3) pe_int) pe_str (nomark _)) (pw_or1 (pt_cmpR op_eq (x_ixT K rfl (pv 3) pe_int) pe_str (nomark _))))).pt
          (pss_one (ps_set (i := 2) sc_law_bound.nd rfl (.inl rfl) (pe_op op_cat (pv 2) (pe_lc (own := [("_law_arc", 4)]) (g := gName 4) (tt := tYes) rfl sc_law_bound.nd (x_piL K rfl (x_ixT K rfl (pv 3) pe_int)) (blkOk_by (N := ["_law_flat_here", "_law_numbers", "_law_shifts", "_law_formula_here", "_law_arc"]) (sc := defScope sLawBound) (by decide +kernel)) (fun _ _ _ _ _ => (pg_name (i := 4) sc_law_bound.nd rfl (.inl rfl))) (fun _ _ _ _ _ => pts_nil) (fun _ _ _ _ _ => (x_ixT K rfl (pv 4) pe_int))))))
          pss_nil))))
      (pss_one (ps_ret (pe_op op_add (x_maxL K rfl rfl rfl T.max (pa_cons (pv 1) pa_nil)) (pe_op op_mul (x_len K rfl rfl T.len (pa_cons (pv 0) pa_nil)) (x_maxL K rfl rfl rfl T.max (pa_cons (pv 2) pa_nil)))))))), ?_⟩
  obtain ⟨a, fl, rfl, hf, sh, k⟩ := h
  obtain ⟨vs, v1, v2, v3⟩ := hf.at_
  have len := sh.len
  refine q_parP (Pd := fun vs H' => ∃ nu sl, vs = [V.ref nu, .ref sl] ∧ H nu = none ∧ sl ≠ nu ∧ H' nu = some (.lst [.int 0]) ∧ H' sl = some (.lst [.int 0])) (eap_consP (ep_L (el_lst (ea_cons ev_c ea_nil) (by show 1 ≤ 100000; decide))) fun v H1 e1 hv => eap_consP (ep_L (el_lst (ea_cons ev_c ea_nil) (by show 1 ≤ 100000; decide))) fun v2 H2 e2 hv2 => eap_of ea_nil fun H3 e3 => ?_) fun vs' H1 e1 hv => ?_
  · obtain ⟨nu, rfl, n1, n2⟩ := hv
    obtain ⟨sl, rfl, s1, s2⟩ := hv2
    exact ⟨nu, sl, rfl, n1, fun z => (by rw [z, n2] at s1; cases s1), e3 _ _ (e2 _ _ n2), e3 _ _ s2⟩
  obtain ⟨nu, sl, rfl, nn, nsn, hn, hs⟩ := hv
  refine ⟨_, _, rfl, ?_⟩
  refine q_forLn (ev_var rfl) (ex_l e1 v1) (fun i σ H' => ∃ (sl : Addr) (ns ss : List Int) (u3 u4 : Option V), σ = [some (.ref a), some (.ref nu), some (.ref sl), u3, u4] ∧ H' nu = some (.lst (ns.map V.int)) ∧ sl ≠ nu ∧ H' sl = some (.lst (ss.map V.int)) ∧ Ex H (Hd nu H') ∧ NS fl i ns ∧ SS fl i ss)
    (fun H2 e2 => ⟨sl, [0], [0], _, _, rfl, e2 _ _ hn, nsn, e2 _ _ hs, ex_in (e1.trans e2) nn, ⟨by simp, fun y hy => (by rw [List.mem_singleton.mp hy]; decide), fun u hu => (by cases hu), Nat.le_refl _⟩, ⟨by simp, fun y hy => (by rw [List.mem_singleton.mp hy]; decide), fun f hf => (by cases hf), Nat.le_refl _⟩⟩) (fun i σ H' _ q => ?_) (fun i y σ H' hy q => ?_) (fun σ H' q => ?_)
  · obtain ⟨_, _, _, _, _, _, _, _, _, e, _⟩ := q
    exact ex_l (e.trans ex_hd) v1
  · clear hn hs nsn sl
    obtain ⟨sl, ns, ss, u3, u4, rfl, hn, nsn, hs, eb, hN, hS⟩ := q
    have hi : i < fl.length := by have := (List.getElem?_eq_some_iff.mp hy).1; omega
    have ef := CsM.at_fat hi
    obtain ⟨rr, hr2, hR⟩ := v3 i _ ef
    rw [hy] at hr2; cases hr2
    have fp := sh.fm _ (List.mem_of_getElem? ef)
    have R1 := hR.mono (eb.trans ex_hd)
    refine q_cut (M := fun σ H' => ∃ (ns : List Int), σ = [some (.ref a), some (.ref nu), some (.ref sl), some (.ref rr), u4] ∧ H' nu = some (.lst (ns.map V.int)) ∧ H' sl = some (.lst (ss.map V.int)) ∧ Ex H (Hd nu H') ∧ NS fl (i + 1) ns) ?_ (fun σ' H2 hM => ?_)
    · refine s_when (b := decide (amN (fat fl i) ≠ none)) ?_ (fun hb H2 e2 => ?_) (fun hb H2 e2 => ?_)
      · cases hg : fat fl i with
        | amt m =>
          rw [hg] at R1
          have R1' : SqT K H' rr [.str (Str.ofString "amount"), av m] := R1
          exact et_is (et_and (et_am (g := .amt m) (ev_kind (ev_var rfl) R1)) fun _ => et_some (a := m) (ev_ixT (i := 1) (ev_var rfl) ev_c R1' rfl)) (by show (true && decide (m ≠ none)) = decide (m ≠ none); rw [Bool.true_and])
        | lo l => rw [hg] at R1; exact et_and (et_am (g := .lo l) (ev_kind (ev_var rfl) R1)) (b := false) fun hb => by cases hb
        | hi l => rw [hg] at R1; exact et_and (et_am (g := .hi l) (ev_kind (ev_var rfl) R1)) (b := false) fun hb => by cases hb
        | wh j m t => rw [hg] at R1; exact et_and (et_am (g := .wh j m t) (ev_kind (ev_var rfl) R1)) (b := false) fun hb => by cases hb
      · cases ea : amN (fat fl i) with
        | none => rw [ea] at hb; cases hb
        | some u =>
          have eg := amN_some ea
          rw [eg] at ef R1 fp
          have R1' : SqT K H' rr [.str (Str.ofString "amount"), .int (u : Nat)] := R1
          refine s_app (e2 _ _ hn) (ev_var rfl) (ev_ixT (i := 1) (ev_var rfl) ev_c (ex_t e2 R1') rfl) (by rw [List.length_map]; have := hN.len; omega) fun H3 e3 => ?_
          refine ⟨ns ++ [(u : Int)], rfl, by rw [upd_same, List.map_append]; rfl, by rw [upd_ne nsn]; exact e3 _ _ (e2 _ _ hs), by rw [hd_upd]; exact eb.trans (hd_ex (e2.trans e3)), hN.snoc ef (fp.num u rfl)⟩
      · have ea : amN (fat fl i) = none := Classical.byContradiction fun y => (of_decide_eq_false hb) y
        exact ⟨ns, rfl, e2 _ _ hn, e2 _ _ hs, eb.trans (hd_ex e2), hN.skip ef ea⟩
    · clear hN hn hs eb R1 ns
      obtain ⟨ns, rfl, hn, hs, eb, hN⟩ := hM
      have R1 := hR.mono (eb.trans ex_hd)
      refine s_when (b := isLo (fat fl i) || isHi (fat fl i)) (et_or (et_lo (ev_kind (ev_var rfl) R1)) fun _ => et_hi (ev_kind (ev_var rfl) R1)) (fun hb H3 e3 => ?_) (fun hb H3 e3 => ?_)
      · have arc : ∃ (bb : Addr) (s : Str), SqT K H3 rr [.str s, .ref bb] ∧ ArcsAt K H3 bb (arcsF (fat fl i)) := by
          have R3 := R1.mono e3
          cases hg : fat fl i with
          | amt m => rw [hg] at hb; cases hb
          | wh j m t => rw [hg] at hb; cases hb
          | lo l =>
            rw [hg] at R3
            obtain ⟨bb, h1, h2⟩ := R3
            exact ⟨bb, _, h1, h2⟩
          | hi l =>
            rw [hg] at R3
            obtain ⟨bb, h1, h2⟩ := R3
            exact ⟨bb, _, h1, h2⟩
        obtain ⟨bb, s, t1, t2⟩ := arc
        obtain ⟨as, a1, a2, a3⟩ := t2.at_
        have al := fp.al
        refine s_asgL (el_cat (zs := (arcsF (fat fl i)).map fun q => V.int q.2) (ev_var rfl) (e3 _ _ hs) (el_lcMap _ (ev_ixT (i := 1) (ev_var rfl) ev_c t1 rfl) a1 a2 (by omega) fun j u q hu hq => ?_) (by rw [List.length_map, List.length_map]; have := hS.len; omega)) fun sl2 H4 n4 e4 h4 => ?_
        · obtain ⟨r2, t3, t4⟩ := a3 j q hq
          rw [hu] at t3; cases t3
          exact ⟨_, fun H1 e Q q => q, rfl, ev_ixT (i := 1) (ev_var rfl) ev_c t4 rfl⟩
        · have n5 : sl2 ≠ nu := fun z => by rw [z, e3 _ _ hn] at n4; cases n4
          exact ⟨sl2, ns, ss ++ (arcsF (fat fl i)).map (·.2), _, _, rfl, e4 _ _ (e3 _ _ hn), n5, by rw [h4, List.map_append, List.map_map]; rfl, eb.trans (hd_ex (e3.trans e4)), hN, hS.snoc ef fp.al fp.sh⟩
      · exact ⟨sl, ns, ss, _, _, rfl, e3 _ _ hn, nsn, e3 _ _ hs, eb.trans (hd_ex e3), hN, hS.skip ef hb⟩
  · clear hn hs nsn sl
    obtain ⟨sl, ns, ss, u3, u4, rfl, hn, nsn, hs, eb, hN, hS⟩ := q
    rw [v2] at hN hS
    have e0 := eb.trans ex_hd
    have n0 : 0 < ns.length := List.length_pos_of_mem hN.zero
    have s0 : 0 < ss.length := List.length_pos_of_mem hS.zero
    refine s_retP (Pd := fun v _ => ∃ M S : Nat, v = .int ((M + fl.length * S : Nat) : Int) ∧ Bd fl M S ∧ M ≤ 12 ∧ S ≤ 5) (ep_op (Pa := fun v _ => ∃ M : Nat, v = .int (M : Nat) ∧ (∀ y ∈ ns, y ≤ (M : Int)) ∧ M ≤ 12) ((ev_maxP (Pm := fun m => ∃ M : Nat, m = (M : Int) ∧ (∀ y ∈ ns, y ≤ (M : Int)) ∧ M ≤ 12) (ev_var rfl) (sq_of hn) n0 fun m hm hy => ?_).imp fun v H2 e hv => ?_) fun x H2 e2 hx => ?_) fun v H2 e2 hv => ?_
    · have := hy 0 hN.zero
      have := hN.le m hm
      exact ⟨m.toNat, by omega, fun y z => by have := hy y z; omega, by omega⟩
    · obtain ⟨m, rfl, M, rfl, h1⟩ := hv
      exact ⟨M, rfl, h1⟩
    · obtain ⟨M, rfl, hM, M12⟩ := hx
      refine (ep_op (Pa := fun v _ => v = .int (fl.length : Nat)) (Pd := fun v _ => ∃ S : Nat, v = .int ((fl.length * S : Nat) : Int) ∧ (∀ y ∈ ss, y ≤ (S : Int)) ∧ S ≤ 5) (ep_of (ev_is (ev_len (ev_var rfl) (ex_l (e0.trans e2) v1)) (by rw [v2])) fun _ _ => rfl) fun x H3 e3 hx => ?_).imp fun v H3 e3 hv => ?_
      · subst hx
        refine (ev_maxP (Pm := fun m => ∃ S : Nat, m = (S : Int) ∧ (∀ y ∈ ss, y ≤ (S : Int)) ∧ S ≤ 5) (ev_var rfl) (sq_of (e3 _ _ (e2 _ _ hs))) s0 fun m hm hy => ?_).imp fun v H4 e4 hv => ?_
        · have := hy 0 hS.zero
          have := hS.le m hm
          exact ⟨m.toNat, by omega, fun y z => by have := hy y z; omega, by omega⟩
        · obtain ⟨m, rfl, S, rfl, h1⟩ := hv
          intro Q q
          exact ⟨(fl.length : Nat), (S : Nat), rfl, rfl, .inl ⟨by omega, by omega⟩, q _ H4 (Ex.refl _) ⟨S, by rw [Int.natCast_mul], h1⟩⟩
      · obtain ⟨S, rfl, hS2, S5⟩ := hv
        intro Q q
        exact ⟨(M : Nat), ((fl.length * S : Nat) : Int), rfl, rfl, q _ H3 (Ex.refl _) ⟨M, S, by rw [Int.natCast_add], bd_of hN hS hM hS2, M12, S5⟩⟩
    · obtain ⟨M, S, rfl, h1, h2, h3⟩ := hv
      exact k M S h1 h2 h3 H2 (e0.trans e2)
end
end CsW

set_option Elab.async false
set_option linter.all false
set_option maxRecDepth 100000
set_option maxHeartbeats 4000000
namespace CsW
open PySem PySem.Spec PyProof.Rows L2 Evl CsTop CsM
section
variable {P : Program} {w : World} {K : PySem.W.Frag} {mg : Str → Option Value} {base : Heap}
theorem ep_bound {σ : L2.St} {H : Hp} {te : TE} {a : Addr} {fl : List Fm} (h : Ev te σ H (.ref a)) (hf : FlAt K H a fl) (sh : ShP fl) : EvP (tCall (spBound K) [] E0 (tCons te tNil)) σ H fun v _ => ∃ M S : Nat, v = .int ((M + fl.length * S : Nat) : Int) ∧ Bd fl M S ∧ M + fl.length * S ≤ 72 :=
  ep_call (Pd := fun vs _ => vs = [.ref a]) (eap_of (ea_cons h ea_nil) fun _ _ => rfl) fun vs H1 e hv Q q =>
    ⟨a, fl, hv, hf.mono e, sh, fun M S h1 h2 h3 H2 e2 => q _ H2 e2 ⟨M, S, rfl, h1, by
      have := Nat.mul_le_mul sh.len h3
      omega⟩⟩
theorem q_forRP {σ : L2.St} {H : Hp} {D : Ends} {tz tu : TS} {tr : TA} {j : Nat} {Pn : Nat → Prop} (h : EvAP tr σ H fun vs _ => ∃ n, vs = [nv n] ∧ Pn n) (k : ∀ n H1, Pn n → Ex H H1 → tSeq (tFor (iRng1 (tCons (tC (nv n)) tNil)) (gName j) tu) tz D σ H1) : tSeq (tFor (iRng1 tr) (gName j) tu) tz D σ H :=
  h H (Ex.refl H) _ fun vs H1 g hv => by
    obtain ⟨n, rfl, hn⟩ := hv
    exact k n H1 hn g
theorem sql_upd {H : Hp} {o p : Addr} {u : HO} {xs : List V} (n : p ≠ o) (h : SqL K H p xs) : SqL K (upd H o u) p xs := by
  rcases h with (z | ⟨oo, z⟩) | z
  · exact .inl (.inl (by rw [upd_ne n]; exact z))
  · exact .inl (.inr ⟨oo, by rw [upd_ne n]; exact z⟩)
  · exact .inr z
theorem turns_eq (n B : Nat) : (n : Int) * ((B : Int) + 3) + 3 = ((n * (B + 3) + 3 : Nat) : Int) := by
  rw [Int.natCast_add, Int.natCast_mul, Int.natCast_add]; rfl
theorem turns_gt (n B : Nat) : n * (B + 1) < n * (B + 3) + 3 := by
  have := Nat.mul_le_mul_left n (show B + 1 ≤ B + 3 by omega)
  omega
theorem turns_le {n B : Nat} (hn : n ≤ 12) (hB : B ≤ 72) : n * (B + 3) + 3 ≤ 1000 := by
  have := Nat.mul_le_mul hn (show B + 3 ≤ 75 by omega)
  omega
def spLawLeast (K : PySem.W.Frag) : Sp := fun vs H Q _ => ∃ (a : Addr) (fl : List Fm), vs = [.ref a] ∧ FlAt K H a fl ∧ ShP fl ∧ ∀ z : List Am, z.length = fl.length → IsLeast fl (CsM.fn z) → RetL (z.map av) H Q
def spLawGreat (K : PySem.W.Frag) : Sp := fun vs H Q _ => ∃ (a : Addr) (fl : List Fm), vs = [.ref a] ∧ FlAt K H a fl ∧ ShP fl ∧ ∀ z : List Am, z.length = fl.length → IsGreat fl (CsM.fn z) → RetL (z.map av) H Q
theorem sc_law_least : FnScope ["_law_flat_here", "_law_bound_here", "_law_x", "_law_turn", "_law_later", "_law_one", "_law_cell"] ["_law_flat_here"] (defScope sLawLeast) := ⟨rfl, rfl, rfl, by decide +kernel, rfl, by decide +kernel, by decide +kernel⟩
-- slots 0 _law_flat_here, 1 _law_bound_here, 2 _law_x, 3 _law_turn, 4 _law_later, 5 _law_one, 6 _law_cell
theorem c_law_least (T : Top K mg) (C_law_round : Callee P w K mg base "_law_round" ["_law_flat_here", "_law_x"] 3 (spFlatValues K)) (C_law_bound : Callee P w K mg base "_law_bound" ["_law_flat_here"] 1 (spBound K)) : Callee P w K mg base "_law_least" ["_law_flat_here"] 4 (spLawLeast K) := by
  refine ok_of (N := ["_law_flat_here", "_law_bound_here", "_law_x", "_law_turn", "_law_later", "_law_one", "_law_cell"]) T (List.mem_of_getElem? (i := 40) rfl) sc_law_least (fun _ _ _ _ _ _ us hl => match us, hl with | [_], _ => rfl) (fun vs H Q E h => ?len) (fun cdv A outer s H vs Q E f hr h => ?_)
  case len => first | (obtain ⟨_, rfl, _⟩ := h; rfl) | (obtain ⟨_, _, rfl, _⟩ := h; rfl) | (obtain ⟨_, _, _, rfl, _⟩ := h; rfl) | (obtain ⟨_, _, _, _, rfl, _⟩ := h; rfl) | (obtain ⟨_, _, _, _, _, rfl, _⟩ := h; rfl) | (obtain ⟨_, _, _, _, _, _, rfl, _⟩ := h; rfl) | (obtain ⟨_, _, _, _, _, _, _, rfl, _⟩ := h; rfl) | (obtain ⟨_, _, _, _, _, _, _, _, rfl, _⟩ := h; rfl) | (obtain ⟨_, _, _, _, _, _, _, _, _, rfl, _⟩ := h; rfl) | (obtain ⟨_, _, _, _, _, _, _, _, _, _, rfl, _⟩ := h; rfl) | (obtain ⟨_, _, _, _, _, _, _, _, _, _, _, rfl, _⟩ := h; rfl) | (obtain ⟨_, _, _, _, _, _, _, _, _, _, _, _, rfl, _⟩ := h; rfl)
  refine ⟨_, (pss_cons (ps_set (i := 1) sc_law_least.nd rfl (.inl rfl) (x_call C_law_bound hr (pa_cons (pv 0) pa_nil)))
      (pss_cons (ps_setLc (i := 2) (own := [("_law_cell", 6)]) (g := gName 6) (tt := tYes) rfl sc_law_least.nd rfl rfl (sw_true rfl rfl rfl (by decide +kernel)) (x_piL K rfl (pv 0)) (blkOk_by (N := ["_law_flat_here", "_law_bound_here", "_law_x", "_law_turn", "_law_later", "_law_one", "_law_cell"]) (sc := defScope sLawLeast) (by decide +kernel)) (fun _ _ _ _ _ => (pg_name (i := 6) sc_law_least.nd rfl (.inl rfl))) (fun _ _ _ _ _ => pts_nil) (fun _ _ _ _ _ => pe_int))
      (pss_cons (ps_for PassesOwn.never rfl (pi_range1 rfl T.range (pa_cons (pe_op op_add (pe_op op_mul (x_len K rfl rfl T.len (pa_cons (pv 0) pa_nil)) (pe_op op_add (pv 1) pe_int)) pe_int) pa_nil)) (pg_name (i := 3) sc_law_least.nd rfl (.inl rfl))
        (pss_cons (ps_set (i := 4) sc_law_least.nd rfl (.inl rfl) (pe_lst pa_nil))
        (pss_cons (ps_for PassesOwn.never rfl (x_piL K rfl (x_call C_law_round hr (pa_cons (pv 0) (pa_cons (pv 2) pa_nil)))) (pg_name (i := 5) sc_law_least.nd rfl (.inl rfl))
          (pss_cut (ps_if ((pw_and (pt_cmpR op_notN (pv 5) pe_non (nomark _)) (pw_and1 (pt_cmpR op_gt (pv 5) (pv 1) (nomark _))))).pt
            (pss_one (ps_set (i := 5) sc_law_least.nd rfl (.inl rfl) pe_non))
            pss_nil)
          (pss_one (x_app K rfl (pe_bm PySem.F.plainAttrs_list PySem.F.slot_list_append PySem.F.type_list_append mt_append (pv 4) (pa_cons (pv 5) pa_nil))))))
        (pss_cons (ps_if (pt_cmpR (o_eqD K rfl hr) (pv 4) (pv 2) (nomark _))
          (pss_one ps_break)
          pss_nil)
        (pss_one (ps_set (i := 2) sc_law_least.nd rfl (.inl rfl) (pv 4)))))))
      (pss_one (ps_ret (pv 2)))))), ?_⟩
  obtain ⟨a, fl, rfl, hf, sh, k⟩ := h
  obtain ⟨vs, v1, v2, v3⟩ := hf.at_
  have len := sh.len
  have so := sh.so
  refine q_asgP (ep_bound (ev_var rfl) hf sh) fun v H1 e1 hv => ?_
  obtain ⟨M, S, rfl, bd, hB⟩ := hv
  have lfx := lfixed so.wf (M + fl.length * S) _ (turns_gt fl.length (M + fl.length * S))
  have lls := fun i e => lleast so.wf bd (i := i) e
  have N1 := turns_le len hB
  have it : ∀ i, (iter (lnext fl (M + fl.length * S)) i (zeros fl.length)).length = fl.length := iter_len (fun x => lnext_len fl _ x) zeros_len
  generalize M + fl.length * S = B at lfx lls hB N1 it
  clear bd
  refine q_asgL (xs := (zeros fl.length).map av) ?_ fun xa H2 nxa e2 h2 => ?_
  · have e0 : (zeros fl.length).map av = fl.map fun _ => V.int 0 := by
      unfold zeros; rw [List.map_replicate]
      exact (List.map_const' ..).symm
    rw [e0]
    exact el_lcMap _ (ev_var rfl) (ex_l e1 v1) v2 (by omega) fun i u y hu hy => ⟨_, fun H1 e Q q => q, rfl, ev_c⟩
  have e02 := e1.trans e2
  have fin : ∀ (xa : Addr) (x : List Am) (u3 u4 u5 u6 : Option V) (H' : Hp), H xa = none → Ex H H' → H' xa = some (.lst (x.map av)) → x.length = fl.length → IsLeast fl (CsM.fn x) → tRet (tVar 2) { nx := fun _ H' => Q .non H', rt := Q } [some (.ref a), some (.int (B : Nat)), some (.ref xa), u3, u4, u5, u6] H' :=
    fun xa x u3 u4 u5 u6 H' n e h hl il => s_ret (ev_var rfl) fun H3 e3 => k x hl il xa H3 n (e.trans e3) (e3 _ _ h)
  refine q_forR1 (n := ((fl.length * (B + 3) + 3 : Nat) : Int)) (ea_cons (ev_is (ev_op (ev_op (ev_len (ev_var rfl) (ex_l e02 v1)) (ev_op (ev_var rfl) ev_c rv_I0) (rv_I (.inl ⟨by omega, by omega⟩))) ev_c rv_I0) (congrArg V.int (by rw [v2]; exact turns_eq _ _))) ea_nil) ⟨by omega, by omega⟩
    (fun i σ H' => ∃ (xa : Addr) (u3 u4 u5 u6 : Option V), σ = [some (.ref a), some (.int (B : Nat)), some (.ref xa), u3, u4, u5, u6] ∧ H xa = none ∧ Ex H H' ∧ H' xa = some (.lst ((iter (lnext fl B) i (zeros fl.length)).map av)))
    (fun H3 e3 => ⟨xa, _, _, _, _, rfl, fresh_back e1 nxa, e02.trans e3, e3 _ _ h2⟩) (fun i σ H' hi hp => ?_) (fun σ H' hp => ?_)
  · clear nxa h2 xa
    obtain ⟨xa, u3, u4, u5, u6, rfl, nxa, eb, hx⟩ := hp
    have hxl := it i
    have lli := lls i
    have inx : iter (lnext fl B) (i + 1) (zeros fl.length) = lnext fl B (iter (lnext fl B) i (zeros fl.length)) := rfl
    rw [inx]
    generalize iter (lnext fl B) i (zeros fl.length) = x at hx hxl lli
    refine q_asgL (el_lst ea_nil (by decide)) fun o H3 no e3 h3 => ?_
    have nox : xa ≠ o := fun z => by rw [← z, hx] at no; cases no
    have no0 : H o = none := fresh_back eb no
    refine q_forNLn (xs := (round fl x).map av) (el_callL (ea_cons (ev_var rfl) (ea_cons (ev_var rfl) ea_nil)) fun H4 e4 Q q => ⟨a, xa, fl, x, rfl, hf.mono ((eb.trans e3).trans e4), sq_of (e4 _ _ (e3 _ _ hx)), so, hxl, q⟩) (fun p j σ H' => ∃ (u5 u6 : Option V), σ = [some (.ref a), some (.int (B : Nat)), some (.ref xa), some (.int (i : Nat)), some (.ref o), u5, u6] ∧ H' o = some (.lst ((((round fl x).take j).map (cut B)).map av)) ∧ Ex H3 (upd (Hd o H') o (.lst [])) ∧ p ≠ o ∧ SqL K H' p ((round fl x).map av))
      (fun p H4 np e4 h4 => ⟨_, _, rfl, e4 _ _ h3, fun b u hb => ?_, fun z => (by rw [z, h3] at np; cases np), sq_of h4⟩) (fun p j σ H' _ q => ?_) (fun p j y σ H' hy q => ?_) (fun p σ H' q => ?_)
    · by_cases c : b = o
      · subst c; rw [h3] at hb; cases hb; exact upd_same
      · rw [upd_ne c, hd_ne c]; exact e4 b u hb
    · obtain ⟨_, _, _, _, _, _, h⟩ := q
      exact h
    · obtain ⟨u5, u6, rfl, ho, e4, npo, hp⟩ := q
      rw [List.getElem?_map] at hy
      cases ey : (round fl x)[j]? with
      | none => rw [ey] at hy; cases hy
      | some y =>
        rw [ey] at hy; cases hy
        have hj := CsM.lt_of ey
        rw [round_len] at hj
        refine q_cut (M := fun σ H2 => σ = [some (.ref a), some (.int (B : Nat)), some (.ref xa), some (.int (i : Nat)), some (.ref o), some (av (cut B y)), u6] ∧ Ex H' H2) ?_ (fun σ' H2 hM => ?_)
        · cases y with
          | none => exact s_when (b := false) (et_and (a := decide ((none : Am) ≠ none)) (b := false) (et_some (a := none) (ev_var rfl)) fun hb => by cases hb) (fun hb => by cases hb) fun _ H2 e2 => ⟨rfl, e2⟩
          | some y =>
            refine s_when (et_and (et_some (a := some y) (ev_var rfl)) fun _ => et_test (ev_op (ev_var rfl) (ev_var rfl) rv_I0)) (fun hb H2 e2 => s_asg (v := .non) ev_c fun H3 e3 => ⟨?_, e2.trans e3⟩) (fun hb H2 e2 => ⟨?_, e2⟩)
            · have c : B < y := by
                have := (Bool.and_eq_true_iff.mp hb).2
                have := of_decide_eq_true this
                omega
              have e : cut B (some y) = none := if_pos c
              rw [e]; rfl
            · have c : ¬ B < y := fun c => by
                have h1 : (decide (((some y : Am)) ≠ none) && decide ((B : Int) < (y : Int))) = true := by
                  rw [decide_eq_true (by omega : (B : Int) < (y : Int))]; rfl
                have h2 : (decide (((some y : Am)) ≠ none) && decide ((B : Int) < (y : Int))) = false := hb
                rw [h1] at h2; cases h2
              have e : cut B (some y) = some y := if_neg c
              rw [e]; rfl
        · obtain ⟨rfl, e2⟩ := hM
          refine s_app (e2 _ _ ho) (ev_var rfl) (ev_var rfl) (by rw [List.length_map, List.length_map, List.length_take]; omega) fun H4 e4b => ?_
          have e24 := e2.trans e4b
          refine ⟨_, _, rfl, ?_, fun b u hb => ?_, npo, ?_⟩
          · rw [upd_same, take_snoc ey, List.map_append, List.map_append]; rfl
          · have z := e4 b u hb
            by_cases c : b = o
            · subst c; rw [upd_same] at z ⊢; exact z
            · rw [upd_ne c, hd_ne c] at z ⊢
              rw [upd_ne c]; exact e24 b u z
          · exact sql_upd npo (ex_l e24 hp)
    · obtain ⟨u5, u6, rfl, ho, e4, npo, hp⟩ := q
      rw [List.length_map, List.take_of_length_le (Nat.le_refl _)] at ho
      have ho : H' o = some (.lst ((lnext fl B x).map av)) := ho
      have ee : Ex H H' := fun b u hb => by
        have n : b ≠ o := ne_of_none hb no0
        have z := e4 b u (e3 b u (eb b u hb))
        rw [upd_ne n, hd_ne n] at z
        exact z
      have hx' : H' xa = some (.lst (x.map av)) := by
        have z := e4 _ _ (e3 _ _ hx)
        rw [upd_ne nox, hd_ne nox] at z
        exact z
      refine q_if (et_eqL (l := lnext fl B x) (r := x) (ev_var rfl) (ev_var rfl) (sq_of ho) (sq_of hx')) (fun hb H5 e5 => ?_) (fun hb H5 e5 => ?_)
      · exact fin xa x _ _ _ _ H5 nxa (ee.trans e5) (e5 _ _ hx') hxl (lli (of_decide_eq_true hb))
      · exact s_asg (v := .ref o) (ev_var rfl) fun H6 e6 => ⟨o, _, _, _, _, rfl, no0, (ee.trans e5).trans e6, (e5.trans e6) _ _ ho⟩
  · clear nxa h2 xa
    obtain ⟨xa, u3, u4, u5, u6, rfl, nxa, eb, hx⟩ := hp
    rw [show (((fl.length * (B + 3) + 3 : Nat) : Int)).toNat = fl.length * (B + 3) + 3 by omega] at hx
    exact fin xa _ _ _ _ _ H' nxa eb hx (it _) (lls _ lfx)
theorem sc_law_greatest : FnScope ["_law_flat_here", "_law_x", "_law_turn", "_law_later", "_law_cell"] ["_law_flat_here"] (defScope sLawGreatest) := ⟨rfl, rfl, rfl, by decide +kernel, rfl, by decide +kernel, by decide +kernel⟩
-- slots 0 _law_flat_here, 1 _law_x, 2 _law_turn, 3 _law_later, 4 _law_cell
theorem c_law_greatest (T : Top K mg) (C_law_round : Callee P w K mg base "_law_round" ["_law_flat_here", "_law_x"] 3 (spFlatValues K)) (C_law_bound : Callee P w K mg base "_law_bound" ["_law_flat_here"] 1 (spBound K)) : Callee P w K mg base "_law_greatest" ["_law_flat_here"] 4 (spLawGreat K) := by
  refine ok_of (N := ["_law_flat_here", "_law_x", "_law_turn", "_law_later", "_law_cell"]) T (List.mem_of_getElem? (i := 41) rfl) sc_law_greatest (fun _ _ _ _ _ _ us hl => match us, hl with | [_], _ => rfl) (fun vs H Q E h => ?len) (fun cdv A outer s H vs Q E f hr h => ?_)
  case len => first | (obtain ⟨_, rfl, _⟩ := h; rfl) | (obtain ⟨_, _, rfl, _⟩ := h; rfl) | (obtain ⟨_, _, _, rfl, _⟩ := h; rfl) | (obtain ⟨_, _, _, _, rfl, _⟩ := h; rfl) | (obtain ⟨_, _, _, _, _, rfl, _⟩ := h; rfl) | (obtain ⟨_, _, _, _, _, _, rfl, _⟩ := h; rfl) | (obtain ⟨_, _, _, _, _, _, _, rfl, _⟩ := h; rfl) | (obtain ⟨_, _, _, _, _, _, _, _, rfl, _⟩ := h; rfl) | (obtain ⟨_, _, _, _, _, _, _, _, _, rfl, _⟩ := h; rfl) | (obtain ⟨_, _, _, _, _, _, _, _, _, _, rfl, _⟩ := h; rfl) | (obtain ⟨_, _, _, _, _, _, _, _, _, _, _, rfl, _⟩ := h; rfl) | (obtain ⟨_, _, _, _, _, _, _, _, _, _, _, _, rfl, _⟩ := h; rfl)
  refine ⟨_, (pss_cons (ps_setLc (i := 1) (own := [("_law_cell", 4)]) (g := gName 4) (tt := tYes) rfl sc_law_greatest.nd rfl rfl (sw_true rfl rfl rfl (by decide +kernel)) (x_piL K rfl (pv 0)) (blkOk_by (N := ["_law_flat_here", "_law_x", "_law_turn", "_law_later", "_law_cell"]) (sc := defScope sLawGreatest) (by decide +kernel)) (fun _ _ _ _ _ => (pg_name (i := 4) sc_law_greatest.nd rfl (.inl rfl))) (fun _ _ _ _ _ => pts_nil) (fun _ _ _ _ _ => pe_non))
      (pss_cons (ps_for PassesOwn.never rfl (pi_range1 rfl T.range (pa_cons (pe_op op_add (pe_op op_mul (x_len K rfl rfl T.len (pa_cons (pv 0) pa_nil)) (pe_op op_add (x_call C_law_bound hr (pa_cons (pv 0) pa_nil)) pe_int)) pe_int) pa_nil)) (pg_name (i := 2) sc_law_greatest.nd rfl (.inl rfl))
        (pss_cons (ps_set (i := 3) sc_law_greatest.nd rfl (.inl rfl) (x_call C_law_round hr (pa_cons (pv 0) (pa_cons (pv 1) pa_nil))))
        (pss_cons (ps_if (pt_cmpR (o_eqD K rfl hr) (pv 3) (pv 1) (nomark _))
          (pss_one ps_break)
          pss_nil)
        (pss_one (ps_set (i := 1) sc_law_greatest.nd rfl (.inl rfl) (pv 3))))))
      (pss_one (ps_ret (pv 1))))), ?_⟩
  obtain ⟨a, fl, rfl, hf, sh, k⟩ := h
  obtain ⟨vs, v1, v2, v3⟩ := hf.at_
  have len := sh.len
  have so := sh.so
  have it : ∀ i, (iter (round fl) i (nones fl.length)).length = fl.length := iter_len (fun x => round_len fl x) nones_len
  have ggs := fun i e => ggreat so.wf (i := i) e
  refine q_asgL (xs := (nones fl.length).map av) ?_ fun xa H2 nxa e2 h2 => ?_
  · have e0 : (nones fl.length).map av = fl.map fun _ => V.non := by
      unfold nones; rw [List.map_replicate]
      exact (List.map_const' ..).symm
    rw [e0]
    exact el_lcMap _ (ev_var rfl) v1 v2 (by omega) fun i u y hu hy => ⟨_, fun H1 e Q q => q, rfl, ev_c⟩
  have fin : ∀ (xa : Addr) (x : List Am) (u2 u3 u4 : Option V) (H' : Hp), H xa = none → Ex H H' → H' xa = some (.lst (x.map av)) → x.length = fl.length → IsGreat fl (CsM.fn x) → tRet (tVar 1) { nx := fun _ H' => Q .non H', rt := Q } [some (.ref a), some (.ref xa), u2, u3, u4] H' :=
    fun xa x u3 u4 u5 H' n e h hl il => s_ret (ev_var rfl) fun H3 e3 => k x hl il xa H3 n (e.trans e3) (e3 _ _ h)
  refine q_forRP (Pn := fun N => N ≤ 1000 ∧ round fl (iter (round fl) N (nones fl.length)) = iter (round fl) N (nones fl.length)) ?_ fun N H3 hN e3 => ?_
  · refine eap_consP (Pv := fun v _ => ∃ N : Nat, v = nv N ∧ N ≤ 1000 ∧ round fl (iter (round fl) N (nones fl.length)) = iter (round fl) N (nones fl.length)) (ep_op (Pa := fun v _ => ∃ M S : Nat, v = .int ((fl.length * (M + fl.length * S + 3) : Nat) : Int) ∧ Bd fl M S ∧ M + fl.length * S ≤ 72) (ep_op (Pa := fun v _ => v = .int (fl.length : Nat)) (ep_of (ev_is (ev_len (ev_var rfl) (ex_l e2 v1)) (by rw [v2])) fun _ _ => rfl) fun x H3 e3 hx => (ep_op (Pd := fun v _ => ∃ M S : Nat, v = .int ((M + fl.length * S + 3 : Nat) : Int) ∧ Bd fl M S ∧ M + fl.length * S ≤ 72) (ep_bound (ev_var rfl) (hf.mono (e2.trans e3)) sh) fun x H4 e4 hx => (ep_of (Pd := fun v _ => v = .int 3) ev_c fun _ _ => rfl).imp fun y H5 e5 hy Q q => ?_).imp fun y H4 e4 hy Q q => ?_) fun x H3 e3 hx => (ep_of (Pd := fun v _ => v = .int 3) ev_c fun _ _ => rfl).imp fun y H5 e5 hy Q q => ?_) fun v H3 e3 hv => eap_of ea_nil fun _ _ => ?_
    · subst hy
      obtain ⟨M, S, rfl, h1, h2⟩ := hx
      exact ⟨_, _, rfl, rfl, q _ H5 (Ex.refl _) ⟨M, S, congrArg V.int (by omega), h1, h2⟩⟩
    · subst hx
      obtain ⟨M, S, rfl, h1, h2⟩ := hy
      exact ⟨_, _, rfl, rfl, .inl ⟨by omega, by omega⟩, q _ H4 (Ex.refl _) ⟨M, S, by rw [Int.natCast_mul], h1, h2⟩⟩
    · subst hy
      obtain ⟨M, S, rfl, h1, h2⟩ := hx
      exact ⟨_, _, rfl, rfl, q _ H5 (Ex.refl _) ⟨fl.length * (M + fl.length * S + 3) + 3, congrArg V.int (by rw [Int.natCast_add]; rfl), turns_le len h2, gfixed so.wf h1 _ (turns_gt _ _)⟩⟩
    · obtain ⟨N, rfl, hN⟩ := hv
      exact ⟨N, rfl, hN⟩
  refine q_forR1 (n := (N : Nat)) (ea_cons ev_c ea_nil) ⟨by omega, by omega⟩
    (fun i σ H' => ∃ (xa : Addr) (u2 u3 u4 : Option V), σ = [some (.ref a), some (.ref xa), u2, u3, u4] ∧ H xa = none ∧ Ex H H' ∧ H' xa = some (.lst ((iter (round fl) i (nones fl.length)).map av)))
    (fun H4 e4 => ⟨xa, _, _, _, rfl, nxa, (e2.trans e3).trans e4, (e3.trans e4) _ _ h2⟩) (fun i σ H' hi hp => ?_) (fun σ H' hp => ?_)
  · clear nxa h2 xa
    obtain ⟨xa, u2, u3, u4, rfl, nxa, eb, hx⟩ := hp
    refine q_asgL (el_callL (ea_cons (ev_var rfl) (ea_cons (ev_var rfl) ea_nil)) fun H4 e4 Q q => ⟨a, xa, fl, _, rfl, hf.mono (eb.trans e4), sq_of (e4 _ _ hx), so, it i, q⟩) fun o H4 no e4 h4 => ?_
    refine q_if (et_eqL (ev_var rfl) (ev_var rfl) (sq_of h4) (sq_of (e4 _ _ hx))) (fun hb H5 e5 => ?_) (fun hb H5 e5 => ?_)
    · exact fin xa _ _ _ _ H5 nxa ((eb.trans e4).trans e5) ((e4.trans e5) _ _ hx) (it i) (ggs i (of_decide_eq_true hb))
    · exact s_asg (v := .ref o) (ev_var rfl) fun H6 e6 => ⟨o, _, _, _, rfl, fresh_back eb no, ((eb.trans e4).trans e5).trans e6, (e5.trans e6) _ _ h4⟩
  · clear nxa h2 xa
    obtain ⟨xa, u2, u3, u4, rfl, nxa, eb, hx⟩ := hp
    rw [show (((N : Nat) : Int)).toNat = N by omega] at hx
    exact fin xa _ _ _ _ H' nxa eb hx (it _) (ggs _ hN.2)
end
end CsW

set_option Elab.async false
set_option linter.all false
set_option maxRecDepth 100000
set_option maxHeartbeats 4000000
namespace CsW
open PySem PySem.Spec PyProof.Rows L2 Evl CsTop CsM
/-! ### the law -/
section
variable {fl : List Fm} {x y z : List Am}
theorem low_iff (hl : x.length = fl.length) : allN fl.length (CsM.fn x) (CsM.fn (round fl x)) = true ↔ Post fl (CsM.fn x) := by
  rw [allN_iff]
  exact ⟨fun h i hi => by rw [← round_fn hi]; exact h i hi, fun h i hi => by rw [round_fn hi]; exact h i hi⟩
theorem high_iff (hl : x.length = fl.length) : allN fl.length (CsM.fn (round fl x)) (CsM.fn x) = true ↔ Pre fl (CsM.fn x) := by
  rw [allN_iff]
  exact ⟨fun h i hi => by rw [← round_fn hi]; exact h i hi, fun h i hi => by rw [round_fn hi]; exact h i hi⟩
theorem low_round (w : Wf fl) (h : Post fl (CsM.fn x)) : Post fl (CsM.fn (round fl x)) := fun i hi => by
  rw [round_fn hi]
  exact F_mono w (fun j hj => by rw [round_fn hj]; exact h j hj) i hi
theorem high_round (w : Wf fl) (h : Pre fl (CsM.fn x)) : Pre fl (CsM.fn (round fl x)) := fun i hi => by
  rw [round_fn hi]
  exact F_mono w (fun j hj => by rw [round_fn hj]; exact h j hj) i hi
end
section
variable {K : PySem.W.Frag} {σ : L2.St} {H : Hp} {te ta tb : TE} {tr : TA} {D : Ends} {tz tu : TS} {a b c : Addr} {fl : List Fm} {x y l r : List Am}
theorem et_neN (ha : Ev ta σ H (.ref a)) (hb : EvL tb σ H (r.map av)) (hl : Ams K H a l) : EvT (tTest (tOp (rNeD K) ta tb)) σ H (!decide (l = r)) := by
  refine et_is (et_test (ev_opL ha hb (z := .bl (!PyData.eqv (.list (l.map dAv)) (.list (r.map dAv)))) fun p H1 hp e H2 e2 Q q => ⟨_, _, .lst (ex_l (e.trans e2) hl) (dp_avs l), .lst (ex_l e2 (sq_of hp)) (dp_avs r), shaped_avs l, shaped_avs r, q H2 (Ex.refl _)⟩)) ?_
  rw [PyData.eqv, eqv_avs]
theorem s_parP {i j : Nat} {Pd : List V → Hp → Prop} (h : EvAP tr σ H Pd) (k : ∀ vs H1, Ex H H1 → Pd vs H1 → ∃ v w, vs = [v, w] ∧ D.nx ((σ.set i (some v)).set j (some w)) H1) : tPar i j tr D σ H := h H (Ex.refl H) _ fun vs H1 e hv => k vs H1 e hv
theorem q_forLP {g : TG} {Pd : V → Hp → Prop} (h : EvP te σ H Pd) (k : ∀ v H1, Ex H H1 → Pd v H1 → tSeq (tFor (iList K (tC v)) g tu) tz D σ H1) : tSeq (tFor (iList K te) g tu) tz D σ H := h H (Ex.refl H) _ fun v H1 e hv => k v H1 e hv
theorem ev_low (ha : Ev ta σ H (.ref a)) (hb : Ev tb σ H (.ref b)) (hf : FlAt K H a fl) (hx : Ams K H b x) (so : SOk fl) (hl : x.length = fl.length) : Ev (tCall (spIsLow K) [] E0 (tCons ta (tCons tb tNil))) σ H (.bl (allN fl.length (CsM.fn x) (CsM.fn (round fl x)))) :=
  ev_callV (ea_cons ha (ea_cons hb ea_nil)) fun H1 e Q q => ⟨_, _, _, _, rfl, hf.mono e, hx.mono e, so, hl, q⟩
theorem ev_high (ha : Ev ta σ H (.ref a)) (hb : Ev tb σ H (.ref b)) (hf : FlAt K H a fl) (hx : Ams K H b x) (so : SOk fl) (hl : x.length = fl.length) : Ev (tCall (spIsHigh K) [] E0 (tCons ta (tCons tb tNil))) σ H (.bl (allN fl.length (CsM.fn (round fl x)) (CsM.fn x))) :=
  ev_callV (ea_cons ha (ea_cons hb ea_nil)) fun H1 e Q q => ⟨_, _, _, _, rfl, hf.mono e, hx.mono e, so, hl, q⟩
theorem ev_allm (ha : Ev ta σ H (.ref a)) (hb : Ev tb σ H (.ref b)) (hx : Ams K H a x) (hy : Ams K H b y) (hl : x.length = y.length) (hz : x.length ≤ 1000) : Ev (tCall (spAllAtMost K) [] E0 (tCons ta (tCons tb tNil))) σ H (.bl (allN x.length (CsM.fn x) (CsM.fn y))) :=
  ev_callV (ea_cons ha (ea_cons hb ea_nil)) fun H1 e Q q => ⟨_, _, _, _, rfl, hx.mono e, hy.mono e, hl, hz, q⟩
/-- not f(..), f's answer yes -/
theorem et_yesN {v : Bool} (h : Ev te σ H (.bl v)) (hv : v = true) : EvT (tNot (tB te)) σ H false := et_is (et_not (et_val h)) (by rw [hv]; rfl)
theorem et_or3 {ta tb tc : TT} (h1 : EvT ta σ H false) (h2 : EvT tb σ H false) (h3 : EvT tc σ H false) : EvT (tOr ta (tOr tb tc)) σ H false := et_or (a := false) (b := false) h1 fun _ => et_or (a := false) (b := false) h2 fun _ => h3
theorem ep_lesser {g : List Am → List Am → List Am} {sp : Sp} (hg : ∀ x y, (g x y).length = x.length) (hsp : ∀ a b x y H Q, Ams K H a x → Ams K H b y → x.length = y.length → x.length ≤ 1000 → RetL ((g x y).map av) H Q → sp [.ref a, .ref b] H Q E0) {tc : TE}
    (ha : Ev ta σ H (.ref a)) (hb : Ev tb σ H (.ref b)) (hc : Ev tc σ H (.ref b)) (hf : FlAt K H a fl) (hx : Ams K H b x) (so : SOk fl) (hl : x.length = fl.length) :
    EvP (tCall sp [] E0 (tCons tc (tCons (tCall (spFlatValues K) [] E0 (tCons ta (tCons tb tNil))) tNil))) σ H fun v H2 => ∃ (p : Addr) (y : List Am), v = .ref p ∧ H p = none ∧ H2 p = some (.lst (y.map av)) ∧ y.length = fl.length :=
  ep_call (Pd := fun vs H1 => ∃ p, vs = [.ref b, .ref p] ∧ Ams K H1 p (round fl x)) (eap_cons hc (eap_consP (ep_L (el_callL (ea_cons ha (ea_cons hb ea_nil)) fun H1 e Q q => ⟨_, _, _, _, rfl, hf.mono e, hx.mono e, so, hl, q⟩)) fun v H1 e hv => eap_of ea_nil fun H2 e2 => by
    obtain ⟨p, rfl, _, hp⟩ := hv
    exact ⟨p, rfl, ex_l e2 (sq_of hp)⟩)) fun vs H1 e hv Q q => by
    obtain ⟨p, rfl, hp⟩ := hv
    have := so.len
    exact hsp b p x (round fl x) H1 Q (hx.mono e) hp (by rw [round_len, hl]) (by omega) fun r H2 n e2 h2 => q _ H2 e2 ⟨r, _, rfl, fresh_back e n, h2, by rw [hg, hl]⟩
end
theorem ll_am {us : List V} {l : List Am} (h : LL (fun v x => v = av x) us l) : us = l.map av := by
  apply List.ext_getElem?; intro i
  rw [List.getElem?_map]
  by_cases c : i < l.length
  · obtain ⟨x, hx⟩ := CsM.at_of c
    obtain ⟨v, h1, h2⟩ := h.2 i x hx
    rw [h1, hx, h2]; rfl
  · rw [List.getElem?_eq_none (by rw [h.1]; omega), List.getElem?_eq_none (by omega)]; rfl
theorem tab_hd {H : Hp} {tb sa : Addr} {q : Str} {us : List V} (t : LamX.TabS H tb q) (hs : H sa = some (.lst us)) : LamX.TabS (Hd sa H) tb q := by
  obtain ⟨ps, h1, h2, h3⟩ := t
  have nT : tb ≠ sa := fun z => by rw [z, hs] at h1; cases h1
  refine ⟨ps, by rw [hd_ne nT]; exact h1, h2, fun p c hc => ?_⟩
  obtain ⟨c', z1, z2⟩ := h3 p c hc
  have nc : c' ≠ sa := fun z => by rw [z, hs] at z2; cases z2
  exact ⟨c', z1, by rw [hd_ne nc]; exact z2⟩
theorem shp_of {fl : List Fm} (h0 : 0 < fl.length) (h1 : fl.length ≤ 12) (h2 : ∀ f ∈ fl, FmP fl.length f) : ShP fl :=
  ⟨⟨fun f hf => (h2 f hf).ok, h0, by omega, fun f hf => Nat.le_trans (h2 f hf).al (by omega), 12, 5, fun a ha => (h2 _ ha).num a rfl, fun l hl p hp => (h2 _ hl).sh p hp, fun l hl p hp => (h2 _ hl).sh p hp⟩, h1, h2⟩
section
variable {P : Program} {w : World} {K : PySem.W.Frag} {mg : Str → Option Value} {base : Heap}
def spLaw (K : PySem.W.Frag) (tb : Addr) : Sp := fun vs H Q _ => ∃ (a : Addr) (ns : List Int), vs = [.ref a] ∧ SqL K H a (ns.map V.int) ∧ ns.length ≤ 1000 ∧ H tb = some (.tbl #[]) ∧ ∀ H', Q (.bl true) H'
theorem sc_law : FnScope ["_law_script", "_law_stream", "_law_flat_here", "_law_least_here", "_law_greatest_here", "_law_low", "_law_high", "_law_turn", "_law_x", "_law_told", "_law_later", "_law_cell", "_law_one"] ["_law_script"] (defScope sLaw) := ⟨rfl, rfl, rfl, by decide +kernel, rfl, by decide +kernel, by decide +kernel⟩
theorem ok_law {tb : Addr} (T : Top K mg) {fd : FuncData} (F : FunD K "law" "law" (defArgs sLaw) (defBody sLaw) (defScope sLaw) [] [] (He.ga K "law") fd) (C_is_high : Callee P w K mg base "is_high" ["flat", "x"] 5 (spIsHigh K)) (C_is_low : Callee P w K mg base "is_low" ["flat", "x"] 5 (spIsLow K)) (C_law_all_most : Callee P w K mg base "_law_all_most" ["_law_x", "_law_y"] 2 (spAllAtMost K)) (C_one_round : Callee P w K mg base "one_round" ["flat", "x"] 5 (spOneRound K)) (C_law_greater : Callee P w K mg base "_law_greater" ["_law_x", "_law_y"] 2 (spGreater K)) (C_law_round : Callee P w K mg base "_law_round" ["_law_flat_here", "_law_x"] 3 (spFlatValues K)) (C_law_lesser : Callee P w K mg base "_law_lesser" ["_law_x", "_law_y"] 2 (spLesser K)) (C_law_draw : Callee P w K mg base "_law_draw" ["_law_stream", "_law_many"] 1 (spDraw K)) (C_law_shift : Callee P w K mg base "_law_shift" ["_law_a", "_law_c"] 1 spShifted) (C_law_amount : Callee P w K mg base "_law_amount" ["_law_stream", "_law_most_here"] 2 (spAmount K)) (C_law_greatest : Callee P w K mg base "_law_greatest" ["_law_flat_here"] 4 (spLawGreat K)) (C_law_least : Callee P w K mg base "_law_least" ["_law_flat_here"] 4 (spLawLeast K)) (C_flat_greatest : Callee P w K mg base "flat_greatest" ["flat"] 7 (spFlatGreat K)) (C_flat_least : Callee P w K mg base "flat_least" ["flat"] 7 (spFlatLeast K tb)) (C_law_flat : Callee P w K mg base "_law_flat" ["_law_stream", "_law_most_here"] 4 (spFlat K)) : FnOk P w K mg base CX0 8 (He.ga K "law") fd ["_law_script"] (spLaw K tb) := by
  refine F.ok sc_law (fun vs H Q E h => ?len) fun cdv A outer s H vs Q E hr h => ?_
  case len =>
    obtain ⟨_, _, rfl, _⟩ := h
    rfl
  suffices hh : ∃ t, PSs (cxOf CX0 P w K mg base ["_law_script", "_law_stream", "_law_flat_here", "_law_least_here", "_law_greatest_here", "_law_low", "_law_high", "_law_turn", "_law_x", "_law_told", "_law_later", "_law_cell", "_law_one"] "law" (defScope sLaw) (He.ga K "law") cdv A outer s H E).nox (defBody sLaw) t ∧ t { nx := fun _ H' => Q .non H', rt := Q } (start ["_law_script", "_law_stream", "_law_flat_here", "_law_least_here", "_law_greatest_here", "_law_low", "_law_high", "_law_turn", "_law_x", "_law_told", "_law_later", "_law_cell", "_law_one"] vs) H by
    obtain ⟨t, h1, h2⟩ := hh
    exact ⟨t, h1.nox, h2⟩
  refine ⟨_, (pss_cons (ps_set (i := 1) sc_law.nd rfl (.inr rfl) (pe_lst (pa_cons (x_list K rfl rfl T.list (pa_cons (pv 0) pa_nil)) (pa_cons pe_int (pa_cons pe_int pa_nil)))))
      (pss_cons (ps_set (i := 2) sc_law.nd rfl (.inl rfl) (x_call C_law_flat hr (pa_cons (pv 1) (pa_cons pe_int pa_nil))))
      (pss_cons (ps_par (i := 3) (j := 4) rfl sc_law.nd rfl rfl (by decide) rfl rfl (pa_cons (x_call C_flat_least hr (pa_cons (pv 2) pa_nil)) (pa_cons (x_call C_flat_greatest hr (pa_cons (pv 2) pa_nil)) pa_nil)) rfl)
      (pss_cons (ps_if ((pw_or (pt_cmpR (o_neD K rfl hr) (pv 3) (x_call C_law_least hr (pa_cons (pv 2) pa_nil)) (nomark _)) (pw_or1 (pt_cmpR (o_neD K rfl hr) (pv 4) (x_call C_law_greatest hr (pa_cons (pv 2) pa_nil)) (nomark _))))).pt
        (pss_one (ps_ret pe_bl))
        pss_nil)
      (pss_cons (ps_setLc (i := 5) (own := [("_law_cell", 11)]) (g := gName 11) (tt := tYes) rfl sc_law.nd rfl rfl (sw_true rfl rfl rfl (by decide +kernel)) (x_piL K rfl (pv 2)) (blkOk_by (N := ["_law_script", "_law_stream", "_law_flat_here", "_law_least_here", "_law_greatest_here", "_law_low", "_law_high", "_law_turn", "_law_x", "_law_told", "_law_later", "_law_cell", "_law_one"]) (sc := defScope sLaw) (by decide +kernel)) (fun _ _ _ _ _ => (pg_name (i := 11) sc_law.nd rfl (.inl rfl))) (fun _ _ _ _ _ => pts_nil) (fun _ _ _ _ _ => (x_call C_law_amount hr (pa_cons (pv 1) (pa_cons pe_int pa_nil)))))
      (pss_cons (ps_setLc (i := 6) (own := [("_law_cell", 11)]) (g := gName 11) (tt := tYes) rfl sc_law.nd rfl rfl (sw_true rfl rfl rfl (by decide +kernel)) (x_piL K rfl (pv 2)) (blkOk_by (N := ["_law_script", "_law_stream", "_law_flat_here", "_law_least_here", "_law_greatest_here", "_law_low", "_law_high", "_law_turn", "_law_x", "_law_told", "_law_later", "_law_cell", "_law_one"]) (sc := defScope sLaw) (by decide +kernel)) (fun _ _ _ _ _ => (pg_name (i := 11) sc_law.nd rfl (.inl rfl))) (fun _ _ _ _ _ => pts_nil) (fun _ _ _ _ _ => (x_call C_law_amount hr (pa_cons (pv 1) (pa_cons pe_int pa_nil)))))
      (pss_cut (ps_if (pt_cmpR op_eq (x_call C_law_draw hr (pa_cons (pv 1) (pa_cons pe_int pa_nil))) pe_int (nomark _))
        (pss_cons (ps_setLc (i := 5) (own := [("_law_one", 12)]) (g := gName 12) (tt := tYes) rfl sc_law.nd rfl rfl (sw_true rfl rfl rfl (by decide +kernel)) (x_piL K rfl (pv 4)) (blkOk_by (N := ["_law_script", "_law_stream", "_law_flat_here", "_law_least_here", "_law_greatest_here", "_law_low", "_law_high", "_law_turn", "_law_x", "_law_told", "_law_later", "_law_cell", "_law_one"]) (sc := defScope sLaw) (by decide +kernel)) (fun _ _ _ _ _ => (pg_name (i := 12) sc_law.nd rfl (.inl rfl))) (fun _ _ _ _ _ => pts_nil) (fun _ _ _ _ _ => (x_call C_law_shift hr (pa_cons (pv 12) (pa_cons (pe_op op_sub pe_int (x_call C_law_draw hr (pa_cons (pv 1) (pa_cons pe_int pa_nil)))) pa_nil)))))
        (pss_one (ps_setLc (i := 6) (own := [("_law_one", 12)]) (g := gName 12) (tt := tYes) rfl sc_law.nd rfl rfl (sw_true rfl rfl rfl (by decide +kernel)) (x_piL K rfl (pv 3)) (blkOk_by (N := ["_law_script", "_law_stream", "_law_flat_here", "_law_least_here", "_law_greatest_here", "_law_low", "_law_high", "_law_turn", "_law_x", "_law_told", "_law_later", "_law_cell", "_law_one"]) (sc := defScope sLaw) (by decide +kernel)) (fun _ _ _ _ _ => (pg_name (i := 12) sc_law.nd rfl (.inl rfl))) (fun _ _ _ _ _ => pts_nil) (fun _ _ _ _ _ => (x_call C_law_shift hr (pa_cons (pv 12) (pa_cons (x_call C_law_draw hr (pa_cons (pv 1) (pa_cons pe_int pa_nil))) pa_nil)))))))
        pss_nil)
      (pss_cons (ps_for PassesOwn.never rfl (pi_range1 rfl T.range (pa_cons pe_int pa_nil)) (pg_name (i := 7) sc_law.nd rfl (.inl rfl))
        (pss_one (ps_par (i := 5) (j := 6) rfl sc_law.nd rfl rfl (by decide) rfl rfl (pa_cons (x_call C_law_lesser hr (pa_cons (pv 5) (pa_cons (x_call C_law_round hr (pa_cons (pv 2) (pa_cons (pv 5) pa_nil))) pa_nil))) (pa_cons (x_call C_law_greater hr (pa_cons (pv 6) (pa_cons (x_call C_law_round hr (pa_cons (pv 2) (pa_cons (pv 6) pa_nil))) pa_nil))) pa_nil)) rfl)))
      (pss_cons (ps_for PassesOwn.never rfl (x_piL K rfl (pe_lst (pa_cons (pv 5) (pa_cons (pv 6) (pa_cons (pv 3) (pa_cons (pv 4) (pa_cons (pe_lc (own := [("_law_cell", 11)]) (g := gName 11) (tt := tYes) rfl sc_law.nd (x_piL K rfl (pv 2)) (blkOk_by (N := ["_law_script", "_law_stream", "_law_flat_here", "_law_least_here", "_law_greatest_here", "_law_low", "_law_high", "_law_turn", "_law_x", "_law_told", "_law_later", "_law_cell", "_law_one"]) (sc := defScope sLaw) (by decide +kernel)) (fun _ _ _ _ _ => (pg_name (i := 11) sc_law.nd rfl (.inl rfl))) (fun _ _ _ _ _ => pts_nil) (fun _ _ _ _ _ => pe_int)) (pa_cons (pe_lc (own := [("_law_cell", 11)]) (g := gName 11) (tt := tYes) rfl sc_law.nd (x_piL K rfl (pv 2)) (blkOk_by (N := ["_law_script", "_law_stream", "_law_flat_here", "_law_least_here", "_law_greatest_here", "_law_low", "_law_high", "_law_turn", "_law_x", "_law_told", "_law_later", "_law_cell", "_law_one"]) (sc := defScope sLaw) (by decide +kernel)) (fun _ _ _ _ _ => (pg_name (i := 11) sc_law.nd rfl (.inl rfl))) (fun _ _ _ _ _ => pts_nil) (fun _ _ _ _ _ => pe_non)) pa_nil)))))))) (pg_name (i := 8) sc_law.nd rfl (.inl rfl))
        (pss_cons (ps_set (i := 9) sc_law.nd rfl (.inl rfl) (pe_lst (pa_cons (x_call C_is_low hr (pa_cons (pv 2) (pa_cons (pv 8) pa_nil))) (pa_cons (x_call C_is_high hr (pa_cons (pv 2) (pa_cons (pv 8) pa_nil))) pa_nil))))
        (pss_cons (ps_set (i := 10) sc_law.nd rfl (.inl rfl) (x_call C_one_round hr (pa_cons (pv 2) (pa_cons (pv 8) pa_nil))))
        (pss_cons (ps_if ((pw_and (pt_val (x_ixL K rfl (pv 9) pe_int)) (pw_and1 ((pw_or (pt_not (pt_val (x_call C_law_all_most hr (pa_cons (pv 8) (pa_cons (pv 4) pa_nil))))) (pw_or (pt_not (pt_val (x_call C_law_all_most hr (pa_cons (pv 8) (pa_cons (pv 10) pa_nil))))) (pw_or1 (pt_not (pt_val (x_call C_is_low hr (pa_cons (pv 2) (pa_cons (pv 10) pa_nil))))))))).pt))).pt
          (pss_one (ps_ret pe_bl))
          pss_nil)
        (pss_one (ps_if ((pw_and (pt_val (x_ixL K rfl (pv 9) pe_int)) (pw_and1 ((pw_or (pt_not (pt_val (x_call C_law_all_most hr (pa_cons (pv 3) (pa_cons (pv 8) pa_nil))))) (pw_or (pt_not (pt_val (x_call C_law_all_most hr (pa_cons (pv 10) (pa_cons (pv 8) pa_nil))))) (pw_or1 (pt_not (pt_val (x_call C_is_high hr (pa_cons (pv 2) (pa_cons (pv 10) pa_nil))))))))).pt))).pt
          (pss_one (ps_ret pe_bl))
          pss_nil))))))
      (pss_cons (ps_if ((pw_or (pt_not (pt_val (x_call C_is_low hr (pa_cons (pv 2) (pa_cons (pv 3) pa_nil))))) (pw_or (pt_not (pt_val (x_call C_is_high hr (pa_cons (pv 2) (pa_cons (pv 3) pa_nil))))) (pw_or (pt_not (pt_val (x_call C_is_low hr (pa_cons (pv 2) (pa_cons (pv 4) pa_nil))))) (pw_or1 (pt_not (pt_val (x_call C_is_high hr (pa_cons (pv 2) (pa_cons (pv 4) pa_nil)))))))))).pt
        (pss_one (ps_ret pe_bl))
        pss_nil)
      (pss_one (ps_ret (pe_and (x_call C_is_low hr (pa_cons (pv 2) (pa_cons (pe_lc (own := [("_law_cell", 11)]) (g := gName 11) (tt := tYes) rfl sc_law.nd (x_piL K rfl (pv 2)) (blkOk_by (N := ["_law_script", "_law_stream", "_law_flat_here", "_law_least_here", "_law_greatest_here", "_law_low", "_law_high", "_law_turn", "_law_x", "_law_told", "_law_later", "_law_cell", "_law_one"]) (sc := defScope sLaw) (by decide +kernel)) (fun _ _ _ _ _ => (pg_name (i := 11) sc_law.nd rfl (.inl rfl))) (fun _ _ _ _ _ => pts_nil) (fun _ _ _ _ _ => pe_int)) pa_nil))) (pe_one (x_call C_is_high hr (pa_cons (pv 2) (pa_cons (pe_lc (own := [("_law_cell", 11)]) (g := gName 11) (tt := tYes) rfl sc_law.nd (x_piL K rfl (pv 2)) (blkOk_by (N := ["_law_script", "_law_stream", "_law_flat_here", "_law_least_here", "_law_greatest_here", "_law_low", "_law_high", "_law_turn", "_law_x", "_law_told", "_law_later", "_law_cell", "_law_one"]) (sc := defScope sLaw) (by decide +kernel)) (fun _ _ _ _ _ => (pg_name (i := 11) sc_law.nd rfl (.inl rfl))) (fun _ _ _ _ _ => pts_nil) (fun _ _ _ _ _ => pe_non)) pa_nil))))))))))))))))), ?_⟩
  obtain ⟨sr, ns, rfl, hS0, hnl, hT0, k⟩ := h
  refine q_asgP (ep_lst (Pd := fun vs H' => ∃ sc, vs = [.ref sc, .int 0, .int 0] ∧ H' sc = some (.lst (ns.map V.int))) (eap_consP (ep_L (el_list (ev_var rfl) hS0)) fun v H1 e1 hv => eap_of (ea_cons ev_c (ea_cons ev_c ea_nil)) fun H2 e2 => ?_) (fun vs H2 hv => ?_)) fun v H1 e1 hv => ?_
  · obtain ⟨sc, rfl, _, hsc⟩ := hv
    exact ⟨sc, rfl, e2 _ _ hsc⟩
  · obtain ⟨sc, rfl, _⟩ := hv
    show 3 ≤ 100000; decide
  obtain ⟨sa, vs, H0, rfl, ⟨sc, rfl, hsc⟩, e0, nsa, rfl⟩ := hv
  have hs1 : (upd H0 sa (.lst [.ref sc, .int 0, .int 0])) sa = some (.lst [.ref sc, .int 0, .int 0]) := upd_same
  have nsc : sc ≠ sa := ne_of_none hsc nsa
  have hS1 : SqL K (Hd sa (upd H0 sa (.lst [.ref sc, .int 0, .int 0]))) sc (ns.map V.int) := sq_of (by rw [hd_ne nsc, upd_ne nsc]; exact hsc)
  have hT1 := e1 _ _ hT0
  generalize upd H0 sa (.lst [.ref sc, .int 0, .int 0]) = H1 at e1 hs1 hS1 hT1
  have sm1 : Sm sa sc H1 := ⟨0, 0, hs1⟩
  have tab1 : LamX.TabS (Hd sa H1) tb lamQ := tab_hd (LamX.TabS.nil hT1) hs1
  clear hsc e0 nsa hS0 hT0 e1 hT1
  refine q_callR (vs := [.ref sa, .int 6]) (ea_cons (ev_var rfl) (ea_cons ev_c ea_nil)) fun H2 e2 => ⟨sa, sc, ns, rfl, ex_l (hd_ex e2) hS1, sm1.mono e2, fun fp fl H4 nfp hf4 l0 l1 hfm g4 => ?_⟩
  have g14 := (SG.of sm1 e2).trans g4
  have hfl : FlAt K (Hd sa H4) fp fl := hf4.mono (nw_hd (sm1.mono e2).some)
  have sh := shp_of l0 l1 hfm
  have so := sh.so
  have tab4 : LamX.TabS H4 tb lamQ := (tab1.ext g14.ex).ext ex_hd
  have hS4 := ex_l g14.ex hS1
  obtain ⟨i4, v4, hs4⟩ := g14.sm
  clear hf4 nfp tab1 hS1 hs1
  refine ⟨.ref fp, rfl, fp, fl, rfl, hfl.mono ex_hd, so, tab4, fun z p H5 hz hzl far5 go5 hp5 => ⟨.ref fp, rfl, fp, fl, rfl, (hfl.mono ex_hd).keep go5.keep, so, fun z2 p2 H6 hz2 hzg np2 e6 hp2 => ⟨_, _, rfl, ?_⟩⟩⟩
  have keep5 : Keep K (Hd sa H4) (Hd sa H5) := .of_tab (extN_hd go5.ext)
  have np : p ≠ sa := far5 _ _ hs4 (fun ps z => by cases z)
  have hs5 := go5.ext _ _ hs4 (fun ps z => by cases z)
  have np2s : p2 ≠ sa := fun y => by rw [y, hs5] at np2; cases np2
  have sm6 : Sm sa sc H6 := ⟨i4, v4, e6 _ _ hs5⟩
  have hf6 : FlAt K (Hd sa H6) fp fl := (hfl.keep keep5).mono (hd_ex e6)
  have hS6 : SqL K (Hd sa H6) sc (ns.map V.int) := ex_l (hd_ex e6) (keep5.l _ _ hS4)
  have hz6 : Ams K (Hd sa H6) p z := sq_of (by rw [hd_ne np]; exact e6 _ _ hp5)
  have hy6 : Ams K (Hd sa H6) p2 z2 := sq_of (by rw [hd_ne np2s]; exact hp2)
  clear hp5 hp2 np2 far5 go5 e6 keep5 hs5 hS4 hfl tab4 hs4 g14 hfm
  have eqz : ∀ z' : List Am, z'.length = fl.length → IsLeast fl (CsM.fn z') → z' = z := fun z' h1 h2 => list_eq (h1.trans hz.symm) fun i hi => h2.uniq hzl i (by rw [← h1]; exact hi)
  have eqy : ∀ z' : List Am, z'.length = fl.length → IsGreat fl (CsM.fn z') → z' = z2 := fun z' h1 h2 => list_eq (h1.trans hz2.symm) fun i hi => h2.uniq hzg i (by rw [← h1]; exact hi)
  refine q_when (b := false) (et_or (a := false) (b := false) (et_is (et_neN (r := z) (ev_var rfl) (el_callL (ea_cons (ev_var rfl) ea_nil) fun H7 e7 Q q => ⟨fp, fl, rfl, hf6.mono (ex_hd.trans e7), sh, fun z' h1 h2 => by rw [eqz z' h1 h2]; exact q⟩) (hz6.mono ex_hd)) (by simp)) fun _ => et_is (et_neN (r := z2) (ev_var rfl) (el_callL (ea_cons (ev_var rfl) ea_nil) fun H7 e7 Q q => ⟨fp, fl, rfl, hf6.mono (ex_hd.trans e7), sh, fun z' h1 h2 => by rw [eqy z' h1 h2]; exact q⟩) (hy6.mono ex_hd)) (by simp)) (fun hb => by cases hb) (fun _ H7 e7 => ?_)
  have g7 : SG sa sc H6 H7 := .of sm6 e7
  obtain ⟨vs, v1, v2, v3⟩ := hf6.at_
  -- drawn lists of amounts
  have amts : ∀ (σ : L2.St) (H8 : Hp), σ.length = 13 → SG sa sc H6 H8 → σ[1]? = some (some (.ref sa)) → σ[2]? = some (some (.ref fp)) → EvD sa sc (tLc (iList K (tVar 2)) (gName 11) tYes (tCall (spAmount K) [] E0 (tCons (tVar 1) (tCons (tC (.int 20)) tNil))) [11]) σ H8 fun v H2 => ∃ (q : Addr) (x : List Am), v = .ref q ∧ q ≠ sa ∧ H2 q = some (.lst (x.map av)) ∧ x.length = fl.length := by
    intro σ H8 hl g8 s1 s2
    match σ, hl, s1, s2 with
    | [t0, t1, t2, t3, t4, t5, t6, t7, t8, t9, t10, t11, t12], _, s1, s2 =>
      cases s1; cases s2
      refine (ed_lcL (α := Am) g8.sm (fun _ v x => v = av x) (fun _ _ _ _ _ h => h) (fun _ => ev_var rfl) (ex_l g8.ex v1) (by omega) (fun x => rfl) fun i y H9 hy g9 => (ed_amount (m := 20) rfl (fun _ => ev_c) (by omega) (by omega) (ex_l (g8.trans g9).ex hS6)).imp fun v H' g h => ?_).imp fun v H' g h => ?_
      · obtain ⟨x, hx, _⟩ := h
        exact ⟨x, hx⟩
      · obtain ⟨q, us, l, rfl, n, hq, hl, hL⟩ := h
        exact ⟨q, l, rfl, fun y => g8.sm.some (y ▸ n), by rw [hq, ll_am hL], by rw [hl, v2]⟩
  refine q_asgD g7.sm (amts _ H7 rfl g7 rfl rfl) fun v H8 g8 hv => ?_
  obtain ⟨lo, x, rfl, nlo, hlo, hxl⟩ := hv
  have g68 := g7.trans g8
  refine q_asgD g68.sm (amts _ H8 rfl g68 rfl rfl) fun v H9 g9 hv => ?_
  obtain ⟨hi, y, rfl, nhi, hhi, hyl⟩ := hv
  have g69 := g68.trans g9
  have hx9 : Ams K (Hd sa H9) lo x := sq_of (by rw [hd_ne nlo]; exact g9.at nlo hlo)
  have hy9 : Ams K (Hd sa H9) hi y := sq_of (by rw [hd_ne nhi]; exact hhi)
  clear hlo hhi nlo nhi g8 g9 g7 g68 e7 amts
  refine q_cut (M := fun σ H' => ∃ (lo hi : Addr) (x y : List Am), σ = [some (.ref sr), some (.ref sa), some (.ref fp), some (.ref p), some (.ref p2), some (.ref lo), some (.ref hi), none, none, none, none, none, none] ∧ SG sa sc H6 H' ∧ Ams K (Hd sa H') lo x ∧ Ams K (Hd sa H') hi y ∧ x.length = fl.length ∧ y.length = fl.length) ?_ (fun σ' H' hM => ?_)
  · refine s_whenD (n := fun i => i < 2) g69.sm (ed_draw (m := 2) rfl (fun _ => ev_c) (by omega) (by omega) (ex_l g69.ex hS6)) (fun H10 g10 => ?_) (fun H10 g10 => ⟨lo, hi, x, y, rfl, g69.trans g10, ex_l g10.ex hx9, ex_l g10.ex hy9, hxl, hyl⟩)
    have gA := g69.trans g10
    refine q_asgD (Pd := fun v H2 => ∃ (q : Addr) (x : List Am), v = .ref q ∧ q ≠ sa ∧ H2 q = some (.lst (x.map av)) ∧ x.length = fl.length) gA.sm ((ed_lcL (α := Am) gA.sm (fun _ v x => v = av x) (fun _ _ _ _ _ h => h) (fun _ => ev_var rfl) (ex_l gA.ex hy6) (by rw [List.length_map]; omega) (fun x => rfl) fun i u HA hu gB => ?_).imp fun v H' g h => ?_) fun v HB gB hv => ?_
    · rw [List.getElem?_map] at hu
      cases em : z2[i]? with
      | none => rw [em] at hu; cases hu
      | some m =>
        rw [em] at hu; cases hu
        refine ed_call (Pd := fun vs _ => ∃ c : Int, vs = [av m, .int c]) (ead_cons (ed_ev fun _ => ev_var rfl) fun v1 HC gC hv1 => ead_cons (ed_op (Pb := fun _ _ => True) (Pd := fun v _ => ∃ c : Int, v = .int c) (ed_ev fun _ => ev_c) fun x HD gD hx => (ed_draw (m := 4) rfl (fun _ => ev_c) (by omega) (by omega) (ex_l (((gA.trans gB).trans gC).trans gD).ex hS6)).imp fun v HE gE hv => ?_) fun v2 HD gD hv2 => ead_nil fun _ _ => ?_) fun vs HC gC hv Q q => ?_
        · subst hx
          obtain ⟨c, _, rfl⟩ := hv
          exact ⟨trivial, fun Q q => ⟨0, (c : Nat), rfl, rfl, q _ _ (.refl gE.sm) ⟨_, rfl⟩⟩⟩
        · obtain ⟨c, rfl⟩ := hv2
          subst hv1
          exact ⟨c, rfl⟩
        · obtain ⟨c, rfl⟩ := hv
          exact ⟨m, c, rfl, fun HD eD => q _ HD (.of gC.sm eD) ⟨_, rfl⟩⟩
    · obtain ⟨q, us, l, rfl, n, hq, hl, hL⟩ := h
      exact ⟨q, l, rfl, fun y => gA.sm.some (y ▸ n), by rw [hq, ll_am hL], by rw [hl, List.length_map, hz2]⟩
    obtain ⟨lo, x, rfl, nlo, hlo, hxl⟩ := hv
    have gC := gA.trans gB
    refine s_asgD (Pd := fun v H2 => ∃ (q : Addr) (x : List Am), v = .ref q ∧ q ≠ sa ∧ H2 q = some (.lst (x.map av)) ∧ x.length = fl.length) gC.sm ((ed_lcL (α := Am) gC.sm (fun _ v x => v = av x) (fun _ _ _ _ _ h => h) (fun _ => ev_var rfl) (ex_l gC.ex hz6) (by rw [List.length_map]; omega) (fun x => rfl) fun i u HA hu gD => ?_).imp fun v H' g h => ?_) fun v HD gD hv => ?_
    · rw [List.getElem?_map] at hu
      cases em : z[i]? with
      | none => rw [em] at hu; cases hu
      | some m =>
        rw [em] at hu; cases hu
        refine ed_call (Pd := fun vs _ => ∃ c : Int, vs = [av m, .int c]) (ead_cons (ed_ev fun _ => ev_var rfl) fun v1 HE gE hv1 => ead_cons (ed_draw (m := 4) rfl (fun _ => ev_c) (by omega) (by omega) (ex_l ((gC.trans gD).trans gE).ex hS6)) fun v2 HF gF hv2 => ead_nil fun _ _ => ?_) fun vs HE gE hv Q q => ?_
        · obtain ⟨c, _, rfl⟩ := hv2
          subst hv1
          exact ⟨(c : Nat), rfl⟩
        · obtain ⟨c, rfl⟩ := hv
          exact ⟨m, c, rfl, fun HF eF => q _ HF (.of gE.sm eF) ⟨_, rfl⟩⟩
    · obtain ⟨q, us, l, rfl, n, hq, hl, hL⟩ := h
      exact ⟨q, l, rfl, fun y => gC.sm.some (y ▸ n), by rw [hq, ll_am hL], by rw [hl, List.length_map, hz]⟩
    obtain ⟨hi, y, rfl, nhi, hhi, hyl⟩ := hv
    exact ⟨lo, hi, x, y, rfl, gC.trans gD, sq_of (by rw [hd_ne nlo]; exact gD.at nlo hlo), sq_of (by rw [hd_ne nhi]; exact hhi), hxl, hyl⟩
  clear hx9 hy9 hxl hyl x y lo hi g69
  obtain ⟨lo, hi, x, y, rfl, gA, hxA, hyA, hxl, hyl⟩ := hM
  -- from here on no number is drawn: all stands
  have hf : FlAt K H' fp fl := (hf6.mono gA.ex).mono ex_hd
  have hz' : Ams K H' p z := (hz6.mono gA.ex).mono ex_hd
  have hy' : Ams K H' p2 z2 := (hy6.mono gA.ex).mono ex_hd
  have hx' : Ams K H' lo x := hxA.mono ex_hd
  have hh' : Ams K H' hi y := hyA.mono ex_hd
  clear hxA hyA gA hf6 hz6 hy6 hS6 sm6 v3 v1 v2 vs H6 H7 H8 H9
  refine q_forR1 (n := 60) (ea_cons ev_c ea_nil) ⟨by omega, by omega⟩ (fun i σ H2 => ∃ (lo hi : Addr) (x y : List Am) (u7 : Option V), σ = [some (.ref sr), some (.ref sa), some (.ref fp), some (.ref p), some (.ref p2), some (.ref lo), some (.ref hi), u7, none, none, none, none, none] ∧ Ex H' H2 ∧ Ams K H2 lo x ∧ Ams K H2 hi y ∧ x.length = fl.length ∧ y.length = fl.length)
    (fun H2 e2 => ⟨lo, hi, x, y, _, rfl, e2, hx'.mono e2, hh'.mono e2, hxl, hyl⟩) (fun i σ H2 _ hp => ?_) (fun σ H2 hp => ?_)
  · clear hx' hh' hxl hyl x y lo hi
    obtain ⟨lo, hi, x, y, u7, rfl, e2, hx2, hy2, hxl, hyl⟩ := hp
    refine s_parP (Pd := fun vs H3 => ∃ (a b : Addr) (x2 y2 : List Am), vs = [.ref a, .ref b] ∧ Ams K H3 a x2 ∧ Ams K H3 b y2 ∧ x2.length = fl.length ∧ y2.length = fl.length) (eap_consP (ep_lesser (K := K) (fl := fl) (x := x) (g := lesser) lesser_len (fun a b x y H Q h1 h2 h3 h4 q => ⟨a, b, x, y, rfl, h1, h2, h3, h4, q⟩) (ev_var rfl) (ev_var rfl) (ev_var rfl) (hf.mono e2) hx2 so hxl) fun v H3 e3 hv => eap_consP (ep_lesser (K := K) (fl := fl) (x := y) (g := greater) greater_len (fun a b x y H Q h1 h2 h3 h4 q => ⟨a, b, x, y, rfl, h1, h2, h3, h4, q⟩) (ev_var rfl) (ev_var rfl) (ev_var rfl) (hf.mono (e2.trans e3)) (hy2.mono e3) so hyl) fun v2 H4 e4 hv2 => eap_of ea_nil fun H5 e5 => ?_) fun vs H3 e3 hv => ?_
    · obtain ⟨a, x2, rfl, _, ha, hal⟩ := hv
      obtain ⟨b, y2, rfl, _, hb, hbl⟩ := hv2
      exact ⟨a, b, x2, y2, rfl, sq_of (e5 _ _ (e4 _ _ ha)), sq_of (e5 _ _ hb), hal, hbl⟩
    · obtain ⟨a, b, x2, y2, rfl, ha, hb, hal, hbl⟩ := hv
      exact ⟨_, _, rfl, a, b, x2, y2, _, rfl, e2.trans e3, ha, hb, hal, hbl⟩
  clear hx' hh' hxl hyl x y lo hi
  obtain ⟨lo, hi, x, y, u7, rfl, e2, hx2, hy2, hxl, hyl⟩ := hp
  have hf2 := hf.mono e2
  have hz2' := hz'.mono e2
  have hyy2 := hy'.mono e2
  obtain ⟨vs, v1, v2, v3⟩ := hf2.at_
  clear hf hz' hy' e2 H'
  -- the lists of noughts, of Nones
  have noughts : ∀ (σ : L2.St) (H8 : Hp), σ.length = 13 → Ex H2 H8 → σ[2]? = some (some (.ref fp)) → EvL (tLc (iList K (tVar 2)) (gName 11) tYes (tC (.int 0)) [11]) σ H8 ((zeros fl.length).map av) := by
    intro σ H8 hl e8 s2
    match σ, hl, s2 with
    | [t0, t1, t2, t3, t4, t5, t6, t7, t8, t9, t10, t11, t12], _, s2 =>
      cases s2
      have e0 : (zeros fl.length).map av = fl.map fun _ => V.int 0 := by
        unfold zeros; rw [List.map_replicate]
        exact (List.map_const' ..).symm
      rw [e0]
      exact el_lcMap _ (ev_var rfl) (ex_l e8 v1) v2 (by omega) fun i u y hu hy => ⟨_, fun H1 e Q q => q, rfl, ev_c⟩
  have endless : ∀ (σ : L2.St) (H8 : Hp), σ.length = 13 → Ex H2 H8 → σ[2]? = some (some (.ref fp)) → EvL (tLc (iList K (tVar 2)) (gName 11) tYes (tC .non) [11]) σ H8 ((nones fl.length).map av) := by
    intro σ H8 hl e8 s2
    match σ, hl, s2 with
    | [t0, t1, t2, t3, t4, t5, t6, t7, t8, t9, t10, t11, t12], _, s2 =>
      cases s2
      have e0 : (nones fl.length).map av = fl.map fun _ => V.non := by
        unfold nones; rw [List.map_replicate]
        exact (List.map_const' ..).symm
      rw [e0]
      exact el_lcMap _ (ev_var rfl) (ex_l e8 v1) v2 (by omega) fun i u y hu hy => ⟨_, fun H1 e Q q => q, rfl, ev_c⟩
  refine q_forLP (Pd := fun v H3 => ∃ (r : Addr) (us : List V), v = .ref r ∧ us.length ≤ 100 ∧ SqL K H3 r us ∧ ∀ u ∈ us, ∃ (b : Addr) (x : List Am), u = .ref b ∧ Ams K H3 b x ∧ x.length = fl.length) ((ep_lst (Pd := fun vs H3 => vs.length ≤ 100 ∧ ∀ u ∈ vs, ∃ (b : Addr) (x : List Am), u = .ref b ∧ Ams K H3 b x ∧ x.length = fl.length) (eap_cons (ev_var rfl) (eap_cons (ev_var rfl) (eap_cons (ev_var rfl) (eap_cons (ev_var rfl) (eap_consP (ep_L (noughts _ H2 rfl (Ex.refl _) rfl)) fun v H3 e3 hv => eap_consP (ep_L (endless _ H3 rfl e3 rfl)) fun v2 H4 e4 hv2 => eap_of ea_nil fun H5 e5 => ?_))))) (fun vs H3 h => by have := h.1; omega)).imp fun v H3 e3 hv => ?_) fun v H3 e3 hv => ?_
  · obtain ⟨b, rfl, _, hb⟩ := hv
    obtain ⟨c, rfl, _, hc⟩ := hv2
    have e25 := (e3.trans e4).trans e5
    refine ⟨by show 6 ≤ 100; decide, fun u hu => ?_⟩
    simp only [List.mem_cons, List.not_mem_nil, or_false] at hu
    rcases hu with rfl | rfl | rfl | rfl | rfl | rfl
    · exact ⟨_, x, rfl, hx2.mono e25, hxl⟩
    · exact ⟨_, y, rfl, hy2.mono e25, hyl⟩
    · exact ⟨_, z, rfl, hz2'.mono e25, hz⟩
    · exact ⟨_, z2, rfl, hyy2.mono e25, hz2⟩
    · exact ⟨_, _, rfl, sq_of (e5 _ _ (e4 _ _ hb)), zeros_len⟩
    · exact ⟨_, _, rfl, sq_of (e5 _ _ hc), nones_len⟩
  · obtain ⟨r, us, H4, rfl, ⟨h1, h2⟩, e4, nr, rfl⟩ := hv
    refine ⟨r, us, rfl, h1, sq_of upd_same, fun u hu => ?_⟩
    obtain ⟨b, x, rfl, hx, hl⟩ := h2 u hu
    exact ⟨b, x, rfl, hx.mono (Ex.new nr), hl⟩
  obtain ⟨r, us, rfl, hul, hr, hus⟩ := hv
  have post : Post fl (CsM.fn z2) := hzg.post
  refine q_forLn ev_c hr (fun i σ H4 => ∃ (u8 u9 u10 : Option V), σ = [some (.ref sr), some (.ref sa), some (.ref fp), some (.ref p), some (.ref p2), some (.ref lo), some (.ref hi), u7, u8, u9, u10, none, none] ∧ Ex H3 H4)
    (fun H4 e4 => ⟨_, _, _, rfl, e4⟩) (fun i σ H4 _ hp => ?_) (fun i u σ H4 hu hp => ?_) (fun σ H4 hp => ?_)
  · obtain ⟨_, _, _, _, e⟩ := hp
    exact ex_l e hr
  · obtain ⟨u8, u9, u10, rfl, e4⟩ := hp
    obtain ⟨b, x, rfl, hx3, hxl⟩ := hus u (List.mem_of_getElem? hu)
    have hx4 := hx3.mono e4
    have e24 := e3.trans e4
    have hf4 := hf2.mono e24
    refine q_asgL (el_lst (ea_cons (ev_low (ev_var rfl) (ev_var rfl) hf4 hx4 so hxl) (ea_cons (ev_high (ev_var rfl) (ev_var rfl) hf4 hx4 so hxl) ea_nil)) (by show 2 ≤ 100000; decide)) fun ta H5 nta e5 hta => ?_
    refine q_asgL (el_callL (ea_cons (ev_var rfl) (ea_cons (ev_var rfl) ea_nil)) fun H6 e6 Q q => ⟨fp, b, fl, x, rfl, hf4.mono (e5.trans e6), hx4.mono (e5.trans e6), so, hxl, q⟩) fun la H6 nla e6 hla => ?_
    have e46 := e5.trans e6
    have e26 := e24.trans e46
    have hta6 := e6 _ _ hta
    have hrl : (round fl x).length = fl.length := round_len fl x
    have fl3 := so.len
    refine q_when (b := false) (et_is (et_and (a := allN fl.length (CsM.fn x) (CsM.fn (round fl x))) (b := false) (et_val (ev_ixL (i := 0) (ev_var rfl) ev_c (sq_of hta6) rfl)) fun hb => ?_) (by rw [Bool.and_false])) (fun hb => by cases hb) (fun _ H7 e7 => ?_)
    · have po := (low_iff hxl).mp hb
      refine et_or3 (et_yesN (ev_allm (ev_var rfl) (ev_var rfl) (hx4.mono e46) (hyy2.mono e26) (by rw [hxl, hz2]) (by omega)) ?_) (et_yesN (ev_allm (ev_var rfl) (ev_var rfl) (hx4.mono e46) (sq_of hla) (by rw [hxl, hrl]) (by omega)) ?_) (et_yesN (ev_low (ev_var rfl) (ev_var rfl) (hf4.mono e46) (sq_of hla) so hrl) ?_)
      · rw [hxl]; exact allN_iff.mpr (hzg.great _ po)
      · rw [hxl]; exact hb
      · exact (low_iff hrl).mpr (low_round so.wf po)
    have e47 := e46.trans e7
    have e27 := e26.trans e7
    refine s_when (b := false) (et_is (et_and (a := allN fl.length (CsM.fn (round fl x)) (CsM.fn x)) (b := false) (et_val (ev_ixL (i := 1) (ev_var rfl) ev_c (sq_of (e7 _ _ hta6)) rfl)) fun hb => ?_) (by rw [Bool.and_false])) (fun hb => by cases hb) (fun _ H8 e8 => ⟨_, _, _, rfl, (e4.trans e47).trans e8⟩)
    have pr := (high_iff hxl).mp hb
    refine et_or3 (et_yesN (ev_allm (ev_var rfl) (ev_var rfl) (hz2'.mono e27) (hx4.mono e47) (by rw [hxl, hz]) (by omega)) ?_) (et_yesN (ev_allm (ev_var rfl) (ev_var rfl) (sq_of (e7 _ _ hla)) (hx4.mono e47) (by rw [hxl, hrl]) (by omega)) ?_) (et_yesN (ev_high (ev_var rfl) (ev_var rfl) (hf4.mono e47) (sq_of (e7 _ _ hla)) so hrl) ?_)
    · rw [hz]; exact allN_iff.mpr (hzl.least _ pr)
    · rw [hrl]; exact hb
    · exact (high_iff hrl).mpr (high_round so.wf pr)
  · obtain ⟨u8, u9, u10, rfl, e4⟩ := hp
    have e24 := e3.trans e4
    refine q_when (b := false) (et_or (a := false) (b := false) (et_yesN (ev_low (ev_var rfl) (ev_var rfl) (hf2.mono e24) (hz2'.mono e24) so hz) ((low_iff hz).mpr hzl.post)) fun _ => et_or3 (et_yesN (ev_high (ev_var rfl) (ev_var rfl) (hf2.mono e24) (hz2'.mono e24) so hz) ((high_iff hz).mpr hzl.pre)) (et_yesN (ev_low (ev_var rfl) (ev_var rfl) (hf2.mono e24) (hyy2.mono e24) so hz2) ((low_iff hz2).mpr hzg.post)) (et_yesN (ev_high (ev_var rfl) (ev_var rfl) (hf2.mono e24) (hyy2.mono e24) so hz2) ((high_iff hz2).mpr hzg.pre))) (fun hb => by cases hb) (fun _ H5 e5 => ?_)
    have e25 := e24.trans e5
    have zl : allN fl.length (CsM.fn (zeros fl.length)) (CsM.fn (round fl (zeros fl.length))) = true := allN_iff.mpr fun i hi => by
      rw [show CsM.fn (zeros fl.length) i = some 0 from fn_rep hi]; exact Le.zero
    have nl : allN fl.length (CsM.fn (round fl (nones fl.length))) (CsM.fn (nones fl.length)) = true := allN_iff.mpr fun i hi => by
      rw [show CsM.fn (nones fl.length) i = none from fn_rep hi]; exact Le.top
    refine s_ret (v := .bl (true && true)) (ev_andV (ev_callP (Pd := fun vs H' => ∃ q, vs = [.ref fp, .ref q] ∧ Ams K H' q (zeros fl.length)) (eap_cons (ev_var rfl) (eap_consP (ep_L (noughts _ H5 rfl e25 rfl)) fun v H6 e6 hv => eap_of ea_nil fun H7 e7 => ?_)) fun vs H6 e6 hv Q q => ?_) fun _ => ev_callP (Pd := fun vs H' => ∃ q, vs = [.ref fp, .ref q] ∧ Ams K H' q (nones fl.length)) (eap_cons (ev_var rfl) (eap_consP (ep_L (endless _ H5 rfl e25 rfl)) fun v H6 e6 hv => eap_of ea_nil fun H7 e7 => ?_)) fun vs H6 e6 hv Q q => ?_) fun H6 e6 => k H6
    · obtain ⟨q, rfl, _, hq⟩ := hv
      exact ⟨q, rfl, sq_of (e7 _ _ hq)⟩
    · obtain ⟨b, rfl, hb⟩ := hv
      exact ⟨fp, b, fl, _, rfl, hf2.mono (e25.trans e6), hb, so, zeros_len, by rw [zl]; exact q⟩
    · obtain ⟨q, rfl, _, hq⟩ := hv
      exact ⟨q, rfl, sq_of (e7 _ _ hq)⟩
    · obtain ⟨b, rfl, hb⟩ := hv
      exact ⟨fp, b, fl, _, rfl, hf2.mono (e25.trans e6), hb, so, nones_len, by rw [nl]; exact q⟩
end
end CsW

set_option Elab.async false
set_option linter.all false
set_option maxRecDepth 100000
set_option maxHeartbeats 4000000
namespace CsW
open PySem PySem.Spec PyProof.Rows L2 Evl CsTop CsM
/-! ### the end: every def keeps its promise, the head, the row -/
theorem all_law {P : Program} {w : World} {K : PySem.W.Frag} {mg : Str → Option Value} {base : Heap} (T : Top K mg) (TB0 : LamX.TabB base mg (He.cT K ("least_with", none)).1 (He.cT K ("least_with", none)).2) {fd : FuncData}
    (F : FunD K "law" "law" (defArgs sLaw) (defBody sLaw) (defScope sLaw) [] [] (He.ga K "law") fd) : FnOk P w K mg base CX0 8 (He.ga K "law") fd ["_law_script"] (spLaw K (He.cT K ("least_with", none)).2) := by
  have C_at_most := c_at_most (P := P) (w := w) (base := base) T 
  have C_shifted := c_shifted (P := P) (w := w) (base := base) T 
  have C_least_of := c_least_of (P := P) (w := w) (base := base) T C_at_most
  have C_greatest_of := c_greatest_of (P := P) (w := w) (base := base) T C_at_most
  have C_all_at_most := c_all_at_most (P := P) (w := w) (base := base) T C_at_most
  have C_flat_value := c_flat_value (P := P) (w := w) (base := base) T C_at_most C_shifted C_least_of C_greatest_of
  have C_flat_values := c_flat_values (P := P) (w := w) (base := base) T C_flat_value
  have C_arcs_of := c_arcs_of (P := P) (w := w) (base := base) T 
  have C_one_round := c_one_round (P := P) (w := w) (base := base) T C_flat_values
  have C_is_low := c_is_low (P := P) (w := w) (base := base) T C_flat_values C_all_at_most
  have C_is_high := c_is_high (P := P) (w := w) (base := base) T C_flat_values C_all_at_most
  have C_conditions_of := c_conditions_of (P := P) (w := w) (base := base) T 
  have C_opened := c_opened (P := P) (w := w) (base := base) T 
  have C_told_arcs := c_told_arcs (P := P) (w := w) (base := base) T C_arcs_of
  have C_rounds_down := c_rounds_down (P := P) (w := w) (base := base) T C_shifted C_at_most
  have C_nought_cell := c_nought_cell (P := P) (w := w) (base := base) T 
  have C_circle_below := c_circle_below (P := P) (w := w) (base := base) T 
  have C_least_with := c_least_with (P := P) (w := w) (base := base) T TB0 C_told_arcs C_circle_below C_rounds_down C_nought_cell
  have C_settled_least := c_settled_least (P := P) (w := w) (base := base) T C_least_with C_shifted C_at_most C_flat_value
  have C_fulfilled := c_fulfilled (P := P) (w := w) (base := base) T C_conditions_of C_at_most
  have C_stages_from_below := c_stages_from_below (P := P) (w := w) (base := base) T C_opened C_settled_least C_fulfilled
  have C_flat_least := c_flat_least (P := P) (w := w) (base := base) T C_stages_from_below
  have C_held_ranks := c_held_ranks (P := P) (w := w) (base := base) T C_arcs_of
  have C_is_less := c_is_less (P := P) (w := w) (base := base) T 
  have C_held_arc := c_held_arc (P := P) (w := w) (base := base) T C_is_less
  have C_solution_with := c_solution_with (P := P) (w := w) (base := base) T C_shifted C_flat_value
  have C_greatest_plain := c_greatest_plain (P := P) (w := w) (base := base) T C_held_ranks C_held_arc C_solution_with C_shifted C_at_most C_flat_value
  have C_stages_from_above := c_stages_from_above (P := P) (w := w) (base := base) T C_conditions_of C_opened C_greatest_plain C_at_most
  have C_flat_greatest := c_flat_greatest (P := P) (w := w) (base := base) T C_stages_from_above
  have C_law_draw := c_law_draw (P := P) (w := w) (base := base) T 
  have C_law_amount := c_law_amount (P := P) (w := w) (base := base) T C_law_draw
  have C_law_arcs := c_law_arcs (P := P) (w := w) (base := base) T C_law_draw
  have C_law_formula := c_law_formula (P := P) (w := w) (base := base) T C_law_draw C_law_amount C_law_arcs
  have C_law_flat := c_law_flat (P := P) (w := w) (base := base) T C_law_draw C_law_formula
  have C_law_most := c_law_most (P := P) (w := w) (base := base) T 
  have C_law_shift := c_law_shift (P := P) (w := w) (base := base) T 
  have C_law_value := c_law_value (P := P) (w := w) (base := base) T C_law_most C_law_shift
  have C_law_round := c_law_round (P := P) (w := w) (base := base) T C_law_value
  have C_law_all_most := c_law_all_most (P := P) (w := w) (base := base) T C_law_most
  have C_law_lesser := c_law_lesser (P := P) (w := w) (base := base) T C_law_most
  have C_law_greater := c_law_greater (P := P) (w := w) (base := base) T C_law_most
  have C_law_bound := c_law_bound (P := P) (w := w) (base := base) T 
  have C_law_least := c_law_least (P := P) (w := w) (base := base) T C_law_round C_law_bound
  have C_law_greatest := c_law_greatest (P := P) (w := w) (base := base) T C_law_round C_law_bound
  exact ok_law T F C_is_high C_is_low C_law_all_most C_one_round C_law_greater C_law_round C_law_lesser C_law_draw C_law_shift C_law_amount C_law_greatest C_law_least C_flat_greatest C_flat_least C_law_flat
def pairs : List (Str × Stmt) := [(("at_most" : Str), sAtMost), (("least_of" : Str), sLeastOf), (("greatest_of" : Str), sGreatestOf), (("shifted" : Str), sShifted), (("all_at_most" : Str), sAllAtMost), (("flat_value" : Str), sFlatValue), (("flat_values" : Str), sFlatValues), (("arcs_of" : Str), sArcsOf), (("one_round" : Str), sOneRound), (("is_low" : Str), sIsLow), (("is_high" : Str), sIsHigh), (("conditions_of" : Str), sConditionsOf), (("opened" : Str), sOpened), (("told_arcs" : Str), sToldArcs), (("circle_below" : Str), sCircleBelow), (("nought_cell" : Str), sNoughtCell), (("rounds_down" : Str), sRoundsDown), (("least_with" : Str), sLeastWith), (("settled_least" : Str), sSettledLeast), (("held_ranks" : Str), sHeldRanks), (("is_less" : Str), sIsLess), (("solution_with" : Str), sSolutionWith), (("held_arc" : Str), sHeldArc), (("greatest_plain" : Str), sGreatestPlain), (("stages_from_above" : Str), sStagesFromAbove), (("flat_greatest" : Str), sFlatGreatest), (("fulfilled" : Str), sFulfilled), (("stages_from_below" : Str), sStagesFromBelow), (("flat_least" : Str), sFlatLeast), (("_law_draw" : Str), sLawDraw), (("_law_amount" : Str), sLawAmount), (("_law_arcs" : Str), sLawArcs), (("_law_formula" : Str), sLawFormula), (("_law_flat" : Str), sLawFlat), (("_law_most" : Str), sLawMost), (("_law_shift" : Str), sLawShift), (("_law_value" : Str), sLawValue), (("_law_round" : Str), sLawRound), (("_law_all_most" : Str), sLawAllMost), (("_law_bound" : Str), sLawBound), (("_law_least" : Str), sLawLeast), (("_law_greatest" : Str), sLawGreatest), (("_law_lesser" : Str), sLawLesser), (("_law_greater" : Str), sLawGreater), (("law" : Str), sLaw)]
theorem fn_eq : CsTop.fn = pairs.map fun p => mkD p.1 p.2 := rfl
theorem fa_eq : CsTop.fa = (pairs.map fun p => He.Fa.glo p.1) ++ [.free "len", .free "range", .free "zip", .free "enumerate", .free "any", .free "all", .free "max", .free "int", .free "list", .free "dict"] := rfl
theorem top_of {K : PySem.W.Frag} {h : Heap} {mg : Str → Option Value} (X : K.In h) (G : h.Ns mainGlobals mg) (c : He.SaysD CsTop.fa CsTop.fn K) : Top K mg := by
  have fr : ∀ x : Str, He.Fa.free x ∈ CsTop.fa → mg x = none := fun x hx => He.free_ok X G (c.facts hx)
  have fm : ∀ f, f ∈ [He.Fa.free "len", .free "range", .free "zip", .free "enumerate", .free "any", .free "all", .free "max", .free "int", .free "list", .free "dict"] → f ∈ CsTop.fa := fun f hf => by
    rw [fa_eq]
    exact List.mem_append_right _ hf
  refine ⟨fun d hd => ?_, fun d hd => ?_, ?_, ?_, ?_, ?_, ?_, ?_, ?_, ?_, ?_, ?_⟩
  · have h1 := c.defs hd
    rw [fn_eq] at hd
    obtain ⟨p, _, rfl⟩ := List.mem_map.mp hd
    exact h1
  · rw [fn_eq] at hd
    obtain ⟨p, hp, rfl⟩ := List.mem_map.mp hd
    refine He.glo_ok X G (c.facts ?_)
    rw [fa_eq]
    exact List.mem_append_left _ (List.mem_map.mpr ⟨p, hp, rfl⟩)
  · exact fr _ (fm _ (List.mem_of_getElem? (i := 0) rfl))
  · exact fr _ (fm _ (List.mem_of_getElem? (i := 1) rfl))
  · exact fr _ (fm _ (List.mem_of_getElem? (i := 2) rfl))
  · exact fr _ (fm _ (List.mem_of_getElem? (i := 3) rfl))
  · exact fr _ (fm _ (List.mem_of_getElem? (i := 4) rfl))
  · exact fr _ (fm _ (List.mem_of_getElem? (i := 5) rfl))
  · exact fr _ (fm _ (List.mem_of_getElem? (i := 6) rfl))
  · exact fr _ (fm _ (List.mem_of_getElem? (i := 7) rfl))
  · exact fr _ (fm _ (List.mem_of_getElem? (i := 8) rfl))
  · exact fr _ (fm _ (List.mem_of_getElem? (i := 9) rfl))
end CsW
open PySem PySem.W PySem.Calls PyProof.Rows
theorem PySem.Challenge.cw_circlesettle_k22_whole_low_high_and_solu_holds : PySem.Challenge.rw_circlesettle_k22_whole_low_high_and_solu.Holds := by
  w_on; o_law
  refine HandSHeadRun.head_any (r := OpenLaw.row PySem.Challenge.rw_circlesettle_k22_whole_low_high_and_solu) (q := view (OpenLaw.row PySem.Challenge.rw_circlesettle_k22_whole_low_high_and_solu).prog [52]) (H := CsTop.hk) (ob := CsTop.ob) (M := 4000) (loose := CsTop.loose) (d := HandSHeadRun.topDef (OpenLaw.row PySem.Challenge.rw_circlesettle_k22_whole_low_high_and_solu).prog 52) (kwd := []) CsTop.ob_eq
    (by kernel_rfl) (fun s => by kernel_rfl) CsTop.run (by kernel_rfl) (by kernel_rfl) (by kernel_rfl) (by rfl) (by first | assumption | decide +kernel) (by decide +kernel) ⟨rfl, rfl, rfl, rfl, rfl, by decide +kernel⟩ ?hw ?hc
  case hw => w_witness2
  case hc =>
    refine LamX.walk_ofTsE (l := PySem.Challenge.rw_circlesettle_k22_whole_low_high_and_solu) (n := 63) (k := 8) (x := "_law_script") (CX := fun _ => L2.CX0) rfl (by decide) (by kernel_rfl) ⟨rfl, by decide, by decide⟩ ?F (fun _ _ _ _ _ z => z)
    intro w mg fa h Y G hmg0
    obtain ⟨K, KX, c⟩ := Y
    have hmg : mg ("law" : PySem.Str) = some (.ref fa) := by
      have e : (HandSHeadRun.topDef (OpenLaw.row PySem.Challenge.rw_circlesettle_k22_whole_low_high_and_solu).prog 52).name = ("law" : PySem.Str) := by kernel_rfl
      rw [← e]
      exact hmg0
    have T : CsW.Top K mg := CsW.top_of KX G c.t.d
    have hm : CsTop.mkD "law" CsTop.sLaw ∈ CsTop.fn := List.mem_of_getElem? (i := 44) rfl
    obtain ⟨fd, F⟩ := T.defs _ hm
    have e := hmg.symm.trans (T.glo _ hm)
    cases e
    have b := L2.FunD.bindsA (ps := ["_law_script"]) F fun _ _ _ _ _ _ us hl => match us, hl with | [_], _ => rfl
    have ht : (("least_with" : PySem.Str), (none : Option PySem.Str)) ∈ CsTop.tf := List.mem_of_getElem? (i := 0) rfl
    refine ⟨K, KX, fd, [He.cT K ("least_with", none)], CsW.spLaw K (He.cT K ("least_with", none)).2, fun p hp => ?_, fun p hp => ?_, fun p hp => ?_, fun s u => b s [u] rfl, fun H a ns hl _ hT hS => ?_, fun base _ _ hB => ?_⟩
    · rw [List.mem_singleton.mp hp]; exact c.empty _ ht
    · rw [List.mem_singleton.mp hp]; exact c.out _ ht
    · rw [List.mem_singleton.mp hp]; exact PySem.W.codeHd_of_K KX (c.hd _ ht)
    · exact ⟨a, ns, rfl, hS, by omega, hT _ (List.mem_singleton.mpr rfl), fun _ => rfl⟩
    · exact CsW.all_law T (hB _ (List.mem_singleton.mpr rfl)) F

