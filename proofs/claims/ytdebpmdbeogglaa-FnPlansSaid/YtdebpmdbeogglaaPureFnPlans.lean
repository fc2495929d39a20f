/- A drawn plan has no faults but swaps and rings, the swaps being told first, and a wrong number of moves is told where it has neither; for all bytes that it is drawn from. -/
import Derived.Test.YtdebpmdbeogglaaPAllFnPlans
import Derived.Test.YtdebpmdbeogglaaQ14
import Derived.Test.YtdebpmdbeogglaaQ1
set_option linter.unusedSimpArgs false
set_option linter.unusedSectionVars false
set_option linter.unusedVariables false
namespace Go.Proofs.Ytdebpmdbeogglaa.Pure
open Go.RowKit Go.Proofs.Ytdebpmdbeogglaa.Q Go.Proofs.YtdebpmdbeogglaaW.PrintWords Go.Proofs.YtdebpmdbeogglaaW.PrintLast
/-- What is wanted in the end. -/
def fin (s r : Bool) (w : Int) : Int := if s = true then 5 else if w = 0 then (if r = true then 6 else 0) else w
section
variable {a b : Int} {g : ByteArray} {n : Nat} {st d : List Int} {sp : Nat} {T : List (List Int)} (h : Drawn a b g n st d sp T) {S R : Nat → Int} (hSR : ∀ t, t < sp → (0 ≤ S t ∧ ∃ K, ∀ k, K ≤ k → impl_SwapsAt.f k (waysT n T) (t : Int) = some (S t)) ∧ (0 ≤ R t ∧ ∃ K, ∀ k, K ≤ k → impl_RingsAt.f k (waysT n T) (t : Int) = some (R t)))
  (f mv : Int) (X : Int → Bool) (hX : ∀ w, ∃ K, ∀ k, K ≤ k → laws_FnPlans.l0 k st d f w (sp : Int) a b g (sp : Int) mv (waysT n T) = some (X w))
include h hSR hX
theorem law_l0 : ∀ (e t : Nat) (w : Int), t + e = sp → ∃ K, ∀ k, K ≤ k → laws_FnPlans.l0 k st d f w (t : Int) a b g (sp : Int) mv (waysT n T) = some (X (fin (anyF S t e) (anyF R t e) w))
  | 0, t, w, ht => by
    obtain rfl : t = sp := by omega
    obtain ⟨K, hK⟩ := hX w
    refine ⟨K, fun k hk => ?_⟩
    rw [hK k hk]
    have : fin (anyF S t 0) (anyF R t 0) w = w := by
      unfold fin anyF
      rw [if_neg (by decide)]
      by_cases c : w = 0
      · rw [if_pos c, if_neg (by decide)]; exact c.symm
      · rw [if_neg c]
    rw [this]
  | e + 1, t, w, ht => by
    obtain ⟨⟨s0, K1, h1⟩, r0, K2, h2⟩ := hSR t (by omega)
    have hs := h.sp5
    have hcp := copied_ev (waysT n T) (dr_sz h)
    rw [waysT_len] at hcp
    have hn := h.n5
    have hc := dr_calm h t (by omega)
    obtain ⟨q, K3, h3, hq⟩ := implMeet_ev (waysT n T) (t : Int) (dr_sz h)
    have hqf : q = false := by
      cases q with
      | false => rfl
      | true => exact absurd (hq.mp rfl).2 (fun z => z.elim hc.2.1 hc.2.2)
    subst hqf
    have hlev := implLevel_eq (waysT n T) (t : Int) (dr_sz h)
    rw [decide_eq_true hc.1] at hlev
    obtain ⟨K, hK⟩ := law_l0 e (t + 1) (if S t > 0 then 5 else if R t > 0 ∧ w = 0 then 6 else w) (by omega)
    have hfin : fin (anyF S t (e + 1)) (anyF R t (e + 1)) w = fin (anyF S (t + 1) e) (anyF R (t + 1) e) (if S t > 0 then 5 else if R t > 0 ∧ w = 0 then 6 else w) := by
      unfold fin
      rw [anyF, anyF]
      rcases (by omega : S t = 0 ∨ S t > 0) with c1 | c1
      · rcases (by omega : R t = 0 ∨ R t > 0) with c2 | c2
        · cases anyF S (t + 1) e <;> cases anyF R (t + 1) e <;> by_cases c3 : w = 0 <;> simp [c1, c2, c3]
        · have c2' : R t ≠ 0 := by omega
          cases anyF S (t + 1) e <;> cases anyF R (t + 1) e <;> by_cases c3 : w = 0 <;> simp [c1, c2, c2', c3]
      · have c1' : S t ≠ 0 := by omega
        cases anyF S (t + 1) e <;> simp [c1, c1']
    rw [hfin]
    have e9 : wrap64 ((t : Int) + 1) = ((t + 1 : Nat) : Int) := w64 (by omega) (by omega)
    refine ⟨K + K1 + K2 + K3 + 20, fun k hk => ?_⟩
    obtain ⟨k, rfl⟩ : ∃ m, k = m + 4 := ⟨k - 4, by omega⟩
    have j3 : ∀ w2, laws_FnPlans.j3 (k + 1) st d f w2 (t : Int) a b g (sp : Int) mv (waysT n T) = laws_FnPlans.l0 k st d f (if S t > 0 then 5 else w2) ((t + 1 : Nat) : Int) a b g (sp : Int) mv (waysT n T) := fun w2 => by
      rw [laws_FnPlans.j3, hcp k (by omega), Option.bind_some, h1 k (by omega), Option.bind_some, e9]
      by_cases c : S t > 0
      · rw [if_pos c, if_pos c]
      · rw [if_neg c, if_neg c]
    have j2 : ∀ (w2 : Int) (q : Bool), laws_FnPlans.j2 (k + 2) st d f w2 (t : Int) q a b g (sp : Int) mv (waysT n T) = laws_FnPlans.l0 k st d f (if S t > 0 then 5 else if q = true then 6 else w2) ((t + 1 : Nat) : Int) a b g (sp : Int) mv (waysT n T) := fun w2 q => by
      rw [show k + 2 = (k + 1) + 1 by omega, laws_FnPlans.j2]
      cases q with
      | true => rw [if_pos rfl]; exact j3 6
      | false => rw [if_neg (by decide)]; exact j3 w2
    rw [show k + 4 = (k + 3) + 1 by omega, laws_FnPlans.l0, if_pos (by omega), hcp _ (by omega), Option.bind_some, h3 _ (by omega), Option.bind_some, if_neg (by decide), Option.bind_some, hlev, Option.bind_some, show k + 3 = (k + 2) + 1 by omega, laws_FnPlans.j1, if_neg (by decide), hcp _ (by omega), Option.bind_some, h2 _ (by omega), Option.bind_some]
    have hk2 := hK k (by omega)
    by_cases c : R t > 0
    · rw [if_pos c, j2]
      by_cases c2 : w = 0
      · rw [if_pos (show R t > 0 ∧ w = 0 from ⟨c, c2⟩)] at hk2 ⊢
        rw [show (w == 0) = true by simp [c2], if_pos rfl]
        exact hk2
      · rw [if_neg (show ¬ (R t > 0 ∧ w = 0) from fun z => c2 z.2)] at hk2 ⊢
        rw [show (w == 0) = false by simp [c2], if_neg (show ¬ (false = true) by decide)]
        exact hk2
    · rw [if_neg c, j2]
      rw [if_neg (show ¬ (R t > 0 ∧ w = 0) from fun z => c z.1)] at hk2 ⊢
      rw [if_neg (show ¬ (false = true) by decide)]
      exact hk2
end
theorem FnPlans : laws_FnPlans.Pure := by
  intro s _ _ _
  by_cases hb : (s.length : Int) > 1048576
  · refine ⟨0, ?_⟩
    unfold laws_FnPlans.f laws_big.f
    rw [decide_eq_true hb, Option.bind_some, if_pos rfl]
  · obtain ⟨a, b, g, n, st, d, sp, mv, T, K0, h, hmv, h0⟩ := drawWalk_ev s (by omega)
    obtain ⟨S, R, hSR⟩ := dr_counts h
    have hsz := dr_sz h
    have hcp := copied_ev (waysT n T) hsz
    rw [waysT_len] at hcp
    have hn := h.n5
    have hst := (dr_st h).1
    have hdl : d.length ≤ n := by
      have h1 := h.goals.length_le
      have h2 := asc_length (lasts (waysT n T))
      have h3 := lasts_len (waysT n T)
      rw [waysT_len] at h3
      unfold endsOf at h1
      omega
    obtain ⟨K1, h1⟩ := fault_ev h hSR mv mv ⟨K0, hmv⟩
    obtain ⟨K2, h2⟩ := fault_ev h hSR mv (wrap64 (mv + 1)) ⟨K0, hmv⟩
    have hne : ¬ wrap64 (mv + 1) = mv := by unfold wrap64; omega
    rw [if_neg hne] at h2
    rw [if_pos rfl] at h1
    clear hne
    obtain ⟨F, hF⟩ : ∃ F : Int, F = (if anyF S 0 sp = true then 5 else if anyF R 0 sp = true then 6 else 0) := ⟨_, rfl⟩
    obtain ⟨M, hM⟩ : ∃ M : Int, M = (if anyF S 0 sp = true then 5 else if anyF R 0 sp = true then 6 else 8) := ⟨_, rfl⟩
    rw [← hF] at h1
    rw [← hM] at h2
    have hX : ∀ w, ∃ K, ∀ k, K ≤ k → laws_FnPlans.l0 k st d F w (sp : Int) a b g (sp : Int) mv (waysT n T) = some (if w = 0 then (if F = 0 then (M == 8) else false) else (if F = w then (M == w) else false)) := fun w => by
      refine ⟨K2 + 20, fun k hk => ?_⟩
      obtain ⟨k, rfl⟩ : ∃ m, k = m + 1 := ⟨k - 1, by omega⟩
      rw [laws_FnPlans.l0, if_neg (by omega), Option.bind_some, if_pos (by simp only [List.length_nil]; omega), Option.bind_some, if_pos (by simp only [List.length_nil]; omega), hcp k (by omega), Option.bind_some, List.nil_append, List.nil_append, h2 k (by omega), Option.bind_some]
      by_cases c1 : w = 0
      · rw [if_pos c1, if_pos c1]
        by_cases c2 : F = 0
        · rw [if_pos c2, if_pos c2]
        · rw [if_neg c2, if_neg c2]
      · rw [if_neg c1, if_neg c1]
        by_cases c2 : F = w
        · rw [if_pos c2, if_pos c2]
        · rw [if_neg c2, if_neg c2]
    obtain ⟨K3, h3⟩ := law_l0 h hSR F mv _ hX sp 0 0 (by omega)
    refine ⟨K0 + K1 + K2 + K3 + 20, ?_⟩
    unfold laws_FnPlans.f laws_big.f
    rw [decide_eq_false hb, Option.bind_some, if_neg (by decide), h0 _ (by omega), Option.bind_some]
    simp only
    rw [hcp _ (by omega), Option.bind_some, Option.bind_some, if_pos (by simp only [List.length_nil]; omega), Option.bind_some, if_pos (by simp only [List.length_nil]; omega), List.nil_append, List.nil_append, h1 _ (by omega), Option.bind_some, show (0 : Int) = ((0 : Nat) : Int) from rfl]
    rw [show (((0 : Nat) : Int)) = (0 : Int) from rfl]
    have h3' := h3 (K0 + K1 + K2 + K3 + 20) (by omega)
    rw [show (((0 : Nat) : Int)) = (0 : Int) from rfl] at h3'
    rw [h3', hF, hM]
    unfold fin
    cases anyF S 0 sp <;> cases anyF R 0 sp <;> rfl
end Go.Proofs.Ytdebpmdbeogglaa.Pure
