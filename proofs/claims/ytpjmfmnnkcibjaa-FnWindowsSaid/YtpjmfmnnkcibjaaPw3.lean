/- Plain facts about a window turned, and about one order more: the program's functions answer what the reference's answer. -/
import Derived.Test.YtpjmfmnnkcibjaaPw
import Derived.Test.YtpjmfmnnkcibjaaQ17
import Derived.Test.YtpjmfmnnkcibjaaQ19
import Derived.Test.YtpjmfmnnkcibjaaQ22
import Derived.Test.YtpjmfmnnkcibjaaQ23
import Derived.Test.YtpjmfmnnkcibjaaQ11
import Derived.Test.YtpjmfmnnkcibjaaQ16
import Derived.Test.YtpjmfmnnkcibjaaQ18
namespace Go.Proofs.Ytpjmfmnnkcibjaa.Pure
open Go.RowKit Go.Proofs.Ytpjmfmnnkcibjaa.Q Go.Proofs.YtpjmfmnnkcibjaaW.PrintWords Go.Proofs.YtpjmfmnnkcibjaaW.PrintLast
theorem l17_eq (a b : Int) (l : List Int) (hl : l.length ≤ 1048576) : spec_l17Copy.f a b l = some (a, b, l) := by
  unfold spec_l17Copy.f
  rw [Option.bind_some, if_pos (by simp; omega)]
  rfl
theorem copyW_eq (a b : Int) (l : List Int) (hl : l.length ≤ 1048576) : impl_copyWindow.f a b l = some (a, b, l) := by
  unfold impl_copyWindow.f slices_Clone_int_int.f
  rw [if_pos (by omega)]
  rfl
/-- The counts of a window turned. -/
def turnedL (a b : Int) (l : List Int) : List Int := if WOk a b l = true then List.replicate 6 0 ++ l.take (l.length - 6) else l
theorem turnedL_length (a b : Int) (l : List Int) : (turnedL a b l).length = l.length := by
  unfold turnedL
  by_cases hw : WOk a b l = true
  · obtain ⟨h1, h2, h3, h4, h5, h6⟩ := WOk_iff a b l hw
    rw [if_pos hw]
    simp; omega
  · rw [if_neg hw]
theorem specTurned_ev (a b : Int) (l : List Int) (hl : l.length ≤ 1048576) : ∃ K, ∀ k, K ≤ k → spec_Turned.f k a b l = some (a, b, turnedL a b l) := by
  obtain ⟨K, h⟩ := specOk_ev a b l (by omega)
  refine ⟨K, fun k hk => ?_⟩
  unfold spec_Turned.f turnedL
  rw [l17_eq a b l hl]
  simp only [Option.bind_some]
  rw [h _ hk, Option.bind_some]
  by_cases hw : WOk a b l = true
  · obtain ⟨h1, h2, h3, h4, h5, h6⟩ := WOk_iff a b l hw
    rw [if_pos hw, if_pos (by omega), if_pos (by rw [w64 (by omega) (by omega)]; omega), if_pos (by rw [w64 (by omega) (by omega)]; omega), w64 (by omega) (by omega), if_pos hw,
      show ((l.length : Int) - 6).toNat = l.length - 6 by omega]
    rw [if_pos (by simp; omega)]
  · rw [if_neg hw, if_neg hw]
theorem implTurned_eq (a b : Int) (l : List Int) (hl : l.length ≤ 1048576) : impl_Turned.f a b l = some (a, b, turnedL a b l) := by
  unfold impl_Turned.f turnedL
  rw [implOk_eq, Option.bind_some]
  by_cases hw : WOk a b l = true
  · obtain ⟨h1, h2, h3, h4, h5, h6⟩ := WOk_iff a b l hw
    rw [if_pos hw, if_pos (by omega), Option.bind_some, if_pos (by simp; omega), Option.bind_some, w64 (by omega) (by omega), if_pos (by omega), if_pos (by simp; omega), if_pos hw,
      List.take_append, show (a * 6).toNat - (List.replicate 6 (0 : Int)).length = l.length - 6 by simp; omega, List.take_of_length_le (by simp; omega)]
  · rw [if_neg hw, copyW_eq a b l hl, if_neg hw]
    rfl
theorem isZone_eq2 (z : Int) : impl_isZone.f z = some (decide (0 ≤ z ∧ z ≤ 5)) := by
  unfold impl_isZone.f
  by_cases h : z ≥ 0
  · rw [if_pos h]; congr 1; exact decide_eq_decide.mpr ⟨fun h2 => ⟨h, by omega⟩, fun h2 => by omega⟩
  · rw [if_neg h, decide_eq_false (fun h2 => h h2.1)]
theorem brought_ev (x b : Int) (hx : 0 ≤ x) (hb : 1 ≤ b) : ∀ k, 1 ≤ k → spec_Brought.f k x 0 b = some (mn x b) := by
  intro k hk
  obtain ⟨k, rfl⟩ : ∃ m, k = m + 1 := ⟨k - 1, by omega⟩
  unfold spec_Brought.f mn
  rw [if_neg (by omega), decide_eq_false (by omega)]
  simp only [spec_Brought.j0]
  rw [if_neg (by decide)]
  by_cases h : x > b
  · rw [if_pos h]; congr 1; omega
  · rw [if_neg h]; congr 1; omega
/-- The counts behind one order, and whether it was taken. -/
def orderL (a b : Int) (l : List Int) (z : Int) : List Int := if WOk a b l = true ∧ 0 ≤ z ∧ z ≤ 5 then l.set z.toNat (mn (wrap64 (rd l z + 1)) b) else l
def orderR (a b : Int) (l : List Int) (z : Int) : Bool := decide (WOk a b l = true ∧ 0 ≤ z ∧ z ≤ 5)
theorem orderL_length (a b : Int) (l : List Int) (z : Int) : (orderL a b l z).length = l.length := by
  unfold orderL
  split <;> simp
theorem specOrder_ev (a b : Int) (l : List Int) (z : Int) (hl : l.length ≤ 1048576) : ∃ K, ∀ k, K ≤ k → spec_OrderIn.f k a b l z = some (a, b, orderL a b l z, orderR a b l z) := by
  obtain ⟨K, h⟩ := specOk_ev a b l (by omega)
  refine ⟨K + 1, fun k hk => ?_⟩
  unfold spec_OrderIn.f orderL orderR
  rw [l17_eq a b l hl]
  simp only [Option.bind_some]
  rw [h _ (by omega), Option.bind_some]
  by_cases hw : WOk a b l = true
  · obtain ⟨h1, h2, h3, h4, h5, h6⟩ := WOk_iff a b l hw
    rw [if_pos hw, l01In_eq, Option.bind_some]
    by_cases hz : 0 ≤ z ∧ z ≤ 5
    · have hr : 0 ≤ rd l z ∧ rd l z ≤ b := by
        have e : z = ((z.toNat : Nat) : Int) := by omega
        rw [e, rd_get l z.toNat (by omega)]
        exact h6 _ (List.getElem_mem _)
      rw [decide_eq_true hz, if_pos rfl, if_pos hz.1, if_pos (by omega), brought_ev _ b (by rw [w64 (by omega) (by omega)]; omega) h3 k (by omega), if_pos ⟨hw, hz⟩, decide_eq_true ⟨hw, hz⟩]
      rfl
    · rw [decide_eq_false hz, if_neg (by decide), if_neg (fun e => hz e.2), decide_eq_false (fun e => hz e.2)]
  · rw [if_neg hw, if_neg (fun e => hw e.1), decide_eq_false (fun e => hw e.1)]
theorem implOrder_eq (a b : Int) (l : List Int) (z : Int) (hl : l.length ≤ 1048576) : impl_OrderIn.f a b l z = some (a, b, orderL a b l z, orderR a b l z) := by
  unfold impl_OrderIn.f orderL orderR
  rw [copyW_eq a b l hl]
  simp only [Option.bind_some]
  rw [implOk_eq, Option.bind_some]
  by_cases hw : WOk a b l = true
  · obtain ⟨h1, h2, h3, h4, h5, h6⟩ := WOk_iff a b l hw
    rw [if_pos hw, isZone_eq2, Option.bind_some]
    by_cases hz : 0 ≤ z ∧ z ≤ 5
    · rw [decide_eq_true hz, if_pos rfl, if_pos hz.1, if_pos (by omega), if_pos ⟨hw, hz⟩, decide_eq_true ⟨hw, hz⟩]
    · rw [decide_eq_false hz, if_neg (by decide), if_neg (fun e => hz e.2), decide_eq_false (fun e => hz e.2)]
  · rw [if_neg hw, if_neg (fun e => hw e.1), decide_eq_false (fun e => hw e.1)]
end Go.Proofs.Ytpjmfmnnkcibjaa.Pure
