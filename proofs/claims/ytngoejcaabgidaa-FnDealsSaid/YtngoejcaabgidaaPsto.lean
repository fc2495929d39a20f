/- Plain facts about the insertion sort by a key: greatest keys first, and equals in the order in which they stood. -/
import Derived.Sort.LotA
namespace Go.Proofs.Ytngoejcaabgidaa.Pure
open Go.Sort
section
variable {α : Type} (key : α → Int) (ix : α → Nat)
/-- Greater keys are less. -/
def byKey (x y : α) : Bool := decide (key y < key x)
/-- Greater keys, then smaller places, are less. -/
def byKeyIx (x y : α) : Bool := decide (key y < key x ∨ key y = key x ∧ ix x < ix y)
theorem byKeyIx_eq {x y : α} (h : ix y < ix x) : byKeyIx key ix x y = byKey key x y := by
  unfold byKeyIx byKey
  exact decide_eq_decide.mpr ⟨fun h2 => by omega, fun h2 => .inl h2⟩
theorem swo_byKeyIx : SWO (byKeyIx key ix) where
  irrefl := fun x => by unfold byKeyIx; exact decide_eq_false (by omega)
  trans := fun x y z h1 h2 => by unfold byKeyIx at *; have := of_decide_eq_true h1; have := of_decide_eq_true h2; exact decide_eq_true (by omega)
  ntrans := fun x y z h1 h2 => by unfold byKeyIx at *; have := of_decide_eq_false h1; have := of_decide_eq_false h2; exact decide_eq_false (by omega)
end
section
variable {α : Type} [Inhabited α] (key : α → Int) (ix : α → Nat)
theorem insInner_size (lt : α → α → Bool) (a : Nat) : ∀ (j : Nat) (d : Array α), (insInner lt a j d).size = d.size
  | 0, d => rfl
  | j + 1, d => by
    unfold insInner
    split
    · rw [insInner_size lt a j, swp_size]
    · rfl
theorem insInner_far (lt : α → α → Bool) (a : Nat) : ∀ (j : Nat) (d : Array α), j < d.size → ∀ q, j < q → (insInner lt a j d)[q]! = d[q]!
  | 0, d, _, q, _ => rfl
  | j + 1, d, hs, q, hq => by
    unfold insInner
    split
    · rw [insInner_far lt a j _ (by rw [swp_size]; omega) q (by omega), swp_get d hs (by omega), if_neg (by omega), if_neg (by omega)]
    · rfl
theorem insInner_all (lt : α → α → Bool) (a : Nat) (P : α → Prop) (i : Nat) : ∀ (j : Nat) (d : Array α), j ≤ i → i < d.size → (∀ p, p ≤ i → P d[p]!) → ∀ p, p ≤ i → P (insInner lt a j d)[p]!
  | 0, d, _, _, h => h
  | j + 1, d, hj, hs, h => by
    unfold insInner
    split
    · refine insInner_all lt a P i j _ (by omega) (by rw [swp_size]; exact hs) fun p hp => ?_
      rw [swp_get d (by omega) (by omega)]
      split
      · exact h _ hj
      · split
        · exact h _ (by omega)
        · exact h _ hp
    · exact h
theorem insInner_key (a : Nat) : ∀ (j : Nat) (d : Array α), j < d.size → (∀ p, p < j → ix d[p]! < ix d[j]!) → insInner (byKey key) a j d = insInner (byKeyIx key ix) a j d
  | 0, d, _, _ => rfl
  | j + 1, d, hs, h => by
    unfold insInner
    rw [byKeyIx_eq key ix (h j (by omega))]
    split
    · refine insInner_key a j _ (by rw [swp_size]; omega) fun p hp => ?_
      rw [swp_get d hs (by omega), swp_get d hs (by omega), if_neg (by omega), if_neg (by omega), if_pos rfl]
      exact h p (by omega)
    · rfl
theorem insOuter_key (a b : Nat) : ∀ (n i : Nat) (d : Array α), i + n = b ∨ (n = 0 ∧ b ≤ i) → b ≤ d.size → (∀ q, i ≤ q → q < b → ∀ p, p < q → ix d[p]! < ix d[q]!) → insOuter (byKey key) a b i d = insOuter (byKeyIx key ix) a b i d
  | 0, i, d, hi, hb, h => by
    rw [insOuter.eq_1 (byKey key), insOuter.eq_1 (byKeyIx key ix), if_neg (by omega), if_neg (by omega)]
  | n + 1, i, d, hi, hb, h => by
    rw [insOuter.eq_1 (byKey key), if_pos (by omega), insOuter.eq_1 (byKeyIx key ix), if_pos (by omega), insInner_key key ix a i d (by omega) (h i (Nat.le_refl _) (by omega))]
    refine insOuter_key a b n (i + 1) _ (by omega) (by rw [insInner_size]; exact hb) fun q h1 h2 p hp => ?_
    rw [insInner_far _ a i d (by omega) q (by omega)]
    by_cases c : p ≤ i
    · exact insInner_all (byKeyIx key ix) a (fun v => ix v < ix d[q]!) i i d (Nat.le_refl _) (by omega) (fun p hp => h q (by omega) h2 p (by omega)) p c
    · rw [insInner_far _ a i d (by omega) p (by omega)]
      exact h q (by omega) h2 p hp
/-- The row sorted: a permutation; each goes before those behind it. -/
theorem insertionSort_key (d : Array α) (h : ∀ p q, p < q → q < d.size → ix d[p]! < ix d[q]!) :
    (insertionSort (byKey key) d 0 d.size).toList.Perm d.toList ∧ (insertionSort (byKey key) d 0 d.size).toList.Pairwise fun x y => key y < key x ∨ key y = key x ∧ ix x < ix y := by
  have e : insertionSort (byKey key) d 0 d.size = insertionSort (byKeyIx key ix) d 0 d.size := by
    unfold insertionSort
    rcases Nat.eq_zero_or_pos d.size with c | c
    · exact insOuter_key key ix 0 d.size 0 1 d (by omega) (Nat.le_refl _) fun q h1 h2 p hp => h p q hp h2
    · exact insOuter_key key ix 0 d.size (d.size - 1) (0 + 1) d (by omega) (Nat.le_refl _) fun q h1 h2 p hp => h p q hp h2
  rw [e]
  obtain ⟨h1, h2⟩ := insertionSort_holds (lt := byKeyIx key ix) (swo_byKeyIx key ix) d 0 d.size (Nat.zero_le _) (Nat.le_refl _)
  generalize insertionSort (byKeyIx key ix) d 0 d.size = r at h1 h2
  obtain ⟨hsz, _, hp⟩ := h1
  have hperm : r.toList.Perm d.toList := by
    have e1 : (r.extract 0 d.size) = r := by rw [← hsz]; simp
    have e2 : (d.extract 0 d.size) = d := by simp
    rwa [e1, e2] at hp
  refine ⟨hperm, ?_⟩
  -- no place stands twice
  have hnd : r.toList.Pairwise fun x y => ix x ≠ ix y := by
    have : d.toList.Pairwise fun x y => ix x ≠ ix y := by
      refine List.pairwise_iff_getElem.mpr fun i j hi hj hij => ?_
      have := h i j hij (by simpa using hj)
      rw [getElem!_pos d i (by simp at hi; omega), getElem!_pos d j (by simpa using hj)] at this
      simp only [Array.getElem_toList]
      omega
    exact (hperm.pairwise_iff (fun h => fun e => h e.symm)).mpr this
  refine List.pairwise_iff_getElem.mpr fun i j hi hj hij => ?_
  have hne := List.pairwise_iff_getElem.mp hnd i j hi hj hij
  have hs := h2 i j (Nat.zero_le _) hij (by simp at hj; omega)
  rw [getElem!_pos r i (by simpa using hi), getElem!_pos r j (by simpa using hj)] at hs
  simp only [Array.getElem_toList] at hne ⊢
  have := of_decide_eq_false hs
  omega
end
end Go.Proofs.Ytngoejcaabgidaa.Pure
