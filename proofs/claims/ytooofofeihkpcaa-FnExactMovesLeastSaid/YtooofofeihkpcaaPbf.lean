/- How many steps each cell is from the nearest of the given ones: the program's queue and the reference's levels answer alike. -/
import Derived.Test.YtooofofeihkpcaaPlab
import Derived.Test.YtooofofeihkpcaaPar
import Derived.Test.YtooofofeihkpcaaPhas
import Derived.Test.YtooofofeihkpcaaQ6
import Derived.Test.YtooofofeihkpcaaQ11
import Derived.Test.YtooofofeihkpcaaQ10
set_option linter.unusedSimpArgs false
namespace Go.Proofs.Ytooofofeihkpcaa.Pure
open Go.RowKit Go.Proofs.Ytooofofeihkpcaa.Q Go.Proofs.YtooofofeihkpcaaW.PrintWords Go.Proofs.YtooofofeihkpcaaW.PrintLast
theorem wS (m : Nat) (h : m ≤ 1048576) : wrap64 ((m : Int) + 1) = ((m + 1 : Nat) : Int) := by
  rw [w64 (by omega) (by omega)]
  rfl
/-- The queue of the labelled cells. -/
structure Qu (n : Nat) (d q : List Int) : Prop where
  rng : ∀ j : Nat, j < q.length → 0 ≤ rd q (j : Int) ∧ rd q (j : Int) < n ∧ 0 ≤ rd d (rd q (j : Int))
  all : ∀ c : Int, 0 ≤ c → c < n → 0 ≤ rd d c → c ∈ q
  cnt : q.length + negs d ≤ n
  srt : ∀ j k : Nat, j ≤ k → k < q.length → rd d (rd q (j : Int)) ≤ rd d (rd q (k : Int))
theorem Qu.step {n d q} (h : Qu n d q) (hl : d.length = n) {x v : Int} (hx0 : 0 ≤ x) (hx1 : x < n) (hx : rd d x < 0) (hv : 0 ≤ v) (hle : ∀ j : Nat, j < q.length → rd d (rd q (j : Int)) ≤ v) : Qu n (d.set x.toNat v) (q ++ [x]) := by
  have old : ∀ j : Nat, j < q.length → rd (d.set x.toNat v) (rd (q ++ [x]) (j : Int)) = rd d (rd q (j : Int)) := by
    intro j hj
    obtain ⟨r0, r1, r2⟩ := h.rng j hj
    rw [rd_app1 q x j hj, rd_put2 d x v _ hx0 r0 (by intro e; rw [e] at r2; omega)]
  have new : rd (d.set x.toNat v) (rd (q ++ [x]) (q.length : Int)) = v := by
    rw [rd_app2, rd_put1 d x v hx0 (by omega)]
  refine ⟨?_, ?_, ?_, ?_⟩
  · intro j hj
    rw [List.length_append] at hj
    by_cases e : j = q.length
    · subst e
      rw [new, rd_app2]
      exact ⟨hx0, hx1, hv⟩
    · have hj' : j < q.length := by simp at hj; omega
      obtain ⟨r0, r1, r2⟩ := h.rng j hj'
      rw [old j hj', rd_app1 q x j hj']
      exact ⟨r0, r1, r2⟩
  · intro c h0 h1 h2
    by_cases e : c = x
    · rw [e]; simp
    · rw [rd_put2 d x v c hx0 h0 e] at h2
      exact List.mem_append_left _ (h.all c h0 h1 h2)
  · have h1 := negs_put d x v hx0 (by omega) hx hv
    have h2 := h.cnt
    rw [List.length_append]
    simp
    omega
  · intro j k hjk hk
    rw [List.length_append] at hk
    by_cases e : k = q.length
    · subst e
      rw [new]
      by_cases e2 : j = q.length
      · subst e2; rw [new]; exact Int.le_refl _
      · rw [old j (by omega)]; exact hle j (by omega)
    · have hk' : k < q.length := by simp at hk; omega
      rw [old j (by omega), old k hk']
      exact h.srt j k hjk hk'
theorem Part_init (A : Int → Int → Prop) (n : Nat) : Part A n [] (List.replicate n (-1)) := by
  have e : ∀ c : Int, 0 ≤ c → c < n → rd (List.replicate n (-1)) c = -1 := by
    intro c h0 h1
    obtain ⟨j, rfl⟩ := Int.eq_ofNat_of_zero_le h0
    rw [rd_get _ j (by simp; omega)]; simp
  refine ⟨by simp, ?_, ?_, ?_⟩
  · intro c h0 h1; rw [e c h0 h1]; omega
  · intro c h0 h1; rw [e c h0 h1]; simp
  · intro c h0 h1 h2; rw [e c h0 h1] at h2; omega
theorem Qu_init (n : Nat) : Qu n (List.replicate n (-1)) [] := by
  refine ⟨fun j hj => absurd hj (by simp), ?_, ?_, fun j k _ hk => absurd hk (by simp)⟩
  · intro c h0 h1 h2
    obtain ⟨j, rfl⟩ := Int.eq_ofNat_of_zero_le h0
    rw [rd_get _ j (by simp; omega)] at h2
    simp at h2
  · simp [negs, List.countP_replicate]
theorem take_succ_mem (l : List Int) (i : Nat) (h : i < l.length) (c : Int) : c ∈ l.take (i + 1) ↔ c ∈ l.take i ∨ c = rd l (i : Int) := by
  rw [List.take_succ_eq_append_getElem h, List.mem_append, rd_get l i h]; simp
theorem Part.start {A n S S' d} (h : Part A n S d) (hz : ∀ c : Int, 0 ≤ c → c < n → rd d c ≤ 0) {x : Int} (hx0 : 0 ≤ x) (hx1 : x < n) (hm : ∀ c, c ∈ S' ↔ c ∈ S ∨ c = x) : Part A n S' (d.set x.toNat 0) ∧ ∀ c : Int, 0 ≤ c → c < n → rd (d.set x.toNat 0) c ≤ 0 := by
  have hl := h.len
  have e1 : rd (d.set x.toNat 0) x = 0 := rd_put1 d x 0 hx0 (by omega)
  have e2 : ∀ y : Int, 0 ≤ y → y ≠ x → rd (d.set x.toNat 0) y = rd d y := fun y hy hne => rd_put2 d x 0 y hx0 hy hne
  have hz' : ∀ c : Int, 0 ≤ c → c < n → rd (d.set x.toNat 0) c ≤ 0 := by
    intro c h0 h1
    by_cases e : c = x
    · rw [e, e1]; exact Int.le_refl 0
    · rw [e2 c h0 e]; exact hz c h0 h1
  refine ⟨⟨by rw [List.length_set]; exact hl, ?_, ?_, ?_⟩, hz'⟩
  · intro c h0 h1
    by_cases e : c = x
    · rw [e, e1]; omega
    · rw [e2 c h0 e]; exact h.low c h0 h1
  · intro c h0 h1
    rw [hm]
    by_cases e : c = x
    · rw [e, e1]; exact ⟨fun _ => .inr rfl, fun _ => rfl⟩
    · rw [e2 c h0 e, h.zero c h0 h1]; exact ⟨.inl, fun h => h.resolve_right e⟩
  · intro c h0 h1 h2
    have := hz' c h0 h1
    omega
theorem Part.same {A n S S' d} (h : Part A n S d) (hz : ∀ c : Int, 0 ≤ c → c < n → rd d c ≤ 0) {x : Int} (hx0 : 0 ≤ x) (hx1 : x < n) (hm : ∀ c, c ∈ S' ↔ c ∈ S ∨ c = x) (hp : ¬ rd d x < 0) : Part A n S' d := by
  have h1 := hz x hx0 hx1
  have h2 : x ∈ S := (h.zero x hx0 hx1).mp (by omega)
  refine ⟨h.len, h.low, ?_, h.back⟩
  intro c h0 h1
  rw [h.zero c h0 h1, hm]
  exact ⟨.inl, fun h => h.elim id (fun e => by rw [e]; exact h2)⟩
/-- The program's first loop: the cells to start from. -/
theorem impl_l0 (A : Int → Int → Prop) (a b : Int) (s : ByteArray) (n : Nat) (hn : n ≤ 64) (src : List Int) (hlen : src.length ≤ 1048576) (hsrc : ∀ x ∈ src, 0 ≤ x ∧ x < (n : Int)) : ∀ (e i : Nat) (d q : List Int), i + e = src.length → Part A n (src.take i) d → (∀ c : Int, 0 ≤ c → c < n → rd d c ≤ 0) → Qu n d q →
    ∃ d' q', Part A n src d' ∧ (∀ c : Int, 0 ≤ c → c < n → rd d' c ≤ 0) ∧ Qu n d' q' ∧ ∀ k, impl_StepsFrom.l0 (k + e + 1) d q src (src.length : Int) (i : Int) a b s = impl_StepsFrom.l1 k d' q' 0 a b s
  | 0, i, d, q, hi, hp, hz, hq => by
    rw [List.take_of_length_le (by omega)] at hp
    refine ⟨d, q, hp, hz, hq, fun k => ?_⟩
    rw [impl_StepsFrom.l0, if_neg (by omega)]
  | e + 1, i, d, q, hi, hp, hz, hq => by
    have hx := hsrc (rd src (i : Int)) (by rw [rd_get src i (by omega)]; exact List.getElem_mem _)
    have hl := hp.len
    have hm := take_succ_mem src i (by omega)
    have hcnt := hq.cnt
    obtain ⟨x, ex⟩ : ∃ x, x = rd src (i : Int) := ⟨_, rfl⟩
    rw [← ex] at hx hm
    have hk : ∀ k : Nat, k + (e + 1) + 1 = (k + e + 1) + 1 := fun k => by omega
    have c1 : (i : Int) < (src.length : Int) := by omega
    have c2 : (0 : Int) ≤ (i : Int) := by omega
    have c3 : x < (d.length : Int) := by omega
    have c4 : q.length < 17592186044416 := by omega
    by_cases hneg : rd d x < 0
    · obtain ⟨hp', hz'⟩ := hp.start hz hx.1 hx.2 hm
      have hq' := hq.step hl hx.1 hx.2 hneg (Int.le_refl 0) (fun j hj => hz _ (hq.rng j hj).1 (hq.rng j hj).2.1)
      obtain ⟨d', q', h1, h2, h3, h4⟩ := impl_l0 A a b s n hn src hlen hsrc e (i + 1) _ _ (by omega) hp' hz' hq'
      refine ⟨d', q', h1, h2, h3, fun k => ?_⟩
      rw [hk, impl_StepsFrom.l0, ← ex, if_pos c1, if_pos c2, if_pos c1, if_pos hx.1, if_pos c3, if_pos hneg, if_pos c4, wS i (by omega)]
      exact h4 k
    · obtain ⟨d', q', h1, h2, h3, h4⟩ := impl_l0 A a b s n hn src hlen hsrc e (i + 1) _ _ (by omega) (hp.same hz hx.1 hx.2 hm hneg) hz hq
      refine ⟨d', q', h1, h2, h3, fun k => ?_⟩
      rw [hk, impl_StepsFrom.l0, ← ex, if_pos c1, if_pos c2, if_pos c1, if_pos hx.1, if_pos c3, if_neg hneg, wS i (by omega)]
      exact h4 k
/-- While the neighbours of the queue's i-th cell c are looked at. -/
structure In (A : Int → Int → Prop) (n : Nat) (src : List Int) (c : Int) (i : Nat) (d q : List Int) : Prop where
  part : Part A n src d
  qu : Qu n d q
  lt : i < q.length
  at_ : rd q (i : Int) = c
  near : ∀ j : Nat, j < q.length → rd d (rd q (j : Int)) ≤ rd d c + 1
  clo : ∀ j : Nat, j < i → Clo A d (rd q (j : Int))
/-- Between two cells of the queue. -/
structure Out (A : Int → Int → Prop) (n : Nat) (src : List Int) (i : Nat) (d q : List Int) : Prop where
  part : Part A n src d
  qu : Qu n d q
  le : i ≤ q.length
  near : i < q.length → ∀ j : Nat, j < q.length → rd d (rd q (j : Int)) ≤ rd d (rd q (i : Int)) + 1
  clo : ∀ j : Nat, j < i → Clo A d (rd q (j : Int))
theorem In.step {A : Int → Int → Prop} {n : Nat} {src : List Int} {c : Int} {i : Nat} {d q : List Int} (hA : ∀ c x, A c x → 0 ≤ x ∧ x < (n : Int)) (h : In A n src c i d q) {x : Int} (hx : A c x) (hneg : rd d x < 0) : In A n src c i (d.set x.toNat (rd d c + 1)) (q ++ [x]) ∧ rd (d.set x.toNat (rd d c + 1)) x = rd d c + 1 ∧ ∀ y : Int, 0 ≤ y → y ≠ x → rd (d.set x.toNat (rd d c + 1)) y = rd d y := by
  obtain ⟨x0, x1⟩ := hA c x hx
  obtain ⟨c0, c1, c2⟩ := h.qu.rng i h.lt
  rw [h.at_] at c0 c1 c2
  have hl := h.part.len
  have e1 : rd (d.set x.toNat (rd d c + 1)) x = rd d c + 1 := rd_put1 d x _ x0 (by omega)
  have e2 : ∀ y : Int, 0 ≤ y → y ≠ x → rd (d.set x.toNat (rd d c + 1)) y = rd d y := fun y hy hne => rd_put2 d x _ y x0 hy hne
  have ec : rd (d.set x.toNat (rd d c + 1)) c = rd d c := e2 c c0 (by intro e; rw [e] at c2; omega)
  have hlt := h.lt
  refine ⟨⟨h.part.step c0 c1 x0 x1 hx c2 hneg, h.qu.step hl x0 x1 hneg (by omega) h.near, by rw [List.length_append]; simp; omega, by rw [rd_app1 q x i h.lt]; exact h.at_, ?_, ?_⟩, e1, e2⟩
  · intro j hj
    rw [ec]
    rw [List.length_append] at hj
    by_cases e : j = q.length
    · rw [e, rd_app2, e1]; exact Int.le_refl _
    · have hj' : j < q.length := by simp at hj; omega
      obtain ⟨r0, r1, r2⟩ := h.qu.rng j hj'
      rw [rd_app1 q x j hj', e2 _ r0 (by intro e; rw [e] at r2; omega)]
      exact h.near j hj'
  · intro j hj
    obtain ⟨r0, r1, r2⟩ := h.qu.rng j (by omega)
    rw [rd_app1 q x j (by omega)]
    exact (h.clo j hj).step n hA _ x0 r0 r2 hneg
theorem In.out {A n src c i d q} (h : In A n src c i d q) (hc : Clo A d c) : Out A n src (i + 1) d q := by
  have hlt := h.lt
  refine ⟨h.part, h.qu, h.lt, ?_, ?_⟩
  · intro h1 j hj
    have h2 := h.near j hj
    have h3 := h.qu.srt i (i + 1) (by omega) h1
    rw [h.at_] at h3
    omega
  · intro j hj
    by_cases e : j = i
    · rw [e, h.at_]; exact hc
    · exact h.clo j (by omega)
theorem impl_l2 (A : Int → Int → Prop) (a b : Int) (s : ByteArray) (n : Nat) (hn : n ≤ 64) (hA : ∀ c x, A c x → 0 ≤ x ∧ x < (n : Int)) (src : List Int) (c : Int) (i : Nat) (ns : List Int) (hns : ∀ x, x ∈ ns ↔ A c x) (hnl : ns.length ≤ 4) :
    ∀ (e m : Nat) (d q : List Int), m + e = ns.length → In A n src c i d q → (∀ j : Nat, j < m → 0 ≤ rd d (rd ns (j : Int)) ∧ rd d (rd ns (j : Int)) ≤ rd d c + 1) →
    ∃ d' q', Out A n src (i + 1) d' q' ∧ ∀ k, impl_StepsFrom.l2 (k + e + 1) d q (i : Int) ns (ns.length : Int) (m : Int) a b s = impl_StepsFrom.l1 k d' q' ((i + 1 : Nat) : Int) a b s
  | 0, m, d, q, hm, hI, hnb => by
    have hcl : Clo A d c := by
      intro x hx
      obtain ⟨j, hj, ej⟩ := (mem_rd ns x).mp ((hns x).mpr hx)
      rw [← ej]
      exact hnb j (by omega)
    have hlt := hI.lt
    have hcnt := hI.qu.cnt
    refine ⟨d, q, hI.out hcl, fun k => ?_⟩
    rw [impl_StepsFrom.l2, if_neg (by omega), w64 (by omega) (by omega)]
    rfl
  | e + 1, m, d, q, hm, hI, hnb => by
    obtain ⟨x, ex⟩ : ∃ x, x = rd ns (m : Int) := ⟨_, rfl⟩
    have hx : A c x := (hns x).mp (by rw [ex, rd_get ns m (by omega)]; exact List.getElem_mem _)
    obtain ⟨x0, x1⟩ := hA c x hx
    obtain ⟨c0, c1, c2⟩ := hI.qu.rng i hI.lt
    rw [hI.at_] at c0 c1 c2
    have hl := hI.part.len
    have hlt := hI.lt
    have hcnt := hI.qu.cnt
    have hdc := hI.part.lt c c0 c1
    have hk : ∀ k : Nat, k + (e + 1) + 1 = (k + e + 1) + 1 := fun k => by omega
    have d1 : (m : Int) < (ns.length : Int) := by omega
    have d2 : (0 : Int) ≤ (m : Int) := by omega
    have d3 : x < (d.length : Int) := by omega
    have d4 : (0 : Int) ≤ (i : Int) := by omega
    have d5 : (i : Int) < (q.length : Int) := by omega
    have d6 : c < (d.length : Int) := by omega
    have d7 : q.length < 17592186044416 := by omega
    by_cases hneg : rd d x < 0
    · obtain ⟨hI', e1, e2⟩ := hI.step hA hx hneg
      have ec : rd (d.set x.toNat (rd d c + 1)) c = rd d c := e2 c c0 (by intro e; rw [e] at c2; omega)
      obtain ⟨d', q', h1, h2⟩ := impl_l2 A a b s n hn hA src c i ns hns hnl e (m + 1) _ _ (by omega) hI' (by
        intro j hj
        rw [ec]
        by_cases e : j = m
        · rw [e, ← ex, e1]; exact ⟨by omega, Int.le_refl _⟩
        · obtain ⟨g1, g2⟩ := hnb j (by omega)
          have hjx : A c (rd ns (j : Int)) := (hns _).mp (by rw [rd_get ns j (by omega)]; exact List.getElem_mem _)
          rw [e2 _ (hA _ _ hjx).1 (by intro e; rw [e] at g1; omega)]
          exact ⟨g1, g2⟩)
      refine ⟨d', q', h1, fun k => ?_⟩
      rw [hk, impl_StepsFrom.l2, ← ex, hI.at_, if_pos d1, if_pos d2, if_pos d1, if_pos x0, if_pos d3, if_pos hneg, if_pos d4, if_pos d5, if_pos c0, if_pos d6, if_pos d7, wS m (by omega), w64 (x := rd d c + 1) (by omega) (by omega)]
      exact h2 k
    · have hx3 : x ∈ q := hI.qu.all x x0 x1 (by omega)
      obtain ⟨j0, hj0, ej0⟩ := (mem_rd q x).mp hx3
      have hx4 := hI.near j0 hj0
      rw [ej0] at hx4
      obtain ⟨d', q', h1, h2⟩ := impl_l2 A a b s n hn hA src c i ns hns hnl e (m + 1) d q (by omega) hI (by
        intro j hj
        by_cases e : j = m
        · rw [e, ← ex]; exact ⟨by omega, hx4⟩
        · exact hnb j (by omega))
      refine ⟨d', q', h1, fun k => ?_⟩
      rw [hk, impl_StepsFrom.l2, ← ex, if_pos d1, if_pos d2, if_pos d1, if_pos x0, if_pos d3, if_neg hneg, wS m (by omega)]
      exact h2 k
theorem impl_l1 (a b : Int) (s : ByteArray) (hG : Gok a b s) (src : List Int) (hfr : ∀ x ∈ src, Fr s x) : ∀ (f i : Nat) (d q : List Int), s.size ≤ i + f → Out (Adj a s) s.size src i d q →
    ∃ r K, (∀ k, K ≤ k → impl_StepsFrom.l1 k d q (i : Int) a b s = some r) ∧ Lab (Adj a s) s.size src r
  | f, i, d, q, hf, hO => by
    have hs := Gok_size hG
    have hA : ∀ c x, Adj a s c x → 0 ≤ x ∧ x < (s.size : Int) := fun c x h => Fr_lt h.2.1
    have hcnt := hO.qu.cnt
    have hle := hO.le
    by_cases hi : i < q.length
    · obtain ⟨c0, c1, c2⟩ := hO.qu.rng i hi
      have hc : Fr s (rd q (i : Int)) := by
        by_cases hz : rd d (rd q (i : Int)) = 0
        · exact hfr _ ((hO.part.zero _ c0 c1).mp hz)
        · obtain ⟨b', _, _, _, h4⟩ := hO.part.back _ c0 c1 (by omega)
          exact h4.2.1
      obtain ⟨ns, K1, h1, h2, h3⟩ := implAround_ev a b s hG _ hc
      obtain ⟨d', q', h4, h5⟩ := impl_l2 (Adj a s) a b s s.size hs hA src _ i ns h2 h3 ns.length 0 d q (by omega) ⟨hO.part, hO.qu, hi, rfl, hO.near hi, hO.clo⟩ (fun j hj => absurd hj (by omega))
      cases f with
      | zero => exfalso; omega
      | succ f =>
        obtain ⟨r, K2, h6, h7⟩ := impl_l1 a b s hG src hfr f (i + 1) d' q' (by omega) h4
        refine ⟨r, K1 + K2 + ns.length + 2, fun k hk => ?_, h7⟩
        obtain ⟨k, rfl⟩ : ∃ m, k = m + ns.length + 1 + 1 := ⟨k - ns.length - 2, by omega⟩
        rw [impl_StepsFrom.l1, if_pos (by omega), if_pos (by omega), h1 _ (by omega), Option.bind_some]
        have := h5 k
        rw [show ((0 : Nat) : Int) = 0 from rfl] at this
        rw [this]
        exact h6 k (by omega)
    · refine ⟨d, 1, fun k hk => ?_, hO.part, ?_⟩
      · obtain ⟨k, rfl⟩ : ∃ m, k = m + 1 := ⟨k - 1, by omega⟩
        rw [impl_StepsFrom.l1, if_neg (by omega)]
      · intro c h0 h1 h2
        obtain ⟨j, hj, ej⟩ := (mem_rd q c).mp (hO.qu.all c h0 h1 h2)
        rw [← ej]
        exact hO.clo j (by omega)
theorem hof_false (a b : Int) (s : ByteArray) (src : List Int) (hfr : ∀ x ∈ src, Fr s x) : hof_StepsFrom.f src a b s = some false := by
  unfold hof_StepsFrom.f
  congr 1
  rw [List.any_eq_false]
  intro x hx
  obtain ⟨h0, h1, h2⟩ := hfr x hx
  simp [hof_StepsFrom.p, h0, h1, h2]
theorem implSteps_ev (a b : Int) (s : ByteArray) (hG : Gok a b s) (src : List Int) (hlen : src.length ≤ 1048576) (hfr : ∀ x ∈ src, Fr s x) : ∃ r K, (∀ k, K ≤ k → impl_StepsFrom.f k a b s src = some r) ∧ Lab (Adj a s) s.size src r := by
  have hs := Gok_size hG
  obtain ⟨g0, K0, h0, q0⟩ := gridOk_ev a b s (by omega)
  obtain rfl := q0.mpr hG
  have hp0 := Part_init (Adj a s) s.size
  obtain ⟨d, q, h1, h2, h3, h4⟩ := impl_l0 (Adj a s) a b s s.size hs src hlen (fun x hx => Fr_lt (hfr x hx)) src.length 0 (List.replicate s.size (-1)) [] (by omega) hp0 (by
    intro c c0 c1
    have := hp0.low c c0 c1
    by_cases hc : 0 ≤ rd (List.replicate s.size (-1)) c
    · exact absurd ((Qu_init s.size).all c c0 c1 hc) (by simp)
    · omega) (Qu_init s.size)
  have hO : Out (Adj a s) s.size src 0 d q := by
    refine ⟨h1, h3, Nat.zero_le _, ?_, fun j hj => absurd hj (by omega)⟩
    intro hi j hj
    obtain ⟨c0, c1, c2⟩ := h3.rng 0 hi
    obtain ⟨e0, e1, e2⟩ := h3.rng j hj
    have := h2 _ e0 e1
    omega
  obtain ⟨r, K1, h5, h6⟩ := impl_l1 a b s hG src hfr s.size 0 d q (by omega) hO
  refine ⟨r, K0 + K1 + src.length + 2, fun k hk => ?_, h6⟩
  obtain ⟨k, rfl⟩ : ∃ m, k = m + src.length + 1 + 1 := ⟨k - src.length - 2, by omega⟩
  unfold impl_StepsFrom.f
  rw [(h0 _ (by omega)).2, Option.bind_some, if_pos rfl, hof_false a b s src hfr, Option.bind_some, impl_StepsFrom.j0, if_neg (by decide)]
  have hrep : slices_Repeat_int_int.f [(-1)] (s.size : Int) = some (List.replicate s.size (-1)) := by
    unfold slices_Repeat_int_int.f
    rw [if_pos ⟨rfl, by omega, by omega⟩, Int.toNat_natCast]
    rfl
  rw [hrep, Option.bind_some]
  have := h4 k
  rw [show ((0 : Nat) : Int) = 0 from rfl] at this
  rw [this]
  exact h5 k (by omega)
/-- While the reference looks at the cells of level e: those before c are done. -/
structure Lv (A : Int → Int → Prop) (n : Nat) (src : List Int) (e : Nat) (c : Int) (d : List Int) : Prop where
  part : Part A n src d
  top : ∀ y : Int, 0 ≤ y → y < n → rd d y ≤ e + 1
  lo : ∀ y : Int, 0 ≤ y → y < n → 0 ≤ rd d y → rd d y < e → Clo A d y
  same : ∀ y : Int, 0 ≤ y → y < n → y < c → rd d y = e → Clo A d y
theorem Lv.step {A : Int → Int → Prop} {n : Nat} {src : List Int} {e : Nat} {c : Int} {d : List Int} (hA : ∀ c x, A c x → 0 ≤ x ∧ x < (n : Int)) (h : Lv A n src e c d) (c0 : 0 ≤ c) (c1 : c < n) (hc : rd d c = e) {x : Int} (hx : A c x) (hneg : rd d x < 0) :
    Lv A n src e c (d.set x.toNat ((e : Int) + 1)) ∧ rd (d.set x.toNat ((e : Int) + 1)) x = (e : Int) + 1 ∧ ∀ y : Int, 0 ≤ y → y ≠ x → rd (d.set x.toNat ((e : Int) + 1)) y = rd d y := by
  obtain ⟨x0, x1⟩ := hA c x hx
  have hl := h.part.len
  have e1 : rd (d.set x.toNat ((e : Int) + 1)) x = (e : Int) + 1 := rd_put1 d x _ x0 (by omega)
  have e2 : ∀ y : Int, 0 ≤ y → y ≠ x → rd (d.set x.toNat ((e : Int) + 1)) y = rd d y := fun y hy hne => rd_put2 d x _ y x0 hy hne
  have hp := h.part.step c0 c1 x0 x1 hx (by omega) hneg
  rw [hc] at hp
  refine ⟨⟨hp, ?_, ?_, ?_⟩, e1, e2⟩
  · intro y y0 y1
    by_cases ey : y = x
    · rw [ey, e1]; exact Int.le_refl _
    · rw [e2 y y0 ey]; exact h.top y y0 y1
  · intro y y0 y1
    by_cases ey : y = x
    · rw [ey, e1]; intro _ h2; omega
    · rw [e2 y y0 ey]
      intro h1 h2
      exact (h.lo y y0 y1 h1 h2).step n hA _ x0 y0 h1 hneg
  · intro y y0 y1 y2
    by_cases ey : y = x
    · rw [ey, e1]; intro h2; omega
    · rw [e2 y y0 ey]
      intro h2
      exact (h.same y y0 y1 y2 h2).step n hA _ x0 y0 (by omega) hneg
theorem Lv.next {A : Int → Int → Prop} {n : Nat} {src : List Int} {e : Nat} {c : Int} {d : List Int} (h : Lv A n src e c d) (hc : rd d c = e → Clo A d c) : Lv A n src e (c + 1) d := by
  refine ⟨h.part, h.top, h.lo, ?_⟩
  intro y y0 y1 y2 h2
  by_cases ey : y = c
  · rw [ey] at h2 ⊢; exact hc h2
  · exact h.same y y0 y1 (by omega) h2
theorem spec_l4 (A : Int → Int → Prop) (a b : Int) (s : ByteArray) (n : Nat) (hn : n ≤ 64) (hA : ∀ c x, A c x → 0 ≤ x ∧ x < (n : Int)) (src : List Int) (e : Nat) (he : e ≤ 64) (c : Nat) (hc : c < n) (ns : List Int) (hns : ∀ x, x ∈ ns ↔ A c x) (hnl : ns.length ≤ 4) :
    ∀ (r m : Nat) (d : List Int), m + r = ns.length → Lv A n src e c d → rd d (c : Int) = e → (∀ j : Nat, j < m → 0 ≤ rd d (rd ns (j : Int)) ∧ rd d (rd ns (j : Int)) ≤ (e : Int) + 1) →
    ∃ d', Lv A n src e ((c : Int) + 1) d' ∧ ∀ k, spec_StepsFrom.l4 (k + r + 1) d (e : Int) (c : Int) ns (m : Int) a b s = spec_StepsFrom.l3 k d' (e : Int) ((c + 1 : Nat) : Int) a b s
  | 0, m, d, hm, hL, hce, hnb => by
    refine ⟨d, hL.next (fun _ => ?_), fun k => ?_⟩
    · intro x hx
      obtain ⟨j, hj, ej⟩ := (mem_rd ns x).mp ((hns x).mpr hx)
      rw [← ej, hce]
      exact hnb j (by omega)
    · rw [spec_StepsFrom.l4, if_neg (by omega), wS c (by omega)]
  | r + 1, m, d, hm, hL, hce, hnb => by
    obtain ⟨x, ex⟩ : ∃ x, x = rd ns (m : Int) := ⟨_, rfl⟩
    have hx : A c x := (hns x).mp (by rw [ex, rd_get ns m (by omega)]; exact List.getElem_mem _)
    obtain ⟨x0, x1⟩ := hA c x hx
    have hl := hL.part.len
    have hk : ∀ k : Nat, k + (r + 1) + 1 = (k + r + 1) + 1 := fun k => by omega
    have d1 : (m : Int) < (ns.length : Int) := by omega
    have d2 : (0 : Int) ≤ (m : Int) := by omega
    have d3 : x < (d.length : Int) := by omega
    by_cases hneg : rd d x < 0
    · obtain ⟨hL', e1, e2⟩ := hL.step hA (by omega) (by omega) hce hx hneg
      obtain ⟨d', h1, h2⟩ := spec_l4 A a b s n hn hA src e he c hc ns hns hnl r (m + 1) _ (by omega) hL' (by
        rw [e2 c (by omega) (by intro ec; rw [← ec] at hneg; omega)]; exact hce) (by
        intro j hj
        by_cases ej : j = m
        · rw [ej, ← ex, e1]; exact ⟨by omega, Int.le_refl _⟩
        · obtain ⟨g1, g2⟩ := hnb j (by omega)
          have hjx : A c (rd ns (j : Int)) := (hns _).mp (by rw [rd_get ns j (by omega)]; exact List.getElem_mem _)
          rw [e2 _ (hA _ _ hjx).1 (by intro ee; rw [ee] at g1; omega)]
          exact ⟨g1, g2⟩)
      refine ⟨d', h1, fun k => ?_⟩
      rw [hk, spec_StepsFrom.l4, ← ex, if_pos d1, if_pos d2, if_pos x0, if_pos d3, if_pos hneg, wS m (by omega), w64 (x := (e : Int) + 1) (by omega) (by omega)]
      exact h2 k
    · have ht := hL.top x x0 x1
      obtain ⟨d', h1, h2⟩ := spec_l4 A a b s n hn hA src e he c hc ns hns hnl r (m + 1) d (by omega) hL hce (by
        intro j hj
        by_cases ej : j = m
        · rw [ej, ← ex]; exact ⟨by omega, ht⟩
        · exact hnb j (by omega))
      refine ⟨d', h1, fun k => ?_⟩
      rw [hk, spec_StepsFrom.l4, ← ex, if_pos d1, if_pos d2, if_pos x0, if_pos d3, if_neg hneg, wS m (by omega)]
      exact h2 k
theorem lab_free {a : Int} {s : ByteArray} {src d : List Int} (h : Part (Adj a s) s.size src d) (hfr : ∀ x ∈ src, Fr s x) (c : Int) (c0 : 0 ≤ c) (c1 : c < (s.size : Int)) (hc : 0 ≤ rd d c) : Fr s c := by
  by_cases hz : rd d c = 0
  · exact hfr _ ((h.zero _ c0 c1).mp hz)
  · obtain ⟨b', _, _, _, h4⟩ := h.back _ c0 c1 (by omega)
    exact h4.2.1
theorem spec_l3 (a b : Int) (s : ByteArray) (hG : Gok a b s) (src : List Int) (hfr : ∀ x ∈ src, Fr s x) (e : Nat) (he : e ≤ 64) : ∀ (r c : Nat) (d : List Int), c + r = s.size → Lv (Adj a s) s.size src e c d →
    ∃ d' K0 K1, Lv (Adj a s) s.size src e (s.size : Int) d' ∧ ∀ k, K1 ≤ k → spec_StepsFrom.l3 (k + K0) d (e : Int) (c : Int) a b s = spec_StepsFrom.l2 k d' ((e + 1 : Nat) : Int) a b s
  | 0, c, d, hc, hL => by
    obtain rfl : c = s.size := by omega
    refine ⟨d, 1, 0, hL, fun k _ => ?_⟩
    rw [spec_StepsFrom.l3, if_neg (by omega), wS e (by omega)]
  | r + 1, c, d, hc, hL => by
    have hs := Gok_size hG
    have hA : ∀ c x, Adj a s c x → 0 ≤ x ∧ x < (s.size : Int) := fun c x h => Fr_lt h.2.1
    have hl := hL.part.len
    have d1 : (c : Int) < (s.size : Int) := by omega
    have d2 : (0 : Int) ≤ (c : Int) := by omega
    have d3 : (c : Int) < (d.length : Int) := by omega
    by_cases hce : rd d (c : Int) = e
    · obtain ⟨ns, KA, h1, h2, h3⟩ := specAround_ev a b s hG _ (lab_free hL.part hfr c d2 d1 (by omega))
      obtain ⟨d', h4, h5⟩ := spec_l4 (Adj a s) a b s s.size hs hA src e he c (by omega) ns h2 h3 ns.length 0 d (by omega) hL hce (fun j hj => absurd hj (by omega))
      obtain ⟨d2', K0, K1, h6, h7⟩ := spec_l3 a b s hG src hfr e he r (c + 1) d' (by omega) h4
      refine ⟨d2', K0 + ns.length + 1 + 1, K1 + KA, h6, fun k hk => ?_⟩
      rw [show k + (K0 + ns.length + 1 + 1) = (k + K0 + ns.length + 1) + 1 by omega, spec_StepsFrom.l3, if_pos d1, if_pos d2, if_pos d3, if_pos hce, h1 _ (by omega), Option.bind_some]
      have h8 := h5 (k + K0)
      rw [show ((0 : Nat) : Int) = 0 from rfl] at h8
      rw [h8]
      exact h7 k (by omega)
    · obtain ⟨d2', K0, K1, h6, h7⟩ := spec_l3 a b s hG src hfr e he r (c + 1) d (by omega) (hL.next (fun h => absurd h hce))
      refine ⟨d2', K0 + 1, K1, h6, fun k hk => ?_⟩
      rw [show k + (K0 + 1) = (k + K0) + 1 by omega, spec_StepsFrom.l3, if_pos d1, if_pos d2, if_pos d3, if_neg hce, wS c (by omega)]
      exact h7 k hk
theorem spec_l2 (a b : Int) (s : ByteArray) (hG : Gok a b s) (src : List Int) (hfr : ∀ x ∈ src, Fr s x) : ∀ (r e : Nat) (d : List Int), e + r = s.size → Part (Adj a s) s.size src d → (∀ y : Int, 0 ≤ y → y < (s.size : Int) → rd d y ≤ e) → (∀ y : Int, 0 ≤ y → y < (s.size : Int) → 0 ≤ rd d y → rd d y < e → Clo (Adj a s) d y) →
    ∃ v K, (∀ k, K ≤ k → spec_StepsFrom.l2 k d (e : Int) a b s = some v) ∧ Lab (Adj a s) s.size src v
  | 0, e, d, he, hp, ht, hlo => by
    refine ⟨d, 1, fun k hk => ?_, hp, ?_⟩
    · obtain ⟨k, rfl⟩ : ∃ m, k = m + 1 := ⟨k - 1, by omega⟩
      rw [spec_StepsFrom.l2, if_neg (by omega)]
    · intro c h0 h1 h2
      have := hp.lt c h0 h1
      exact hlo c h0 h1 h2 (by omega)
  | r + 1, e, d, he, hp, ht, hlo => by
    have hs := Gok_size hG
    obtain ⟨d', K0, K1, h1, h2⟩ := spec_l3 a b s hG src hfr e (by omega) s.size 0 d (by omega) ⟨hp, fun y y0 y1 => by have := ht y y0 y1; omega, hlo, fun y y0 y1 y2 _ => by omega⟩
    obtain ⟨v, K2, h3, h4⟩ := spec_l2 a b s hG src hfr r (e + 1) d' (by omega) h1.part (fun y y0 y1 => by have := h1.top y y0 y1; omega) (fun y y0 y1 g1 g2 => by
      by_cases hy : rd d' y = e
      · exact h1.same y y0 y1 y1 hy
      · exact h1.lo y y0 y1 g1 (by omega))
    refine ⟨v, K0 + K1 + K2 + 1, fun k hk => ?_, h4⟩
    obtain ⟨k, rfl⟩ : ∃ m, k = (m + K0) + 1 := ⟨k - K0 - 1, by omega⟩
    rw [spec_StepsFrom.l2, if_pos (by omega)]
    have h5 := h2 k (by omega)
    rw [show ((0 : Nat) : Int) = 0 from rfl] at h5
    rw [h5]
    exact h3 k (by omega)
theorem spec_l1 (a b : Int) (s : ByteArray) (hs : s.size ≤ 64) (src : List Int) (hlen : src.length ≤ 1048576) : ∀ (r i : Nat) (acc : List Int), i + r = s.size → acc.length = i → (∀ j : Nat, j < i → rd acc (j : Int) = if (j : Int) ∈ src then 0 else -1) →
    ∃ d, d.length = s.size ∧ (∀ j : Nat, j < s.size → rd d (j : Int) = if (j : Int) ∈ src then 0 else -1) ∧ ∀ k, src.length + 1 ≤ k → spec_StepsFrom.l1 (k + r + 1) src acc (i : Int) a b s = spec_StepsFrom.l2 k d 0 a b s
  | 0, i, acc, hi, hl, h => by
    obtain rfl : i = s.size := by omega
    refine ⟨acc, hl, h, fun k _ => ?_⟩
    rw [spec_StepsFrom.l1, if_neg (by omega)]
  | r + 1, i, acc, hi, hl, h => by
    obtain ⟨v, ev⟩ : ∃ v : Int, v = if (i : Int) ∈ src then 0 else -1 := ⟨_, rfl⟩
    obtain ⟨d, h1, h2, h3⟩ := spec_l1 a b s hs src hlen r (i + 1) (acc ++ [v]) (by omega) (by simp [hl]) (by
      intro j hj
      by_cases e : j = i
      · rw [e, ← hl, rd_app2, ev, hl]
      · rw [rd_app1 acc v j (by omega)]; exact h j (by omega))
    refine ⟨d, h1, h2, fun k hk => ?_⟩
    rw [show k + (r + 1) + 1 = (k + r + 1) + 1 by omega, spec_StepsFrom.l1, if_pos (by omega), has_eq src (i : Int) (by omega) _ (by omega), Option.bind_some]
    by_cases hm : (i : Int) ∈ src
    · rw [if_pos hm] at ev
      rw [decide_eq_true hm, if_pos rfl, if_pos (by omega), wS i (by omega), show acc ++ [0] = acc ++ [v] by rw [ev]]
      exact h3 k hk
    · rw [if_neg hm] at ev
      rw [decide_eq_false hm, if_neg (by decide), if_pos (by omega), wS i (by omega), show acc ++ [-1] = acc ++ [v] by rw [ev]]
      exact h3 k hk
theorem spec_l0 (a b : Int) (s : ByteArray) (hG : Gok a b s) (src : List Int) (hlen : src.length ≤ 1048576) (hfr : ∀ x ∈ src, Fr s x) : ∀ (r i : Nat), i + r = src.length → ∃ K, ∀ k, K ≤ k → spec_StepsFrom.l0 (k + r + 1) src [] (i : Int) a b s = spec_StepsFrom.l1 k src [] 0 a b s
  | 0, i, hi => by
    refine ⟨0, fun k _ => ?_⟩
    rw [spec_StepsFrom.l0, if_neg (by omega)]
  | r + 1, i, hi => by
    have hs := Gok_size hG
    obtain ⟨g, K1, h1, q1⟩ := specFreeAt_ev a b s (by omega) (rd src (i : Int))
    obtain rfl := q1.mpr ⟨hG, hfr _ (by rw [rd_get src i (by omega)]; exact List.getElem_mem _)⟩
    obtain ⟨K2, h2⟩ := spec_l0 a b s hG src hlen hfr r (i + 1) (by omega)
    refine ⟨K1 + K2, fun k hk => ?_⟩
    rw [show k + (r + 1) + 1 = (k + r + 1) + 1 by omega, spec_StepsFrom.l0, if_pos (by omega), if_pos (by omega), h1 _ (by omega), Option.bind_some, if_pos rfl, wS i (by omega)]
    exact h2 k (by omega)
theorem specSteps_ev (a b : Int) (s : ByteArray) (hG : Gok a b s) (src : List Int) (hlen : src.length ≤ 1048576) (hfr : ∀ x ∈ src, Fr s x) : ∃ r K, (∀ k, K ≤ k → spec_StepsFrom.f k a b s src = some r) ∧ Lab (Adj a s) s.size src r := by
  have hs := Gok_size hG
  obtain ⟨g0, K0, h0, q0⟩ := gridOk_ev a b s (by omega)
  obtain rfl := q0.mpr hG
  obtain ⟨K1, h1⟩ := spec_l0 a b s hG src hlen hfr src.length 0 (by omega)
  obtain ⟨d, h2, h3, h4⟩ := spec_l1 a b s hs src hlen s.size 0 [] (by omega) rfl (fun j hj => absurd hj (by omega))
  have h3' : ∀ c : Int, 0 ≤ c → c < (s.size : Int) → rd d c = if c ∈ src then 0 else -1 := by
    intro c c0 c1
    obtain ⟨j, rfl⟩ := Int.eq_ofNat_of_zero_le c0
    exact h3 j (by omega)
  have hv : ∀ c : Int, 0 ≤ c → c < (s.size : Int) → (rd d c = 0 ∨ rd d c = -1) ∧ (rd d c = 0 ↔ c ∈ src) := by
    intro c c0 c1
    rw [h3' c c0 c1]
    by_cases hm : c ∈ src
    · rw [if_pos hm]; simp [hm]
    · rw [if_neg hm]; simp [hm]
  have hp : Part (Adj a s) s.size src d := ⟨h2, fun c c0 c1 => by have := (hv c c0 c1).1; omega, fun c c0 c1 => (hv c c0 c1).2, fun c c0 c1 hpos => by have := (hv c c0 c1).1; omega⟩
  obtain ⟨v, K2, h5, h6⟩ := spec_l2 a b s hG src hfr s.size 0 d (by omega) hp (fun c c0 c1 => by have := (hv c c0 c1).1; omega) (fun c c0 c1 g1 g2 => by omega)
  refine ⟨v, K0 + K1 + K2 + src.length + 1 + s.size + 1 + src.length + 1, fun k hk => ?_, h6⟩
  unfold spec_StepsFrom.f
  rw [Option.bind_some, (h0 _ (by omega)).1, Option.bind_some, if_pos rfl]
  obtain ⟨k, rfl⟩ : ∃ m, k = ((m + s.size + 1) + src.length + 1) := ⟨k - s.size - 1 - src.length - 1, by omega⟩
  have h7 := h1 (k + s.size + 1) (by omega)
  have h8 := h4 k (by omega)
  rw [show ((0 : Nat) : Int) = 0 from rfl] at h7 h8
  rw [h7, h8]
  exact h5 k (by omega)
/-- Both answer the same steps, and none of them is large. -/
theorem steps_ev (a b : Int) (s : ByteArray) (hG : Gok a b s) (src : List Int) (hlen : src.length ≤ 1048576) (hfr : ∀ x ∈ src, Fr s x) : ∃ r K, (∀ k, K ≤ k → spec_StepsFrom.f k a b s src = some r ∧ impl_StepsFrom.f k a b s src = some r) ∧ r.length = s.size ∧ ∀ c : Int, 0 ≤ c → c < (s.size : Int) → -1 ≤ rd r c ∧ rd r c < 64 := by
  have hs := Gok_size hG
  obtain ⟨r, K, h1, h2⟩ := specSteps_ev a b s hG src hlen hfr
  obtain ⟨r', K', h3, h4⟩ := implSteps_ev a b s hG src hlen hfr
  obtain rfl := Lab.uniq (n := s.size) (fun (c x : Int) (h : Adj a s c x) => Fr_lt h.2.1) h2 h4
  refine ⟨r, K + K', fun k hk => ⟨h1 k (by omega), h3 k (by omega)⟩, h2.1.len, fun c c0 c1 => ⟨h2.1.low c c0 c1, ?_⟩⟩
  have := h2.1.lt c c0 c1
  omega
end Go.Proofs.Ytooofofeihkpcaa.Pure
