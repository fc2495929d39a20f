/- A deal is fair: what each gets, and all together. -/
import Derived.Test.YtngoejcaabgidaaPdeal
set_option linter.unusedSimpArgs false
namespace Go.Proofs.Ytngoejcaabgidaa.Pure
open Go.RowKit Go.Proofs.Ytngoejcaabgidaa.Q Go.Proofs.YtngoejcaabgidaaW.PrintWords Go.Proofs.YtngoejcaabgidaaW.PrintLast Go.Proofs.YtngoejcaabgidaaW.PrintMore
/-- The sum of d numbers from place i on. -/
def psum (p : List Int) : Nat → Nat → Int
  | 0, _ => 0
  | d + 1, i => rd p (i : Int) + psum p d (i + 1)
/-- How many of the places from i on are in l. -/
def cnt (l : List Int) : Nat → Nat → Int
  | 0, _ => 0
  | d + 1, i => (if (i : Int) ∈ l then 1 else 0) + cnt l d (i + 1)
theorem cnt_nil : ∀ d i, cnt [] d i = 0
  | 0, _ => rfl
  | d + 1, i => by unfold cnt; rw [cnt_nil d (i + 1)]; simp
theorem cnt_cons (a : Nat) (l : List Int) (ha : (a : Int) ∉ l) : ∀ d i, cnt ((a : Int) :: l) d i = cnt l d i + if i ≤ a ∧ a < i + d then 1 else 0
  | 0, i => by rw [if_neg (by omega)]; rfl
  | d + 1, i => by
    unfold cnt
    rw [cnt_cons a l ha d (i + 1)]
    by_cases e : i = a
    · subst e
      rw [if_pos List.mem_cons_self, if_neg ha, if_neg (by omega), if_pos (by omega)]
      omega
    · have h : ((i : Int) ∈ (a : Int) :: l) ↔ (i : Int) ∈ l := by
        rw [List.mem_cons]
        exact ⟨fun h => h.elim (fun e2 => absurd (Int.ofNat.inj e2) e) id, .inr⟩
      simp only [h]
      by_cases c : i + 1 ≤ a ∧ a < i + 1 + d
      · rw [if_pos c, if_pos (show i ≤ a ∧ a < i + (d + 1) by omega)]; omega
      · rw [if_neg c, if_neg (show ¬ (i ≤ a ∧ a < i + (d + 1)) by omega)]; omega
theorem cnt_all (n : Nat) : ∀ l : List Int, l.Nodup → (∀ x ∈ l, ∃ a : Nat, x = (a : Int) ∧ a < n) → cnt l n 0 = (l.length : Int)
  | [], _, _ => cnt_nil n 0
  | x :: l, hn, hm => by
    obtain ⟨a, rfl, ha⟩ := hm x List.mem_cons_self
    have h := List.nodup_cons.mp hn
    rw [cnt_cons a l h.1, if_pos (by omega), cnt_all n l h.2 (fun y hy => hm y (List.mem_cons_of_mem _ hy)), List.length_cons]
    omega
section
variable (w r : List Int) (f : List Bool) (R D : Int) (hw : Small w) (hR : 0 ≤ R ∧ R ≤ 160000) (hD : ∀ j : Nat, j < w.length → rdOf false f (j : Int) ≠ true → rd w (j : Int) ≤ D) (hD2 : D ≤ 160000)
theorem plc_none : ∀ d i, plcD w f d i = [] → qsumD w f R D d i = 0
  | 0, _, _ => rfl
  | d + 1, i, h => by
    unfold plcD at h
    unfold qsumD
    by_cases c : rdOf false f (i : Int) = true
    · rw [if_pos c] at h ⊢
      rw [plc_none d (i + 1) h]; rfl
    · rw [if_neg c] at h ⊢
      by_cases c2 : rd w (i : Int) > 0
      · rw [if_pos c2] at h
        cases h
      · rw [if_neg c2] at h ⊢
        rw [plc_none d (i + 1) h]; rfl
include hw hR hD hD2
/-- What is over is less than one for each place. -/
theorem key_sums : ∀ d i, i + d ≤ w.length → D * qsumD w f R D d i ≤ R * sumN w f d i ∧ R * sumN w f d i ≤ D * qsumD w f R D d i + (D - 1) * ((plcD w f d i).length : Int)
  | 0, i, _ => by simp [qsumD, sumN, plcD]
  | d + 1, i, hi => by
    obtain ⟨h1, h2⟩ := key_sums d (i + 1) (by omega)
    have hwi := hw i
    unfold qsumD sumN plcD
    by_cases c : rdOf false f (i : Int) = true
    · rw [if_pos c, if_pos c, if_pos c, Int.zero_add, Int.zero_add]
      exact ⟨h1, h2⟩
    · rw [if_neg c, if_neg c, if_neg c]
      by_cases c2 : rd w (i : Int) > 0
      · have hs := share_bound w f R D hw hR hD hD2 i (by omega) c c2
        have hp := prod_bound w R hw hR i
        have e1 := Int.mul_tdiv_add_tmod (R * rd w (i : Int)) D
        have e2 := Int.tmod_nonneg D hp.1
        have e3 := Int.tmod_lt_of_pos (R * rd w (i : Int)) hs.1
        rw [if_pos c2, if_pos c2, Int.mul_add, Int.mul_add, List.length_cons, show (((plcD w f d (i + 1)).length + 1 : Nat) : Int) = ((plcD w f d (i + 1)).length : Int) + 1 by omega, Int.mul_add, Int.mul_one]
        generalize D * Int.tdiv (R * rd w (i : Int)) D = a at *
        generalize (R * rd w (i : Int)).tmod D = b at *
        generalize R * rd w (i : Int) = e at *
        generalize (D - 1) * ((plcD w f d (i + 1)).length : Int) = g at *
        generalize D * qsumD w f R D d (i + 1) = g2 at *
        generalize R * sumN w f d (i + 1) = g3 at *
        omega
      · have hz : rd w (i : Int) = 0 := by omega
        rw [if_neg c2, if_neg c2, hz, Int.zero_add, Int.zero_add]
        exact ⟨h1, h2⟩
end
theorem base_sum (w r : List Int) (f : List Bool) (R D : Int) (p l : List Int) (n : Nat) (h : ∀ i : Nat, i < n → rd p (i : Int) = baseD w r f R D i + if (i : Int) ∈ l then 1 else 0) : ∀ d i, i + d ≤ n → psum p d i = bsumD w r f R D d i + cnt l d i
  | 0, _, _ => rfl
  | d + 1, i, hi => by
    unfold psum bsumD cnt
    rw [base_sum w r f R D p l n h d (i + 1) (by omega), h i (by omega)]
    omega
theorem taken_first (key : Nat → Int) (n : Nat) (s : List Int) (h : Ordered key n s) (m : Nat) (x y : Int) (hx : x ∈ s) (hy : y ∈ s.take m) (hk : key y.toNat < key x.toNat) : x ∈ s.take m := by
  have hs := List.take_append_drop m s
  rw [← hs] at hx
  rcases List.mem_append.mp hx with e | e
  · exact e
  · have hp := h.2
    rw [← hs] at hp
    have := (List.pairwise_append.mp hp).2.2 y hy x e
    omega
/-- All that the law asks of a deal. -/
structure Fair (w r : List Int) (t : Int) (f : List Bool) (p : List Int) : Prop where
  len : p.length = w.length
  flen : f.length = w.length
  low : ∀ i : Nat, i < w.length → 0 ≤ rd p (i : Int)
  high : ∀ i : Nat, i < w.length → rd p (i : Int) ≤ rd r (i : Int)
  none : ∀ i : Nat, i < w.length → rd w (i : Int) = 0 → rd p (i : Int) = 0
  pos : ∀ i : Nat, i < w.length → rdOf false f (i : Int) = true → 0 < rd w (i : Int)
  full : ∀ i : Nat, i < w.length → rdOf false f (i : Int) = true → rd p (i : Int) = rd r (i : Int)
  more : ∀ i k : Nat, i < w.length → k < w.length → rdOf false f (i : Int) ≠ true → rdOf false f (k : Int) ≠ true → rd w (k : Int) < rd w (i : Int) → rd p (k : Int) ≤ rd p (i : Int)
  like : ∀ i k : Nat, i < w.length → k < w.length → rdOf false f (i : Int) ≠ true → rdOf false f (k : Int) ≠ true → rd w (i : Int) = rd w (k : Int) → rd p (i : Int) ≤ rd p (k : Int) + 1
  sum : psum p w.length 0 = t
theorem deal_fair (w r : List Int) (t : Int) (h : DOk w r t = true) : Fair w r t (fullL w r t) (dealL w r t) := by
  obtain ⟨hsw, hsr, hl, hn, ht0, ht1, hR0, hR1⟩ := DOk_facts w r t h
  have hN := sumN_bound w hsw (fullL w r t) w.length 0
  have hD : ∀ j : Nat, j < w.length → rdOf false (fullL w r t) (j : Int) ≠ true → rd w (j : Int) ≤ (left2 w r t (fullL w r t)).2 := fun j hj hc => sumN_one w hsw _ w.length 0 j (Nat.zero_le _) (by omega) hc
  have hD2 : (left2 w r t (fullL w r t)).2 ≤ 160000 := by show sumN w (fullL w r t) w.length 0 ≤ 160000; omega
  have hget := fun i hi => dealL_get w r t h i hi
  have hpos := fun j hj hf => fullL_pos w r t h j hj hf
  have hrest := fun j hj hf hw => fullL_rest w r t h j hj hf hw
  obtain ⟨hperm, hord⟩ := sortD_spec w (fullL w r t) (left2 w r t (fullL w r t)).1 (left2 w r t (fullL w r t)).2 hsw ⟨hR0, hR1⟩
  have hkey := key_sums w (fullL w r t) (left2 w r t (fullL w r t)).1 (left2 w r t (fullL w r t)).2 hsw ⟨hR0, hR1⟩ hD hD2 w.length 0 (by omega)
  have hplc := plc_none w (fullL w r t) (left2 w r t (fullL w r t)).1 (left2 w r t (fullL w r t)).2 w.length 0
  have hshare := share_bound w (fullL w r t) (left2 w r t (fullL w r t)).1 (left2 w r t (fullL w r t)).2 hsw ⟨hR0, hR1⟩ hD hD2
  have hbase := base_bound w r (fullL w r t) (left2 w r t (fullL w r t)).1 (left2 w r t (fullL w r t)).2 hsw hsr ⟨hR0, hR1⟩ hD hD2
  have hbs := base_sum w r (fullL w r t) (left2 w r t (fullL w r t)).1 (left2 w r t (fullL w r t)).2 (dealL w r t) _ w.length hget w.length 0 (by omega)
  have hbq := bsum_eq w r (fullL w r t) (left2 w r t (fullL w r t)).1 (left2 w r t (fullL w r t)).2 w.length 0
  have hmem := plcD_mem w (fullL w r t) w.length 0
  have hR : (left2 w r t (fullL w r t)).1 = t - sumF r (fullL w r t) w.length 0 := rfl
  have hDe : (left2 w r t (fullL w r t)).2 = sumN w (fullL w r t) w.length 0 := rfl
  have hparts := sumW_parts w r (fullL w r t) w.length (fun j hj hf => fullL_pos w r t h j hj hf) w.length 0 (by omega)
  have hroom := roomSum_eq w r hsr w.length 0 0 hn (by omega) (by omega)
  have htr : t ≤ roomSum w r w.length 0 0 := (DOk_len w r t h).2.2.2.2.2
  have hlen := dealL_length w r t h
  have hflen := fullL_length w r t h
  rw [← hDe] at hkey
  generalize hfe : fullL w r t = f at *
  generalize hpe : dealL w r t = p at *
  generalize hRe : (left2 w r t f).1 = R at *
  generalize hDd : (left2 w r t f).2 = D at *
  clear hRe hDd
  generalize hse : sortD w f R D = s at *
  generalize hqe : qsumD w f R D w.length 0 = q at *
  have hll : s.length = (plcD w f w.length 0).length := hperm.length_eq
  -- how many get one more
  have hin : ∀ x : Nat, (x : Int) ∈ s ↔ x < w.length ∧ rdOf false f (x : Int) ≠ true ∧ rd w (x : Int) > 0 := fun x => by
    rw [hperm.mem_iff, hmem]
    constructor
    · rintro ⟨a, e, _, h1, h2⟩
      obtain rfl : x = a := Int.ofNat.inj e
      exact ⟨by omega, h2⟩
    · rintro ⟨h1, h2⟩
      exact ⟨x, rfl, Nat.zero_le _, by omega, h2⟩
  have hmore : 0 ≤ R - q ∧ R - q ≤ (s.length : Int) := by
    by_cases hs : s.length = 0
    · have hp0 : plcD w f w.length 0 = [] := List.length_eq_zero_iff.mp (by omega)
      have hq0 := hplc hp0
      have hu : ∀ d i, i + d ≤ w.length → sumU w r f d i = 0 := by
        intro d
        induction d with
        | zero => intro i _; rfl
        | succ d ih =>
          intro i hi
          unfold sumU
          rw [ih (i + 1) (by omega)]
          by_cases c : rdOf false f (i : Int) = true
          · rw [if_pos c]; rfl
          · rw [if_neg c]
            by_cases c2 : rd w (i : Int) > 0
            · have := (hin i).mpr ⟨by omega, c, c2⟩
              have : s = [] := List.length_eq_zero_iff.mp hs
              simp_all
            · rw [if_neg c2]; rfl
      have := hu w.length 0 (by omega)
      omega
    · obtain ⟨x, hx⟩ : ∃ x, x ∈ s := by
        match s, hs with
        | x :: _, _ => exact ⟨x, List.mem_cons_self⟩
      obtain ⟨a, rfl, ha, _⟩ := hord.1 x hx
      obtain ⟨_, h2, h3⟩ := (hin a).mp hx
      have hD0 := (hshare a ha h2 h3).1
      obtain ⟨k1, k2⟩ := hkey
      rw [← hll] at k2
      have e1 : D * (R - q) = R * D - D * q := by rw [Int.mul_sub, Int.mul_comm D R]
      have e2 : (D - 1) * (s.length : Int) = D * (s.length : Int) - (s.length : Int) := by rw [Int.sub_mul, Int.one_mul]
      constructor
      · refine Int.not_lt.mp fun hlt => ?_
        have : D * (R - q) < D * 0 := Int.mul_lt_mul_of_pos_left hlt hD0
        omega
      · refine Int.not_lt.mp fun hlt => ?_
        have : D * (s.length : Int) < D * (R - q) := Int.mul_lt_mul_of_pos_left hlt hD0
        omega
  have hm : (more (R - q) s.length : Int) = R - q := by
    rw [more_eq]
    split
    · omega
    · split <;> omega
  generalize hme : more (R - q) s.length = m at *
  have htn : (s.take m).Nodup := List.Pairwise.sublist (List.take_sublist _ _) hord.nodup
  have htl : ((s.take m).length : Int) = R - q := by rw [List.length_take]; omega
  have hcnt := cnt_all w.length (s.take m) htn (fun x hx => by
    obtain ⟨a, e, ha, _⟩ := hord.1 x (List.mem_of_mem_take hx)
    exact ⟨a, e, ha⟩)
  have htake : ∀ x : Nat, (x : Int) ∈ s.take m → x < w.length ∧ rdOf false f (x : Int) ≠ true ∧ rd w (x : Int) > 0 := fun x hx => (hin x).mp (List.mem_of_mem_take hx)
  have hq : ∀ i : Nat, i < w.length → rdOf false f (i : Int) ≠ true → rd w (i : Int) > 0 → baseD w r f R D i = Int.tdiv (R * rd w (i : Int)) D := fun i _ c c2 => by unfold baseD; rw [if_neg c, if_pos c2]
  have hqe2 : ∀ i : Nat, i < w.length → D * Int.tdiv (R * rd w (i : Int)) D + keyD w R D i = R * rd w (i : Int) := fun i _ => Int.mul_tdiv_add_tmod _ _
  have hkl : ∀ i : Nat, i < w.length → rdOf false f (i : Int) ≠ true → rd w (i : Int) > 0 → 0 < D ∧ 0 ≤ keyD w R D i ∧ keyD w R D i < D := fun i hi c c2 => by
    have := hshare i hi c c2
    exact ⟨this.1, this.2.2.2, Int.tmod_lt_of_pos _ this.1⟩
  have hnone : ∀ i : Nat, i < w.length → rd w (i : Int) = 0 → rd p (i : Int) = 0 := fun i hi hz => by
    rw [hget i hi, if_neg (fun hx => by have := htake i hx; omega)]
    unfold baseD
    rw [if_neg (fun e => by have := hpos i hi e; omega), if_neg (by omega)]
    rfl
  have hlow : ∀ i : Nat, i < w.length → 0 ≤ rd p (i : Int) := fun i hi => by
    have := hbase i hi
    rw [hget i hi]
    split <;> omega
  refine ⟨hlen, hflen, hlow, fun i hi => ?_, hnone, hpos, fun i hi hf => ?_, fun i k hi hk hfi hfk hlt => ?_, fun i k hi hk hfi hfk he => ?_, ?_⟩
  · rw [hget i hi]
    by_cases c : rdOf false f (i : Int) = true
    · rw [if_neg (fun hx => (htake i hx).2.1 c)]
      unfold baseD
      rw [if_pos c]
      omega
    · by_cases c2 : rd w (i : Int) > 0
      · have h1 := hrest i hi c c2
        have h2 := hqe2 i hi
        obtain ⟨h3, h4, h5⟩ := hkl i hi c c2
        rw [hq i hi c c2]
        have h6 : Int.tdiv (R * rd w (i : Int)) D < rd r (i : Int) := by
          refine Int.not_le.mp fun hle => ?_
          have := Int.mul_le_mul_of_nonneg_left hle (Int.le_of_lt h3)
          omega
        split <;> omega
      · have := hsr i
        have := hnone i hi (by have := hsw i; omega)
        rw [hget i hi] at this
        omega
  · rw [hget i hi, if_neg (fun hx => (htake i hx).2.1 hf)]
    unfold baseD
    rw [if_pos hf]
    omega
  · by_cases c2 : rd w (k : Int) > 0
    · have c1 : rd w (i : Int) > 0 := by omega
      obtain ⟨d1, d2, d3⟩ := hkl i hi hfi c1
      obtain ⟨_, d4, d5⟩ := hkl k hk hfk c2
      have e1 := hqe2 i hi
      have e2 := hqe2 k hk
      rw [hget i hi, hget k hk, hq i hi hfi c1, hq k hk hfk c2]
      have hRw : R * rd w (k : Int) ≤ R * rd w (i : Int) := Int.mul_le_mul_of_nonneg_left (by omega) hR0
      generalize hqi : Int.tdiv (R * rd w (i : Int)) D = qi at *
      generalize hqk : Int.tdiv (R * rd w (k : Int)) D = qk at *
      have hle : qk ≤ qi := by
        refine Int.not_lt.mp fun hlt2 => ?_
        have : D * (qi + 1) ≤ D * qk := Int.mul_le_mul_of_nonneg_left (by omega) (Int.le_of_lt d1)
        rw [Int.mul_add, Int.mul_one] at this
        omega
      by_cases hm1 : (k : Int) ∈ s.take m
      · rw [if_pos hm1]
        by_cases hqq : qk = qi
        · subst hqq
          have hRpos : 0 < R := by
            refine Int.not_le.mp fun hR' => ?_
            have hR00 : R = 0 := by omega
            have hqn := (hbase k hk).1
            have : (s.take m).length = 0 := by
              have hq0 : 0 ≤ q := by
                have := (qsum_bound w f R D hsw ⟨hR0, hR1⟩ hD hD2 w.length 0 (by omega)).1
                omega
              omega
            rw [List.length_eq_zero_iff.mp this] at hm1
            cases hm1
          have hRw2 : R * rd w (k : Int) < R * rd w (i : Int) := Int.mul_lt_mul_of_pos_left hlt hRpos
          have hki : keyD w R D k < keyD w R D i := by omega
          have := taken_first (keyD w R D) w.length s hord m (i : Int) (k : Int) ((hin i).mpr ⟨hi, hfi, c1⟩) hm1 (by simpa using hki)
          rw [if_pos this]
          omega
        · split <;> omega
      · rw [if_neg hm1]
        split <;> omega
    · rw [hnone k hk (by have := hsw k; omega)]
      exact hlow i hi
  · rw [hget i hi, hget k hk]
    have hb : baseD w r f R D i = baseD w r f R D k := by
      unfold baseD
      rw [if_neg hfi, if_neg hfk, he]
    rw [hb]
    split <;> split <;> omega
  · omega
end Go.Proofs.Ytngoejcaabgidaa.Pure
