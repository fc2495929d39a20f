-- Written by a session's own program (wip/tools/myprint.py) over the kit's printer, out of the translation. Not trusted: Lean checks it.
import Derived.Test.YtmdkfmbgddhjcaaQ0
import Derived.Test.YtmdkfmbgddhjcaaQ1
import Derived.Test.YtmdkfmbgddhjcaaQ2
import Derived.Test.YtmdkfmbgddhjcaaQ3
import Derived.Test.YtmdkfmbgddhjcaaQ4
namespace Go.Proofs.Ytmdkfmbgddhjcaa.Q
open Go.RowKit Go.Proofs.YtmdkfmbgddhjcaaW.PrintWords Go.Proofs.YtmdkfmbgddhjcaaW.PrintLast Go.Proofs.YtmdkfmbgddhjcaaW.PrintMore
attribute [local go_sem] max2_int min2_int max_two min_two max_three min_three max_four min_four   -- for this text's walks alone
set_option linter.unusedVariables false
set_option linter.unusedSimpArgs false

/-! ### laws_markIntSS: function 10 -/
/-! ### markIntSS: rows of rows that are the call's own, and lie apart, are marked one after the other -/
def iotaQ (m : Int) : Nat → List Int
  | 0 => []
  | d + 1 => m :: iotaQ (m + 1) d
theorem iotaQ_length : ∀ (m : Int) (d : Nat), (iotaQ m d).length = d
  | _, 0 => rfl
  | m, d + 1 => by simp [iotaQ, iotaQ_length (m + 1) d]
theorem markIntQ_l0 : ∀ (d i k : Nat) (l : List Int) (m : Int), i + d = l.length → l.length ≤ 9223372036854775807 → 0 ≤ m → m + d ≤ 9223372036854775807 → d < k →
    laws_markIntS.l0 k l m (i : Int) = some (m + d, l.take i ++ iotaQ m d)
  | 0, i, k, l, m, hi, hn, h0, hm, hk => by
    obtain ⟨k, rfl⟩ : ∃ m, k = m + 1 := ⟨k - 1, by omega⟩
    simp only [laws_markIntS.l0]
    rw [if_neg (by omega), List.take_of_length_le (by omega)]
    simp [iotaQ]
  | d + 1, i, k, l, m, hi, hn, h0, hm, hk => by
    obtain ⟨k, rfl⟩ : ∃ m, k = m + 1 := ⟨k - 1, by omega⟩
    simp only [laws_markIntS.l0]
    rw [if_pos (by omega), if_pos (by omega), show wrap64 (m + 1) = m + 1 by unfold wrap64; omega, show wrap64 ((i : Int) + 1) = ((i + 1 : Nat) : Int) by unfold wrap64; omega, Int.toNat_natCast,
      markIntQ_l0 d (i + 1) k _ (m + 1) (by simp; omega) (by simpa using hn) (by omega) (by omega) (by omega)]
    have ht : (l.set i m).take (i + 1) = l.take i ++ [m] := by
      rw [List.take_succ_eq_append_getElem (by simp; omega)]
      simp [List.take_set_of_le]
    rw [ht, List.append_assoc]
    congr 1
    refine Prod.ext ?_ rfl
    show m + 1 + (d : Int) = m + ((d + 1 : Nat) : Int)
    omega
theorem markIntQ (l : List Int) (m : Int) (hn : l.length ≤ 9223372036854775807) (h0 : 0 ≤ m) (hm : m + l.length ≤ 9223372036854775807) : laws_markIntS.f (l.length + 1) l m = some (m + l.length, iotaQ m l.length) := by
  have := markIntQ_l0 l.length 0 (l.length + 1) l m (by omega) hn h0 hm (by omega)
  simpa [laws_markIntS.f] using this
def rowsLen (l : List (List Int)) : Nat := (l.map fun x => x.length).sum
def rowsMark : List (List Int) → Int → List (List Int)
  | [], _ => []
  | x :: xs, m => iotaQ m x.length :: rowsMark xs (m + (x.length : Int))
def laws_markIntSS.f (l0 : List (List Int)) (a1 : Int) : Option (Int × List (List Int)) := if 0 ≤ a1 ∧ a1 + (rowsLen l0 : Int) ≤ 9223372036854775807 then some (a1 + (rowsLen l0 : Int), rowsMark l0 a1) else none
theorem rowsLen_take (l : List (List Int)) (i : Nat) (h : i < l.length) : rowsLen (l.take (i + 1)) = rowsLen (l.take i) + (l[i]).length := by
  unfold rowsLen
  rw [List.take_succ_eq_append_getElem h, List.map_append, List.sum_append]
  simp only [List.map_cons, List.map_nil, List.sum_cons, List.sum_nil]
  omega
theorem rowsLen_le (l : List (List Int)) (i : Nat) : rowsLen (l.take i) ≤ rowsLen l := by
  unfold rowsLen
  conv => rhs; rw [← List.take_append_drop i l, List.map_append, List.sum_append]
  omega
theorem rowsMark_length : ∀ (l : List (List Int)) (m : Int), (rowsMark l m).length = l.length
  | [], _ => rfl
  | x :: xs, m => by simp [rowsMark, rowsMark_length xs]
theorem rowsMark_get : ∀ (l : List (List Int)) (m : Int) (i : Nat) (h : i < l.length), (rowsMark l m)[i]? = some (iotaQ (m + (rowsLen (l.take i) : Int)) (l[i]).length)
  | [], _, _, h => absurd h (by simp)
  | x :: xs, m, 0, _ => by simp [rowsMark, rowsLen]
  | x :: xs, m, i + 1, h => by
    have := rowsMark_get xs (m + (x.length : Int)) i (by simpa using h)
    simp only [rowsMark, List.getElem?_cons_succ, List.take_succ_cons, List.getElem_cons_succ]
    rw [this]
    congr 2
    unfold rowsLen
    simp only [List.map_cons, List.sum_cons]
    omega
set_option maxHeartbeats 8000000 in
set_option maxRecDepth 100000 in
theorem laws_markIntSS.calls (P0_ : Nat → Prop) (u9000_ : Value) (l0 : List (List Int)) (a1 : Int) (r1 : Int) (r2 : List (List Int)) (w0 w : World) (hB : Below w0.heap.size w0 w) (ho0 : Kd.S (Kd.slice 3 (Kd.int .i64)) 32 w w0.heap.size P0_ u9000_ l0) (h : laws_markIntSS.f l0 a1 = some (r1, r2)) :
    Calls Try.prog 10 #[u9000_, .int .i64 a1] w fun e w' => e = .returned (.int .i64 r1) ∧ Kd.S (Kd.slice 3 (Kd.int .i64)) 32 w' w0.heap.size (fun k_ => P0_ k_) u9000_ r2 ∧ Below w0.heap.size w0 w' ∧ Kept w w' (fun k_ => P0_ k_) := by
  unfold laws_markIntSS.f at h
  by_cases hc : 0 ≤ a1 ∧ a1 + (rowsLen l0 : Int) ≤ 9223372036854775807
  · rw [if_pos hc] at h
    obtain ⟨h1, h2⟩ := Prod.mk.inj (Option.some.inj h)
    subst h1
    subst h2
    obtain ⟨A, c, rfl⟩ := Kd.R_slice (Kd.S_R ho0)
    have hn : l0.length ≤ 9223372036854775807 := (Kd.R_reads' (Kd.S_R ho0)).2.2.2.1
    have HLEN : Aside0 (∀ i, (hi : i < l0.length) → (l0[i]).length ≤ 9223372036854775807) := ⟨fun i hi => by
      have := rowsLen_take l0 i hi
      have := rowsLen_le l0 (i + 1)
      omega⟩
    have HO := Aside0.mk ho0
    have HB := Aside0.mk hB
    have HC := Aside0.mk hc
    clear ho0 hB h hc
    go_enter Try.func10, Try.ntmps10
    go_wp2
    go_loopg [1, 5] l0.length (fun gg v1 v5 w' => ∃ (i : Nat) (cur : List (List Int)), v1 = .int .i64 (a1 + (rowsLen (l0.take i) : Int)) ∧ v5 = .int .i64 i ∧ i ≤ l0.length ∧ l0.length - i ≤ gg ∧ cur.length = l0.length ∧ Aside0 (cur.take i = (rowsMark l0 a1).take i) ∧ Aside0 (cur.drop i = l0.drop i) ∧ Aside0 (Kd.S (Kd.slice 3 (Kd.int .i64)) 32 w' w0.heap.size P0_ (.slice A l0.length c) cur) ∧ Aside0 (Below w0.heap.size w0 w') ∧ Aside0 (Kept w w' P0_))
    case atStart => exact ⟨0, l0, by simp [rowsLen], rfl, by omega, by omega, rfl, ⟨rfl⟩, ⟨rfl⟩, HO, HB, ⟨Kept.refl _ _⟩⟩
    case round =>
      obtain ⟨i, cur, rfl, rfl, hin, hg, hcl, HT, HD, HS, HBr, HK⟩ := hrel
      clear HO HB
      by_cases hlt : i < l0.length
      · have hltz : (i : Int) < (l0.length : Int) := by omega
        have hxi : cur.getD (i : Int).toNat ([] : List Int) = l0[i] := by
          have h := congrArg (fun z => z[0]?) HD.out
          simp only [List.getElem?_drop, Nat.add_zero] at h
          rw [List.getElem?_eq_getElem (by omega), List.getElem?_eq_getElem hlt] at h
          rw [Int.toNat_natCast, List.getD_eq_getElem?_getD, List.getElem?_eq_getElem (by omega)]
          exact Option.some.inj h
        have hpos : 0 < cur.length := by omega
        obtain ⟨g, cap, ev, hge, _, _⟩ := Kd.R_form (Kd.S_R HS.out) hpos
        rw [hcl] at ev
        injection ev with ea en ec
        subst ea
        subst ec
        obtain ⟨oki, cs, hcs, hM, hcell, hoki, hH⟩ := Kd.S_lend HS.out ([] : List Int) (i : Int) (by omega) (by omega)
        rw [hxi] at hM
        obtain ⟨v0, rfl, hR⟩ := hM
        obtain ⟨A0, c0, rfl⟩ := Kd.R_slice hR
        have hx := hcell 0 _ rfl
        rw [Int.toNat_natCast, show (Kd.slice 3 (Kd.int .i64)).sz = 1 from rfl, Nat.mul_one, Nat.add_zero] at hx
        have hwl := rowsLen_take l0 i hlt
        have hwl2 := rowsLen_le l0 (i + 1)
        have hmk := markIntQ (l0[i]) (a1 + (rowsLen (l0.take i) : Int)) (HLEN.out i hlt) (by have := HC.out; omega) (by have := HC.out; omega)
        have HCALL := Aside0.mk (laws_markIntS.calls ((l0[i]).length + 1) oki (.slice A0 (l0[i]).length c0) (l0[i]) (a1 + (rowsLen (l0.take i) : Int)) _ _ w0 wr HBr.out hR hmk)
        have HNEW : Aside0 ((rowsMark l0 a1).take (i + 1) = (rowsMark l0 a1).take i ++ [iotaQ (a1 + (rowsLen (l0.take i) : Int)) (l0[i]).length]) := ⟨by
          have hl : i < (rowsMark l0 a1).length := by rw [rowsMark_length]; exact hlt
          have := rowsMark_get l0 a1 i hlt
          rw [List.getElem?_eq_getElem hl] at this
          rw [List.take_succ_eq_append_getElem hl, Option.some.inj this]⟩
        have HDn : Aside0 (cur.drop (i + 1) = l0.drop (i + 1)) := ⟨by have := congrArg (List.drop 1) HD.out; rwa [List.drop_drop, List.drop_drop] at this⟩
        have HW := Aside0.mk hwl
        have HH := Aside0.mk hH
        have HOKI := Aside0.mk hoki
        have HROK := Aside0.mk hR.1
        clear hcell hoki hH hR hmk hwl hwl2 hxi hpos hcs HLEN HC
        generalize iotaQ (a1 + (rowsLen (l0.take i) : Int)) (l0[i]).length = rl at HCALL HNEW
        generalize (l0[i]).length = m at hx HCALL HW HH HROK
        generalize rowsLen (l0.take i) = u at HCALL HW
        go_wp2_with (go_at_call 20; refine HCALL.out.mono ?_; rintro e w2 ⟨rfl, hy, hb, hk⟩; have HY := Aside0.mk hy; have HB2 := Aside0.mk hb; have HKM := Aside0.mk hk; clear hy hb hk)
        have HS2 := Aside0.mk (Kd.H_back (Kd.H_kept HH.out HKM.out (fun k _ hn => hn)) (show (Kd.slice 3 (Kd.int .i64)).M w2 w0.heap.size oki rl _ from ⟨_, rfl, Kd.R_reok rfl HY.out HROK.out⟩) (fun _ h => h))
        have HK2 := Aside0.mk (HK.out.then_ HKM.out (fun k hk => .inl (HOKI.out k hk).1))
        rw [Int.toNat_natCast] at HS2
        go_roundg (l0.length - (i + 1))
        case measure => omega
        case rel => exact ⟨i + 1, cur.set i rl, by rw [HW.out]; congr 1; omega, by go_num, by omega, by omega, by simpa using hcl, ⟨by rw [List.take_succ_eq_append_getElem (by simp; omega), HNEW.out, ← HT.out]; simp [List.take_set_of_le]⟩, ⟨by rw [List.drop_set_of_lt (by omega)]; exact HDn.out⟩, HS2, HB2, HK2⟩
      · have hltz : ¬ (i : Int) < (l0.length : Int) := by omega
        have hi : i = l0.length := by omega
        subst hi
        have HT2 : Aside0 (cur = rowsMark l0 a1) := ⟨by
          have := HT.out
          rwa [List.take_of_length_le (by omega), List.take_of_length_le (by rw [rowsMark_length]; omega)] at this⟩
        rw [List.take_length]
        clear HT HD
        go_wp2
        go_ret
        exact ⟨rfl, by rw [← HT2.out]; exact HS.out, HBr.out, HK.out⟩
  · rw [if_neg hc] at h
    cases h


/-! ### laws_heldIntS: function 21 -/
def laws_heldIntS.l0 : Nat → List Int → Int → Int → Option (Int)
 | 0, _, _, _ => none
 | k + 1, x0, x1, x5 => if x5 < (x0.length : Int) then (if 0 ≤ x5 then (if (rd x0 x5) = x1 then (laws_heldIntS.l0 k x0 (wrap64 (x1 + 1)) (wrap64 (x5 + 1))) else (some (-1))) else (none)) else (some x1)
def laws_heldIntS.f (k : Nat) (l0 : List Int) (a1 : Int) : Option (Int) := laws_heldIntS.l0 k l0 a1 0
set_option maxHeartbeats 8000000 in
set_option maxRecDepth 100000 in
theorem laws_heldIntS.calls (k : Nat) (A0 : Option Addr) (c0 : Nat) (l0 : List Int) (a1 : Int) (r : Int) (w : World) (hr0 : Kd.C (Kd.int .i64) w A0 l0.length l0) (hc0 : l0.length ≤ c0) (h : laws_heldIntS.f k l0 a1 = some r) :
  Calls Try.prog 21 #[.slice A0 l0.length c0, .int .i64 a1] w fun e w' => e = .returned (.int .i64 r) ∧ Drawn0 w w' := by
 have HR0 := Aside0.mk hr0
 have HC0 := Aside0.mk hc0
 clear hr0 hc0
 have H : (laws_heldIntS.l0 k l0 a1 0) = some r := h
 clear h
 have H' := Aside0.mk H
 clear H
 go_enter Try.func21, Try.ntmps21
 go_wp2
 go_loopg [1, 5] k (fun kq v1 v5 w' => ∃ (x1_1 : Int) (x5_1 : Int), v1 = .int .i64 x1_1 ∧ v5 = .int .i64 x5_1 ∧ Aside0 (laws_heldIntS.l0 kq l0 x1_1 x5_1 = some r) ∧ Aside0 (kq ≤ k) ∧ Drawn0 w w')
 case atStart => exact ⟨(a1), (0), (by first | rfl | (simp; done) | (simp [*]; done)), (by first | rfl | (simp; done) | (simp [*]; done)), H', ⟨Nat.le_refl _⟩, by repeat (first | exact Drawn0.refl _ | apply Drawn0.step)⟩
 case round =>
  clear H'
  try clear c2
  try clear p2
  obtain ⟨x1_1, x5_1, rfl, rfl, HA, HK1, ⟨m1, rfl⟩⟩ := hrel
  cases gk with
  | zero => exact absurd HA.out (by simp [laws_heldIntS.l0])
  | succ k1 =>
   have H := HA.out
   clear HA
   simp only [laws_heldIntS.l0] at H
   by_cases c3 : x5_1 < (l0.length : Int)
   ·rw [if_pos c3] at H
    have c3b0 : decide (x5_1 < (l0.length : Int)) = true := decide_eq_true c3
    clear c3
    by_cases c4 : 0 ≤ x5_1
    ·rw [if_pos c4] at H
     have c4b0 : decide (0 ≤ x5_1) = true := decide_eq_true c4
     clear c4
     by_cases c5 : (rd l0 x5_1) = x1_1
     ·rw [if_pos c5] at H
      have c5b0 : ((rd l0 x5_1) == x1_1) = true := beq_iff_eq.mpr c5
      have c5b1 : ((rd l0 x5_1) != x1_1) = false := bne_eq_false_iff_eq.mpr c5
      clear c5
      have H' := Aside0.mk H
      clear H
      have p187 : 0 ≤ (x5_1 : Int) := of_decide_eq_true (by first | (with_reducible assumption) | assumption)
      have q187 : x5_1 < (l0.length : Int) := of_decide_eq_true (by first | (with_reducible assumption) | assumption)
      obtain ⟨ad187, e187, hx187_0⟩ := Kd.at_int HR0.out x5_1 p187 q187
      cases e187
      replace p187 := eq_true p187
      replace q187 := eq_true q187
      go_wp2
      go_roundg k1
      case measure => have := HK1.out; omega
      case rel => exact ⟨(wrap64 (x1_1 + 1)), (wrap64 (x5_1 + 1)), (by first | rfl | (simp; done) | (simp [*]; done)), (by first | rfl | (simp; done) | (simp [*]; done)), H', ⟨by have := HK1.out; omega⟩, by repeat (first | exact Drawn0.refl _ | apply Drawn0.step)⟩
     ·rw [if_neg c5] at H
      have c5b0 : ((rd l0 x5_1) == x1_1) = false := beq_eq_false_iff_ne.mpr c5
      have c5b1 : ((rd l0 x5_1) != x1_1) = true := bne_iff_ne.mpr c5
      obtain rfl := Option.some.inj H
      have p187 : 0 ≤ (x5_1 : Int) := of_decide_eq_true (by first | (with_reducible assumption) | assumption)
      have q187 : x5_1 < (l0.length : Int) := of_decide_eq_true (by first | (with_reducible assumption) | assumption)
      obtain ⟨ad187, e187, hx187_0⟩ := Kd.at_int HR0.out x5_1 p187 q187
      cases e187
      replace p187 := eq_true p187
      replace q187 := eq_true q187
      go_wp2
      go_ret
      exact ⟨by first | rfl | (simp; done) | (simp [*]; done), by repeat (first | exact Drawn0.refl _ | apply Drawn0.step)⟩
    ·rw [if_neg c4] at H
     exact absurd H (by simp)
   ·rw [if_neg c3] at H
    have c3b0 : decide (x5_1 < (l0.length : Int)) = false := decide_eq_false c3
    clear c3
    obtain rfl := Option.some.inj H
    go_wp2
    go_ret
    exact ⟨by first | rfl | (simp; done) | (simp [*]; done), by repeat (first | exact Drawn0.refl _ | apply Drawn0.step)⟩

/-! ### laws_heldIntSS: function 11 -/
def laws_heldIntSS.l0 : Nat → List (List Int) → Int → Int → Option (Int)
 | 0, _, _, _ => none
 | k + 1, x0, x1, x5 => if x5 < (x0.length : Int) then (if 0 ≤ x5 then ((laws_heldIntS.f k (rd_L1 x0 x5) x1).bind fun t189 => (if t189 < 0 then (some (-1)) else (laws_heldIntSS.l0 k x0 t189 (wrap64 (x5 + 1))))) else (none)) else (some x1)
def laws_heldIntSS.f (k : Nat) (l0 : List (List Int)) (a1 : Int) : Option (Int) := laws_heldIntSS.l0 k l0 a1 0
set_option maxHeartbeats 8000000 in
set_option maxRecDepth 100000 in
theorem laws_heldIntSS.calls (k : Nat) (A0 : Option Addr) (c0 : Nat) (l0 : List (List Int)) (a1 : Int) (r : Int) (w : World) (hr0 : Kd.C (Kd.slice 3 (Kd.int .i64)) w A0 l0.length l0) (hc0 : l0.length ≤ c0) (h : laws_heldIntSS.f k l0 a1 = some r) :
  Calls Try.prog 11 #[.slice A0 l0.length c0, .int .i64 a1] w fun e w' => e = .returned (.int .i64 r) ∧ Drawn0 w w' := by
 have HR0 := Aside0.mk hr0
 have HC0 := Aside0.mk hc0
 clear hr0 hc0
 have H : (laws_heldIntSS.l0 k l0 a1 0) = some r := h
 clear h
 have H' := Aside0.mk H
 clear H
 go_enter Try.func11, Try.ntmps11
 go_wp2
 go_loopg [1, 5] k (fun kq v1 v5 w' => ∃ (x1_1 : Int) (x5_1 : Int), v1 = .int .i64 x1_1 ∧ v5 = .int .i64 x5_1 ∧ Aside0 (laws_heldIntSS.l0 kq l0 x1_1 x5_1 = some r) ∧ Aside0 (kq ≤ k) ∧ Drawn0 w w')
 case atStart => exact ⟨(a1), (0), (by first | rfl | (simp; done) | (simp [*]; done)), (by first | rfl | (simp; done) | (simp [*]; done)), H', ⟨Nat.le_refl _⟩, by repeat (first | exact Drawn0.refl _ | apply Drawn0.step)⟩
 case round =>
  clear H'
  try clear c1
  try clear p2
  obtain ⟨x1_1, x5_1, rfl, rfl, HA, HK1, ⟨m1, rfl⟩⟩ := hrel
  cases gk with
  | zero => exact absurd HA.out (by simp [laws_heldIntSS.l0])
  | succ k1 =>
   have H := HA.out
   clear HA
   simp only [laws_heldIntSS.l0] at H
   by_cases c3 : x5_1 < (l0.length : Int)
   ·rw [if_pos c3] at H
    have c3b0 : decide (x5_1 < (l0.length : Int)) = true := decide_eq_true c3
    clear c3
    by_cases c4 : 0 ≤ x5_1
    ·rw [if_pos c4] at H
     have c4b0 : decide (0 ≤ x5_1) = true := decide_eq_true c4
     clear c4
     replace H := Option.bind_eq_some_iff.mp H
     obtain ⟨t189, A50, H⟩ := H
     replace H : (if t189 < 0 then (some (-1)) else (laws_heldIntSS.l0 k1 l0 t189 (wrap64 (x5_1 + 1)))) = some r := H
     have A5 := Aside0.mk A50
     clear A50
     by_cases c6 : t189 < 0
     ·rw [if_pos c6] at H
      have c6b0 : decide (t189 < 0) = true := decide_eq_true c6
      clear c6
      obtain rfl := Option.some.inj H
      have p188 : 0 ≤ (x5_1 : Int) := of_decide_eq_true (by first | (with_reducible assumption) | assumption)
      have q188 : x5_1 < (l0.length : Int) := of_decide_eq_true (by first | (with_reducible assumption) | assumption)
      obtain ⟨ad188, A188_0, c188_0, e188, hx188_0, hl188_0, hi188_0⟩ := at_L1 HR0.out x5_1 p188 q188
      cases e188
      have HR188_0 := Aside0.mk hi188_0
      have HC188_0 := Aside0.mk hl188_0
      clear hi188_0 hl188_0
      replace p188 := eq_true p188
      replace q188 := eq_true q188
      go_wp2_with (first | ((with_reducible refine gate_callee (f := 21) rfl ?_); refine goesL_ (some 17) rfl rfl Try.func21 (by kernel_rfl) rfl #[.slice A188_0 (rd_L1 l0 x5_1).length c188_0, .int .i64 x1_1] rfl (by (try simp only [List.map_toArray, List.map_cons, List.map_nil]); first | done | rfl | (simp only [List.length_drop, List.length_take]; rfl)) ?_; (with_reducible refine (laws_heldIntS.calls k1 _ _ (rd_L1 l0 x5_1) x1_1 t189 _ ?side1 ?side2 A5.out).mono ?_); (case side1 => exact uC HR188_0.out); (case side2 => exact HC188_0.out); rintro e w' ⟨rfl, ⟨nd, rfl⟩⟩; refine ⟨_, rfl, ?_⟩))
      go_ret
      exact ⟨by first | rfl | (simp; done) | (simp [*]; done), by repeat (first | exact Drawn0.refl _ | apply Drawn0.step)⟩
     ·rw [if_neg c6] at H
      have c6b0 : decide (t189 < 0) = false := decide_eq_false c6
      clear c6
      have H' := Aside0.mk H
      clear H
      have p188 : 0 ≤ (x5_1 : Int) := of_decide_eq_true (by first | (with_reducible assumption) | assumption)
      have q188 : x5_1 < (l0.length : Int) := of_decide_eq_true (by first | (with_reducible assumption) | assumption)
      obtain ⟨ad188, A188_0, c188_0, e188, hx188_0, hl188_0, hi188_0⟩ := at_L1 HR0.out x5_1 p188 q188
      cases e188
      have HR188_0 := Aside0.mk hi188_0
      have HC188_0 := Aside0.mk hl188_0
      clear hi188_0 hl188_0
      replace p188 := eq_true p188
      replace q188 := eq_true q188
      go_wp2_with (first | ((with_reducible refine gate_callee (f := 21) rfl ?_); refine goesL_ (some 17) rfl rfl Try.func21 (by kernel_rfl) rfl #[.slice A188_0 (rd_L1 l0 x5_1).length c188_0, .int .i64 x1_1] rfl (by (try simp only [List.map_toArray, List.map_cons, List.map_nil]); first | done | rfl | (simp only [List.length_drop, List.length_take]; rfl)) ?_; (with_reducible refine (laws_heldIntS.calls k1 _ _ (rd_L1 l0 x5_1) x1_1 t189 _ ?side1 ?side2 A5.out).mono ?_); (case side1 => exact uC HR188_0.out); (case side2 => exact HC188_0.out); rintro e w' ⟨rfl, ⟨nd, rfl⟩⟩; refine ⟨_, rfl, ?_⟩))
      go_roundg k1
      case measure => have := HK1.out; omega
      case rel => exact ⟨(t189), (wrap64 (x5_1 + 1)), (by first | rfl | (simp; done) | (simp [*]; done)), (by first | rfl | (simp; done) | (simp [*]; done)), H', ⟨by have := HK1.out; omega⟩, by repeat (first | exact Drawn0.refl _ | apply Drawn0.step)⟩
    ·rw [if_neg c4] at H
     exact absurd H (by simp)
   ·rw [if_neg c3] at H
    have c3b0 : decide (x5_1 < (l0.length : Int)) = false := decide_eq_false c3
    clear c3
    obtain rfl := Option.some.inj H
    go_wp2
    go_ret
    exact ⟨by first | rfl | (simp; done) | (simp [*]; done), by repeat (first | exact Drawn0.refl _ | apply Drawn0.step)⟩

/-! ### laws_FnExactStandsOf: function 3 -/
/-- Two rows, one of them newer than the other: they lie on both sides of a place. -/
theorem pair_apart {α β : Type} {d : Kd α} {d' : Kd β} {e e' base : Nat} {ok ok2 : Nat → Prop} {u v : Value} {xs : List α} {ys : List β} {W w1 : World} (h : Kd.S d e W base ok u xs) (h2 : Kd.S d' e' w1 W.heap.size ok2 v ys) (hb : Below W.heap.size W w1) : ∃ m : Nat, Kd.S d e w1 base (fun k => k < m) u xs ∧ Kd.S d' e' w1 W.heap.size (fun k => m ≤ k) v ys :=
  ⟨W.heap.size, Kd.S_below (Kd.S_mono (Kd.S_bound h) (fun _ hk => hk.2.2.1)) hb, Kd.S_mono (Kd.S_bound h2) (fun _ hk => hk.2.1)⟩
def laws_FnExactStandsOf.f (k : Nat) (a0_0 : Int) (a0_1 : Int) (a0_2 : ByteArray) (a1 : Int) : Option (Bool) := (laws_szGrid.f a0_0 a0_1 a0_2 1048576).bind fun t191 => (if t191 < 0 then (some true) else ((laws_toGrid.f a0_0 a0_1 a0_2).bind fun bt192 => ((spec_StandsOf.f k bt192.1 bt192.2.1 bt192.2.2 a1).bind fun t195 => ((laws_toGrid.f a0_0 a0_1 a0_2).bind fun bt198 => ((impl_StandsOf.f k bt198.1 bt198.2.1 bt198.2.2 a1).bind fun t201 => ((laws_eqIntSS.f k t201 t195).bind fun t204 => (if t204 = true then ((laws_markIntSS.f t201 1).bind fun bt205 => ((laws_heldIntSS.f k bt205.2 1).bind fun t207 => (if t207 < 0 then (some false) else (if t207 = bt205.1 then ((laws_toGrid.f a0_0 a0_1 a0_2).bind fun bt208 => ((impl_StandsOf.f k bt208.1 bt208.2.1 bt208.2.2 a1).bind fun t211 => ((laws_eqIntSS.f k t211 t195).bind fun t214 => (if t214 = true then ((laws_heldIntSS.f k bt205.2 1).bind fun t215 => (if t215 < 0 then (some false) else (if t215 = bt205.1 then (some true) else (some false)))) else (some false))))) else (some false))))) else (some false))))))))
set_option maxHeartbeats 8000000 in
set_option maxRecDepth 100000 in
theorem laws_FnExactStandsOf.calls (k : Nat) (a0_0 : Int) (a0_1 : Int) (a0_2 : ByteArray) (a1 : Int) (r : Bool) (w : World) (hr_ : r = true) (h : laws_FnExactStandsOf.f k a0_0 a0_1 a0_2 a1 = some r) :
  Calls Try.prog 3 #[.agg #[.int .i64 a0_0, .int .i64 a0_1, .string a0_2], .int .i64 a1] w fun e w' => e = .returned (.bool r) ∧ Below w.heap.size w w' := by
 have hu23 := Try.underlying23
 have HB := Aside0.mk (Below.refl w.heap.size w)
 have H : ((laws_szGrid.f a0_0 a0_1 a0_2 1048576).bind fun t191 => (if t191 < 0 then (some true) else ((laws_toGrid.f a0_0 a0_1 a0_2).bind fun bt192 => ((spec_StandsOf.f k bt192.1 bt192.2.1 bt192.2.2 a1).bind fun t195 => ((laws_toGrid.f a0_0 a0_1 a0_2).bind fun bt198 => ((impl_StandsOf.f k bt198.1 bt198.2.1 bt198.2.2 a1).bind fun t201 => ((laws_eqIntSS.f k t201 t195).bind fun t204 => (if t204 = true then ((laws_markIntSS.f t201 1).bind fun bt205 => ((laws_heldIntSS.f k bt205.2 1).bind fun t207 => (if t207 < 0 then (some false) else (if t207 = bt205.1 then ((laws_toGrid.f a0_0 a0_1 a0_2).bind fun bt208 => ((impl_StandsOf.f k bt208.1 bt208.2.1 bt208.2.2 a1).bind fun t211 => ((laws_eqIntSS.f k t211 t195).bind fun t214 => (if t214 = true then ((laws_heldIntSS.f k bt205.2 1).bind fun t215 => (if t215 < 0 then (some false) else (if t215 = bt205.1 then (some true) else (some false)))) else (some false))))) else (some false))))) else (some false))))))))) = some r := h
 clear h
 replace H := Option.bind_eq_some_iff.mp H
 obtain ⟨t191, A30, H⟩ := H
 replace H : (if t191 < 0 then (some true) else ((laws_toGrid.f a0_0 a0_1 a0_2).bind fun bt192 => ((spec_StandsOf.f k bt192.1 bt192.2.1 bt192.2.2 a1).bind fun t195 => ((laws_toGrid.f a0_0 a0_1 a0_2).bind fun bt198 => ((impl_StandsOf.f k bt198.1 bt198.2.1 bt198.2.2 a1).bind fun t201 => ((laws_eqIntSS.f k t201 t195).bind fun t204 => (if t204 = true then ((laws_markIntSS.f t201 1).bind fun bt205 => ((laws_heldIntSS.f k bt205.2 1).bind fun t207 => (if t207 < 0 then (some false) else (if t207 = bt205.1 then ((laws_toGrid.f a0_0 a0_1 a0_2).bind fun bt208 => ((impl_StandsOf.f k bt208.1 bt208.2.1 bt208.2.2 a1).bind fun t211 => ((laws_eqIntSS.f k t211 t195).bind fun t214 => (if t214 = true then ((laws_heldIntSS.f k bt205.2 1).bind fun t215 => (if t215 < 0 then (some false) else (if t215 = bt205.1 then (some true) else (some false)))) else (some false))))) else (some false))))) else (some false)))))))) = some r := H
 have A3 := Aside0.mk A30
 clear A30
 by_cases c4 : t191 < 0
 ·rw [if_pos c4] at H
  have c4b0 : decide (t191 < 0) = true := decide_eq_true c4
  clear c4
  obtain rfl := Option.some.inj H
  go_enter Try.func3, Try.ntmps3
  go_wp2_with (first | ((with_reducible refine gate_dst (N := 2) rfl ?_); refine box_event ?hg (N := 2) ?hd (cs := #[.int .i64 a0_0, .int .i64 a0_1, .string a0_2]) (t := 23) ?hr ?_; (case hd => rfl); (case hg => rfl); (case hr => first | (go_simp; done) | (go_simp; rfl)); intro gb190 hg w5 hbox hb; have n0_ := Aside0.mk (below_step (uB HB.out) hb); have n1_ := Aside0.mk (hbox); have n2_ := Aside0.mk ((by rw [hg]; exact (below_size (uB HB.out)) : w.heap.size ≤ gb190)); have n3_ := Aside0.mk ((by rw [hg]; exact (below_size (uB HB.out)) : w.heap.size ≤ gb190)); clear HB; have HB := n0_; have BK190 := n1_; have GW190 := n2_; have GE190 := n3_; clear n0_ n1_ n2_ n3_; clear hb hbox hg; have hcz6_0 : w5.cell? ⟨gb190, 0, none⟩ = some (.int .i64 a0_0) := (blk_cell BK190.out 0).trans rfl; have hcz6_1 : w5.cell? ⟨gb190, 1, none⟩ = some (.int .i64 a0_1) := (blk_cell BK190.out 1).trans rfl; have hcz6_2 : w5.cell? ⟨gb190, 2, none⟩ = some (.string a0_2) := (blk_cell BK190.out 2).trans rfl; have hfz6_0 := blk_frozen BK190.out 0; have hfz6_1 := blk_frozen BK190.out 1; have hfz6_2 := blk_frozen BK190.out 2) | ((with_reducible refine gate_callee (f := 5) rfl ?_); refine goesL_ (some 13) rfl rfl Try.func5 (by kernel_rfl) rfl #[.agg #[.int .i64 a0_0, .int .i64 a0_1, .string a0_2], .int .i64 1048576] rfl (by (try simp only [List.map_toArray, List.map_cons, List.map_nil]); first | done | rfl | (simp only [List.length_drop, List.length_take]; rfl)) ?_; (with_reducible refine (laws_szGrid.calls a0_0 a0_1 a0_2 1048576 t191 _ A3.out).mono ?_); rintro e w7 ⟨rfl, hb⟩; refine ⟨_, rfl, ?_⟩; have n0_ := Aside0.mk (blk_below (g := gb190) (o := .cells #[.int .i64 a0_0, .int .i64 a0_1, .string a0_2] 23 (0, 0)) (by (with_reducible repeat (first | refine blk_drewN ?_ _ | refine blk_drew ?_ | refine blk_alloc ?_ _)); exact BK190.out) hb); have n1_ := Aside0.mk (below_step (by repeat (first | (with_reducible first | exact HB.out | apply below_alloc | apply pw_below_drewN | apply below_drew1 | refine below_set ?_ GE190.out) | exact HB.out)) hb); clear BK190; clear HB; have BK190 := n0_; have HB := n1_; clear n0_ n1_; (try clear hb); (try clear hb2); (try clear hk); (try clear hi)))
  go_ret
  exact ⟨by first | rfl | (simp [errW_none, errW_some] <;> rfl) | (simp [*, errW_none, errW_some] <;> rfl), by repeat (first | (with_reducible first | exact HB.out | apply below_alloc | apply pw_below_drewN | apply below_drew1 | refine below_set ?_ GE190.out) | exact HB.out)⟩
 ·rw [if_neg c4] at H
  have c4b0 : decide (t191 < 0) = false := decide_eq_false c4
  clear c4
  replace H := Option.bind_eq_some_iff.mp H
  obtain ⟨⟨t192, t193, t194⟩, A80, H⟩ := H
  replace H : ((spec_StandsOf.f k t192 t193 t194 a1).bind fun t195 => ((laws_toGrid.f a0_0 a0_1 a0_2).bind fun bt198 => ((impl_StandsOf.f k bt198.1 bt198.2.1 bt198.2.2 a1).bind fun t201 => ((laws_eqIntSS.f k t201 t195).bind fun t204 => (if t204 = true then ((laws_markIntSS.f t201 1).bind fun bt205 => ((laws_heldIntSS.f k bt205.2 1).bind fun t207 => (if t207 < 0 then (some false) else (if t207 = bt205.1 then ((laws_toGrid.f a0_0 a0_1 a0_2).bind fun bt208 => ((impl_StandsOf.f k bt208.1 bt208.2.1 bt208.2.2 a1).bind fun t211 => ((laws_eqIntSS.f k t211 t195).bind fun t214 => (if t214 = true then ((laws_heldIntSS.f k bt205.2 1).bind fun t215 => (if t215 < 0 then (some false) else (if t215 = bt205.1 then (some true) else (some false)))) else (some false))))) else (some false))))) else (some false)))))) = some r := H
  have A8 := Aside0.mk A80
  clear A80
  replace H := Option.bind_eq_some_iff.mp H
  obtain ⟨t195, A90, H⟩ := H
  replace H : ((laws_toGrid.f a0_0 a0_1 a0_2).bind fun bt198 => ((impl_StandsOf.f k bt198.1 bt198.2.1 bt198.2.2 a1).bind fun t201 => ((laws_eqIntSS.f k t201 t195).bind fun t204 => (if t204 = true then ((laws_markIntSS.f t201 1).bind fun bt205 => ((laws_heldIntSS.f k bt205.2 1).bind fun t207 => (if t207 < 0 then (some false) else (if t207 = bt205.1 then ((laws_toGrid.f a0_0 a0_1 a0_2).bind fun bt208 => ((impl_StandsOf.f k bt208.1 bt208.2.1 bt208.2.2 a1).bind fun t211 => ((laws_eqIntSS.f k t211 t195).bind fun t214 => (if t214 = true then ((laws_heldIntSS.f k bt205.2 1).bind fun t215 => (if t215 < 0 then (some false) else (if t215 = bt205.1 then (some true) else (some false)))) else (some false))))) else (some false))))) else (some false))))) = some r := H
  have A9 := Aside0.mk A90
  clear A90
  replace H := Option.bind_eq_some_iff.mp H
  obtain ⟨⟨t198, t199, t200⟩, A100, H⟩ := H
  replace H : ((impl_StandsOf.f k t198 t199 t200 a1).bind fun t201 => ((laws_eqIntSS.f k t201 t195).bind fun t204 => (if t204 = true then ((laws_markIntSS.f t201 1).bind fun bt205 => ((laws_heldIntSS.f k bt205.2 1).bind fun t207 => (if t207 < 0 then (some false) else (if t207 = bt205.1 then ((laws_toGrid.f a0_0 a0_1 a0_2).bind fun bt208 => ((impl_StandsOf.f k bt208.1 bt208.2.1 bt208.2.2 a1).bind fun t211 => ((laws_eqIntSS.f k t211 t195).bind fun t214 => (if t214 = true then ((laws_heldIntSS.f k bt205.2 1).bind fun t215 => (if t215 < 0 then (some false) else (if t215 = bt205.1 then (some true) else (some false)))) else (some false))))) else (some false))))) else (some false)))) = some r := H
  have A10 := Aside0.mk A100
  clear A100
  replace H := Option.bind_eq_some_iff.mp H
  obtain ⟨t201, A110, H⟩ := H
  replace H : ((laws_eqIntSS.f k t201 t195).bind fun t204 => (if t204 = true then ((laws_markIntSS.f t201 1).bind fun bt205 => ((laws_heldIntSS.f k bt205.2 1).bind fun t207 => (if t207 < 0 then (some false) else (if t207 = bt205.1 then ((laws_toGrid.f a0_0 a0_1 a0_2).bind fun bt208 => ((impl_StandsOf.f k bt208.1 bt208.2.1 bt208.2.2 a1).bind fun t211 => ((laws_eqIntSS.f k t211 t195).bind fun t214 => (if t214 = true then ((laws_heldIntSS.f k bt205.2 1).bind fun t215 => (if t215 < 0 then (some false) else (if t215 = bt205.1 then (some true) else (some false)))) else (some false))))) else (some false))))) else (some false))) = some r := H
  have A11 := Aside0.mk A110
  clear A110
  replace H := Option.bind_eq_some_iff.mp H
  obtain ⟨t204, A120, H⟩ := H
  replace H : (if t204 = true then ((laws_markIntSS.f t201 1).bind fun bt205 => ((laws_heldIntSS.f k bt205.2 1).bind fun t207 => (if t207 < 0 then (some false) else (if t207 = bt205.1 then ((laws_toGrid.f a0_0 a0_1 a0_2).bind fun bt208 => ((impl_StandsOf.f k bt208.1 bt208.2.1 bt208.2.2 a1).bind fun t211 => ((laws_eqIntSS.f k t211 t195).bind fun t214 => (if t214 = true then ((laws_heldIntSS.f k bt205.2 1).bind fun t215 => (if t215 < 0 then (some false) else (if t215 = bt205.1 then (some true) else (some false)))) else (some false))))) else (some false))))) else (some false)) = some r := H
  have A12 := Aside0.mk A120
  clear A120
  by_cases c13 : t204 = true
  ·subst c13
   have H1 : ((laws_markIntSS.f t201 1).bind fun bt205 => ((laws_heldIntSS.f k bt205.2 1).bind fun t207 => (if t207 < 0 then (some false) else (if t207 = bt205.1 then ((laws_toGrid.f a0_0 a0_1 a0_2).bind fun bt208 => ((impl_StandsOf.f k bt208.1 bt208.2.1 bt208.2.2 a1).bind fun t211 => ((laws_eqIntSS.f k t211 t195).bind fun t214 => (if t214 = true then ((laws_heldIntSS.f k bt205.2 1).bind fun t215 => (if t215 < 0 then (some false) else (if t215 = bt205.1 then (some true) else (some false)))) else (some false))))) else (some false))))) = some r := by rw [if_pos rfl] at H; exact H
   clear H
   have H := H1
   clear H1
   replace H := Option.bind_eq_some_iff.mp H
   obtain ⟨⟨t205, t206⟩, A140, H⟩ := H
   replace H : ((laws_heldIntSS.f k t206 1).bind fun t207 => (if t207 < 0 then (some false) else (if t207 = t205 then ((laws_toGrid.f a0_0 a0_1 a0_2).bind fun bt208 => ((impl_StandsOf.f k bt208.1 bt208.2.1 bt208.2.2 a1).bind fun t211 => ((laws_eqIntSS.f k t211 t195).bind fun t214 => (if t214 = true then ((laws_heldIntSS.f k t206 1).bind fun t215 => (if t215 < 0 then (some false) else (if t215 = t205 then (some true) else (some false)))) else (some false))))) else (some false)))) = some r := H
   have A14 := Aside0.mk A140
   clear A140
   replace H := Option.bind_eq_some_iff.mp H
   obtain ⟨t207, A150, H⟩ := H
   replace H : (if t207 < 0 then (some false) else (if t207 = t205 then ((laws_toGrid.f a0_0 a0_1 a0_2).bind fun bt208 => ((impl_StandsOf.f k bt208.1 bt208.2.1 bt208.2.2 a1).bind fun t211 => ((laws_eqIntSS.f k t211 t195).bind fun t214 => (if t214 = true then ((laws_heldIntSS.f k t206 1).bind fun t215 => (if t215 < 0 then (some false) else (if t215 = t205 then (some true) else (some false)))) else (some false))))) else (some false))) = some r := H
   have A15 := Aside0.mk A150
   clear A150
   by_cases c16 : t207 < 0
   ·rw [if_pos c16] at H
    have c16b0 : decide (t207 < 0) = true := decide_eq_true c16
    clear c16
    exact absurd hr_ (by rw [← Option.some.inj H]; decide)
   ·rw [if_neg c16] at H
    have c16b0 : decide (t207 < 0) = false := decide_eq_false c16
    clear c16
    by_cases c17 : t207 = t205
    ·rw [if_pos c17] at H
     have c17b0 : (t207 == t205) = true := beq_iff_eq.mpr c17
     have c17b1 : (t207 != t205) = false := bne_eq_false_iff_eq.mpr c17
     clear c17
     replace H := Option.bind_eq_some_iff.mp H
     obtain ⟨⟨t208, t209, t210⟩, A180, H⟩ := H
     replace H : ((impl_StandsOf.f k t208 t209 t210 a1).bind fun t211 => ((laws_eqIntSS.f k t211 t195).bind fun t214 => (if t214 = true then ((laws_heldIntSS.f k t206 1).bind fun t215 => (if t215 < 0 then (some false) else (if t215 = t205 then (some true) else (some false)))) else (some false)))) = some r := H
     have A18 := Aside0.mk A180
     clear A180
     replace H := Option.bind_eq_some_iff.mp H
     obtain ⟨t211, A190, H⟩ := H
     replace H : ((laws_eqIntSS.f k t211 t195).bind fun t214 => (if t214 = true then ((laws_heldIntSS.f k t206 1).bind fun t215 => (if t215 < 0 then (some false) else (if t215 = t205 then (some true) else (some false)))) else (some false))) = some r := H
     have A19 := Aside0.mk A190
     clear A190
     replace H := Option.bind_eq_some_iff.mp H
     obtain ⟨t214, A200, H⟩ := H
     replace H : (if t214 = true then ((laws_heldIntSS.f k t206 1).bind fun t215 => (if t215 < 0 then (some false) else (if t215 = t205 then (some true) else (some false)))) else (some false)) = some r := H
     have A20 := Aside0.mk A200
     clear A200
     by_cases c21 : t214 = true
     ·subst c21
      have H1 : ((laws_heldIntSS.f k t206 1).bind fun t215 => (if t215 < 0 then (some false) else (if t215 = t205 then (some true) else (some false)))) = some r := by rw [if_pos rfl] at H; exact H
      clear H
      have H := H1
      clear H1
      replace H := Option.bind_eq_some_iff.mp H
      obtain ⟨t215, A220, H⟩ := H
      replace H : (if t215 < 0 then (some false) else (if t215 = t205 then (some true) else (some false))) = some r := H
      have A22 := Aside0.mk A220
      clear A220
      by_cases c23 : t215 < 0
      ·rw [if_pos c23] at H
       have c23b0 : decide (t215 < 0) = true := decide_eq_true c23
       clear c23
       exact absurd hr_ (by rw [← Option.some.inj H]; decide)
      ·rw [if_neg c23] at H
       have c23b0 : decide (t215 < 0) = false := decide_eq_false c23
       clear c23
       by_cases c24 : t215 = t205
       ·rw [if_pos c24] at H
        have c24b0 : (t215 == t205) = true := beq_iff_eq.mpr c24
        have c24b1 : (t215 != t205) = false := bne_eq_false_iff_eq.mpr c24
        clear c24
        obtain rfl := Option.some.inj H
        go_enter Try.func3, Try.ntmps3
        go_wp2_with (first | ((with_reducible refine gate_dst (N := 2) rfl ?_); refine box_event ?hg (N := 2) ?hd (cs := #[.int .i64 a0_0, .int .i64 a0_1, .string a0_2]) (t := 23) ?hr ?_; (case hd => rfl); (case hg => rfl); (case hr => first | (go_simp; done) | (go_simp; rfl)); intro gb190 hg w25 hbox hb; have n0_ := Aside0.mk (below_step (uB HB.out) hb); have n1_ := Aside0.mk (hbox); have n2_ := Aside0.mk ((by rw [hg]; exact (below_size (uB HB.out)) : w.heap.size ≤ gb190)); have n3_ := Aside0.mk ((by rw [hg]; exact (below_size (uB HB.out)) : w.heap.size ≤ gb190)); clear HB; have HB := n0_; have BK190 := n1_; have GW190 := n2_; have GE190 := n3_; clear n0_ n1_ n2_ n3_; clear hb hbox hg; have hcz26_0 : w25.cell? ⟨gb190, 0, none⟩ = some (.int .i64 a0_0) := (blk_cell BK190.out 0).trans rfl; have hcz26_1 : w25.cell? ⟨gb190, 1, none⟩ = some (.int .i64 a0_1) := (blk_cell BK190.out 1).trans rfl; have hcz26_2 : w25.cell? ⟨gb190, 2, none⟩ = some (.string a0_2) := (blk_cell BK190.out 2).trans rfl; have hfz26_0 := blk_frozen BK190.out 0; have hfz26_1 := blk_frozen BK190.out 1; have hfz26_2 := blk_frozen BK190.out 2) | ((with_reducible refine gate_callee (f := 5) rfl ?_); refine goesL_ (some 13) rfl rfl Try.func5 (by kernel_rfl) rfl #[.agg #[.int .i64 a0_0, .int .i64 a0_1, .string a0_2], .int .i64 1048576] rfl (by (try simp only [List.map_toArray, List.map_cons, List.map_nil]); first | done | rfl | (simp only [List.length_drop, List.length_take]; rfl)) ?_; (with_reducible refine (laws_szGrid.calls a0_0 a0_1 a0_2 1048576 t191 _ A3.out).mono ?_); rintro e w27 ⟨rfl, hb⟩; refine ⟨_, rfl, ?_⟩; have n0_ := Aside0.mk (blk_below (g := gb190) (o := .cells #[.int .i64 a0_0, .int .i64 a0_1, .string a0_2] 23 (0, 0)) (by (with_reducible repeat (first | refine blk_drewN ?_ _ | refine blk_drew ?_ | refine blk_alloc ?_ _)); exact BK190.out) hb); have n1_ := Aside0.mk (below_step (by repeat (first | (with_reducible first | exact HB.out | apply below_alloc | apply pw_below_drewN | apply below_drew1 | refine below_set ?_ GE190.out) | exact HB.out)) hb); clear BK190; clear HB; have BK190 := n0_; have HB := n1_; clear n0_ n1_; (try clear hb); (try clear hb2); (try clear hk); (try clear hi); have hcz28_0 : w27.cell? ⟨gb190, 0, none⟩ = some (.int .i64 a0_0) := (blk_cell BK190.out 0).trans rfl; have hcz28_1 : w27.cell? ⟨gb190, 1, none⟩ = some (.int .i64 a0_1) := (blk_cell BK190.out 1).trans rfl; have hcz28_2 : w27.cell? ⟨gb190, 2, none⟩ = some (.string a0_2) := (blk_cell BK190.out 2).trans rfl; have hfz28_0 := blk_frozen BK190.out 0; have hfz28_1 := blk_frozen BK190.out 1; have hfz28_2 := blk_frozen BK190.out 2) | ((with_reducible refine gate_callee (f := 7) rfl ?_); refine goesL_ (some 17) rfl rfl Try.func7 (by kernel_rfl) rfl #[.agg #[.int .i64 a0_0, .int .i64 a0_1, .string a0_2]] rfl (by (try simp only [List.map_toArray, List.map_cons, List.map_nil]); first | done | rfl | (simp only [List.length_drop, List.length_take]; rfl)) ?_; (with_reducible refine (laws_toGrid.calls a0_0 a0_1 a0_2 t192 t193 t194 _ A8.out).mono ?_); rintro e w29 ⟨rfl, hb⟩; refine ⟨_, rfl, ?_⟩; have n0_ := Aside0.mk (blk_below (g := gb190) (o := .cells #[.int .i64 a0_0, .int .i64 a0_1, .string a0_2] 23 (0, 0)) (by (with_reducible repeat (first | refine blk_drewN ?_ _ | refine blk_drew ?_ | refine blk_alloc ?_ _)); exact BK190.out) hb); have n1_ := Aside0.mk (below_step (by repeat (first | (with_reducible first | exact HB.out | apply below_alloc | apply pw_below_drewN | apply below_drew1 | refine below_set ?_ GE190.out) | exact HB.out)) hb); clear BK190; clear HB; have BK190 := n0_; have HB := n1_; clear n0_ n1_; (try clear hb); (try clear hb2); (try clear hk); (try clear hi)) | ((with_reducible refine gate_callee (f := 6) rfl ?_); refine goesL_ (some 19) rfl rfl Try.func6 (by kernel_rfl) rfl #[.agg #[.int .i64 t192, .int .i64 t193, .string t194], .int .i64 a1] rfl (by (try simp only [List.map_toArray, List.map_cons, List.map_nil]); first | done | rfl | (simp only [List.length_drop, List.length_take]; rfl)) ?_; (with_reducible refine (spec_StandsOf.calls k t192 t193 t194 a1 t195 _ A9.out).mono ?_); rintro e w30 ⟨v196, rfl, ho0, hb⟩; refine ⟨_, rfl, ?_⟩; have n0_ := Aside0.mk (Kd.S_lower ho0 (below_size (by repeat (first | (with_reducible first | exact HB.out | apply below_alloc | apply pw_below_drewN | apply below_drew1 | refine below_set ?_ GE190.out) | exact HB.out)))); have n1_ := Aside0.mk (blk_below (g := gb190) (o := .cells #[.int .i64 a0_0, .int .i64 a0_1, .string a0_2] 23 (0, 0)) (by (with_reducible repeat (first | refine blk_drewN ?_ _ | refine blk_drew ?_ | refine blk_alloc ?_ _)); exact BK190.out) hb); have n2_ := Aside0.mk (below_step (by repeat (first | (with_reducible first | exact HB.out | apply below_alloc | apply pw_below_drewN | apply below_drew1 | refine below_set ?_ GE190.out) | exact HB.out)) hb); clear BK190; clear HB; have HO197 := n0_; have BK190 := n1_; have HB := n2_; clear n0_ n1_ n2_; (try clear hb); (try clear hb2); (try clear hk); (try clear hi); (try clear ho0); have hcz31_0 : w30.cell? ⟨gb190, 0, none⟩ = some (.int .i64 a0_0) := (blk_cell BK190.out 0).trans rfl; have hcz31_1 : w30.cell? ⟨gb190, 1, none⟩ = some (.int .i64 a0_1) := (blk_cell BK190.out 1).trans rfl; have hcz31_2 : w30.cell? ⟨gb190, 2, none⟩ = some (.string a0_2) := (blk_cell BK190.out 2).trans rfl; have hfz31_0 := blk_frozen BK190.out 0; have hfz31_1 := blk_frozen BK190.out 1; have hfz31_2 := blk_frozen BK190.out 2) | ((with_reducible refine gate_callee (f := 7) rfl ?_); refine goesL_ (some 21) rfl rfl Try.func7 (by kernel_rfl) rfl #[.agg #[.int .i64 a0_0, .int .i64 a0_1, .string a0_2]] rfl (by (try simp only [List.map_toArray, List.map_cons, List.map_nil]); first | done | rfl | (simp only [List.length_drop, List.length_take]; rfl)) ?_; (with_reducible refine (laws_toGrid.calls a0_0 a0_1 a0_2 t198 t199 t200 _ A10.out).mono ?_); rintro e w32 ⟨rfl, hb⟩; refine ⟨_, rfl, ?_⟩; have n0_ := Aside0.mk (Kd.S_below (uS HO197.out) hb); have n1_ := Aside0.mk (blk_below (g := gb190) (o := .cells #[.int .i64 a0_0, .int .i64 a0_1, .string a0_2] 23 (0, 0)) (by (with_reducible repeat (first | refine blk_drewN ?_ _ | refine blk_drew ?_ | refine blk_alloc ?_ _)); exact BK190.out) hb); have n2_ := Aside0.mk (below_step (by repeat (first | (with_reducible first | exact HB.out | apply below_alloc | apply pw_below_drewN | apply below_drew1 | refine below_set ?_ GE190.out) | exact HB.out)) hb); clear HO197; clear BK190; clear HB; have HO197 := n0_; have BK190 := n1_; have HB := n2_; clear n0_ n1_ n2_; (try clear hb); (try clear hb2); (try clear hk); (try clear hi)) | ((with_reducible refine gate_callee (f := 8) rfl ?_); refine goesL_ (some 23) rfl rfl Try.func8 (by kernel_rfl) rfl #[.agg #[.int .i64 t198, .int .i64 t199, .string t200], .int .i64 a1] rfl (by (try simp only [List.map_toArray, List.map_cons, List.map_nil]); first | done | rfl | (simp only [List.length_drop, List.length_take]; rfl)) ?_; (with_reducible refine (impl_StandsOf.calls k t198 t199 t200 a1 t201 _ A11.out).mono ?_); rintro e w33 ⟨v202, rfl, ho0, hb⟩; refine ⟨_, rfl, ?_⟩; have hp_ := pair_apart (uS HO197.out) ho0 hb; obtain ⟨m_, hA_, hB_⟩ := hp_; have n0_ := Aside0.mk hA_; have n1_ := Aside0.mk (Kd.S_lower hB_ (below_size (by repeat (first | (with_reducible first | exact HB.out | apply below_alloc | apply pw_below_drewN | apply below_drew1 | refine below_set ?_ GE190.out) | exact HB.out)))); have n2_ := Aside0.mk (blk_below (g := gb190) (o := .cells #[.int .i64 a0_0, .int .i64 a0_1, .string a0_2] 23 (0, 0)) (by (with_reducible repeat (first | refine blk_drewN ?_ _ | refine blk_drew ?_ | refine blk_alloc ?_ _)); exact BK190.out) hb); have n3_ := Aside0.mk (below_step (by repeat (first | (with_reducible first | exact HB.out | apply below_alloc | apply pw_below_drewN | apply below_drew1 | refine below_set ?_ GE190.out) | exact HB.out)) hb); clear hA_; clear hB_; clear HO197; clear BK190; clear HB; have HO197 := n0_; have HO203 := n1_; have BK190 := n2_; have HB := n3_; clear n0_ n1_ n2_ n3_; (try clear hb); (try clear hb2); (try clear hk); (try clear hi); (try clear ho0); obtain ⟨Ao34, co34, eo34⟩ := Kd.S_slice HO203.out; subst eo34; obtain ⟨Ao35, co35, eo35⟩ := Kd.S_slice HO197.out; subst eo35) | ((with_reducible refine gate_callee (f := 9) rfl ?_); refine goesL_ (some 26) rfl rfl Try.func9 (by kernel_rfl) rfl #[.slice Ao34 t201.length co34, .slice Ao35 t195.length co35] rfl (by (try simp only [List.map_toArray, List.map_cons, List.map_nil]); first | done | rfl | (simp only [List.length_drop, List.length_take]; rfl)) ?_; (with_reducible refine (laws_eqIntSS.calls k _ _ t201 _ _ t195 true _ ?side1 ?side2 ?side3 ?side4 A12.out).mono ?_); (case side1 => repeat (first | exact (Kd.S_reads' HO203.out).2.2 | (with_reducible refine Kd.C_alloc ?_ _) | (with_reducible refine Kd.C_drewN ?_ _) | (with_reducible refine Kd.C_drew ?_))); (case side2 => exact (Kd.S_reads' HO203.out).2.1); (case side3 => repeat (first | exact (Kd.S_reads' HO197.out).2.2 | (with_reducible refine Kd.C_alloc ?_ _) | (with_reducible refine Kd.C_drewN ?_ _) | (with_reducible refine Kd.C_drew ?_))); (case side4 => exact (Kd.S_reads' HO197.out).2.1); rintro e w' ⟨rfl, ⟨nd, rfl⟩⟩; refine ⟨_, rfl, ?_⟩) | ((with_reducible refine gate_callee (f := 10) rfl ?_); refine goesL_ (some 30) rfl rfl Try.func10 (by kernel_rfl) rfl #[.slice Ao34 t201.length co34, .int .i64 1] rfl (by (try simp only [List.map_toArray, List.map_cons, List.map_nil]); first | done | rfl | (simp only [List.length_drop, List.length_take]; rfl)) ?_; (with_reducible refine (laws_markIntSS.calls (fun k_ => m_ ≤ k_ ∧ k_ ≠ gb190) (.slice Ao34 t201.length co34) t201 1 t205 t206 w _ ?side1 ?side2 A14.out).mono ?_); (case side1 => repeat (first | (with_reducible first | exact HB.out | apply below_alloc | apply pw_below_drewN | apply below_drew1 | refine below_set ?_ GE190.out) | exact HB.out)); (case side2 => exact Kd.S_types (HO203.out) BK190.out (by decide)); rintro e w36 ⟨rfl, hy0, hb, hkp⟩; refine ⟨_, rfl, ?_⟩; have n0_ := Aside0.mk (blk_kept (by (with_reducible repeat (first | refine blk_drewN ?_ _ | refine blk_drew ?_ | refine blk_alloc ?_ _)); exact BK190.out) hkp (fun hs_ => hs_.2 rfl)); have n1_ := Aside0.mk (Kd.S_mono (ok' := fun k_ => m_ ≤ k_) hy0 (fun k_ hk_ => hk_.1)); have n9_ := Aside0.mk (Kd.S_step (uS HO197.out) (fun k_ ho_ hlt_ => hkp.2 k_ hlt_ (fun hs_ => Nat.not_lt.mpr hs_.1 ho_))); have n2_ := Aside0.mk (hb); clear BK190; clear HO203; clear HB; clear HO197; have HO197 := n9_; clear n9_; have BK190 := n0_; have HO203 := n1_; have HB := n2_; clear n0_ n1_ n2_; (try clear hb); (try clear hkp); (try clear hy0)) | ((with_reducible refine gate_callee (f := 11) rfl ?_); refine goesL_ (some 33) rfl rfl Try.func11 (by kernel_rfl) rfl #[.slice Ao34 t206.length co34, .int .i64 1] rfl (by (try simp only [List.map_toArray, List.map_cons, List.map_nil]); first | done | (rw [show t206.length = t201.length from (Kd.S_reads' HO203.out).1.symm] <;> rfl) | rfl | (simp only [List.length_drop, List.length_take]; rfl)) ?_; (with_reducible refine (laws_heldIntSS.calls k _ _ t206 1 t207 _ ?side1 ?side2 A15.out).mono ?_); (case side1 => repeat (first | exact (Kd.S_reads' HO203.out).2.2 | (with_reducible refine Kd.C_alloc ?_ _) | (with_reducible refine Kd.C_drewN ?_ _) | (with_reducible refine Kd.C_drew ?_))); (case side2 => rw [show t206.length = t201.length from (Kd.S_reads' HO203.out).1.symm]; exact (Kd.S_reads' HO203.out).2.1); rintro e w' ⟨rfl, ⟨nd, rfl⟩⟩; refine ⟨_, rfl, ?_⟩; have hcz37_0 : w36.cell? ⟨gb190, 0, none⟩ = some (.int .i64 a0_0) := (blk_cell BK190.out 0).trans rfl; have hcz37_1 : w36.cell? ⟨gb190, 1, none⟩ = some (.int .i64 a0_1) := (blk_cell BK190.out 1).trans rfl; have hcz37_2 : w36.cell? ⟨gb190, 2, none⟩ = some (.string a0_2) := (blk_cell BK190.out 2).trans rfl; have hfz37_0 := blk_frozen BK190.out 0; have hfz37_1 := blk_frozen BK190.out 1; have hfz37_2 := blk_frozen BK190.out 2) | ((with_reducible refine gate_callee (f := 7) rfl ?_); refine goesL_ (some 40) rfl rfl Try.func7 (by kernel_rfl) rfl #[.agg #[.int .i64 a0_0, .int .i64 a0_1, .string a0_2]] rfl (by (try simp only [List.map_toArray, List.map_cons, List.map_nil]); first | done | rfl | (simp only [List.length_drop, List.length_take]; rfl)) ?_; (with_reducible refine (laws_toGrid.calls a0_0 a0_1 a0_2 t208 t209 t210 _ A18.out).mono ?_); rintro e w38 ⟨rfl, hb⟩; refine ⟨_, rfl, ?_⟩; have n9_ := Aside0.mk (Kd.S_below (uS HO197.out) hb); clear HO197; have HO197 := n9_; clear n9_; have n0_ := Aside0.mk (Kd.S_below (uS HO203.out) hb); have n1_ := Aside0.mk (blk_below (g := gb190) (o := .cells #[.int .i64 a0_0, .int .i64 a0_1, .string a0_2] 23 (0, 0)) (by (with_reducible repeat (first | refine blk_drewN ?_ _ | refine blk_drew ?_ | refine blk_alloc ?_ _)); exact BK190.out) hb); have n2_ := Aside0.mk (below_step (by repeat (first | (with_reducible first | exact HB.out | apply below_alloc | apply pw_below_drewN | apply below_drew1 | refine below_set ?_ GE190.out) | exact HB.out)) hb); clear HO203; clear BK190; clear HB; have HO203 := n0_; have BK190 := n1_; have HB := n2_; clear n0_ n1_ n2_; (try clear hb); (try clear hb2); (try clear hk); (try clear hi)) | ((with_reducible refine gate_callee (f := 8) rfl ?_); refine goesL_ (some 42) rfl rfl Try.func8 (by kernel_rfl) rfl #[.agg #[.int .i64 t208, .int .i64 t209, .string t210], .int .i64 a1] rfl (by (try simp only [List.map_toArray, List.map_cons, List.map_nil]); first | done | rfl | (simp only [List.length_drop, List.length_take]; rfl)) ?_; (with_reducible refine (impl_StandsOf.calls k t208 t209 t210 a1 t211 _ A19.out).mono ?_); rintro e w39 ⟨v212, rfl, ho0, hb⟩; refine ⟨_, rfl, ?_⟩; have n9_ := Aside0.mk (Kd.S_below (uS HO197.out) hb); clear HO197; have HO197 := n9_; clear n9_; have n0_ := Aside0.mk (Kd.S_elder' (uS HO203.out) (Kd.S_base ho0) hb); have n1_ := Aside0.mk (Kd.S_lower (Kd.S_new' ho0 (Kd.S_lt (uS HO203.out))) (below_size (by repeat (first | (with_reducible first | exact HB.out | apply below_alloc | apply pw_below_drewN | apply below_drew1 | refine below_set ?_ GE190.out) | exact HB.out)))); have n2_ := Aside0.mk (blk_below (g := gb190) (o := .cells #[.int .i64 a0_0, .int .i64 a0_1, .string a0_2] 23 (0, 0)) (by (with_reducible repeat (first | refine blk_drewN ?_ _ | refine blk_drew ?_ | refine blk_alloc ?_ _)); exact BK190.out) hb); have n3_ := Aside0.mk (below_step (by repeat (first | (with_reducible first | exact HB.out | apply below_alloc | apply pw_below_drewN | apply below_drew1 | refine below_set ?_ GE190.out) | exact HB.out)) hb); clear HO203; clear BK190; clear HB; have HO203 := n0_; have HO213 := n1_; have BK190 := n2_; have HB := n3_; clear n0_ n1_ n2_ n3_; (try clear hb); (try clear hb2); (try clear hk); (try clear hi); (try clear ho0); obtain ⟨Ao40, co40, eo40⟩ := Kd.S_slice HO213.out; subst eo40) | ((with_reducible refine gate_callee (f := 9) rfl ?_); refine goesL_ (some 45) rfl rfl Try.func9 (by kernel_rfl) rfl #[.slice Ao40 t211.length co40, .slice Ao35 t195.length co35] rfl (by (try simp only [List.map_toArray, List.map_cons, List.map_nil]); first | done | rfl | (simp only [List.length_drop, List.length_take]; rfl)) ?_; (with_reducible refine (laws_eqIntSS.calls k _ _ t211 _ _ t195 true _ ?side1 ?side2 ?side3 ?side4 A20.out).mono ?_); (case side1 => repeat (first | exact (Kd.S_reads' HO213.out).2.2 | (with_reducible refine Kd.C_alloc ?_ _) | (with_reducible refine Kd.C_drewN ?_ _) | (with_reducible refine Kd.C_drew ?_))); (case side2 => exact (Kd.S_reads' HO213.out).2.1); (case side3 => repeat (first | exact (Kd.S_reads' HO197.out).2.2 | (with_reducible refine Kd.C_alloc ?_ _) | (with_reducible refine Kd.C_drewN ?_ _) | (with_reducible refine Kd.C_drew ?_))); (case side4 => exact (Kd.S_reads' HO197.out).2.1); rintro e w' ⟨rfl, ⟨nd, rfl⟩⟩; refine ⟨_, rfl, ?_⟩) | ((with_reducible refine gate_callee (f := 11) rfl ?_); refine goesL_ (some 49) rfl rfl Try.func11 (by kernel_rfl) rfl #[.slice Ao34 t206.length co34, .int .i64 1] rfl (by (try simp only [List.map_toArray, List.map_cons, List.map_nil]); first | done | (rw [show t206.length = t201.length from (Kd.S_reads' HO203.out).1.symm] <;> rfl) | rfl | (simp only [List.length_drop, List.length_take]; rfl)) ?_; (with_reducible refine (laws_heldIntSS.calls k _ _ t206 1 t215 _ ?side1 ?side2 A22.out).mono ?_); (case side1 => repeat (first | exact (Kd.S_reads' HO203.out).2.2 | (with_reducible refine Kd.C_alloc ?_ _) | (with_reducible refine Kd.C_drewN ?_ _) | (with_reducible refine Kd.C_drew ?_))); (case side2 => rw [show t206.length = t201.length from (Kd.S_reads' HO203.out).1.symm]; exact (Kd.S_reads' HO203.out).2.1); rintro e w' ⟨rfl, ⟨nd, rfl⟩⟩; refine ⟨_, rfl, ?_⟩))
        go_ret
        exact ⟨by first | rfl | (simp [errW_none, errW_some] <;> rfl) | (simp [*, errW_none, errW_some] <;> rfl), by repeat (first | (with_reducible first | exact HB.out | apply below_alloc | apply pw_below_drewN | apply below_drew1 | refine below_set ?_ GE190.out) | exact HB.out)⟩
       ·rw [if_neg c24] at H
        have c24b0 : (t215 == t205) = false := beq_eq_false_iff_ne.mpr c24
        have c24b1 : (t215 != t205) = true := bne_iff_ne.mpr c24
        exact absurd hr_ (by rw [← Option.some.inj H]; decide)
     ·replace c21 := Bool.eq_false_iff.mpr c21
      subst c21
      have H1 : (some false) = some r := by rw [if_neg (show ¬ (false = true) by decide)] at H; exact H
      clear H
      have H := H1
      clear H1
      exact absurd hr_ (by rw [← Option.some.inj H]; decide)
    ·rw [if_neg c17] at H
     have c17b0 : (t207 == t205) = false := beq_eq_false_iff_ne.mpr c17
     have c17b1 : (t207 != t205) = true := bne_iff_ne.mpr c17
     exact absurd hr_ (by rw [← Option.some.inj H]; decide)
  ·replace c13 := Bool.eq_false_iff.mpr c13
   subst c13
   have H1 : (some false) = some r := by rw [if_neg (show ¬ (false = true) by decide)] at H; exact H
   clear H
   have H := H1
   clear H1
   exact absurd hr_ (by rw [← Option.some.inj H]; decide)

/-- THE ONE PURE STATEMENT of laws_FnExactStandsOf. -/
def laws_FnExactStandsOf.Pure : Prop := ∀ (a0_0 : Int) (a0_1 : Int) (a0_2 : ByteArray) (a1 : Int), ((Lit.int .i64 a0_0).wf = true) → ((Lit.int .i64 a0_1).wf = true) → (a0_2.size ≤ maxLen) → ((Lit.int .i64 a1).wf = true) → ∃ k, laws_FnExactStandsOf.f k a0_0 a0_1 a0_2 a1 = some true

end Go.Proofs.Ytmdkfmbgddhjcaa.Q
