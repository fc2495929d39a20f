-- Written by a session's own program (wip/tools/myprint.py) over the kit's printer, out of the translation. Not trusted: Lean checks it.
import Derived.Test.YtbcljfbpkmlgpaaQ0
namespace Go.Proofs.Ytbcljfbpkmlgpaa.Q
open Go.RowKit Go.Proofs.YtbcljfbpkmlgpaaW.PrintWords Go.Proofs.YtbcljfbpkmlgpaaW.PrintLast Go.Proofs.YtbcljfbpkmlgpaaW.PrintMore
attribute [local go_sem] max2_int min2_int max_two min_two max_three min_three max_four min_four   -- for this text's walks alone
set_option linter.unusedVariables false
set_option linter.unusedSimpArgs false

/-! ### laws_markIntS: function 35 -/
def laws_markIntS.l0 : Nat → List Int → Int → Int → Option (Int × List Int)
  | 0, _, _, _ => none
  | k + 1, x0, x1, x5 => if x5 < (x0.length : Int) then (if 0 ≤ x5 then (laws_markIntS.l0 k (x0.set (x5 : Int).toNat x1) (wrap64 (x1 + 1)) (wrap64 (x5 + 1))) else (none)) else (some (x1, x0))
def laws_markIntS.f (k : Nat) (l0 : List Int) (a1 : Int) : Option (Int × List Int) := laws_markIntS.l0 k l0 a1 0
theorem laws_markIntS.mono_l : ∀ k, (∀ y0 y1 y2, LeO (laws_markIntS.l0 k y0 y1 y2) (laws_markIntS.l0 (k + 1) y0 y1 y2))
  | 0 => fun _ _ _ r h => by simp [laws_markIntS.l0] at h
  | k + 1 => by
    have ih0 := laws_markIntS.mono_l k
    · intro y0 y1 y2
      unfold laws_markIntS.l0
      repeat' first
      | (with_reducible exact ih0 _ _ _)
      | (with_reducible exact LeO.refl _)
      | (with_reducible exact LeO.none _)
      | (with_reducible refine LeO.ite ?_ ?_)
      | (with_reducible refine LeO.bind ?_ (fun _ => ?_))
      | exact ih0 _ _ _
      | exact LeO.none _
      | refine LeO.ite ?_ ?_
      | refine LeO.bind ?_ (fun _ => ?_)
theorem laws_markIntS.mono : ∀ a0 a1 k, LeO (laws_markIntS.f k a0 a1) (laws_markIntS.f (k + 1) a0 a1) := by
  intro a0 a1 k
  have ih0 := laws_markIntS.mono_l k
  unfold laws_markIntS.f
  repeat' first
      | (with_reducible exact ih0 _ _ _)
      | (with_reducible exact LeO.refl _)
      | (with_reducible exact LeO.none _)
      | (with_reducible refine LeO.ite ?_ ?_)
      | (with_reducible refine LeO.bind ?_ (fun _ => ?_))
      | exact ih0 _ _ _
      | exact LeO.none _
      | refine LeO.ite ?_ ?_
      | refine LeO.bind ?_ (fun _ => ?_)
set_option maxHeartbeats 8000000 in
set_option maxRecDepth 100000 in
theorem laws_markIntS.calls (k : Nat) (P0_ : Nat → Prop) (u9000_ : Value) (l0 : List Int) (a1 : Int) (r1 : Int) (r2 : List Int) (w0 w : World) (hB : Below w0.heap.size w0 w) (ho0 : Kd.R (Kd.int .i64) 3 w w0.heap.size P0_ u9000_ l0) (h : laws_markIntS.f k l0 a1 = some (r1, r2)) :
    Calls Try.prog 35 #[u9000_, .int .i64 a1] w fun e w' => e = .returned (.int .i64 r1) ∧ Kd.R (Kd.int .i64) 3 w' w0.heap.size (fun k_ => (P0_ k_ ∨ w.heap.size ≤ k_)) u9000_ r2 ∧ Below w0.heap.size w0 w' ∧ Kept w w' (fun k_ => P0_ k_) := by
  have HO0 := Aside0.mk (show Kd.R (Kd.int .i64) 3 w w0.heap.size (fun k_ => (P0_ k_ ∨ w.heap.size ≤ k_)) u9000_ l0 from Kd.R_mono ho0 (fun k_ hk => (.inl hk)))
  have HK := Aside0.mk (Kept.refl w (fun k_ => P0_ k_))
  have HW0 := Aside0.mk hB.size
  have HB := Aside0.mk hB
  clear hB
  have H : (laws_markIntS.l0 k l0 a1 0) = some (r1, r2) := h
  clear h
  have H' := Aside0.mk H
  clear H
  go_enter Try.func35, Try.ntmps35
  go_wp2
  go_loopg [1, 5] k (fun kq v1 v5 w' => ∃ (x0_1 : List Int) (x1_1 : Int) (x5_1 : Int), v1 = .int .i64 x1_1 ∧ v5 = .int .i64 x5_1 ∧ Aside0 (laws_markIntS.l0 kq x0_1 x1_1 x5_1 = some (r1, r2)) ∧ Aside0 (kq ≤ k) ∧ Aside0 (Kd.R (Kd.int .i64) 3 w' w0.heap.size (fun k_ => (P0_ k_ ∨ w.heap.size ≤ k_)) u9000_ x0_1) ∧ Aside0 (Kept w w' (fun k_ => P0_ k_)) ∧ Aside0 (Below w0.heap.size w0 w'))
  case atStart => exact ⟨(l0), (a1), (0), (by first | rfl | (simp; done) | (simp [*]; done)), (by first | rfl | (simp; done) | (simp [*]; done)), H', ⟨Nat.le_refl _⟩, ⟨by (with_reducible repeat (first | apply Kd.R_alloc | apply Kd.R_drewN | apply Kd.R_drew)); exact HO0.out⟩, ⟨by repeat (first | (with_reducible first | exact HK.out | apply Kept.alloc | apply Kept.drewN | apply Kept.drew) | exact HK.out)⟩, ⟨by repeat (first | (with_reducible first | exact HB.out | apply below_alloc | apply pw_below_drewN | apply below_drew1) | exact HB.out)⟩⟩
  case round =>
    clear H'
    try clear p2
    obtain ⟨x0_1, x1_1, x5_1, rfl, rfl, HA, HK1, HO_0, HK, HB⟩ := hrel
    cases gk with
    | zero => exact absurd HA.out (by simp [laws_markIntS.l0])
    | succ k1 =>
      have H := HA.out
      clear HA
      simp only [laws_markIntS.l0] at H
      by_cases c3 : x5_1 < (x0_1.length : Int)
      · rw [if_pos c3] at H
        have c3b0 : decide (x5_1 < (x0_1.length : Int)) = true := decide_eq_true c3
        clear c3
        by_cases c4 : 0 ≤ x5_1
        · rw [if_pos c4] at H
          have c4b0 : decide (0 ≤ x5_1) = true := decide_eq_true c4
          clear c4
          obtain ⟨y132, hy132⟩ : ∃ y_ : List Int, y_ = (x0_1.set (x5_1 : Int).toNat x1_1) := ⟨_, rfl⟩
          replace H : (laws_markIntS.l0 k1 y132 (wrap64 (x1_1 + 1)) (wrap64 (x5_1 + 1))) = some (r1, r2) := by first | (rw [hy132]; with_reducible exact H) | (have H2_ := (Option.bind_some _ _).symm.trans H; rw [hy132]; with_reducible exact H2_) | (have H2_ := (Option.bind_some _ _).symm.trans H; with_reducible exact H2_) | with_reducible exact H | (rw [hy132]; exact H) | exact H
          have Ny132 := Aside0.mk hy132
          clear hy132
          have H' := Aside0.mk H
          clear H
          obtain ⟨Ao6, co6, eo6⟩ := Kd.R_slice HO_0.out
          subst eo6
          have p5 : 0 ≤ (x5_1 : Int) := of_decide_eq_true (by first | (with_reducible assumption) | assumption)
          have q5 : (x5_1 : Int) < ((x0_1.length : Int) : Int) := of_decide_eq_true (by first | (with_reducible assumption) | assumption)
          obtain ⟨go5, co5, eo5, gb5, gl5, cl5, HG5⟩ := Kd.R_form HO_0.out (by omega)
          (first | cases eo5 | (injection eo5 with ea_ en_ ec_; (first | subst ea_ | (injection ea_ with ea_; subst ea_)); subst ec_; clear en_))
          have GB5 := Aside0.mk gb5
          have GG5 := Aside0.mk HG5
          clear gb5 gl5 HG5
          have HMgo5 := Aside0.mk (show (P0_ go5 ∨ w.heap.size ≤ go5) from (HO_0.out.1 _ rfl))
          obtain ⟨hx5_0, hf5_0⟩ := Kd.R_celln 0 HO_0.out (x5_1 : Int) p5 q5
          replace p5 := eq_true p5
          replace q5 := eq_true q5
          have HP7 := Kd.R_putg HO_0.out (x5_1 : Int) x1_1
          go_wp2_with (first | ((with_reducible refine gate_store (t := 3) (p := 15) rfl ?_); refine store_event (t := 3) (p := 15) (v := ?vo_w8) (w1 := (wr.setCell ⟨go5, (x5_1 : Int).toNat, none⟩ (.int .i64 x1_1))) ?hg ?ho ?hn ?hr ?_; (case ho => rfl); (case hg => rfl); (case hn => rfl); (case hr => first | (go_simp; done) | (go_simp; rfl)); intro w8 hw; have hg : wr.grownBy w8 (some go5) := (by rw [hw]; exact HP7.2); have hp_ : Kd.R (Kd.int .i64) 3 w8 w0.heap.size (fun k_ => (P0_ k_ ∨ w.heap.size ≤ k_)) (.slice (some ⟨go5, 0, none⟩) x0_1.length co6) y132 := (by rw [hw, Ny132.out]; exact HP7.1); clear HP7; have n0_ := Aside0.mk (hp_); have n1_ := Aside0.mk ((by rw [hw]; exact below_set (HB.out) GB5.out : Below w0.heap.size w0 w8)); have n2_ := Aside0.mk (Kept.of_grown (S := (fun k_ => P0_ k_)) hg (by repeat (first | (with_reducible first | exact HK.out | apply Kept.alloc | apply Kept.drewN | apply Kept.drew) | exact HK.out)) (fun k_ e_ => (HO_0.out.1 k_ e_))); clear HO_0; clear HB; clear HK; have HO_0 := n0_; have HB := n1_; have HK := n2_; clear n0_ n1_ n2_; clear hg hw hp_))
          go_roundg k1
          case measure => have := HK1.out; omega
          case rel => exact ⟨(y132), (wrap64 (x1_1 + 1)), (wrap64 (x5_1 + 1)), (by first | rfl | (simp; done) | (simp [*]; done)), (by first | rfl | (simp; done) | (simp [*]; done)), H', ⟨by have := HK1.out; omega⟩, ⟨by (with_reducible repeat (first | apply Kd.R_alloc | apply Kd.R_drewN | apply Kd.R_drew)); exact HO_0.out⟩, ⟨by repeat (first | (with_reducible first | exact HK.out | apply Kept.alloc | apply Kept.drewN | apply Kept.drew) | exact HK.out)⟩, ⟨by repeat (first | (with_reducible first | exact HB.out | apply below_alloc | apply pw_below_drewN | apply below_drew1) | exact HB.out)⟩⟩
        · rw [if_neg c4] at H
          exact absurd H (by simp)
      · rw [if_neg c3] at H
        have c3b0 : decide (x5_1 < (x0_1.length : Int)) = false := decide_eq_false c3
        clear c3
        simp only [Option.some.injEq, Prod.mk.injEq] at H
        obtain ⟨rfl, rfl⟩ := H
        obtain ⟨Ao9, co9, eo9⟩ := Kd.R_slice HO_0.out
        subst eo9
        go_wp2
        go_ret
        exact ⟨by first | rfl | (simp [errW_none, errW_some] <;> rfl) | (simp [*, errW_none, errW_some] <;> rfl), by (with_reducible repeat (first | apply Kd.R_alloc | apply Kd.R_drewN | apply Kd.R_drew)); exact HO_0.out, by repeat (first | (with_reducible first | exact HB.out | apply below_alloc | apply pw_below_drewN | apply below_drew1) | exact HB.out), by repeat (first | (with_reducible first | exact HK.out | apply Kept.alloc | apply Kept.drewN | apply Kept.drew) | exact HK.out)⟩

/-! ### laws_markWayS: function 30 -/
/-! ### markWayS: the cells of paths that are the call's own, and lie apart, are marked one after the other -/
def iotaQ (m : Int) : Nat → List Int
  | 0 => []
  | d + 1 => m :: iotaQ (m + 1) d
theorem iotaQ_length : ∀ (m : Int) (d : Nat), (iotaQ m d).length = d
  | _, 0 => rfl
  | m, d + 1 => by simp [iotaQ, iotaQ_length (m + 1) d]
theorem markIntQ_l0 : ∀ (d i k : Nat) (l : List Int) (m : Int), i + d = l.length → l.length ≤ 9223372036854775807 → 0 ≤ m → m + d ≤ 9223372036854775807 → d < k →
    laws_markIntS.l0 k l m (i : Int) = some (m + d, l.take i ++ iotaQ m d)
  | 0, i, k, l, m, hi, hn, h0, hm, hk => by
    obtain ⟨k, rfl⟩ : ∃ m, k = m + 1 := ⟨k - 1, by omega⟩
    simp only [laws_markIntS.l0]
    rw [if_neg (by omega), List.take_of_length_le (by omega)]
    simp [iotaQ]
  | d + 1, i, k, l, m, hi, hn, h0, hm, hk => by
    obtain ⟨k, rfl⟩ : ∃ m, k = m + 1 := ⟨k - 1, by omega⟩
    simp only [laws_markIntS.l0]
    rw [if_pos (by omega), if_pos (by omega), show wrap64 (m + 1) = m + 1 by unfold wrap64; omega, show wrap64 ((i : Int) + 1) = ((i + 1 : Nat) : Int) by unfold wrap64; omega, Int.toNat_natCast,
      markIntQ_l0 d (i + 1) k _ (m + 1) (by simp; omega) (by simpa using hn) (by omega) (by omega) (by omega)]
    have ht : (l.set i m).take (i + 1) = l.take i ++ [m] := by
      rw [List.take_succ_eq_append_getElem (by simp; omega)]
      simp [List.take_set_of_le]
    rw [ht, List.append_assoc]
    congr 1
    refine Prod.ext ?_ rfl
    show m + 1 + (d : Int) = m + ((d + 1 : Nat) : Int)
    omega
theorem markIntQ (l : List Int) (m : Int) (hn : l.length ≤ 9223372036854775807) (h0 : 0 ≤ m) (hm : m + l.length ≤ 9223372036854775807) : laws_markIntS.f (l.length + 1) l m = some (m + l.length, iotaQ m l.length) := by
  have := markIntQ_l0 l.length 0 (l.length + 1) l m (by omega) hn h0 hm (by omega)
  simpa [laws_markIntS.f] using this
def waysLen (l : List S42) : Nat := (l.map fun x => x.f0.length).sum
def waysMark : List S42 → Int → List S42
  | [], _ => []
  | x :: xs, m => ⟨iotaQ m x.f0.length⟩ :: waysMark xs (m + (x.f0.length : Int))
def laws_markWayS.f (l0 : List S42) (a1 : Int) : Option (Int × List S42) := if 0 ≤ a1 ∧ a1 + (waysLen l0 : Int) ≤ 9223372036854775807 then some (a1 + (waysLen l0 : Int), waysMark l0 a1) else none
theorem waysLen_take (l : List S42) (i : Nat) (h : i < l.length) : waysLen (l.take (i + 1)) = waysLen (l.take i) + (l[i]).f0.length := by
  unfold waysLen
  rw [List.take_succ_eq_append_getElem h, List.map_append, List.sum_append]
  simp only [List.map_cons, List.map_nil, List.sum_cons, List.sum_nil]
  omega
theorem waysLen_le (l : List S42) (i : Nat) : waysLen (l.take i) ≤ waysLen l := by
  unfold waysLen
  conv => rhs; rw [← List.take_append_drop i l, List.map_append, List.sum_append]
  omega
theorem waysMark_length : ∀ (l : List S42) (m : Int), (waysMark l m).length = l.length
  | [], _ => rfl
  | x :: xs, m => by simp [waysMark, waysMark_length xs]
theorem waysMark_get : ∀ (l : List S42) (m : Int) (i : Nat) (h : i < l.length), (waysMark l m)[i]? = some ⟨iotaQ (m + (waysLen (l.take i) : Int)) (l[i]).f0.length⟩
  | [], _, _, h => absurd h (by simp)
  | x :: xs, m, 0, _ => by simp [waysMark, waysLen]
  | x :: xs, m, i + 1, h => by
    have := waysMark_get xs (m + (x.f0.length : Int)) i (by simpa using h)
    simp only [waysMark, List.getElem?_cons_succ, List.take_succ_cons, List.getElem_cons_succ]
    rw [this]
    congr 3
    unfold waysLen
    simp only [List.map_cons, List.sum_cons]
    omega
set_option maxHeartbeats 8000000 in
set_option maxRecDepth 100000 in
theorem laws_markWayS.calls (P0_ : Nat → Prop) (u9000_ : Value) (l0 : List S42) (a1 : Int) (r1 : Int) (r2 : List S42) (w0 w : World) (hB : Below w0.heap.size w0 w) (ho0 : Kd.S k42 42 w w0.heap.size P0_ u9000_ l0) (h : laws_markWayS.f l0 a1 = some (r1, r2)) :
    Calls Try.prog 30 #[u9000_, .int .i64 a1] w fun e w' => e = .returned (.int .i64 r1) ∧ Kd.S k42 42 w' w0.heap.size (fun k_ => P0_ k_) u9000_ r2 ∧ Below w0.heap.size w0 w' ∧ Kept w w' (fun k_ => P0_ k_) := by
  have hu := Try.underlying42
  unfold laws_markWayS.f at h
  by_cases hc : 0 ≤ a1 ∧ a1 + (waysLen l0 : Int) ≤ 9223372036854775807
  · rw [if_pos hc] at h
    obtain ⟨h1, h2⟩ := Prod.mk.inj (Option.some.inj h)
    subst h1
    subst h2
    obtain ⟨A, c, rfl⟩ := Kd.R_slice (Kd.S_R ho0)
    have hn : l0.length ≤ 9223372036854775807 := (Kd.R_reads' (Kd.S_R ho0)).2.2.2.1
    have HLEN : Aside0 (∀ i, (hi : i < l0.length) → (l0[i]).f0.length ≤ 9223372036854775807) := ⟨fun i hi => by
      have := waysLen_take l0 i hi
      have := waysLen_le l0 (i + 1)
      omega⟩
    have HO := Aside0.mk ho0
    have HB := Aside0.mk hB
    have HC := Aside0.mk hc
    clear ho0 hB h hc
    go_enter Try.func30, Try.ntmps30
    go_wp2
    go_loopg [1, 5] l0.length (fun gg v1 v5 w' => ∃ (i : Nat) (cur : List S42), v1 = .int .i64 (a1 + (waysLen (l0.take i) : Int)) ∧ v5 = .int .i64 i ∧ i ≤ l0.length ∧ l0.length - i ≤ gg ∧ cur.length = l0.length ∧ Aside0 (cur.take i = (waysMark l0 a1).take i) ∧ Aside0 (cur.drop i = l0.drop i) ∧ Aside0 (Kd.S k42 42 w' w0.heap.size P0_ (.slice A l0.length c) cur) ∧ Aside0 (Below w0.heap.size w0 w') ∧ Aside0 (Kept w w' P0_))
    case atStart => exact ⟨0, l0, by simp [waysLen], rfl, by omega, by omega, rfl, ⟨rfl⟩, ⟨rfl⟩, HO, HB, ⟨Kept.refl _ _⟩⟩
    case round =>
      obtain ⟨i, cur, rfl, rfl, hin, hg, hcl, HT, HD, HS, HBr, HK⟩ := hrel
      clear HO HB
      by_cases hlt : i < l0.length
      · have hltz : (i : Int) < (l0.length : Int) := by omega
        have hxi : cur.getD (i : Int).toNat z42 = l0[i] := by
          have h := congrArg (fun z => z[0]?) HD.out
          simp only [List.getElem?_drop, Nat.add_zero] at h
          rw [List.getElem?_eq_getElem (by omega), List.getElem?_eq_getElem hlt] at h
          rw [Int.toNat_natCast, List.getD_eq_getElem?_getD, List.getElem?_eq_getElem (by omega)]
          exact Option.some.inj h
        have hpos : 0 < cur.length := by omega
        obtain ⟨g, cap, ev, hge, _, _⟩ := Kd.R_form (Kd.S_R HS.out) hpos
        rw [hcl] at ev
        injection ev with ea en ec
        subst ea
        subst ec
        obtain ⟨oki, cs, hcs, hM, hcell, hoki, hH⟩ := Kd.S_lend HS.out z42 (i : Int) (by omega) (by omega)
        rw [hxi] at hM
        obtain ⟨v0, rfl, hR⟩ := k42_openM hM
        obtain ⟨A0, c0, rfl⟩ := Kd.R_slice hR
        have hx := hcell 0 _ rfl
        rw [Int.toNat_natCast, show k42.sz = 1 from rfl, Nat.mul_one, Nat.add_zero] at hx
        have hwl := waysLen_take l0 i hlt
        have hwl2 := waysLen_le l0 (i + 1)
        have hmk := markIntQ (l0[i]).f0 (a1 + (waysLen (l0.take i) : Int)) (HLEN.out i hlt) (by have := HC.out; omega) (by have := HC.out; omega)
        have HCALL := Aside0.mk (laws_markIntS.calls ((l0[i]).f0.length + 1) oki (.slice A0 (l0[i]).f0.length c0) (l0[i]).f0 (a1 + (waysLen (l0.take i) : Int)) _ _ w0 wr HBr.out hR hmk)
        have HNEW : Aside0 ((waysMark l0 a1).take (i + 1) = (waysMark l0 a1).take i ++ [⟨iotaQ (a1 + (waysLen (l0.take i) : Int)) (l0[i]).f0.length⟩]) := ⟨by
          have hl : i < (waysMark l0 a1).length := by rw [waysMark_length]; exact hlt
          have := waysMark_get l0 a1 i hlt
          rw [List.getElem?_eq_getElem hl] at this
          rw [List.take_succ_eq_append_getElem hl, Option.some.inj this]⟩
        have HDn : Aside0 (cur.drop (i + 1) = l0.drop (i + 1)) := ⟨by have := congrArg (List.drop 1) HD.out; rwa [List.drop_drop, List.drop_drop] at this⟩
        have HW := Aside0.mk hwl
        have HH := Aside0.mk hH
        have HOKI := Aside0.mk hoki
        have HROK := Aside0.mk hR.1
        clear hcell hoki hH hM hR hmk hwl hwl2 hxi hpos hcs HLEN HC
        generalize iotaQ (a1 + (waysLen (l0.take i) : Int)) (l0[i]).f0.length = rl at HCALL HNEW
        generalize (l0[i]).f0.length = m at hx HCALL HW HH HROK
        generalize waysLen (l0.take i) = u at HCALL HW
        go_wp2_with (go_at_call 35; refine HCALL.out.mono ?_; rintro e w2 ⟨rfl, hy, hb, hk⟩; have HY := Aside0.mk hy; have HB2 := Aside0.mk hb; have HKM := Aside0.mk hk; clear hy hb hk)
        have HS2 := Aside0.mk (Kd.H_back (Kd.H_kept HH.out HKM.out (fun k _ hn => hn)) (k42_mkM w2 w0.heap.size oki ⟨rl⟩ (Kd.R_reok rfl HY.out HROK.out)) (fun _ h => h))
        have HK2 := Aside0.mk (HK.out.then_ HKM.out (fun k hk => .inl (HOKI.out k hk).1))
        rw [Int.toNat_natCast] at HS2
        go_roundg (l0.length - (i + 1))
        case measure => omega
        case rel => exact ⟨i + 1, cur.set i ⟨rl⟩, by rw [HW.out]; congr 1; omega, by go_num, by omega, by omega, by simpa using hcl, ⟨by rw [List.take_succ_eq_append_getElem (by simp; omega), HNEW.out, ← HT.out]; simp [List.take_set_of_le]⟩, ⟨by rw [List.drop_set_of_lt (by omega)]; exact HDn.out⟩, HS2, HB2, HK2⟩
      · have hltz : ¬ (i : Int) < (l0.length : Int) := by omega
        have hi : i = l0.length := by omega
        subst hi
        have HT2 : Aside0 (cur = waysMark l0 a1) := ⟨by
          have := HT.out
          rwa [List.take_of_length_le (by omega), List.take_of_length_le (by rw [waysMark_length]; omega)] at this⟩
        rw [List.take_length]
        clear HT HD
        go_wp2
        go_ret
        exact ⟨rfl, by rw [← HT2.out]; exact HS.out, HBr.out, HK.out⟩
  · rw [if_neg hc] at h
    cases h


end Go.Proofs.Ytbcljfbpkmlgpaa.Q
