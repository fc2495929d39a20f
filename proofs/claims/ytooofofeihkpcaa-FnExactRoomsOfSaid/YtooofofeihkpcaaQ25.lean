-- Written by a session's own program (wip/tools/myprint.py) over the kit's printer, out of the translation. Not trusted: Lean checks it.
import Derived.Test.YtooofofeihkpcaaQ0
import Derived.Test.YtooofofeihkpcaaQ7
import Derived.Test.YtooofofeihkpcaaQ8
import Derived.Test.YtooofofeihkpcaaQ14
import Derived.Test.YtooofofeihkpcaaQ24
namespace Go.Proofs.Ytooofofeihkpcaa.Q
open Go.RowKit Go.Proofs.YtooofofeihkpcaaW.PrintWords Go.Proofs.YtooofofeihkpcaaW.PrintLast Go.Proofs.YtooofofeihkpcaaW.PrintMore
attribute [local go_sem] max2_int min2_int max_two min_two max_three min_three max_four min_four   -- for this text's walks alone
set_option linter.unusedVariables false
set_option linter.unusedSimpArgs false

/-! ### impl_parksLeft: function 63 -/
/-! ### slices.DeleteFunc over whole numbers, at whatever function value that tells p; the row is the caller's own, and lies above all that the function value reads -/
theorem R_clear (g n cap base : Nat) (ok : Nat → Prop) (w0 : World) (hge : w0.heap.size ≤ g) : ∀ (m i : Nat) (W : World) (xs : List Int), Kd.R (Kd.int .i64) 3 W base ok (.slice (some ⟨g, 0, none⟩) n cap) xs → Below w0.heap.size w0 W →
    ∃ xs' : List Int, xs'.length = xs.length ∧ xs'.take i = xs.take i ∧ Kd.R (Kd.int .i64) 3 (W.setCells g i (List.replicate m (.int .i64 0))) base ok (.slice (some ⟨g, 0, none⟩) n cap) xs' ∧ Below w0.heap.size w0 (W.setCells g i (List.replicate m (.int .i64 0)))
  | 0, i, W, xs, h, hb => ⟨xs, rfl, rfl, h, hb⟩
  | m + 1, i, W, xs, h, hb => by
    have h1 := Kd.R_putn h (i : Int) (0 : Int)
    rw [Int.toNat_natCast] at h1
    obtain ⟨xs', e1, e2, e3, e4⟩ := R_clear g n cap base ok w0 hge m (i + 1) _ _ h1 (below_set hb hge)
    refine ⟨xs', by simpa using e1, ?_, e3, e4⟩
    have := congrArg (List.take i) e2
    rw [List.take_take, List.take_take, Nat.min_eq_left (Nat.le_succ i)] at this
    rw [this, List.take_set_of_le (Nat.le_refl i)]
theorem findI_first (p : Int → Bool) : ∀ l : List Int, (findI p l = -1 ∧ l.filter (fun x => !p x) = l) ∨ ∃ k : Nat, k < l.length ∧ findI p l = (k : Int) ∧ p (l.getD k 0) = true ∧ (l.take k).filter (fun x => !p x) = l.take k
  | [] => .inl ⟨rfl, rfl⟩
  | x :: xs => by
    unfold findI
    by_cases c : p x = true
    · rw [if_pos c]
      exact .inr ⟨0, by simp, rfl, by simpa using c, rfl⟩
    · rw [if_neg c]
      rcases findI_first p xs with ⟨h1, h2⟩ | ⟨k, hk, h1, h2, h3⟩
      · left
        refine ⟨by simp [h1], ?_⟩
        rw [List.filter_cons, if_pos (by simpa using c), h2]
      · right
        refine ⟨k + 1, by simpa using hk, ?_, by simpa using h2, ?_⟩
        · simp only [h1]; rw [if_neg (by omega)]; omega
        · rw [List.take_succ_cons, List.filter_cons, if_pos (by simpa using c), h3]
set_option maxHeartbeats 8000000 in
set_option maxRecDepth 100000 in
theorem deleteFunc_int (p : Int → Bool) (g : Nat) (lb : Array Value) (eg : ∀ args w, (callFunc g args).run Try.prog w = .ok (.enter g args) w) (w0 W : World) (v : Value) (l : List Int) (hB : Below w0.heap.size w0 W)
    (hR : Kd.R (Kd.int .i64) 3 W w0.heap.size (fun _ => True) v l) (hp : Tells g lb (Value.int .i64) p l w0) :
    Calls Try.prog 88 #[v, .func (.func g) #[] lb] W fun e W' => ∃ v' : Value, e = .returned v' ∧ Kd.R (Kd.int .i64) 3 W' w0.heap.size (fun _ => True) v' (l.filter (fun x => !p x)) ∧ Below w0.heap.size w0 W' := by
  obtain ⟨A, c, rfl⟩ := Kd.R_slice hR
  have hrd := Kd.R_reads' hR
  have HI := Aside0.mk (indexFunc_int p g lb eg A c l W hrd.2.2 hrd.2.1 (fun W' x hx hb => hp W' x hx (below_step hB hb)))
  have HP : Aside0 (∀ (W : World) (x : Int), x ∈ l → Below w0.heap.size w0 W → Calls Try.prog g (#[Value.int .i64 x] ++ lb) W fun e w' => e = .returned (.bool (p x)) ∧ Below W.heap.size W w') := ⟨hp⟩
  have HR := Aside0.mk hR
  have HB := Aside0.mk hB
  clear hR hB hp hrd
  rcases findI_first p l with ⟨h1, h2⟩ | ⟨k0, hk0, h1, h2, h3⟩
  · rw [h1] at HI
    go_enter Try.func88, Try.ntmps88
    go_wp2_with (go_at_call 80; refine HI.out.mono ?_; rintro e w1 ⟨rfl, hb⟩)
    go_ret
    exact ⟨_, rfl, by rw [h2]; exact Kd.R_below HR.out hb, below_step HB.out hb⟩
  · have hn : l.length ≤ 9223372036854775807 := (Kd.R_reads' HR.out).2.2.2.1
    obtain ⟨gb, cap, e, hge, hlt0, _⟩ := Kd.R_form HR.out (by omega)
    cases e
    have GE := Aside0.mk hge
    have HCAP := Aside0.mk (Kd.R_reads' HR.out).2.1
    clear hge hlt0
    rw [h1] at HI
    have hq1 : decide ((k0 : Int) = -1) = false := decide_eq_false (by omega)
    have hq2 : ((k0 : Int) == -1) = false := by rw [beq_eq_false_iff_ne]; omega
    have H3 := Aside0.mk h3
    have H2 := Aside0.mk h2
    clear h1 h2 h3
    go_enter Try.func88, Try.ntmps88
    go_wp2_with (go_at_call 80; refine HI.out.mono ?_; rintro e w1 ⟨rfl, hb⟩; have HR1 := Aside0.mk (Kd.R_below HR.out hb); have HB1 := Aside0.mk (below_step HB.out hb); clear hb)
    go_loopg [5, 6] l.length (fun gg v5 v6 w' => ∃ (i j : Nat) (cur : List Int), v5 = .int .i64 i ∧ v6 = .int .i64 j ∧ i < j ∧ j ≤ l.length ∧ l.length - j ≤ gg ∧ cur.length = l.length ∧ Aside0 (cur.take i = (l.take j).filter (fun x => !p x)) ∧ Aside0 (cur.drop j = l.drop j) ∧ Aside0 (Kd.R (Kd.int .i64) 3 w' w0.heap.size (fun _ => True) (.slice (some ⟨gb, 0, none⟩) l.length c) cur) ∧ Aside0 (Below w0.heap.size w0 w'))
    case atStart =>
      refine ⟨k0, k0 + 1, l, rfl, by go_num, by omega, by omega, by omega, rfl, ⟨?_⟩, ⟨rfl⟩, HR1, HB1⟩
      rw [List.take_succ_eq_append_getElem hk0, List.filter_append, H3.out]
      have : p l[k0] = true := by have := H2.out; rwa [List.getD_eq_getElem?_getD, List.getElem?_eq_getElem hk0] at this
      simp [this]
    case round =>
      obtain ⟨i, j, cur, rfl, rfl, hij, hjl, hg, hcl, HT, HD, HO, HBr⟩ := hrel
      clear HI HR HB HR1 HB1 hq1 hq2 H2 H3
      by_cases hlt : j < l.length
      · have hltz : (j : Int) < (l.length : Int) := by omega
        obtain ⟨hxj, hfj⟩ := Kd.R_celln (0 : Int) HO.out (j : Int) (by omega) (by omega)
        rw [Int.toNat_natCast] at hxj hfj
        have hxv : rdOf (0 : Int) cur (j : Int) = l[j] := by
          have h := congrArg (fun z => z[0]?) HD.out
          simp only [List.getElem?_drop, Nat.add_zero] at h
          rw [List.getElem?_eq_getElem (by omega), List.getElem?_eq_getElem hlt] at h
          unfold rdOf
          rw [Int.toNat_natCast, List.getD_eq_getElem?_getD, List.getElem?_eq_getElem (by omega)]
          exact Option.some.inj h
        have hcall := HP.out wr (l[j]) (List.getElem_mem hlt) HBr.out
        have HX : Aside0 ((l.take (j + 1)) = l.take j ++ [l[j]]) := ⟨List.take_succ_eq_append_getElem hlt⟩
        have HDn : Aside0 (cur.drop (j + 1) = l.drop (j + 1)) := ⟨by have := congrArg (List.drop 1) HD.out; rwa [List.drop_drop, List.drop_drop] at this⟩
        rw [hxv] at hxj
        generalize l[j] = x at hcall HX hxj
        clear hxv hfj
        cases hq : p x with
        | true =>
          rw [hq] at hcall
          have HCALL := Aside0.mk hcall
          have HQ := Aside0.mk hq
          clear hcall hq
          go_wp2_with fail
          refine HCALL.out.mono ?_
          rintro e w2 ⟨rfl, hb⟩
          have HO2 := Aside0.mk (Kd.R_below HO.out hb)
          have HB2 := Aside0.mk (below_step HBr.out hb)
          clear hb
          go_wp2
          go_roundg (l.length - (j + 1))
          case measure => omega
          case rel => exact ⟨i, j + 1, cur, rfl, by go_num, by omega, by omega, by omega, hcl, ⟨by rw [HX.out, List.filter_append, HT.out]; simp [HQ.out]⟩, HDn, HO2, HB2⟩
        | false =>
          rw [hq] at hcall
          have HCALL := Aside0.mk hcall
          have HQ := Aside0.mk hq
          clear hcall hq
          go_wp2_with fail
          refine HCALL.out.mono ?_
          rintro e w2 ⟨rfl, hb⟩
          have HO2 := Aside0.mk (Kd.R_below HO.out hb)
          have HB2 := Aside0.mk (below_step HBr.out hb)
          clear hb
          have hiz : (i : Int) < (l.length : Int) := by omega
          obtain ⟨hxi, hfi⟩ := Kd.R_celln (0 : Int) HO2.out (i : Int) (by omega) (by omega)
          have HPU := Aside0.mk (Kd.R_putn HO2.out (i : Int) x)
          have HB3 : Aside0 (Below w0.heap.size w0 (w2.setCell ⟨gb, i, none⟩ (.int .i64 x))) := ⟨below_set HB2.out GE.out⟩
          rw [Int.toNat_natCast] at hxi hfi HPU
          go_wp2
          go_roundg (l.length - (j + 1))
          case measure => omega
          case rel =>
            refine ⟨i + 1, j + 1, cur.set i x, by go_num, by go_num, by omega, by omega, by omega, by simpa using hcl, ⟨?_⟩, ⟨?_⟩, HPU, HB3⟩
            · rw [HX.out, List.filter_append, ← HT.out, List.take_succ_eq_append_getElem (by simp; omega)]
              simp [List.take_set_of_le, HQ.out]
            · rw [List.drop_set_of_lt (by omega)]; exact HDn.out
      · have hltz : ¬ (j : Int) < (l.length : Int) := by omega
        have hjl2 : j = l.length := by omega
        subst hjl2
        have hz : ∀ w, (zeroValue 3).run Try.prog w = .ok (.int .i64 0) w := fun w => by first | rfl | kernel_rfl
        have hclr : ∀ ty, (Builtin.clear_ #[29] ty #[.slice (some ⟨gb, i, none⟩) (l.length - i) (c - i)]).run Try.prog wr = .ok (.tuple #[]) (wr.setCells gb i (List.replicate (l.length - i) (.int .i64 0))) := fun ty =>
          Lib.run_clear_slice wr 29 3 ty (.int .i64 0) Try.underlying29 hz rfl rfl gb i (l.length - i) (c - i) (by omega)
            (fun q hq => by
              have := (Kd.R_celln (0 : Int) HO.out ((i + q : Nat) : Int) (by omega) (by omega)).1
              rw [Int.toNat_natCast] at this
              rw [this]; rfl)
            (fun q hq => by
              have := (Kd.R_celln (0 : Int) HO.out ((i + q : Nat) : Int) (by omega) (by omega)).2
              rwa [Int.toNat_natCast] at this)
        obtain ⟨xs', e1, e2, e3, e4⟩ := R_clear gb l.length c w0.heap.size (fun _ => True) w0 GE.out (l.length - i) i wr cur HO.out HBr.out
        have HE3 := Aside0.mk e3
        have HE4 := Aside0.mk e4
        have HE2 := Aside0.mk e2
        clear e3 e4 e2
        have hic : i ≤ c := by have := HCAP.out; omega
        have hil : i ≤ l.length := by omega
        have hiz1 : (i : Int) ≤ (l.length : Int) := by omega
        go_wp2
        · exfalso; have := HCAP.out; omega
        · go_ret
          have HRT := Kd.R_take (m := i) HE3.out (by omega)
          rw [HE2.out, HT.out, List.take_length] at HRT
          exact ⟨_, rfl, HRT, HE4.out⟩

theorem pl_index (l : List Int) (x : Int) (hn : l.length ≤ 9223372036854775807) : ∀ (d i k : Nat), i + d = l.length → d < k → ∃ r : Int, slices_Index_int_int.l0 k l x (l.length : Int) (i : Int) = some r ∧ (r ≥ 0 ↔ x ∈ l.drop i)
  | 0, i, k, hi, hk => by
    obtain ⟨k, rfl⟩ : ∃ m, k = m + 1 := ⟨k - 1, by omega⟩
    refine ⟨-1, ?_, ?_⟩
    · simp only [slices_Index_int_int.l0]; rw [if_neg (by omega)]
    · rw [List.drop_of_length_le (by omega)]; simp
  | d + 1, i, k, hi, hk => by
    obtain ⟨k, rfl⟩ : ∃ m, k = m + 1 := ⟨k - 1, by omega⟩
    have hg : rd l (i : Int) = l[i]'(by omega) := by simp [rd, show i < l.length by omega]
    simp only [slices_Index_int_int.l0]
    rw [if_pos (by omega), if_pos (by omega), if_pos (by omega), hg, List.drop_eq_getElem_cons (l := l) (i := i) (by omega)]
    by_cases e : x = l[i]'(by omega)
    · exact ⟨i, by rw [if_pos e], by simp [← e]⟩
    · obtain ⟨r, h1, h2⟩ := pl_index l x hn d (i + 1) k (by omega) (by omega)
      refine ⟨r, ?_, by rw [h2]; simp only [List.mem_cons, e, false_or]⟩
      rw [if_neg e, show wrap64 ((i : Int) + 1) = ((i + 1 : Nat) : Int) by unfold wrap64; omega]
      exact h1
theorem pl_contains (l : List Int) (x : Int) (hn : l.length ≤ 9223372036854775807) : slices_Contains_int_int.f (l.length + 1) l x = some (decide (x ∈ l)) := by
  obtain ⟨r, h1, h2⟩ := pl_index l x hn l.length 0 (l.length + 1) (by omega) (by omega)
  rw [show ((0 : Nat) : Int) = 0 from rfl] at h1
  unfold slices_Contains_int_int.f slices_Index_int_int.f
  rw [h1, Option.bind_some]
  congr 1
  exact decide_eq_decide.mpr (by rw [h2]; simp)
def impl_parksLeft.f (k : Nat) (a0_0 : Int) (a0_1 : Int) (a0_2 : ByteArray) (a1 : Int) (l2 : List Int) : Option (List Int) := (impl_ParksIn.f k a0_0 a0_1 a0_2 a1).bind fun t => some (t.filter (fun x => !(decide (x ∈ l2))))
theorem impl_parksLeft.mono : ∀ a0 a1 a2 a3 a4 k, LeO (impl_parksLeft.f k a0 a1 a2 a3 a4) (impl_parksLeft.f (k + 1) a0 a1 a2 a3 a4) := fun a0 a1 a2 a3 a4 k => LeO.bind (impl_ParksIn.mono a0 a1 a2 a3 k) (fun _ => LeO.refl _)
theorem parksLeft_tells (l2 : List Int) (A2 : Option Addr) (c2 : Nat) (B : Nat) (l : List Int) (w : World) (hr2 : Kd.C (Kd.int .i64) w A2 l2.length l2) (hc2 : l2.length ≤ c2) (hB : w.heap[B]? = some (.cells #[.slice A2 l2.length c2] 29 (0, 0))) :
    Tells 90 #[.pointer (some ⟨B, 0, none⟩)] (Value.int .i64) (fun x => decide (x ∈ l2)) l w := by
  intro W x _ hb
  have hB2 : W.heap[B]? = some (.cells #[.slice A2 l2.length c2] 29 (0, 0)) := (hb.block B (blk_lt hB)).trans hB
  have hc1 : W.cell? ⟨B, 0, none⟩ = some (.slice A2 l2.length c2) := blk_cell hB2 0
  have HR := Aside0.mk (Kd.C_below hr2 hb)
  have HC := Aside0.mk hc2
  have HF := Aside0.mk (pl_contains l2 x hr2.2.1)
  clear hB2 hr2 hc2 hB hb
  show Calls Try.prog 90 #[.int .i64 x, .pointer (some ⟨B, 0, none⟩)] W fun e w' => e = .returned (.bool (decide (x ∈ l2))) ∧ Below W.heap.size W w'
  generalize decide (x ∈ l2) = q at HF ⊢
  go_enter Try.func90, Try.ntmps90
  go_wp2_with (go_at_call 91; refine (slices_Contains_int_int.calls _ _ _ l2 x q _ HR.out HC.out HF.out).mono ?_; rintro e w' ⟨rfl, hd⟩; have hb := hd.below)
  go_ret
  exact ⟨rfl, hb⟩
set_option maxHeartbeats 8000000 in
set_option maxRecDepth 100000 in
theorem impl_parksLeft.calls (k : Nat) (a0_0 : Int) (a0_1 : Int) (a0_2 : ByteArray) (a1 : Int) (A2 : Option Addr) (c2 : Nat) (l2 : List Int) (r : List Int) (w : World) (hr2 : Kd.C (Kd.int .i64) w A2 l2.length l2) (hc2 : l2.length ≤ c2) (h : impl_parksLeft.f k a0_0 a0_1 a0_2 a1 l2 = some r) :
    Calls Try.prog 63 #[.agg #[.int .i64 a0_0, .int .i64 a0_1, .string a0_2], .int .i64 a1, .slice A2 l2.length c2] w fun e w' => ∃ v0_ : Value, e = .returned (v0_) ∧ Kd.R (Kd.int .i64) 3 w' w.heap.size (fun _ => True) v0_ r ∧ Below w.heap.size w w' := by
  have hu := Try.underlying26
  obtain ⟨t, hP, hr⟩ := Option.bind_eq_some_iff.mp h
  obtain rfl := Option.some.inj hr
  have HP := Aside0.mk hP
  have HR := Aside0.mk hr2
  have HC := Aside0.mk hc2
  have HB := Aside0.mk (Below.refl w.heap.size w)
  have EG := Aside0.mk (entersOf Try.func90 (by kernel_rfl) rfl : ∀ args w, (callFunc 90 args).run Try.prog w = .ok (.enter 90 args) w)
  clear h hP hr hr2 hc2
  go_enter Try.func63, Try.ntmps63
  go_wp2_with (first
    | ((with_reducible refine gate_dst (N := 3) rfl ?_); refine box_event ?hg (N := 3) ?hd (cs := #[.int .i64 a0_0, .int .i64 a0_1, .string a0_2]) (t := 26) ?hr ?_; (case hd => rfl); (case hg => rfl); (case hr => first | (go_simp; done) | (go_simp; rfl)); intro gb hg w3 hbox hb; have HB3 := Aside0.mk (below_step HB.out hb); have BK := Aside0.mk hbox; clear hb hbox hg)
    | ((with_reducible refine gate_dst (N := 5) rfl ?_); refine box_event ?hg (N := 5) ?hd (cs := #[.slice A2 l2.length c2]) (t := 29) ?hr ?_; (case hd => rfl); (case hg => rfl); (case hr => first | (go_simp; done) | (go_simp; rfl)); intro gc hg w4 hbox hb; have HB4 := Aside0.mk (below_step HB3.out hb); have BC := Aside0.mk hbox; have BG := Aside0.mk (blk_below BK.out hb); clear hb hbox hg; have hcz0 : w4.cell? ⟨gb, 0, none⟩ = some (.int .i64 a0_0) := (blk_cell BG.out 0).trans rfl; have hcz1 : w4.cell? ⟨gb, 1, none⟩ = some (.int .i64 a0_1) := (blk_cell BG.out 1).trans rfl; have hcz2 : w4.cell? ⟨gb, 2, none⟩ = some (.string a0_2) := (blk_cell BG.out 2).trans rfl)
    | (go_at_call 89; refine (impl_ParksIn.calls k a0_0 a0_1 a0_2 a1 t _ HP.out).mono ?_; rintro e w5 ⟨v5, rfl, ho5, hb5⟩; have HO5 := Aside0.mk ho5; have HB5 := Aside0.mk hb5; clear ho5 hb5)
    | (go_at_call 88; refine (deleteFunc_int (fun x => decide (x ∈ l2)) _ _ EG.out w4 w5 v5 t HB5.out HO5.out (parksLeft_tells l2 A2 c2 gc t w4 (Kd.C_below HR.out HB4.out) HC.out BC.out)).mono ?_; rintro e w6 ⟨v6, rfl, ho6, hb6⟩; have HO6 := Aside0.mk (Kd.R_lower ho6 (below_size HB4.out)); have HB6 := Aside0.mk (below_step HB4.out hb6); clear ho6 hb6))
  go_ret
  exact ⟨_, rfl, HO6.out, HB6.out⟩


end Go.Proofs.Ytooofofeihkpcaa.Q
