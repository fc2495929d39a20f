-- Written by a session's own program (wip/tools/myprint.py) over the kit's printer, out of the translation. Not trusted: Lean checks it.
import Derived.Test.YtkbbeenjbkmamaaQ0
import Derived.Test.YtkbbeenjbkmamaaQ6
namespace Go.Proofs.Ytkbbeenjbkmamaa.Q
open Go.RowKit Go.Proofs.YtkbbeenjbkmamaaW.PrintWords Go.Proofs.YtkbbeenjbkmamaaW.PrintLast Go.Proofs.YtkbbeenjbkmamaaW.PrintMore
attribute [local go_sem] max2_int min2_int max_two min_two max_three min_three max_four min_four   -- for this text's walks alone
set_option linter.unusedVariables false
set_option linter.unusedSimpArgs false

/-! ### impl_areApart: function 39 -/
/-! ### areApart: no cell is held twice: a map of the call's own, asked and written in a loop -/
def apHeld (x : S42) : List Int := if x.f2 < 0 then [x.f1] else [x.f1, x.f2]
def apIn (cell : Int) : Nat → List Int → List Int → Option (List Int)
  | _, [], s => some s
  | k, c :: cs, s => if k = 1 ∧ c = cell then apIn cell (k + 1) cs s else if c ∈ s then none else apIn cell (k + 1) cs (c :: s)
def apAll : List S42 → List Int → Bool
  | [], _ => true
  | x :: xs, s => match apIn x.f1 0 (apHeld x) s with
    | none => false
    | some s' => apAll xs s'
def apRest (xs : List S42) : Option (List Int) → Bool
  | none => false
  | some s => apAll xs s
theorem apAll_cons (x : S42) (xs : List S42) (s : List Int) : apAll (x :: xs) s = apRest xs (apIn x.f1 0 (apHeld x) s) := by
  rw [apAll]
  cases apIn x.f1 0 (apHeld x) s <;> rfl
def apFits (x : S42) : Bool := (Lit.int .i64 x.f1).wf && (Lit.int .i64 x.f2).wf
theorem apHeld_wf {x : S42} (h : apFits x = true) : ∀ c ∈ apHeld x, (Lit.int .i64 c).wf = true := by
  unfold apFits at h
  rw [Bool.and_eq_true] at h
  intro c hc
  unfold apHeld at hc
  split at hc
  · rw [List.mem_singleton.mp hc]; exact h.1
  · rcases List.mem_cons.mp hc with e | e
    · rw [e]; exact h.1
    · rw [List.mem_singleton.mp e]; exact h.2
theorem apHeld_len (x : S42) : (apHeld x).length ≤ 2 := by
  unfold apHeld
  split <;> simp
theorem apHeld_heldBy (x : S42) : impl_heldBy.f x.f0 x.f1 x.f2 x.f3 = some (apHeld x) := by
  unfold impl_heldBy.f apHeld
  split <;> rfl
def impl_areApart.f (l0 : List S42) : Option Bool := if l0.length ≤ 1000 ∧ ∀ x ∈ l0, apFits x = true then some (apAll l0 []) else none
/-- Block b is a map from whole numbers to booleans, true at the numbers of s alone. -/
def Seen (W : World) (b n : Nat) (s : List Int) : Prop := ∃ D : DataW Unit, W.ownsMap Try.prog 3 (plainElem Try.prog 4) b n D ∧ Maps.IsMap D ∧ ∀ c : Int, D.atKey (.int .i64 c) (.lit (.bool false)) = .lit (.bool (decide (c ∈ s)))
theorem Seen_made (W : World) : Seen (W.alloc (.map #[] 0)) W.heap.size 0 [] := ⟨.map [], World.ownsMap_made _ _ _ _, ⟨[], rfl⟩, fun c => by simp [DataW.atKey]⟩
theorem Seen_lt {W : World} {b n : Nat} {s : List Int} (h : Seen W b n s) : b < W.heap.size := by
  obtain ⟨D, h, _⟩ := h
  exact h.lt
theorem Seen_kept {W w1 : World} {b n : Nat} {s : List Int} {row : Option Nat} (h : Seen W b n s) (hg : W.grownBy w1 row) (hne : some b ≠ row) : Seen w1 b n s := by
  obtain ⟨D, h, h2⟩ := h
  exact ⟨D, h.kept hg hne, h2⟩
theorem Seen_below {W w1 : World} {b n : Nat} {s : List Int} (h : Seen W b n s) (hb : Below W.heap.size W w1) : Seen w1 b n s := Seen_kept h (grown_of_below hb none) (by simp)
theorem Seen_both {W w1 : World} {b n : Nat} {s : List Int} (h : Seen W b n s) (hb : Below W.heap.size W w1) : Seen w1 b n s ∧ b < W.heap.size := ⟨Seen_below h hb, Seen_lt h⟩
theorem Seen_set {W : World} {b n : Nat} {s : List Int} (h : Seen W b n s) {g j : Nat} {v : Value} (hne : g ≠ b) : Seen (W.setCell ⟨g, j, none⟩ v) b n s :=
  Seen_kept (row := some g) h ⟨rfl, rfl, rfl, by simp [World.setCell], fun i _ hi => Below.heap_setCell W _ v i (fun e => hi (by rw [e]))⟩ (fun e => hne (Option.some.inj e).symm)
theorem plainElem_bool_inv {v : Value} {z : DataW Unit × List MemPlace} (h : plainElem Try.prog 4 v = some z) : ∃ x, v = .bool x ∧ z = (.lit (.bool x), []) := by
  unfold plainElem at h
  rw [Try.underlying4] at h
  cases v <;> simp at h
  exact ⟨_, rfl, h.symm⟩
theorem Seen_zero (W : World) : (zeroValue 4).run Try.prog W = .ok (.bool false) W := by kernel_rfl
theorem Seen_look {W : World} {b n : Nat} {s : List Int} (h : Seen W b n s) (c : Int) (hc : (Lit.int .i64 c).wf = true) : (Instr.lookup 59 (.map (some b)) (.int .i64 c) false).run Try.prog W = .ok (.bool (decide (c ∈ s))) W := by
  obtain ⟨D, ho, _, ha⟩ := h
  obtain ⟨v, ps, hrun, hv⟩ := ho.lookup (Maps.int_keyed Try.underlying3) Try.underlying59 (Seen_zero W) (plainElem_bool Try.underlying4 false) (Maps.keyOf_int_mk Try.underlying3 hc)
  rw [ha c] at hv
  obtain ⟨x, rfl, e⟩ := plainElem_bool_inv hv
  rw [hrun]
  simp only [Prod.mk.injEq, DataW.lit.injEq, Lit.bool.injEq] at e
  rw [e.1]
theorem wpList_look_seen {W : World} {ops : Array Oper} {rest : List Oper} {o : Oper} {a : Act} {Q : Exit → Act → World → Prop} (hg : o.guard = none) (m x : Operand) (hop : o.op = Op.lookup 59 m x false) (b n : Nat) (s : List Int) (hm : a.eval m = .map (some b)) (h : Seen W b n s) (c : Int) (hx : a.eval x = .int .i64 c) (hc : (Lit.int .i64 c).wf = true) {q : Bool} (hq : decide (c ∈ s) = q)
    (hK : wpList Try.prog ops Q rest (a.put o.dst (.bool q)) W) : wpList Try.prog ops Q (o :: rest) a W := by
  subst hq
  refine wpList_plain hg fun K' hK' => ?_
  have hrun := Seen_look h c hc
  unfold Oper.wp
  simp [execOp, hop, hm, hx, hrun, Result.andThen]
  exact hK' _ _ hK
theorem wpList_put_seen {W : World} {ops : Array Oper} {rest : List Oper} {o : Oper} {a : Act} {Q : Exit → Act → World → Prop} (hg : o.guard = none) (m x v : Operand) (hop : o.op = Op.mapUpdate 59 m x v) (b n : Nat) (s : List Int) (hm : a.eval m = .map (some b)) (h : Seen W b n s) (hn : n < maxLen) (c : Int) (hx : a.eval x = .int .i64 c) (hv : a.eval v = .bool true) (hc : (Lit.int .i64 c).wf = true)
    (hK : ∀ w', Seen w' b (n + 1) (c :: s) → W.grownBy w' (some b) → wpList Try.prog ops Q rest (a.put o.dst undef) w') : wpList Try.prog ops Q (o :: rest) a W := by
  obtain ⟨D, ho, hD, ha⟩ := h
  refine wpList_mapUpdate_own (H := Unit) W hg m x v 59 hop 3 4 (Maps.int_keyed Try.underlying3) Try.underlying59 (plainElem Try.prog 4) b n D hm ho hn _ _ (.int .i64 c) hx hv (Maps.keyOf_int_mk Try.underlying3 hc) (.lit (.bool true)) [] (plainElem_bool Try.underlying4 true) ?_
  intro w' h1 h2
  refine hK w' ⟨_, h1, ?_, fun c' => ?_⟩ h2
  · obtain ⟨es, rfl⟩ := hD
    exact ⟨_, rfl⟩
  · by_cases e : c' = c
    · subst e
      rw [Maps.atKey_put_same (k := .int .i64 c') hD True.intro]
      simp
    · rw [Maps.atKey_put_other (by simpa using e), ha c']
      simp [e]
set_option maxHeartbeats 8000000 in
set_option maxRecDepth 100000 in
theorem impl_areApart.calls (A0 : Option Addr) (c0 : Nat) (l0 : List S42) (r : Bool) (w : World) (hr0 : Kd.C k42 w A0 l0.length l0) (hc0 : l0.length ≤ c0) (h : impl_areApart.f l0 = some r) :
    Calls Try.prog 39 #[.slice A0 l0.length c0] w fun e w' => e = .returned (.bool r) ∧ Below w.heap.size w w' := by
  unfold impl_areApart.f at h
  by_cases hcond : l0.length ≤ 1000 ∧ ∀ x ∈ l0, apFits x = true
  · rw [if_pos hcond] at h
    have HQ := Aside0.mk (Option.some.inj h)
    have hL := hcond.1
    have HW := Aside0.mk hcond.2
    have hu42 := Try.underlying42
    have HR0 := Aside0.mk hr0
    have HB := Aside0.mk (Below.refl w.heap.size w)
    have HS0 := Aside0.mk (Seen_made w)
    have hmm := @run_makeMap Try.prog
    clear h hcond hr0
    go_enter Try.func39, Try.ntmps39
    go_wp2
    go_loopg [11] l0.length (fun gg v11 w' => ∃ (i : Nat) (s : List Int), v11 = .int .i64 i ∧ i ≤ l0.length ∧ l0.length - i ≤ gg ∧ Aside0 (apAll (l0.drop i) s = r) ∧ Aside0 (Seen w' w.heap.size (2 * i) s) ∧ Aside0 (Below w.heap.size w w'))
    case atStart => exact ⟨0, [], rfl, Nat.zero_le _, by omega, HQ, HS0, ⟨below_alloc HB.out _⟩⟩
    case round =>
      obtain ⟨i, s, rfl, hin, hg, HQ, HS, HB⟩ := hrel
      clear HS0
      by_cases hlt : i < l0.length
      · have hltz : (i : Int) < (l0.length : Int) := by omega
        have hi0 : 0 ≤ (i : Int) := by omega
        obtain ⟨ad1, e1, hx1_0, hx1_1, hx1_2, hx1_3⟩ := at_T42 HR0.out (i : Int) hi0 hltz
        cases e1
        replace hx1_0 := (HB.out.cell (World.block_lt_of_cell? w _ hx1_0)).trans hx1_0
        replace hx1_1 := (HB.out.cell (World.block_lt_of_cell? w _ hx1_1)).trans hx1_1
        replace hx1_2 := (HB.out.cell (World.block_lt_of_cell? w _ hx1_2)).trans hx1_2
        replace hx1_3 := (HB.out.cell (World.block_lt_of_cell? w _ hx1_3)).trans hx1_3
        have hxe : rd_T42 l0 (i : Int) = l0[i] := by unfold rd_T42; rw [Int.toNat_natCast, List.getD_eq_getElem?_getD, List.getElem?_eq_getElem hlt]; rfl
        have HF := Aside0.mk (apHeld_wf (HW.out _ (List.getElem_mem hlt)))
        have HQ2 : Aside0 (apRest (l0.drop (i + 1)) (apIn (l0[i]).f1 0 (apHeld l0[i]) s) = r) := ⟨by rw [← apAll_cons, ← List.drop_eq_getElem_cons hlt]; exact HQ.out⟩
        have hkl := apHeld_len l0[i]
        rw [hxe] at hx1_0 hx1_1 hx1_2 hx1_3
        simp only [Int.toNat_natCast] at hx1_0 hx1_1 hx1_2 hx1_3
        clear HQ hxe
        generalize l0[i] = x at hx1_0 hx1_1 hx1_2 hx1_3 HF HQ2 hkl
        have HH := Aside0.mk (apHeld_heldBy x)
        generalize apHeld x = ks at HF HQ2 HH hkl
        go_wp2_with (first
          | ((with_reducible refine gate_dst (N := 5) rfl ?_); refine box_event ?hg (N := 5) ?hd (cs := #[.int .i64 0, .int .i64 0, .int .i64 0, .bool false]) (t := 42) ?hr ?_; (case hd => rfl); (case hg => rfl); (case hr => first | (go_simp; done) | (go_simp; rfl)); intro gb hg w10 hbox hb; have hne_ : gb ≠ w.heap.size := (by have h1_ := Seen_lt HS.out; rw [hg]; exact Nat.ne_of_gt h1_); have NE := Aside0.mk hne_; have HS1 := Aside0.mk (Seen_below HS.out hb); have GE := Aside0.mk ((by rw [hg]; exact below_size HB.out) : w.heap.size ≤ gb); have n0_ := Aside0.mk (below_step HB.out hb); have BK := Aside0.mk hbox; clear HB; have HB := n0_; clear n0_ hb hbox hg hne_ HS; have hcz_0 : w10.cell? ⟨gb, 0, none⟩ = some (.int .i64 0) := (blk_cell BK.out 0).trans rfl; have hcz_1 : w10.cell? ⟨gb, 1, none⟩ = some (.int .i64 0) := (blk_cell BK.out 1).trans rfl; have hcz_2 : w10.cell? ⟨gb, 2, none⟩ = some (.int .i64 0) := (blk_cell BK.out 2).trans rfl; have hcz_3 : w10.cell? ⟨gb, 3, none⟩ = some (.bool false) := (blk_cell BK.out 3).trans rfl; have hfz_0 := blk_frozen BK.out 0; have hfz_1 := blk_frozen BK.out 1; have hfz_2 := blk_frozen BK.out 2; have hfz_3 := blk_frozen BK.out 3)
          | (go_at_call 29; (with_reducible refine (impl_heldBy.calls x.f0 x.f1 x.f2 x.f3 ks _ HH.out).mono ?_); rintro e w12 ⟨v1, rfl, ho0, hb⟩
             have hsb_ : Seen _ w.heap.size (2 * i) s ∧ w.heap.size < _ := Seen_both (by repeat (first | (with_reducible exact HS1.out) | refine Seen_set ?_ NE.out)) hb
             obtain ⟨hs_, hlt_⟩ := hsb_
             have n0_ := Aside0.mk (Kd.R_lower (Kd.R_mono (ok' := fun k => k ≠ w.heap.size) (Kd.R_bound ho0) (fun k hk => Nat.ne_of_gt (Nat.lt_of_lt_of_le hlt_ hk.2.1))) (below_size (by repeat (first | exact HB.out | refine below_set ?_ GE.out))))
             have n1_ := Aside0.mk (blk_below (g := gb) (o := .cells #[.int .i64 x.f0, .int .i64 x.f1, .int .i64 x.f2, .bool x.f3] 42 (0, 0)) (by refine blk_put (cs := #[.int .i64 x.f0, .int .i64 x.f1, .int .i64 x.f2, .bool false]) ?_ 3 _ rfl; refine blk_put (cs := #[.int .i64 x.f0, .int .i64 x.f1, .int .i64 0, .bool false]) ?_ 2 _ rfl; refine blk_put (cs := #[.int .i64 x.f0, .int .i64 0, .int .i64 0, .bool false]) ?_ 1 _ rfl; refine blk_put (cs := #[.int .i64 0, .int .i64 0, .int .i64 0, .bool false]) ?_ 0 _ rfl; exact BK.out) hb)
             have n2_ := Aside0.mk (below_step (by repeat (first | exact HB.out | refine below_set ?_ GE.out)) hb)
             clear BK HB HS1
             have HO := n0_
             have BK := n1_
             have HB := n2_
             have HS2 := Aside0.mk hs_
             clear n0_ n1_ n2_ hs_ hlt_ ho0 hb
             obtain ⟨Ao, co, eo⟩ := Kd.R_slice HO.out
             subst eo))
        go_loopg [18] ks.length (fun gg v18 w' => ∃ (j : Nat) (t : List Int), v18 = .int .i64 j ∧ j ≤ ks.length ∧ ks.length - j ≤ gg ∧ Aside0 (apRest (l0.drop (i + 1)) (apIn x.f1 j (ks.drop j) t) = r) ∧ Aside0 (Seen w' w.heap.size (2 * i + j) t) ∧ Aside0 (Below w.heap.size w w') ∧ Aside0 (w'.heap[gb]? = some (.cells #[.int .i64 x.f0, .int .i64 x.f1, .int .i64 x.f2, .bool x.f3] 42 (0, 0))) ∧ Aside0 (Kd.R (Kd.int .i64) 3 w' w.heap.size (fun k => k ≠ w.heap.size) (.slice Ao ks.length co) ks))
        case atStart => exact ⟨0, s, rfl, Nat.zero_le _, by omega, HQ2, HS2, HB, BK, HO⟩
        case round =>
          obtain ⟨j, t, rfl, hjn, hjg, HQ, HS, HB3, BK3, HO3⟩ := hrel
          clear HQ2 HS2 HB BK HO
          have hcz_0 : wr.cell? ⟨gb, 0, none⟩ = some (.int .i64 x.f0) := (blk_cell BK3.out 0).trans rfl
          have hcz_1 : wr.cell? ⟨gb, 1, none⟩ = some (.int .i64 x.f1) := (blk_cell BK3.out 1).trans rfl
          have hcz_2 : wr.cell? ⟨gb, 2, none⟩ = some (.int .i64 x.f2) := (blk_cell BK3.out 2).trans rfl
          have hcz_3 : wr.cell? ⟨gb, 3, none⟩ = some (.bool x.f3) := (blk_cell BK3.out 3).trans rfl
          by_cases hjlt : j < ks.length
          · have hjz : (j : Int) < (ks.length : Int) := by omega
            have hj0 : 0 ≤ (j : Int) := by omega
            obtain ⟨ad2, cs2, e2, _, hK2, hc2⟩ := Kd.C_get (Kd.R_reads' HO3.out).2.2 0 (j : Int) hj0 hjz
            cases e2
            have hxe : ks.getD (j : Int).toNat 0 = ks[j] := by rw [Int.toNat_natCast, List.getD_eq_getElem?_getD, List.getElem?_eq_getElem hjlt]; rfl
            rw [hxe] at hK2
            obtain rfl := hK2
            have hx2 := hc2 0 _ rfl
            rw [Int.toNat_natCast, show (Kd.int .i64).sz = 1 from rfl, Nat.mul_one, Nat.add_zero] at hx2
            have HFc := Aside0.mk (HF.out _ (List.getElem_mem hjlt))
            have hdr : ks.drop j = ks[j] :: ks.drop (j + 1) := List.drop_eq_getElem_cons hjlt
            have HQ3 := HQ.out
            rw [hdr, apIn] at HQ3
            clear hxe hdr hc2 HQ
            generalize ks[j] = c at hx2 HFc HQ3
            by_cases hj1 : j = 1
            · by_cases hce : c = x.f1
              · rw [if_pos ⟨hj1, hce⟩] at HQ3
                have HQ4 := Aside0.mk HQ3
                clear HQ3
                have d1 : ((j : Int) == 1) = true := by rw [hj1]; rfl
                have d2 : (c == x.f1) = true := beq_iff_eq.mpr hce
                clear hj1 hce
                go_wp2
                go_roundg (ks.length - (j + 1))
                case measure => omega
                case rel => exact ⟨j + 1, t, by go_num, by omega, by omega, HQ4, ⟨by obtain ⟨D, h1, h2⟩ := HS.out; exact ⟨D, h1.mono (by omega), h2⟩⟩, HB3, BK3, HO3⟩
              · rw [if_neg (fun h => hce h.2)] at HQ3
                have d1 : ((j : Int) == 1) = true := by rw [hj1]; rfl
                have d2 : (c == x.f1) = false := beq_eq_false_iff_ne.mpr hce
                clear hj1 hce
                by_cases hm : c ∈ t
                · rw [if_pos hm] at HQ3
                  have hq : decide (c ∈ t) = true := decide_eq_true hm
                  obtain rfl : false = r := HQ3
                  go_wp2_with (at_lookup; refine wpList_look_seen rfl _ _ rfl w.heap.size _ t rfl HS.out c rfl HFc.out hq ?_)
                  go_ret
                  exact ⟨rfl, HB3.out⟩
                · rw [if_neg hm] at HQ3
                  have hq : decide (c ∈ t) = false := decide_eq_false hm
                  have HQ4 := Aside0.mk HQ3
                  clear HQ3
                  go_wp2_with (first
                    | (at_lookup; refine wpList_look_seen rfl _ _ rfl w.heap.size _ t rfl HS.out c rfl HFc.out hq ?_)
                    | (at_mapUpdate; refine wpList_put_seen rfl _ _ _ rfl w.heap.size _ t rfl HS.out (by unfold maxLen; omega) c rfl rfl HFc.out ?_; intro w20 hs20 hg20; have HS4 := Aside0.mk hs20; have HB4 := Aside0.mk (pw_below_grown HB3.out (some w.heap.size) (below_size HB3.out) hg20 (fun k e => Nat.le_of_eq (Option.some.inj e))); have BK4 := Aside0.mk (blk_grown BK3.out hg20 (fun e => NE.out (Option.some.inj e))); have HO4 := Aside0.mk (Kd.R_grown HO3.out hg20 (fun k hk e => hk (Option.some.inj e))); clear hs20 hg20))
                  go_roundg (ks.length - (j + 1))
                  case measure => omega
                  case rel => exact ⟨j + 1, c :: t, by go_num, by omega, by omega, HQ4, HS4, HB4, BK4, HO4⟩
            · rw [if_neg (fun h => hj1 h.1)] at HQ3
              have d1 : ((j : Int) == 1) = false := beq_eq_false_iff_ne.mpr (by omega)
              clear hj1
              by_cases hm : c ∈ t
              · rw [if_pos hm] at HQ3
                have hq : decide (c ∈ t) = true := decide_eq_true hm
                obtain rfl : false = r := HQ3
                go_wp2_with (at_lookup; refine wpList_look_seen rfl _ _ rfl w.heap.size _ t rfl HS.out c rfl HFc.out hq ?_)
                go_ret
                exact ⟨rfl, HB3.out⟩
              · rw [if_neg hm] at HQ3
                have hq : decide (c ∈ t) = false := decide_eq_false hm
                have HQ4 := Aside0.mk HQ3
                clear HQ3
                go_wp2_with (first
                  | (at_lookup; refine wpList_look_seen rfl _ _ rfl w.heap.size _ t rfl HS.out c rfl HFc.out hq ?_)
                  | (at_mapUpdate; refine wpList_put_seen rfl _ _ _ rfl w.heap.size _ t rfl HS.out (by unfold maxLen; omega) c rfl rfl HFc.out ?_; intro w20 hs20 hg20; have HS4 := Aside0.mk hs20; have HB4 := Aside0.mk (pw_below_grown HB3.out (some w.heap.size) (below_size HB3.out) hg20 (fun k e => Nat.le_of_eq (Option.some.inj e))); have BK4 := Aside0.mk (blk_grown BK3.out hg20 (fun e => NE.out (Option.some.inj e))); have HO4 := Aside0.mk (Kd.R_grown HO3.out hg20 (fun k hk e => hk (Option.some.inj e))); clear hs20 hg20))
                go_roundg (ks.length - (j + 1))
                case measure => omega
                case rel => exact ⟨j + 1, c :: t, by go_num, by omega, by omega, HQ4, HS4, HB4, BK4, HO4⟩
          · have hjz : ¬ (j : Int) < (ks.length : Int) := by omega
            have HQ4 : Aside0 (apAll (l0.drop (i + 1)) t = r) := ⟨by have := HQ.out; rw [show ks.drop j = [] from List.drop_of_length_le (by omega), apIn] at this; exact this⟩
            go_wp2
            go_roundg (l0.length - (i + 1))
            case measure => omega
            case rel => exact ⟨i + 1, t, by go_num, by omega, by omega, HQ4, ⟨by obtain ⟨D, h1, h2⟩ := HS.out; exact ⟨D, h1.mono (by omega), h2⟩⟩, HB3⟩
      · have hltz : ¬ (i : Int) < (l0.length : Int) := by omega
        have HQ3 := HQ.out
        rw [List.drop_of_length_le (by omega)] at HQ3
        obtain rfl : true = r := HQ3
        go_wp2
        go_ret
        exact ⟨rfl, HB.out⟩
  · rw [if_neg hcond] at h
    cases h


end Go.Proofs.Ytkbbeenjbkmamaa.Q
