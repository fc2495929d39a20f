-- Written by a session's own program (wip/tools/myprint.py) over the kit's printer, out of the translation. Not trusted: Lean checks it.
import Derived.Test.YtdebpmdbeogglaaQ0
-- squeezed
namespace Go.Proofs.Ytdebpmdbeogglaa.Q
open Go.RowKit Go.Proofs.YtdebpmdbeogglaaW.PrintWords Go.Proofs.YtdebpmdbeogglaaW.PrintLast Go.Proofs.YtdebpmdbeogglaaW.PrintMore
attribute [local go_sem] max2_int min2_int max_two min_two max_three min_three max_four min_four   -- for this text's walks alone
set_option linter.unusedVariables false
set_option linter.unusedSimpArgs false

/-! ### slices.IndexFunc, slices.ContainsFunc over whole numbers, at whatever function value that tells p -/
def findI {α : Type} (p : α → Bool) : List α → Int
 | [] => -1
 | x :: xs => if p x then 0 else (let r := findI p xs; if r < 0 then -1 else r + 1)
theorem findI_range {α : Type} (p : α → Bool) : ∀ l : List α, -1 ≤ findI p l ∧ findI p l < l.length ∨ findI p l = -1
 | [] => .inr rfl
 | x :: xs => by
  unfold findI
  have := findI_range p xs
  by_cases h : p x = true
  ·rw [if_pos h]; left; simp only [List.length_cons]; omega
  ·rw [if_neg h]; simp only [List.length_cons]
   by_cases h2 : findI p xs < 0
   ·rw [if_pos h2]; right; rfl
   ·rw [if_neg h2]; left; omega
theorem findI_hit {α : Type} (p : α → Bool) : ∀ (l : List α) (d : α) (k : Nat), k < l.length → p (l.getD k d) = true → (∀ j, j < k → p (l.getD j d) = false) → findI p l = (k : Int)
 | [], d, k, h, _, _ => absurd h (Nat.not_lt_zero _)
 | x :: xs, d, 0, _, hp, _ => by unfold findI; rw [if_pos (by simpa using hp)]; rfl
 | x :: xs, d, k + 1, h, hp, hn => by
  unfold findI
  have h0 := hn 0 (Nat.succ_pos _)
  rw [if_neg (by simpa using h0)]
  have := findI_hit p xs d k (by simpa using h) (by simpa using hp) (fun j hj => by simpa using hn (j + 1) (by omega))
  simp only [this]; rw [if_neg (by omega)]; omega
theorem findI_miss {α : Type} (p : α → Bool) : ∀ (l : List α) (d : α), (∀ j, j < l.length → p (l.getD j d) = false) → findI p l = -1
 | [], _, _ => rfl
 | x :: xs, d, hn => by
  unfold findI
  have h0 := hn 0 (by simp)
  rw [if_neg (by simpa using h0)]
  have := findI_miss p xs d (fun j hj => by simpa using hn (j + 1) (by simpa using hj))
  simp only [this]; rfl
theorem findI_any {α : Type} (p : α → Bool) : ∀ l : List α, decide (findI p l ≥ 0) = l.any p
 | [] => rfl
 | x :: xs => by
  have ih := findI_any p xs
  unfold findI
  by_cases h : p x = true
  ·rw [if_pos h]; simp [h]
  ·rw [if_neg h]
   simp only [List.any_cons, Bool.eq_false_iff.mpr h, Bool.false_or, ← ih]
   by_cases h2 : findI p xs < 0
   ·simp only [if_pos h2]; rw [decide_eq_false (by omega), decide_eq_false (by omega)]
   ·simp only [if_neg h2]; rw [decide_eq_true (by omega), decide_eq_true (by omega)]
theorem entersOf {f : FuncId} {fn : Func} {c : Code} (hf : Try.prog.funcs[f]? = some fn) (hn : (fn.name == "runtime.NumGoroutine") = false) (hb : fn.body = some c) : ∀ args w, (callFunc f args).run Try.prog w = .ok (.enter f args) w := by
 intro args w
 have h : fn.name ≠ "runtime.NumGoroutine" := fun e => by rw [e] at hn; simp at hn
 simp [callFunc, hf, h, hb, mark]
/-- What a function value owes: called at an element of l in any world that leaves w as it was, it tells p of it and leaves that world as it was. -/
def Tells {α : Type} (g : Nat) (lb : Array Value) (enc : α → Value) (p : α → Bool) (l : List α) (w : World) : Prop :=
 ∀ (W : World) (x : α), x ∈ l → Below w.heap.size w W → Calls Try.prog g (#[enc x] ++ lb) W fun e w' => e = .returned (.bool (p x)) ∧ Below W.heap.size W w'

/-! ### slices.IndexFunc, slices.ContainsFunc over ways, at whatever function value that tells p -/
/-- What a function value over ways owes. -/
def TellsWay (g : Nat) (lb : Array Value) (p : S52 → Bool) (l : List S52) (w : World) : Prop :=
 ∀ (W : World) (x : S52) (Ax : Option Addr) (cx : Nat), x ∈ l → Below w.heap.size w W → x.f0.length ≤ cx → (Kd.int .i64).C W Ax x.f0.length x.f0 → Calls Try.prog g (#[Value.agg #[.slice Ax x.f0.length cx]] ++ lb) W fun e w' => e = .returned (.bool (p x)) ∧ Below W.heap.size W w'
set_option maxHeartbeats 8000000 in
set_option maxRecDepth 100000 in
theorem indexFunc_Way (p : S52 → Bool) (g : Nat) (lb : Array Value) (eg : ∀ args w, (callFunc g args).run Try.prog w = .ok (.enter g args) w)
  (A : Option Addr) (c : Nat) (l : List S52) (w : World) (hr : Kd.C k52 w A l.length l) (hc : l.length ≤ c) (hp : TellsWay g lb p l w) :
  Calls Try.prog 66 #[.slice A l.length c, .func (.func g) #[] lb] w fun e w' => e = .returned (.int .i64 (findI p l)) ∧ Below w.heap.size w w' := by
 have HP : Aside0 (∀ (W : World) (x : S52) (Ax : Option Addr) (cx : Nat), x ∈ l → Below w.heap.size w W → x.f0.length ≤ cx → (Kd.int .i64).C W Ax x.f0.length x.f0 → Calls Try.prog g (#[Value.agg #[.slice Ax x.f0.length cx]] ++ lb) W fun e w' => e = .returned (.bool (p x)) ∧ Below W.heap.size W w') := ⟨hp⟩
 have HR := Aside0.mk hr
 have hn : l.length ≤ 9223372036854775807 := hr.2.1
 clear hp hr
 go_enter Try.func66, Try.ntmps66
 go_wp2
 go_loopg [5, 8] l.length (fun gg _ s8 wr => ∃ kk : Nat, kk ≤ l.length ∧ l.length - kk ≤ gg ∧ s8 = .int .i64 kk ∧ Aside0 (Below w.heap.size w wr) ∧ Aside0 (∀ j, j < kk → p (l.getD j z52) = false))
 case atStart => exact ⟨0, Nat.zero_le _, by omega, rfl, ⟨Below.refl _ _⟩, ⟨fun j hj => absurd hj (Nat.not_lt_zero _)⟩⟩
 case round =>
  obtain ⟨kk, hkk, hg, rfl, HB, HA⟩ := hrel
  by_cases hlt : kk < l.length
  ·have hltz : (kk : Int) < (l.length : Int) := by omega
   obtain ⟨ad, Ax, cx, ead, hx0, hlx, hix⟩ := at_T52 HR.out (kk : Int) (by omega) hltz
   cases ead
   rw [Int.toNat_natCast] at hx0
   replace hx0 := (HB.out.cell (World.block_lt_of_cell? w _ hx0)).trans hx0
   replace hix := Kd.C_below hix HB.out
   have hcall := HP.out _ (rd_T52 l kk) Ax cx (by rw [rd_T52, Int.toNat_natCast, List.getD_eq_getElem?_getD, List.getElem?_eq_getElem hlt]; exact List.getElem_mem hlt) HB.out hlx hix
   clear hix hlx
   have HX : Aside0 (rd_T52 l kk = l.getD kk z52) := ⟨by simp [rd_T52]⟩
   generalize hy : rd_T52 l kk = y at hcall hx0 HX
   clear hy
   cases hq : p y with
   | true =>
    rw [hq] at hcall
    have HCALL := Aside0.mk hcall
    clear hcall
    have HQ := Aside0.mk hq
    clear hq
    go_wp2_with fail
    refine HCALL.out.mono ?_
    rintro e w' ⟨rfl, hb⟩
    go_wp2
    go_ret
    refine ⟨?_, below_step HB.out hb⟩
    rw [findI_hit p l z52 kk hlt (by rw [← HX.out]; exact HQ.out) HA.out]
    rfl
   | false =>
    rw [hq] at hcall
    have HCALL := Aside0.mk hcall
    clear hcall
    have HQ := Aside0.mk hq
    clear hq
    go_wp2_with fail
    refine HCALL.out.mono ?_
    rintro e w' ⟨rfl, hb⟩
    go_wp2
    have HB2 := Aside0.mk (below_step HB.out hb)
    go_roundg (l.length - (kk + 1))
    case measure => omega
    case rel =>
     refine ⟨kk + 1, by omega, by omega, by go_num, HB2, ⟨fun j hj => ?_⟩⟩
     by_cases e : j = kk
     ·subst e; rw [← HX.out]; exact HQ.out
     ·exact HA.out j (by omega)
  ·have hltz : ¬ (kk : Int) < (l.length : Int) := by omega
   have hkl : kk = l.length := by omega
   have HA2 : Aside0 (∀ j, j < l.length → p (l.getD j z52) = false) := ⟨by rw [← hkl]; exact HA.out⟩
   clear hkl HA
   go_wp2
   go_ret
   exact ⟨by rw [findI_miss p l z52 HA2.out]; rfl, HB.out⟩

set_option maxHeartbeats 8000000 in
set_option maxRecDepth 100000 in
theorem containsFunc_Way (p : S52 → Bool) (g : Nat) (lb : Array Value) (eg : ∀ args w, (callFunc g args).run Try.prog w = .ok (.enter g args) w)
  (A : Option Addr) (c : Nat) (l : List S52) (w : World) (hr : Kd.C k52 w A l.length l) (hc : l.length ≤ c) (hp : TellsWay g lb p l w) :
  Calls Try.prog 64 #[.slice A l.length c, .func (.func g) #[] lb] w fun e w' => e = .returned (.bool (l.any p)) ∧ Below w.heap.size w w' := by
 have H := indexFunc_Way p g lb eg A c l w hr hc hp
 rw [← findI_any]
 generalize findI p l = y at H
 clear hp hr
 go_enter Try.func64, Try.ntmps64
 go_wp2_with (go_at_call 66; refine H.mono ?_; rintro e w' ⟨rfl, hb⟩)
 go_ret
 exact ⟨rfl, hb⟩

/-! ### slices.ContainsFunc with areLevel's literal -/
def hof_areLevel.p (l1 : List S52) (x : S52) : Bool := (x.f0.length : Int) != ((rd_T52 l1 0).f0.length : Int)
def hof_areLevel.f (l0 : List S52) (l1 : List S52) : Option Bool := if 0 < l1.length then some (l0.any (hof_areLevel.p l1)) else none
theorem hof_areLevel.tells (l1 : List S52) (A1 : Option Addr) (c1 : Nat) (B : Nat) (l : List S52) (w : World) (h0 : 0 < l1.length) (hr1 : Kd.C k52 w A1 l1.length l1) (hB : w.heap[B]? = some (.cells #[.slice A1 l1.length c1] 27 (0, 0))) :
  TellsWay 65 #[.pointer (some ⟨B, 0, none⟩)] (hof_areLevel.p l1) l w := by
 intro W x Ax cx _ hb hl hi
 have hB2 : W.heap[B]? = some (.cells #[.slice A1 l1.length c1] 27 (0, 0)) := (hb.block B (blk_lt hB)).trans hB
 have hc1 : W.cell? ⟨B, 0, none⟩ = some (.slice A1 l1.length c1) := blk_cell hB2 0
 have hrW := Kd.C_below hr1 hb
 obtain ⟨ad, Ay, cy, ead, hx0, hly, hiy⟩ := at_T52 hrW 0 (by omega) (by omega)
 cases ead
 have hx1 : W.cell? ad = some (.slice Ay (rd_T52 l1 0).f0.length cy) := by rwa [show ad.add (Int.toNat 0) = ad from by cases ad; rfl] at hx0
 have hs1 : ∀ o : Obj, (W.alloc o).cell? ad = some (.slice Ay (rd_T52 l1 0).f0.length cy) := fun o => (World.cell?_alloc_lt W o ad (World.block_lt_of_cell? W _ hx1)).trans hx1
 have hc2 : ∀ o : Obj, (W.alloc o).cell? ⟨B, 0, none⟩ = some (.slice (some ad) l1.length c1) := fun o => (World.cell?_alloc_lt W o ⟨B, 0, none⟩ (blk_lt hB2)).trans hc1
 try clear hx0
 have hg : decide ((0 : Int) < (l1.length : Int)) = true := decide_eq_true (by omega)
 clear hrW hiy hi hr1 hB hb hB2
 show Calls Try.prog 65 #[.agg #[.slice Ax x.f0.length cx], .pointer (some ⟨B, 0, none⟩)] W _
 unfold hof_areLevel.p
 have hu := Try.underlying52
 go_enter Try.func65, Try.ntmps65
 go_wp2
 repeat (go_quiet (fail); try go_wp2)
 go_ret
 exact ⟨by first | rfl | simp [BEq.beq] | trace_state, by first | exact (Below.refl _ W).alloc (Nat.le_refl _) _ | exact pw_below_drewN ((Below.refl _ W).alloc (Nat.le_refl _) _) _⟩
theorem hof_areLevel.calls (A0 : Option Addr) (c0 : Nat) (l0 : List S52) (A1 : Option Addr) (c1 : Nat) (l1 : List S52) (B : Nat) (r : Bool) (w : World) (hr0 : Kd.C k52 w A0 l0.length l0) (hc0 : l0.length ≤ c0) (hr1 : Kd.C k52 w A1 l1.length l1) (hc1 : l1.length ≤ c1)
  (hb : w.heap[B]? = some (.cells #[.slice A1 l1.length c1] 27 (0, 0))) (h : hof_areLevel.f l0 l1 = some r) :
  Calls Try.prog 64 #[.slice A0 l0.length c0, .func (.func 65) #[] #[.pointer (some ⟨B, 0, none⟩)]] w fun e w' => e = .returned (.bool r) ∧ Below w.heap.size w w' := by
 unfold hof_areLevel.f at h
 by_cases h0 : 0 < l1.length
 ·rw [if_pos h0] at h; obtain rfl := Option.some.inj h; have eg : ∀ args w, (callFunc 65 args).run Try.prog w = .ok (.enter 65 args) w := entersOf Try.func65 (by kernel_rfl) rfl; exact containsFunc_Way (hof_areLevel.p l1) _ _ eg A0 c0 l0 w hr0 hc0 (hof_areLevel.tells l1 A1 c1 B l0 w h0 hr1 hb)
 ·rw [if_neg h0] at h; exact absurd h (by simp)

/-! ### impl_areLevel: function 36 -/
def impl_areLevel.f (l0 : List (S52)) : Option (Bool) := if (l0.length : Int) ≥ 1 then (if (l0.length : Int) ≤ 10 then ((hof_areLevel.f l0 l0).bind fun t102 => (some (!t102))) else (some false)) else (some false)
set_option maxHeartbeats 8000000 in
set_option maxRecDepth 100000 in
theorem impl_areLevel.calls (A0 : Option Addr) (c0 : Nat) (l0 : List (S52)) (r : Bool) (w : World) (hr0 : Kd.C k52 w A0 l0.length l0) (hc0 : l0.length ≤ c0) (h : impl_areLevel.f l0 = some r) :
  Calls Try.prog 36 #[.slice A0 l0.length c0] w fun e w' => e = .returned (.bool r) ∧ Below w.heap.size w w' := by
 have HR0 := Aside0.mk hr0; have HC0 := Aside0.mk hc0; clear hr0 hc0; have HB := Aside0.mk (Below.refl w.heap.size w); have H : (if (l0.length : Int) ≥ 1 then (if (l0.length : Int) ≤ 10 then ((hof_areLevel.f l0 l0).bind fun t102 => (some (!t102))) else (some false)) else (some false)) = some r := h; clear h; by_cases c2 : (l0.length : Int) ≥ 1
 ·rw [if_pos c2] at H; have c2b0 : decide (1 ≤ (l0.length : Int)) = true := decide_eq_true c2; have c2b1 : decide (1 ≤ l0.length) = true := decide_eq_true (by omega); clear c2; by_cases c3 : (l0.length : Int) ≤ 10
  ·rw [if_pos c3] at H; have c3b0 : decide ((l0.length : Int) ≤ 10) = true := decide_eq_true c3; have c3b1 : decide (l0.length ≤ 10) = true := decide_eq_true (by omega); clear c3; replace H := Option.bind_eq_some_iff.mp H; obtain ⟨t102, A40, H⟩ := H; have A4 := Aside0.mk A40; clear A40; obtain rfl := Option.some.inj H; go_enter Try.func36, Try.ntmps36; go_wp2_with (first | ((with_reducible refine gate_dst (N := 1) rfl ?_); (try (refine gate_guard (by rfl) ?_; dsimp only)); refine box_event ?hg (N := 1) ?hd (cs := #[.slice A0 l0.length c0]) (t := 27) ?hr ?_; (case hd => rfl); (case hg => rfl); (case hr => first | (go_simp; done) | (go_simp; rfl)); intro gb101 hg w5 hbox hb; have BK101 := Aside0.mk (hbox); have GW101 := Aside0.mk ((by rw [hg]; exact (below_size (uB HB.out)) : w.heap.size ≤ gb101)); have GE101 := Aside0.mk ((by rw [hg]; exact (below_size (uB HB.out)) : w.heap.size ≤ gb101)); replace HB := Aside0.mk (below_step (uB HB.out) hb); clear hb hbox hg; obtain ⟨hcz6_0, hfz6_0⟩ := bx1 BK101.out) | (go_at_call 64; (with_reducible refine (hof_areLevel.calls _ _ l0 _ _ l0 _ t102 _ ?side1 ?side2 ?side3 ?side4 (by exact (uK BK101.out)) A4.out).mono ?_); (case side1 => repeat (first | exact (Kd.C_below HR0.out HB.out) | (with_reducible refine Kd.C_alloc ?_ _) | (with_reducible refine Kd.C_drewN ?_ _) | (with_reducible refine Kd.C_drew ?_))); (case side2 => exact HC0.out); (case side3 => repeat (first | exact (Kd.C_below HR0.out HB.out) | (with_reducible refine Kd.C_alloc ?_ _) | (with_reducible refine Kd.C_drewN ?_ _) | (with_reducible refine Kd.C_drew ?_))); (case side4 => exact HC0.out); rintro e w7 ⟨rfl, hb⟩; replace BK101 := Aside0.mk (blk_below (uK BK101.out) hb); replace HB := Aside0.mk (below_step (uB HB.out) hb); (try clear hb); (try clear hb2); (try clear hk); (try clear hi)))
   go_ret; exact ⟨by first | rfl | (simp [errW_none, errW_some] <;> rfl) | (simp [*, errW_none, errW_some] <;> rfl), uB HB.out⟩
  ·rw [if_neg c3] at H; have c3b0 : decide ((l0.length : Int) ≤ 10) = false := decide_eq_false c3; have c3b1 : decide (l0.length ≤ 10) = false := decide_eq_false (by omega); clear c3; obtain rfl := Option.some.inj H; go_enter Try.func36, Try.ntmps36; go_wp2_with (first | ((with_reducible refine gate_dst (N := 1) rfl ?_); (try (refine gate_guard (by rfl) ?_; dsimp only)); refine box_event ?hg (N := 1) ?hd (cs := #[.slice A0 l0.length c0]) (t := 27) ?hr ?_; (case hd => rfl); (case hg => rfl); (case hr => first | (go_simp; done) | (go_simp; rfl)); intro gb101 hg w8 hbox hb; have BK101 := Aside0.mk (hbox); have GW101 := Aside0.mk ((by rw [hg]; exact (below_size (uB HB.out)) : w.heap.size ≤ gb101)); have GE101 := Aside0.mk ((by rw [hg]; exact (below_size (uB HB.out)) : w.heap.size ≤ gb101)); replace HB := Aside0.mk (below_step (uB HB.out) hb); clear hb hbox hg; obtain ⟨hcz9_0, hfz9_0⟩ := bx1 BK101.out))
   go_ret; exact ⟨by first | rfl | (simp [errW_none, errW_some] <;> rfl) | (simp [*, errW_none, errW_some] <;> rfl), uB HB.out⟩
 ·rw [if_neg c2] at H; have c2b0 : decide (1 ≤ (l0.length : Int)) = false := decide_eq_false c2; have c2b1 : decide (1 ≤ l0.length) = false := decide_eq_false (by omega); clear c2; obtain rfl := Option.some.inj H; go_enter Try.func36, Try.ntmps36; go_wp2_with (first | ((with_reducible refine gate_dst (N := 1) rfl ?_); (try (refine gate_guard (by rfl) ?_; dsimp only)); refine box_event ?hg (N := 1) ?hd (cs := #[.slice A0 l0.length c0]) (t := 27) ?hr ?_; (case hd => rfl); (case hg => rfl); (case hr => first | (go_simp; done) | (go_simp; rfl)); intro gb101 hg w10 hbox hb; have BK101 := Aside0.mk (hbox); have GW101 := Aside0.mk ((by rw [hg]; exact (below_size (uB HB.out)) : w.heap.size ≤ gb101)); have GE101 := Aside0.mk ((by rw [hg]; exact (below_size (uB HB.out)) : w.heap.size ≤ gb101)); replace HB := Aside0.mk (below_step (uB HB.out) hb); clear hb hbox hg; obtain ⟨hcz11_0, hfz11_0⟩ := bx1 BK101.out))
  go_ret; exact ⟨by first | rfl | (simp [errW_none, errW_some] <;> rfl) | (simp [*, errW_none, errW_some] <;> rfl), uB HB.out⟩

/-! ### impl_LevelWays: function 10 -/
def impl_LevelWays.f (l0 : List (S52)) (a1 : Int) : Option (Bool) := (impl_areLevel.f l0).bind fun t103 => (if t103 = true then (if a1 ≥ 0 then (if 0 < (l0.length : Int) then (some (decide (a1 < (wrap64 ((((rd_T52 l0 0).f0).length : Int) - 1))))) else (none)) else (some false)) else (some false))
set_option maxHeartbeats 8000000 in
set_option maxRecDepth 100000 in
theorem impl_LevelWays.calls (A0 : Option Addr) (c0 : Nat) (l0 : List (S52)) (a1 : Int) (r : Bool) (w : World) (hr0 : Kd.C k52 w A0 l0.length l0) (hc0 : l0.length ≤ c0) (h : impl_LevelWays.f l0 a1 = some r) :
  Calls Try.prog 10 #[.slice A0 l0.length c0, .int .i64 a1] w fun e w' => e = .returned (.bool r) ∧ Below w.heap.size w w' := by
 have HR0 := Aside0.mk hr0; have HC0 := Aside0.mk hc0; clear hr0 hc0; have HB := Aside0.mk (Below.refl w.heap.size w); have H : ((impl_areLevel.f l0).bind fun t103 => (if t103 = true then (if a1 ≥ 0 then (if 0 < (l0.length : Int) then (some (decide (a1 < (wrap64 ((((rd_T52 l0 0).f0).length : Int) - 1))))) else (none)) else (some false)) else (some false))) = some r := h; clear h; replace H := Option.bind_eq_some_iff.mp H; obtain ⟨t103, A30, H⟩ := H; have A3 := Aside0.mk A30; clear A30; by_cases c4 : t103 = true
 ·subst c4; rw [if_pos rfl] at H; by_cases c5 : a1 ≥ 0
  ·rw [if_pos c5] at H; have c5b0 : decide (0 ≤ a1) = true := decide_eq_true c5; clear c5; by_cases c6 : 0 < (l0.length : Int)
   ·rw [if_pos c6] at H; have c6b0 : decide (0 < (l0.length : Int)) = true := decide_eq_true c6; have c6b1 : decide (0 < l0.length) = true := decide_eq_true (by omega); clear c6; obtain rfl := Option.some.inj H; go_enter Try.func10, Try.ntmps10; go_wp2_with (first | ((with_reducible refine gate_callee (f := 36) rfl ?_); refine gL_ (some 6) Try.func36 #[.slice A0 l0.length c0] ?_; (with_reducible refine (impl_areLevel.calls _ _ l0 true _ ?side1 ?side2 A3.out).mono ?_); (case side1 => exact uC HR0.out); (case side2 => exact HC0.out); rintro e w7 ⟨rfl, hb⟩; refine ⟨_, rfl, ?_⟩; replace HB := Aside0.mk (below_step (uB HB.out) hb); (try clear hb); (try clear hb2); (try clear hk); (try clear hi); have p104 : 0 ≤ (0 : Int) := (by omega); have q104 : 0 < (l0.length : Int) := od_; obtain ⟨ad104, A104_0, c104_0, e104, hx104_0, hl104_0, hi104_0⟩ := at_T52 HR0.out 0 p104 q104; cases e104; have qi104 : (0 < l0.length) = True := eq_true (by omega); (try rw [show ((0 : Int)).toNat = 0 from rfl] at hx104_0); (try rw [Addr.add_zero'] at hx104_0); replace hx104_0 := (HB.out.cell (World.block_lt_of_cell? w _ hx104_0)).trans hx104_0; have HR104_0 := Aside0.mk hi104_0; have HC104_0 := Aside0.mk hl104_0; clear hi104_0 hl104_0; replace p104 := eq_true p104; replace q104 := eq_true q104))
    go_ret; exact ⟨by first | rfl | (simp [errW_none, errW_some] <;> rfl) | (simp [*, errW_none, errW_some] <;> rfl), uB HB.out⟩
   ·rw [if_neg c6] at H; exact absurd H (by simp)
  ·rw [if_neg c5] at H; have c5b0 : decide (0 ≤ a1) = false := decide_eq_false c5; clear c5; obtain rfl := Option.some.inj H; go_enter Try.func10, Try.ntmps10; go_wp2_with (first | ((with_reducible refine gate_callee (f := 36) rfl ?_); refine gL_ (some 6) Try.func36 #[.slice A0 l0.length c0] ?_; (with_reducible refine (impl_areLevel.calls _ _ l0 true _ ?side1 ?side2 A3.out).mono ?_); (case side1 => exact uC HR0.out); (case side2 => exact HC0.out); rintro e w8 ⟨rfl, hb⟩; refine ⟨_, rfl, ?_⟩; replace HB := Aside0.mk (below_step (uB HB.out) hb); (try clear hb); (try clear hb2); (try clear hk); (try clear hi)))
   go_ret; exact ⟨by first | rfl | (simp [errW_none, errW_some] <;> rfl) | (simp [*, errW_none, errW_some] <;> rfl), uB HB.out⟩
 ·replace c4 := Bool.eq_false_iff.mpr c4; subst c4; rw [if_neg (show ¬ (false = true) by decide)] at H; obtain rfl := Option.some.inj H; go_enter Try.func10, Try.ntmps10; go_wp2_with (first | ((with_reducible refine gate_callee (f := 36) rfl ?_); refine gL_ (some 6) Try.func36 #[.slice A0 l0.length c0] ?_; (with_reducible refine (impl_areLevel.calls _ _ l0 false _ ?side1 ?side2 A3.out).mono ?_); (case side1 => exact uC HR0.out); (case side2 => exact HC0.out); rintro e w9 ⟨rfl, hb⟩; refine ⟨_, rfl, ?_⟩; replace HB := Aside0.mk (below_step (uB HB.out) hb); (try clear hb); (try clear hb2); (try clear hk); (try clear hi)))
  go_ret; exact ⟨by first | rfl | (simp [errW_none, errW_some] <;> rfl) | (simp [*, errW_none, errW_some] <;> rfl), uB HB.out⟩

/-! ### impl_meets: function 35 -/
mutual
def impl_meets.l0 : Nat → List (S52) → Int → Int → Int → Option (Bool)
 | 0, _, _, _, _ => none
 | k + 1, x0, x1, x8, x9 => if x9 < x8 then (if 0 ≤ x9 then (if x9 ≤ (x0.length : Int) then (impl_meets.l1 k x0 x1 x9 x8 x9 ((x0.take (x9 : Int).toNat).length : Int) 0) else (none)) else (none)) else (some false)
def impl_meets.l1 : Nat → List (S52) → Int → Int → Int → Int → Int → Int → Option (Bool)
 | 0, _, _, _, _, _, _, _ => none
 | k + 1, x0, x1, x5, x8, x9, x15, x16 => if x16 < x15 then (if 0 ≤ x5 then (if x5 < (x0.length : Int) then (if 0 ≤ x1 then (if x1 < (((rd_T52 x0 x5).f0).length : Int) then (if 0 ≤ x16 then (if x16 < (x0.length : Int) then (if x1 < (((rd_T52 x0 x16).f0).length : Int) then (if (rd ((rd_T52 x0 x5).f0) x1) = (rd ((rd_T52 x0 x16).f0) x1) then (some true) else (impl_meets.l1 k x0 x1 x5 x8 x9 x15 (wrap64 (x16 + 1)))) else (none)) else (none)) else (none)) else (none)) else (none)) else (none)) else (none)) else (impl_meets.l0 k x0 x1 x8 (wrap64 (x9 + 1)))
end
def impl_meets.f (k : Nat) (l0 : List (S52)) (a1 : Int) : Option (Bool) := impl_meets.l0 k l0 a1 (l0.length : Int) 0
set_option maxHeartbeats 8000000 in
set_option maxRecDepth 100000 in
theorem impl_meets.calls (k : Nat) (A0 : Option Addr) (c0 : Nat) (l0 : List (S52)) (a1 : Int) (r : Bool) (w : World) (hr0 : Kd.C k52 w A0 l0.length l0) (hc0 : l0.length ≤ c0) (h : impl_meets.f k l0 a1 = some r) :
  Calls Try.prog 35 #[.slice A0 l0.length c0, .int .i64 a1] w fun e w' => e = .returned (.bool r) ∧ Drawn0 w w' := by
 have HR0 := Aside0.mk hr0; have HC0 := Aside0.mk hc0; clear hr0 hc0; have H : (impl_meets.l0 k l0 a1 (l0.length : Int) 0) = some r := h; clear h; have H' := Aside0.mk H; clear H; go_enter Try.func35, Try.ntmps35; go_wp2
 repeat (go_quiet (fail); try go_wp2)
 go_loopg [9] k (fun kq v9 w' => ∃ (x9_1 : Int), v9 = .int .i64 x9_1 ∧ Aside0 (impl_meets.l0 kq l0 a1 (l0.length : Int) x9_1 = some r) ∧ Aside0 (kq ≤ k) ∧ Drawn0 w w')
 case atStart => exact ⟨(0), ev_, H', ⟨Nat.le_refl _⟩, by repeat (first | exact Drawn0.refl _ | apply Drawn0.step)⟩
 case round =>
  clear H'; (try clear p2); obtain ⟨x9_1, rfl, HA, HK1, ⟨m1, rfl⟩⟩ := hrel
  cases gk with
  | zero => exact absurd HA.out (by simp [impl_meets.l0])
  | succ k1 =>
   have H := HA.out; clear HA; simp only [impl_meets.l0] at H; by_cases c3 : x9_1 < (l0.length : Int)
   ·rw [if_pos c3] at H; have c3b0 : decide (x9_1 < (l0.length : Int)) = true := decide_eq_true c3; clear c3; by_cases c4 : 0 ≤ x9_1
    ·rw [if_pos c4] at H; have c4b0 := eq_true c4; have c4b1 : decide (0 ≤ x9_1) = true := decide_eq_true c4; clear c4; by_cases c5 : x9_1 ≤ (l0.length : Int)
     ·rw [if_pos c5] at H; have c5b0 := eq_true c5; have c5b1 : decide (x9_1 ≤ (l0.length : Int)) = true := decide_eq_true c5; clear c5; obtain ⟨y105, hy105⟩ : ∃ y_ : List (S52), y_ = (l0.take (x9_1 : Int).toNat) := ⟨_, rfl⟩; replace H : (impl_meets.l1 k1 l0 a1 x9_1 (l0.length : Int) x9_1 (y105.length : Int) 0) = some r := by first | (rw [hy105]; with_reducible exact H) | (have H2_ := (Option.bind_some _ _).symm.trans H; rw [hy105]; with_reducible exact H2_) | (have H2_ := (Option.bind_some _ _).symm.trans H; with_reducible exact H2_) | with_reducible exact H | (rw [hy105]; exact H) | exact H
      have Ny105 := Aside0.mk hy105; clear hy105; have H' := Aside0.mk H; clear H; have q6 : (x9_1 : Int) ≤ ((l0.length : Int) : Int) := od_; obtain ⟨i06, hi06, _, hsz6, _⟩ := info_parts info52; have hroom6 : l0.length ≤ c0 := HC0.out; have hC6 : Kd.C k52 _ A0 l0.length l0 := HR0.out; have hcut6 := cut_to (P := Try.prog) 27 52 .i64 Try.underlying27 hi06 A0 l0.length c0 x9_1 od_ q6 hroom6; have hr6 := Kd.C_take (m := (x9_1 : Int).toNat) hC6 (by omega); have hy6 : y105.length = (x9_1 : Int).toNat := (by rw [Ny105.out, List.length_take]; omega); rw [← Ny105.out] at hr6; rw [← hy6] at hcut6; have HR108 := Aside0.mk hr6; have HC108 := Aside0.mk (show y105.length ≤ c0 from by omega); clear hr6 hC6 hroom6 hi06 hsz6; have KY6 := Aside0.mk hy6; clear hy6; replace q6 := eq_true q6; go_wp2
      repeat (go_quiet (fail); try go_wp2)
      go_loopg [16] k1 (fun kq v16 w' => ∃ (x16_2 : Int), v16 = .int .i64 x16_2 ∧ Aside0 (impl_meets.l1 kq l0 a1 x9_1 (l0.length : Int) x9_1 (y105.length : Int) x16_2 = some r) ∧ Aside0 (kq ≤ k1) ∧ Drawn0 w w')
      case atStart => exact ⟨(0), ev_, H', ⟨Nat.le_refl _⟩, by repeat (first | exact Drawn0.refl _ | apply Drawn0.step)⟩
      case round =>
       clear H'; (try clear p2); (try clear c3); (try clear c3b0); (try clear c4); (try clear c4b0); (try clear c4b1); (try clear c5); (try clear c5b0); (try clear c5b1); (try clear q6); (try clear p2); (try clear q6); obtain ⟨x16_2, rfl, HA, HK2, ⟨m2, rfl⟩⟩ := hrel
       cases gk with
       | zero => exact absurd HA.out (by simp [impl_meets.l1])
       | succ k2 =>
        have H := HA.out; clear HA; simp only [impl_meets.l1] at H; by_cases c7 : x16_2 < (y105.length : Int)
        ·rw [if_pos c7] at H; have c7b0 : decide (x16_2 < (y105.length : Int)) = true := decide_eq_true c7; clear c7; by_cases c8 : 0 ≤ x9_1
         ·rw [if_pos c8] at H; have c8b0 : decide (0 ≤ x9_1) = true := decide_eq_true c8; clear c8; by_cases c9 : x9_1 < (l0.length : Int)
          ·rw [if_pos c9] at H; have c9b0 : decide (x9_1 < (l0.length : Int)) = true := decide_eq_true c9; clear c9; by_cases c10 : 0 ≤ a1
           ·rw [if_pos c10] at H; have c10b0 : decide (0 ≤ a1) = true := decide_eq_true c10; clear c10; by_cases c11 : a1 < (((rd_T52 l0 x9_1).f0).length : Int)
            ·rw [if_pos c11] at H; have c11b0 : decide (a1 < (((rd_T52 l0 x9_1).f0).length : Int)) = true := decide_eq_true c11; clear c11; by_cases c12 : 0 ≤ x16_2
             ·rw [if_pos c12] at H; have c12b0 : decide (0 ≤ x16_2) = true := decide_eq_true c12; clear c12; by_cases c13 : x16_2 < (l0.length : Int)
              ·rw [if_pos c13] at H; have c13b0 : decide (x16_2 < (l0.length : Int)) = true := decide_eq_true c13; clear c13; by_cases c14 : a1 < (((rd_T52 l0 x16_2).f0).length : Int)
               ·rw [if_pos c14] at H; have c14b0 : decide (a1 < (((rd_T52 l0 x16_2).f0).length : Int)) = true := decide_eq_true c14; clear c14; by_cases c15 : (rd ((rd_T52 l0 x9_1).f0) a1) = (rd ((rd_T52 l0 x16_2).f0) a1)
                ·rw [if_pos c15] at H; have c15b0 : ((rd ((rd_T52 l0 x9_1).f0) a1) == (rd ((rd_T52 l0 x16_2).f0) a1)) = true := beq_iff_eq.mpr c15; have c15b1 : ((rd ((rd_T52 l0 x9_1).f0) a1) != (rd ((rd_T52 l0 x16_2).f0) a1)) = false := bne_eq_false_iff_eq.mpr c15; clear c15; obtain rfl := Option.some.inj H; have p109 : 0 ≤ (x9_1 : Int) := od_; have q109 : x9_1 < (l0.length : Int) := od_; obtain ⟨ad109, A109_0, c109_0, e109, hx109_0, hl109_0, hi109_0⟩ := at_T52 HR0.out x9_1 p109 q109
                 cases e109; have HR109_0 := Aside0.mk hi109_0; have HC109_0 := Aside0.mk hl109_0; clear hi109_0 hl109_0; replace p109 := eq_true p109; replace q109 := eq_true q109; have p110 : 0 ≤ (a1 : Int) := od_; have q110 : a1 < (((rd_T52 l0 x9_1).f0).length : Int) := od_; obtain ⟨ad110, e110, hx110_0⟩ := Kd.at_int HR109_0.out a1 p110 q110
                 cases e110; replace p110 := eq_true p110; replace q110 := eq_true q110; have p111 : 0 ≤ (x16_2 : Int) := od_; have q111 : x16_2 < (l0.length : Int) := od_; obtain ⟨ad111, A111_0, c111_0, e111, hx111_0, hl111_0, hi111_0⟩ := at_T52 HR0.out x16_2 p111 q111; obtain rfl : ad109 = ad111 := (by injection e111); have HR111_0 := Aside0.mk hi111_0; have HC111_0 := Aside0.mk hl111_0; clear hi111_0 hl111_0; replace p111 := eq_true p111; replace q111 := eq_true q111; have p112 : 0 ≤ (a1 : Int) := od_; have q112 : a1 < (((rd_T52 l0 x16_2).f0).length : Int) := od_; obtain ⟨ad112, e112, hx112_0⟩ := Kd.at_int HR111_0.out a1 p112 q112
                 cases e112; replace p112 := eq_true p112; replace q112 := eq_true q112; go_wp2
                 repeat (go_quiet (fail); try go_wp2)
                 go_ret; exact ⟨by first | rfl | (simp; done) | (simp [*]; done), by repeat (first | exact Drawn0.refl _ | apply Drawn0.step)⟩
                ·rw [if_neg c15] at H; have c15b0 : ((rd ((rd_T52 l0 x9_1).f0) a1) == (rd ((rd_T52 l0 x16_2).f0) a1)) = false := beq_eq_false_iff_ne.mpr c15; have c15b1 : ((rd ((rd_T52 l0 x9_1).f0) a1) != (rd ((rd_T52 l0 x16_2).f0) a1)) = true := bne_iff_ne.mpr c15; have H' := Aside0.mk H; clear H; have p109 : 0 ≤ (x9_1 : Int) := od_; have q109 : x9_1 < (l0.length : Int) := od_; obtain ⟨ad109, A109_0, c109_0, e109, hx109_0, hl109_0, hi109_0⟩ := at_T52 HR0.out x9_1 p109 q109
                 cases e109; have HR109_0 := Aside0.mk hi109_0; have HC109_0 := Aside0.mk hl109_0; clear hi109_0 hl109_0; replace p109 := eq_true p109; replace q109 := eq_true q109; have p110 : 0 ≤ (a1 : Int) := od_; have q110 : a1 < (((rd_T52 l0 x9_1).f0).length : Int) := od_; obtain ⟨ad110, e110, hx110_0⟩ := Kd.at_int HR109_0.out a1 p110 q110
                 cases e110; replace p110 := eq_true p110; replace q110 := eq_true q110; have p111 : 0 ≤ (x16_2 : Int) := od_; have q111 : x16_2 < (l0.length : Int) := od_; obtain ⟨ad111, A111_0, c111_0, e111, hx111_0, hl111_0, hi111_0⟩ := at_T52 HR0.out x16_2 p111 q111; obtain rfl : ad109 = ad111 := (by injection e111); have HR111_0 := Aside0.mk hi111_0; have HC111_0 := Aside0.mk hl111_0; clear hi111_0 hl111_0; replace p111 := eq_true p111; replace q111 := eq_true q111; have p112 : 0 ≤ (a1 : Int) := od_; have q112 : a1 < (((rd_T52 l0 x16_2).f0).length : Int) := od_; obtain ⟨ad112, e112, hx112_0⟩ := Kd.at_int HR111_0.out a1 p112 q112
                 cases e112; replace p112 := eq_true p112; replace q112 := eq_true q112; go_wp2
                 repeat (go_quiet (fail); try go_wp2)
                 go_roundg k2
                 case measure => have := HK1.out; have := HK2.out; omega
                 case rel => exact ⟨(wrap64 (x16_2 + 1)), ev_, H', ⟨by have := HK1.out; have := HK2.out; omega⟩, by repeat (first | exact Drawn0.refl _ | apply Drawn0.step)⟩
               ·rw [if_neg c14] at H; exact absurd H (by simp)
              ·rw [if_neg c13] at H; exact absurd H (by simp)
             ·rw [if_neg c12] at H; exact absurd H (by simp)
            ·rw [if_neg c11] at H; exact absurd H (by simp)
           ·rw [if_neg c10] at H; exact absurd H (by simp)
          ·rw [if_neg c9] at H; exact absurd H (by simp)
         ·rw [if_neg c8] at H; exact absurd H (by simp)
        ·rw [if_neg c7] at H; have c7b0 : decide (x16_2 < (y105.length : Int)) = false := decide_eq_false c7; clear c7; have H' := Aside0.mk H; clear H; go_wp2
         repeat (go_quiet (fail); try go_wp2)
         go_roundg k2
         case measure => have := HK1.out; have := HK2.out; omega
         case rel => exact ⟨(wrap64 (x9_1 + 1)), ev_, H', ⟨by have := HK1.out; have := HK2.out; omega⟩, by repeat (first | exact Drawn0.refl _ | apply Drawn0.step)⟩
     ·rw [if_neg c5] at H; exact absurd H (by simp)
    ·rw [if_neg c4] at H; exact absurd H (by simp)
   ·rw [if_neg c3] at H; have c3b0 : decide (x9_1 < (l0.length : Int)) = false := decide_eq_false c3; clear c3; obtain rfl := Option.some.inj H; go_wp2
    repeat (go_quiet (fail); try go_wp2)
    go_ret; exact ⟨by first | rfl | (simp; done) | (simp [*]; done), by repeat (first | exact Drawn0.refl _ | apply Drawn0.step)⟩

/-! ### impl_MeetAt: function 9 -/
def impl_MeetAt.f (k : Nat) (l0 : List (S52)) (a1 : Int) : Option (Bool) := (impl_LevelWays.f l0 a1).bind fun t113 => (if t113 = true then ((impl_meets.f k l0 a1).bind fun t114 => (if t114 = true then (some true) else ((impl_meets.f k l0 (wrap64 (a1 + 1))).bind fun t115 => (some t115)))) else (some false))
set_option maxHeartbeats 8000000 in
set_option maxRecDepth 100000 in
theorem impl_MeetAt.calls (k : Nat) (A0 : Option Addr) (c0 : Nat) (l0 : List (S52)) (a1 : Int) (r : Bool) (w : World) (hr0 : Kd.C k52 w A0 l0.length l0) (hc0 : l0.length ≤ c0) (h : impl_MeetAt.f k l0 a1 = some r) :
  Calls Try.prog 9 #[.slice A0 l0.length c0, .int .i64 a1] w fun e w' => e = .returned (.bool r) ∧ Below w.heap.size w w' := by
 have HR0 := Aside0.mk hr0; have HC0 := Aside0.mk hc0; clear hr0 hc0; have HB := Aside0.mk (Below.refl w.heap.size w); have H : ((impl_LevelWays.f l0 a1).bind fun t113 => (if t113 = true then ((impl_meets.f k l0 a1).bind fun t114 => (if t114 = true then (some true) else ((impl_meets.f k l0 (wrap64 (a1 + 1))).bind fun t115 => (some t115)))) else (some false))) = some r := h; clear h; replace H := Option.bind_eq_some_iff.mp H; obtain ⟨t113, A30, H⟩ := H; have A3 := Aside0.mk A30; clear A30; by_cases c4 : t113 = true
 ·subst c4; rw [if_pos rfl] at H; replace H := Option.bind_eq_some_iff.mp H; obtain ⟨t114, A50, H⟩ := H; have A5 := Aside0.mk A50; clear A50; by_cases c6 : t114 = true
  ·subst c6; rw [if_pos rfl] at H; obtain rfl := Option.some.inj H; go_enter Try.func9, Try.ntmps9; go_wp2_with (first | ((with_reducible refine gate_callee (f := 10) rfl ?_); refine gL_ (some 7) Try.func10 #[.slice A0 l0.length c0, .int .i64 a1] ?_; (with_reducible refine (impl_LevelWays.calls _ _ l0 a1 true _ ?side1 ?side2 A3.out).mono ?_); (case side1 => exact uC HR0.out); (case side2 => exact HC0.out); rintro e w7 ⟨rfl, hb⟩; refine ⟨_, rfl, ?_⟩; replace HB := Aside0.mk (below_step (uB HB.out) hb); (try clear hb); (try clear hb2); (try clear hk); (try clear hi)) | (go_at_call 35; (with_reducible refine (impl_meets.calls k _ _ l0 a1 true _ ?side1 ?side2 A5.out).mono ?_); (case side1 => repeat (first | exact (Kd.C_below HR0.out HB.out) | (with_reducible refine Kd.C_alloc ?_ _) | (with_reducible refine Kd.C_drewN ?_ _) | (with_reducible refine Kd.C_drew ?_))); (case side2 => exact HC0.out); rintro e w' ⟨rfl, ⟨nd, rfl⟩⟩))
   go_ret; exact ⟨by first | rfl | (simp [errW_none, errW_some] <;> rfl) | (simp [*, errW_none, errW_some] <;> rfl), uB HB.out⟩
  ·replace c6 := Bool.eq_false_iff.mpr c6; subst c6; rw [if_neg (show ¬ (false = true) by decide)] at H; replace H := Option.bind_eq_some_iff.mp H; obtain ⟨t115, A80, H⟩ := H; have A8 := Aside0.mk A80; clear A80; obtain rfl := Option.some.inj H; go_enter Try.func9, Try.ntmps9; go_wp2_with (first | ((with_reducible refine gate_callee (f := 10) rfl ?_); refine gL_ (some 7) Try.func10 #[.slice A0 l0.length c0, .int .i64 a1] ?_; (with_reducible refine (impl_LevelWays.calls _ _ l0 a1 true _ ?side1 ?side2 A3.out).mono ?_); (case side1 => exact uC HR0.out); (case side2 => exact HC0.out); rintro e w9 ⟨rfl, hb⟩; refine ⟨_, rfl, ?_⟩; replace HB := Aside0.mk (below_step (uB HB.out) hb); (try clear hb); (try clear hb2); (try clear hk); (try clear hi)) | (go_at_call 35; (with_reducible refine (impl_meets.calls k _ _ l0 a1 false _ ?side1 ?side2 A5.out).mono ?_); (case side1 => repeat (first | exact (Kd.C_below HR0.out HB.out) | (with_reducible refine Kd.C_alloc ?_ _) | (with_reducible refine Kd.C_drewN ?_ _) | (with_reducible refine Kd.C_drew ?_))); (case side2 => exact HC0.out); rintro e w' ⟨rfl, ⟨nd, rfl⟩⟩) | (go_at_call 35; (with_reducible refine (impl_meets.calls k _ _ l0 (wrap64 (a1 + 1)) t115 _ ?side1 ?side2 A8.out).mono ?_); (case side1 => repeat (first | exact (Kd.C_below HR0.out (uB HB.out)) | (with_reducible refine Kd.C_alloc ?_ _) | (with_reducible refine Kd.C_drewN ?_ _) | (with_reducible refine Kd.C_drew ?_))); (case side2 => exact HC0.out); rintro e w' ⟨rfl, ⟨nd, rfl⟩⟩))
   go_ret; exact ⟨by first | rfl | (simp [errW_none, errW_some] <;> rfl) | (simp [*, errW_none, errW_some] <;> rfl), uB HB.out⟩
 ·replace c4 := Bool.eq_false_iff.mpr c4; subst c4; rw [if_neg (show ¬ (false = true) by decide)] at H; obtain rfl := Option.some.inj H; go_enter Try.func9, Try.ntmps9; go_wp2_with (first | ((with_reducible refine gate_callee (f := 10) rfl ?_); refine gL_ (some 7) Try.func10 #[.slice A0 l0.length c0, .int .i64 a1] ?_; (with_reducible refine (impl_LevelWays.calls _ _ l0 a1 false _ ?side1 ?side2 A3.out).mono ?_); (case side1 => exact uC HR0.out); (case side2 => exact HC0.out); rintro e w10 ⟨rfl, hb⟩; refine ⟨_, rfl, ?_⟩; replace HB := Aside0.mk (below_step (uB HB.out) hb); (try clear hb); (try clear hb2); (try clear hk); (try clear hi)))
  go_ret; exact ⟨by first | rfl | (simp [errW_none, errW_some] <;> rfl) | (simp [*, errW_none, errW_some] <;> rfl), uB HB.out⟩

/-! ### slices.IndexFunc with nextOf's literal -/
def hof_nextOf.p (t : Int) (l2 : List Int) (x : S52) : Bool := decide (rd x.f0 t = rd l2 (wrap64 (t + 1)))
def hof_nextOf.f (l0 : List S52) (t : Int) (l2 : List Int) : Option Int := if 0 ≤ t ∧ t < 9223372036854775807 ∧ t + 1 < (l2.length : Int) ∧ (∀ x ∈ l0, t < (x.f0.length : Int)) then some (findI (hof_nextOf.p t l2) l0) else none
theorem hof_nextOf.tells (t : Int) (l2 : List Int) (A2 : Option Addr) (c2 : Nat) (B1 B2 : Nat) (l : List S52) (w : World) (h0 : 0 ≤ t) (h1 : t < 9223372036854775807) (h2 : t + 1 < (l2.length : Int)) (h3 : ∀ x ∈ l, t < (x.f0.length : Int)) (hr2 : (Kd.int .i64).C w A2 l2.length l2)
  (hB1 : w.heap[B1]? = some (.cells #[.int .i64 t] 3 (0, 0))) (hB2 : w.heap[B2]? = some (.cells #[.slice A2 l2.length c2] 52 (0, 0))) :
  TellsWay 67 #[.pointer (some ⟨B1, 0, none⟩), .pointer (some ⟨B2, 0, none⟩)] (hof_nextOf.p t l2) l w := by
 intro W x Ax cx hx hb hl hi
 have hB1W : W.heap[B1]? = some (.cells #[.int .i64 t] 3 (0, 0)) := (hb.block B1 (blk_lt hB1)).trans hB1
 have hB2W : W.heap[B2]? = some (.cells #[.slice A2 l2.length c2] 52 (0, 0)) := (hb.block B2 (blk_lt hB2)).trans hB2
 have hc1 : W.cell? ⟨B1, 0, none⟩ = some (.int .i64 t) := blk_cell hB1W 0
 have hc2 : W.cell? ⟨B2, 0, none⟩ = some (.slice A2 l2.length c2) := blk_cell hB2W 0
 have hrW := Kd.C_below hr2 hb
 have hw1 : wrap64 (t + 1) = t + 1 := by unfold wrap64; omega
 have hxl := h3 x hx
 obtain ⟨ad, ead, hx0⟩ := Kd.at_int hi t h0 hxl
 obtain ⟨ae, eae, hy0⟩ := Kd.at_int hrW (wrap64 (t + 1)) (by omega) (by omega)
 cases ead
 cases eae
 have hs1 : ∀ o : Obj, (W.alloc o).cell? ⟨B1, 0, none⟩ = some (.int .i64 t) := fun o => (World.cell?_alloc_lt W o ⟨B1, 0, none⟩ (blk_lt hB1W)).trans hc1
 have hs2 : ∀ o : Obj, (W.alloc o).cell? ⟨B2, 0, none⟩ = some (.slice (some ae) l2.length c2) := fun o => (World.cell?_alloc_lt W o ⟨B2, 0, none⟩ (blk_lt hB2W)).trans hc2
 have hs3 : ∀ o : Obj, (W.alloc o).cell? (ad.add t.toNat) = some (.int .i64 (rd x.f0 t)) := fun o => (World.cell?_alloc_lt W o _ (World.block_lt_of_cell? W _ hx0)).trans hx0
 have hs4 : ∀ o : Obj, (W.alloc o).cell? (ae.add (wrap64 (t + 1)).toNat) = some (.int .i64 (rd l2 (wrap64 (t + 1)))) := fun o => (World.cell?_alloc_lt W o _ (World.block_lt_of_cell? W _ hy0)).trans hy0
 have hq1 : (0 ≤ t) = True := eq_true h0
 have hq2 : (t < (x.f0.length : Int)) = True := eq_true hxl
 have hq3 : (0 ≤ wrap64 (t + 1)) = True := eq_true (by omega)
 have hq4 : (wrap64 (t + 1) < (l2.length : Int)) = True := eq_true (by omega)
 have hg1 : decide (0 ≤ t) = true := decide_eq_true h0
 have hg2 : decide (t < (x.f0.length : Int)) = true := decide_eq_true hxl
 have hg3 : decide (0 ≤ wrap64 (t + 1)) = true := decide_eq_true (by omega)
 have hg4 : decide (wrap64 (t + 1) < (l2.length : Int)) = true := decide_eq_true (by omega)
 have hu := Try.underlying52
 clear hi hrW hr2 hb hB1 hB2 hB1W hB2W h0 h1 h2 h3 hw1 hxl hx
 show Calls Try.prog 67 #[.agg #[.slice (some ad) x.f0.length cx], .pointer (some ⟨B1, 0, none⟩), .pointer (some ⟨B2, 0, none⟩)] W _
 unfold hof_nextOf.p
 go_enter Try.func67, Try.ntmps67
 go_wp2
 repeat (go_quiet (fail); try go_wp2)
 go_ret
 exact ⟨by first | rfl | simp [BEq.beq], by first | exact (Below.refl _ W).alloc (Nat.le_refl _) _ | exact pw_below_drewN ((Below.refl _ W).alloc (Nat.le_refl _) _) _⟩
theorem hof_nextOf.calls (A0 : Option Addr) (c0 : Nat) (l0 : List S52) (t : Int) (A2 : Option Addr) (c2 : Nat) (l2 : List Int) (B1 B2 : Nat) (r : Int) (w : World) (hr0 : Kd.C k52 w A0 l0.length l0) (hc0 : l0.length ≤ c0) (hr2 : (Kd.int .i64).C w A2 l2.length l2) (hc2 : l2.length ≤ c2)
  (hb1 : w.heap[B1]? = some (.cells #[.int .i64 t] 3 (0, 0))) (hb2 : w.heap[B2]? = some (.cells #[.slice A2 l2.length c2] 52 (0, 0))) (h : hof_nextOf.f l0 t l2 = some r) :
  Calls Try.prog 66 #[.slice A0 l0.length c0, .func (.func 67) #[] #[.pointer (some ⟨B1, 0, none⟩), .pointer (some ⟨B2, 0, none⟩)]] w fun e w' => e = .returned (.int .i64 r) ∧ Below w.heap.size w w' := by
 unfold hof_nextOf.f at h
 by_cases h0 : 0 ≤ t ∧ t < 9223372036854775807 ∧ t + 1 < (l2.length : Int) ∧ (∀ x ∈ l0, t < (x.f0.length : Int))
 ·rw [if_pos h0] at h; obtain rfl := Option.some.inj h; have eg : ∀ args w, (callFunc 67 args).run Try.prog w = .ok (.enter 67 args) w := entersOf Try.func67 (by kernel_rfl) rfl; exact indexFunc_Way (hof_nextOf.p t l2) _ _ eg A0 c0 l0 w hr0 hc0 (hof_nextOf.tells t l2 A2 c2 B1 B2 l0 w h0.1 h0.2.1 h0.2.2.1 h0.2.2.2 hr2 hb1 hb2)
 ·rw [if_neg h0] at h; exact absurd h (by simp)

/-! ### impl_nextOf: function 37 -/
mutual
def impl_nextOf.j0 : Nat → List (S52) → Bool → Int → Option (List Int)
 | 0, _, _, _ => none
 | k + 1, x0, x16, x117000 => if x16 = true then (some ([] : List Int)) else (impl_nextOf.l0 k x0 ([] : List Int) x0 (x0.length : Int) 0 x117000)
def impl_nextOf.l0 : Nat → List (S52) → List Int → List (S52) → Int → Int → Int → Option (List Int)
 | 0, _, _, _, _, _, _ => none
 | k + 1, x0, x5, x17, x18, x19, x117000 => if x19 < x18 then (if 0 ≤ x19 then (if x19 < (x17.length : Int) then ((hof_nextOf.f x0 x117000 ((rd_T52 x17 x19).f0)).bind fun t121 => (if x5.length < 17592186044416 then (impl_nextOf.l0 k x0 (x5 ++ [t121]) x17 x18 (wrap64 (x19 + 1)) x117000) else (none))) else (none)) else (none)) else (some x5)
end
def impl_nextOf.f (k : Nat) (l0 : List (S52)) (a1 : Int) : Option (List Int) := (impl_LevelWays.f l0 a1).bind fun t117 => (if t117 = true then ((impl_MeetAt.f k l0 a1).bind fun t118 => (impl_nextOf.j0 k l0 t118 a1)) else (impl_nextOf.j0 k l0 true a1))
set_option maxHeartbeats 8000000 in
set_option maxRecDepth 100000 in
theorem impl_nextOf.calls (k : Nat) (A0 : Option Addr) (c0 : Nat) (l0 : List (S52)) (a1 : Int) (r : List Int) (w : World) (hr0 : Kd.C k52 w A0 l0.length l0) (hc0 : l0.length ≤ c0) (h : impl_nextOf.f k l0 a1 = some r) :
  Calls Try.prog 37 #[.slice A0 l0.length c0, .int .i64 a1] w fun e w' => ∃ v0_ : Value, e = .returned (v0_) ∧ Kd.R (Kd.int .i64) 3 w' w.heap.size (fun _ => True) v0_ r ∧ Below w.heap.size w w' := by
 have hu52 := Try.underlying52; have HR0 := Aside0.mk hr0; have HC0 := Aside0.mk hc0; clear hr0 hc0; have HB := Aside0.mk (Below.refl w.heap.size w); have H : ((impl_LevelWays.f l0 a1).bind fun t117 => (if t117 = true then ((impl_MeetAt.f k l0 a1).bind fun t118 => (impl_nextOf.j0 k l0 t118 a1)) else (impl_nextOf.j0 k l0 true a1))) = some r := h; clear h; have HC3 := Aside0.mk H; clear H; go_enter Try.func37, Try.ntmps37; go_upto_region 1 with (first | ((with_reducible refine gate_dst (N := 3) rfl ?_); refine box_event ?hg (N := 3) ?hd (cs := #[.int .i64 a1]) (t := 3) ?hr ?_; (case hd => rfl); (case hg => rfl); (case hr => first | (go_simp; done) | (go_simp; rfl)); intro gb116 hg w4 hbox hb; have BK116 := Aside0.mk (hbox); have GW116 := Aside0.mk ((by rw [hg]; exact (below_size (uB HB.out)) : w.heap.size ≤ gb116)); have GE116 := Aside0.mk ((by rw [hg]; exact (below_size (uB HB.out)) : w.heap.size ≤ gb116)); replace HB := Aside0.mk (below_step (uB HB.out) hb); clear hb hbox hg))
 (try simp only [Act.put, List.setIfInBounds_toArray, List.set_cons_zero, List.set_cons_succ]); go_cut [16] (fun v16 wc => ∃ (kq : Nat) (x16_2 : Bool), v16 = .bool x16_2 ∧ Aside0 (impl_nextOf.j0 kq l0 x16_2 a1 = some r) ∧ Aside0 (kq ≤ k) ∧ Aside0 (wc.heap[gb116]? = some (.cells #[.int .i64 a1] 3 (0, 0))) ∧ Aside0 (Below w.heap.size w wc))
 case first =>
  have H := HC3.out; clear HC3; replace H := Option.bind_eq_some_iff.mp H; obtain ⟨t117, A50, H⟩ := H; have A5 := Aside0.mk A50; clear A50; by_cases c6 : t117 = true
  ·subst c6; rw [if_pos rfl] at H; replace H := Option.bind_eq_some_iff.mp H; obtain ⟨t118, A70, H⟩ := H; have A7 := Aside0.mk A70; clear A70; have H' := Aside0.mk H; clear H; obtain ⟨hcz8_0, hfz8_0⟩ := bx1 BK116.out; go_wp2_with (first | ((with_reducible refine gate_callee (f := 10) rfl ?_); refine gL_ (some 10) Try.func10 #[.slice A0 l0.length c0, .int .i64 a1] ?_; (with_reducible refine (impl_LevelWays.calls _ _ l0 a1 true _ ?side1 ?side2 A5.out).mono ?_); (case side1 => repeat (first | exact (Kd.C_below HR0.out HB.out) | (with_reducible refine Kd.C_alloc ?_ _) | (with_reducible refine Kd.C_drewN ?_ _) | (with_reducible refine Kd.C_drew ?_))); (case side2 => exact HC0.out); rintro e w9 ⟨rfl, hb⟩; refine ⟨_, rfl, ?_⟩; replace BK116 := Aside0.mk (blk_below (uK BK116.out) hb); replace HB := Aside0.mk (below_step (by repeat (first | (with_reducible first | exact HB.out | apply below_alloc | apply pw_below_drewN | apply below_drew1 | refine below_set ?_ GE116.out) | exact HB.out)) hb); (try clear hb); (try clear hb2); (try clear hk); (try clear hi); obtain ⟨hcz10_0, hfz10_0⟩ := bx1 BK116.out) | (go_at_call 9; (with_reducible refine (impl_MeetAt.calls k _ _ l0 a1 t118 _ ?side1 ?side2 A7.out).mono ?_); (case side1 => repeat (first | exact (Kd.C_below HR0.out HB.out) | (with_reducible refine Kd.C_alloc ?_ _) | (with_reducible refine Kd.C_drewN ?_ _) | (with_reducible refine Kd.C_drew ?_))); (case side2 => exact HC0.out); rintro e w11 ⟨rfl, hb⟩; replace BK116 := Aside0.mk (blk_below (uK BK116.out) hb); replace HB := Aside0.mk (below_step (by repeat (first | (with_reducible first | exact HB.out | apply below_alloc | apply pw_below_drewN | apply below_drew1 | refine below_set ?_ GE116.out) | exact HB.out)) hb); (try clear hb); (try clear hb2); (try clear hk); (try clear hi)))
   go_meet
   case rel => exact ⟨_, (t118), ev_, H', ⟨by first | omega | exact Nat.le_refl _⟩, ⟨uK BK116.out⟩, ⟨by repeat (first | (with_reducible first | exact HB.out | apply below_alloc | apply pw_below_drewN | apply below_drew1 | refine below_set ?_ GE116.out) | exact HB.out)⟩⟩
  ·replace c6 := Bool.eq_false_iff.mpr c6; subst c6; rw [if_neg (show ¬ (false = true) by decide)] at H; have H' := Aside0.mk H; clear H; obtain ⟨hcz12_0, hfz12_0⟩ := bx1 BK116.out; go_wp2_with (first | ((with_reducible refine gate_callee (f := 10) rfl ?_); refine gL_ (some 10) Try.func10 #[.slice A0 l0.length c0, .int .i64 a1] ?_; (with_reducible refine (impl_LevelWays.calls _ _ l0 a1 false _ ?side1 ?side2 A5.out).mono ?_); (case side1 => repeat (first | exact (Kd.C_below HR0.out HB.out) | (with_reducible refine Kd.C_alloc ?_ _) | (with_reducible refine Kd.C_drewN ?_ _) | (with_reducible refine Kd.C_drew ?_))); (case side2 => exact HC0.out); rintro e w13 ⟨rfl, hb⟩; refine ⟨_, rfl, ?_⟩; replace BK116 := Aside0.mk (blk_below (uK BK116.out) hb); replace HB := Aside0.mk (below_step (by repeat (first | (with_reducible first | exact HB.out | apply below_alloc | apply pw_below_drewN | apply below_drew1 | refine below_set ?_ GE116.out) | exact HB.out)) hb); (try clear hb); (try clear hb2); (try clear hk); (try clear hi)))
   go_meet
   case rel => exact ⟨_, (true), ev_, H', ⟨by first | omega | exact Nat.le_refl _⟩, ⟨uK BK116.out⟩, ⟨by repeat (first | (with_reducible first | exact HB.out | apply below_alloc | apply pw_below_drewN | apply below_drew1 | refine below_set ?_ GE116.out) | exact HB.out)⟩⟩
 case rest =>
  clear HC3; (try clear c1); (try clear p2); (try clear c3); (try clear c6); (try clear c10); (try clear hcz10_0); (try clear hcz12_0); (try clear hcz8_0); (try clear hfz10_0); (try clear hfz12_0); (try clear hfz8_0); obtain ⟨kq, x16_2, rfl, HA, HJ2, BK116, HB⟩ := hcut
  cases kq with
  | zero => exact absurd HA.out (by simp [impl_nextOf.j0])
  | succ kj2 =>
   have H := HA.out; clear HA; simp only [impl_nextOf.j0] at H; by_cases c14 : x16_2 = true
   ·subst c14; rw [if_pos rfl] at H; obtain rfl := Option.some.inj H; go_wp2; go_ret; exact ⟨_, by first | rfl | (simp [errW_none, errW_some] <;> rfl) | (simp [*, errW_none, errW_some] <;> rfl), by first | exact Kd.R_nil _ _ _ _ _ | exact Kd.N_nil _ _ _ _ _ | exact Kd.V_nil _ _ _ _ _ | exact Kd.Q_nil _ _ _ _ _ | exact Kd.S_nil _ _ _ _ _, by repeat (first | (with_reducible first | exact HB.out | apply below_alloc | apply pw_below_drewN | apply below_drew1 | refine below_set ?_ GE116.out) | exact HB.out)⟩
   ·replace c14 := Bool.eq_false_iff.mpr c14; subst c14; rw [if_neg (show ¬ (false = true) by decide)] at H; have H' := Aside0.mk H; clear H; go_wp2; go_loopg [5, 19] kj2 (fun kq v5 v19 w' => ∃ (x5_2 : List Int) (x19_2 : Int), v19 = .int .i64 x19_2 ∧ Aside0 (impl_nextOf.l0 kq l0 x5_2 l0 (l0.length : Int) x19_2 a1 = some r) ∧ Aside0 (kq ≤ kj2) ∧ Aside0 (Kd.R (Kd.int .i64) 3 w' w.heap.size (fun k_ => k_ ≠ gb116) v5 x5_2) ∧ Aside0 (w'.heap[gb116]? = some (.cells #[.int .i64 a1] 3 (0, 0))) ∧ Aside0 (Below w.heap.size w w'))
    case atStart => exact ⟨(([] : List Int)), (0), ev_, H', ⟨Nat.le_refl _⟩, ⟨by first | exact Kd.R_nil _ _ _ _ _ | exact Kd.N_nil _ _ _ _ _ | exact Kd.V_nil _ _ _ _ _ | exact Kd.Q_nil _ _ _ _ _ | exact Kd.S_nil _ _ _ _ _⟩, ⟨uK BK116.out⟩, ⟨by repeat (first | (with_reducible first | exact HB.out | apply below_alloc | apply pw_below_drewN | apply below_drew1 | refine below_set ?_ GE116.out) | exact HB.out)⟩⟩
    case round =>
     clear H'; (try clear c1); (try clear p2); (try clear c3); (try clear c6); (try clear c10); (try clear c14); (try clear hcz10_0); (try clear hcz12_0); (try clear hcz8_0); (try clear hfz10_0); (try clear hfz12_0); (try clear hfz8_0); (try clear p2); obtain ⟨x5_2, x19_2, rfl, HA, HK2, HO_5, BK116, HB⟩ := hrel
     cases gk with
     | zero => exact absurd HA.out (by simp [impl_nextOf.l0])
     | succ k2 =>
      have H := HA.out; clear HA; simp only [impl_nextOf.l0] at H; by_cases c15 : x19_2 < (l0.length : Int)
      ·rw [if_pos c15] at H; have c15b0 : decide (x19_2 < (l0.length : Int)) = true := decide_eq_true c15; clear c15; by_cases c16 : 0 ≤ x19_2
       ·rw [if_pos c16] at H; have c16b0 : decide (0 ≤ x19_2) = true := decide_eq_true c16; clear c16; by_cases c17 : x19_2 < (l0.length : Int)
        ·rw [if_pos c17] at H; have c17b0 : decide (x19_2 < (l0.length : Int)) = true := decide_eq_true c17; clear c17; replace H := Option.bind_eq_some_iff.mp H; obtain ⟨t121, A180, H⟩ := H; have A18 := Aside0.mk A180; clear A180; by_cases c19 : x5_2.length < 17592186044416
         ·rw [if_pos c19] at H; have LMc19 := Aside0.mk c19; clear c19; obtain ⟨y122, hy122⟩ : ∃ y_ : List Int, y_ = (x5_2 ++ [t121]) := ⟨_, rfl⟩; replace H : (impl_nextOf.l0 k2 l0 y122 l0 (l0.length : Int) (wrap64 (x19_2 + 1)) a1) = some r := by first | (rw [hy122]; with_reducible exact H) | (have H2_ := (Option.bind_some _ _).symm.trans H; rw [hy122]; with_reducible exact H2_) | (have H2_ := (Option.bind_some _ _).symm.trans H; with_reducible exact H2_) | with_reducible exact H | (rw [hy122]; exact H) | exact H
          have Ny122 := Aside0.mk hy122; clear hy122; have H' := Aside0.mk H; clear H; have p119 : 0 ≤ (x19_2 : Int) := od_; have q119 : x19_2 < (l0.length : Int) := od_; obtain ⟨ad119, A119_0, c119_0, e119, hx119_0, hl119_0, hi119_0⟩ := at_T52 HR0.out x19_2 p119 q119
          cases e119; replace hx119_0 := (HB.out.cell (World.block_lt_of_cell? w _ hx119_0)).trans hx119_0; have HR119_0 := Aside0.mk hi119_0; have HC119_0 := Aside0.mk hl119_0; clear hi119_0 hl119_0; replace p119 := eq_true p119; replace q119 := eq_true q119; go_wp2_with (first | ((with_reducible refine gate_dst (N := 7) rfl ?_); refine box_event ?hg (N := 7) ?hd (cs := #[.slice none 0 0]) (t := 52) ?hr ?_; (case hd => rfl); (case hg => rfl); (case hr => first | (go_simp; done) | (go_simp; rfl)); intro gb120 hg w20 hbox hb; replace HO_5 := Aside0.mk (Kd.R_below (uR HO_5.out) hb); have BK120 := Aside0.mk (hbox); have GW120 := Aside0.mk ((by rw [hg]; exact (below_size (by repeat (first | (with_reducible first | exact HB.out | apply below_alloc | apply pw_below_drewN | apply below_drew1 | refine below_set ?_ GE116.out) | exact HB.out))) : w.heap.size ≤ gb120)); have GE120 := Aside0.mk ((by rw [hg]; exact (below_size (by repeat (first | (with_reducible first | exact HB.out | apply below_alloc | apply pw_below_drewN | apply below_drew1 | refine below_set ?_ GE116.out) | exact HB.out))) : w.heap.size ≤ gb120)); replace HB := Aside0.mk (below_step (by repeat (first | (with_reducible first | exact HB.out | apply below_alloc | apply pw_below_drewN | apply below_drew1 | refine below_set ?_ GE116.out) | exact HB.out)) hb); have NB116_120 := Aside0.mk ((by rw [hg]; exact Nat.ne_of_lt (blk_lt (uK BK116.out)) : gb116 ≠ gb120)); have NB120_116 := Aside0.mk ((by rw [hg]; exact Nat.ne_of_gt (blk_lt (uK BK116.out)) : gb120 ≠ gb116)); replace BK116 := Aside0.mk (blk_below (uK BK116.out) hb); clear hb hbox hg; have hnb21 := NB120_116.out; have hnc21 := NB116_120.out; obtain ⟨hcz22_0, hfz22_0⟩ := bx1 BK120.out) | ((with_reducible refine gate_callee (f := 66) rfl ?_); refine gL_ (some 26) Try.func66 #[.slice (some ad119) l0.length c0, .func (.func 67) #[] #[.pointer (some ⟨gb116, 0, none⟩), .pointer (some ⟨gb120, 0, none⟩)]] ?_; (with_reducible refine (hof_nextOf.calls _ _ l0 a1 _ _ ((rd_T52 l0 x19_2).f0) _ _ t121 _ ?side1 ?side2 ?side3 ?side4 (by exact (by (with_reducible repeat (first | refine blk_drewN ?_ _ | refine blk_drew ?_ | refine blk_alloc ?_ _)); refine blk_far ?_ NB116_120.out _; (with_reducible repeat (first | refine blk_drewN ?_ _ | refine blk_drew ?_ | refine blk_alloc ?_ _)); exact BK116.out)) (by exact (by (with_reducible repeat (first | refine blk_drewN ?_ _ | refine blk_drew ?_ | refine blk_alloc ?_ _)); refine blk_put (cs := #[.slice none 0 0]) ?_ 0 _ rfl; (with_reducible repeat (first | refine blk_drewN ?_ _ | refine blk_drew ?_ | refine blk_alloc ?_ _)); exact BK120.out)) A18.out).mono ?_); (case side1 => exact Kd.C_below HR0.out (by repeat (first | (with_reducible first | exact HB.out | apply below_alloc | apply pw_below_drewN | apply below_drew1 | refine below_set ?_ GE116.out | refine below_set ?_ GE120.out) | exact HB.out))); (case side2 => exact HC0.out); (case side3 => exact Kd.C_below HR119_0.out (by repeat (first | (with_reducible first | exact HB.out | apply below_alloc | apply pw_below_drewN | apply below_drew1 | refine below_set ?_ GE116.out | refine below_set ?_ GE120.out) | exact HB.out))); (case side4 => exact HC119_0.out); rintro e w23 ⟨rfl, hb⟩; refine ⟨_, rfl, ?_⟩; replace HO_5 := Aside0.mk (Kd.R_below (uR ((Kd.R_mono (Kd.R_far (p := ⟨gb120, 0, none⟩) (Kd.R_types HO_5.out BK120.out (by decide)) (fun _ hk => hk.2) (.slice A119_0 ((rd_T52 l0 x19_2).f0).length c119_0)) (fun _ h_ => h_.1)))) hb); replace BK116 := Aside0.mk (blk_below (g := gb116) (o := .cells #[.int .i64 a1] 3 (0, 0)) (by (with_reducible repeat (first | refine blk_drewN ?_ _ | refine blk_drew ?_ | refine blk_alloc ?_ _)); refine blk_far ?_ NB116_120.out _; (with_reducible repeat (first | refine blk_drewN ?_ _ | refine blk_drew ?_ | refine blk_alloc ?_ _)); exact BK116.out) hb); replace BK120 := Aside0.mk (blk_below (g := gb120) (o := .cells #[.slice A119_0 ((rd_T52 l0 x19_2).f0).length c119_0] 52 (0, 0)) (by (with_reducible repeat (first | refine blk_drewN ?_ _ | refine blk_drew ?_ | refine blk_alloc ?_ _)); refine blk_put (cs := #[.slice none 0 0]) ?_ 0 _ rfl; (with_reducible repeat (first | refine blk_drewN ?_ _ | refine blk_drew ?_ | refine blk_alloc ?_ _)); exact BK120.out) hb); replace HB := Aside0.mk (below_step (by repeat (first | (with_reducible first | exact HB.out | apply below_alloc | apply pw_below_drewN | apply below_drew1 | refine below_set ?_ GE116.out | refine below_set ?_ GE120.out) | exact HB.out)) hb); (try clear hb); (try clear hb2); (try clear hk); (try clear hi)) | ((with_reducible refine gate_builtin (b := .append) (xs := #[.tmp 23, .tmp 27]) rfl ?_); at_builtin; refine Kd.R_append (Kd.int .i64) (w0 := w) w.heap.size rfl (.tmp 23) (.tmp 27) 26 3 (.int .i64 0) 8 rfl Try.underlying26 info3 rfl (by decide) (by omega) u5 x5_2 t121 [.int .i64 t121] (fun k_ => k_ ≠ gb116) (fun _ => False) rfl rfl ?aP (fun _ hk => hk.elim) ?aF ?aO ?aB ?aS ?aL ?_; (case aP => exact rfl); (case aB => exact (by repeat (first | (with_reducible first | exact HB.out | apply below_alloc | apply pw_below_drewN | apply below_drew1 | refine below_set ?_ GE116.out | refine below_set ?_ GE120.out) | exact HB.out))); (case aF => exact (fun k_ hk => Kd.freshB (uK BK116.out) k_ hk)); (case aO => exact (uR HO_5.out)); (case aS => exact (below_size (by repeat (first | (with_reducible first | exact HB.out | apply below_alloc | apply pw_below_drewN | apply below_drew1 | refine below_set ?_ GE116.out | refine below_set ?_ GE120.out) | exact HB.out)))); (case aL => have := LMc19.out; omega); intro v123 w24 ho hb hg hat; rw [← Ny122.out] at ho; replace BK116 := Aside0.mk (blk_grown (uK BK116.out) hg (Kd.R_away HO_5.out (fun _ hk => hk))); replace BK120 := Aside0.mk (blk_grown (uK BK120.out) hg (Kd.R_ne HO_5.out BK120.out (by decide))); replace HB := Aside0.mk (hb); have HO124 := Aside0.mk (ho); clear HO_5; clear ho hb hg hat))
          go_roundg k2
          case measure => have := HJ2.out; have := HK2.out; omega
          case rel => exact ⟨(y122), (wrap64 (x19_2 + 1)), ev_, H', ⟨by have := HJ2.out; have := HK2.out; omega⟩, ⟨uR HO124.out⟩, ⟨uK BK116.out⟩, ⟨by repeat (first | (with_reducible first | exact HB.out | apply below_alloc | apply pw_below_drewN | apply below_drew1 | refine below_set ?_ GE116.out | refine below_set ?_ GE120.out) | exact HB.out)⟩⟩
         ·rw [if_neg c19] at H; exact absurd H (by simp)
        ·rw [if_neg c17] at H; exact absurd H (by simp)
       ·rw [if_neg c16] at H; exact absurd H (by simp)
      ·rw [if_neg c15] at H; have c15b0 : decide (x19_2 < (l0.length : Int)) = false := decide_eq_false c15; clear c15; obtain rfl := Option.some.inj H; go_wp2; go_ret; exact ⟨_, by first | rfl | (simp [errW_none, errW_some] <;> rfl) | (simp [*, errW_none, errW_some] <;> rfl), by (with_reducible repeat (first | apply Kd.R_alloc | apply Kd.R_drewN | apply Kd.R_drew)); exact Kd.R_mono HO_5.out (fun _ hk => trivial), by repeat (first | (with_reducible first | exact HB.out | apply below_alloc | apply pw_below_drewN | apply below_drew1 | refine below_set ?_ GE116.out) | exact HB.out)⟩

end Go.Proofs.Ytdebpmdbeogglaa.Q
