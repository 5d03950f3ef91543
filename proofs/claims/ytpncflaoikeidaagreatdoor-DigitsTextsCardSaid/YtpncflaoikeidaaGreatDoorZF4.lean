/- TEXTS OF THIS CLAIM, GATHERED: words printed by the kit, functions printed over the translation, contracts and plain laws by hand. -/
import Derived.Lib.AtoiErrMem
import Derived.Lib.Walk
import Derived.Lib.ItoaMem
import Derived.WalkKit
import Derived.BigCall
import Derived.BigGuard
import Derived.Lib.Repeat
import Derived.Lib.BufferKept
import Derived.Test.YtpncflaoikeidaaGreatDoorZF3
namespace Go.Proofs.YtpncflaoikeidaaGreatDoor.P
open Go.RowKit Go.Proofs.YtpncflaoikeidaaGreatDoorW.PrintWords Go.Proofs.YtpncflaoikeidaaGreatDoorW.PrintLast Go.Proofs.YtpncflaoikeidaaGreatDoorW.PrintMore
attribute [local go_sem] max2_int max_two
set_option linter.unusedVariables false
set_option linter.unusedSimpArgs false
def fluxionref03_Make.j0 : Nat → Bool → List Int → List Int → Bool → Option (Bool × List Int × List Int)
  | 0, _, _, _, _ => none
  | k + 1, x0, x1, x2, x19 => if x19 = true then (some (false, ([] : List Int), (([1] : List Int)))) else ((fluxionref02_Gcd.f k x1 x2).bind fun t433 => ((fluxionref02_DivMod.f k x1 t433).bind fun bt436 => ((fluxionref02_DivMod.f k x2 t433).bind fun bt442 => (some (x0, bt436.1, bt442.1)))))
def fluxionref03_Make.f (k : Nat) (a0 : Bool) (l1 : List Int) (l2 : List Int) : Option (Bool × List Int × List Int) := if (l1.length : Int) = 0 then (fluxionref03_Make.j0 k a0 l1 l2 true) else (fluxionref03_Make.j0 k a0 l1 l2 ((l2.length : Int) == 0))
set_option maxHeartbeats 8000000 in
set_option maxRecDepth 100000 in
theorem fluxionref03_Make.calls (k : Nat) (a0 : Bool) (A1 : Option Addr) (c1 : Nat) (l1 : List Int) (A2 : Option Addr) (c2 : Nat) (l2 : List Int) (r1 : Bool) (r2 : List Int) (r3 : List Int) (w : World) (hr1 : Kd.C (Kd.int .i64) w A1 l1.length l1) (hc1 : l1.length ≤ c1) (hr2 : Kd.C (Kd.int .i64) w A2 l2.length l2) (hc2 : l2.length ≤ c2) (h : fluxionref03_Make.f k a0 l1 l2 = some (r1, r2, r3)) :
    Calls Tryz.prog 33 #[.bool a0, .slice A1 l1.length c1, .slice A2 l2.length c2] w fun e w' => ∃ v1_ v2_ : Value, e = .returned (.agg #[.bool r1, v1_, v2_]) ∧ Kd.R (Kd.int .i64) 3 w' w.heap.size (fun k_ => some k_ ≠ (v2_ : Value).ownBlock) v1_ r2 ∧ Kd.R (Kd.int .i64) 3 w' w.heap.size (fun k_ => some k_ ≠ (v1_ : Value).ownBlock) v2_ r3 ∧ Below w.heap.size w w' := by
  have hu32 := Tryz.underlying32
  have HR1 := Aside0.mk hr1
  have HC1 := Aside0.mk hc1
  clear hr1 hc1
  have HR2 := Aside0.mk hr2
  have HC2 := Aside0.mk hc2
  clear hr2 hc2
  have HB := Aside0.mk (Below.refl w.heap.size w)
  have H : (if (l1.length : Int) = 0 then (fluxionref03_Make.j0 k a0 l1 l2 true) else (fluxionref03_Make.j0 k a0 l1 l2 ((l2.length : Int) == 0))) = some (r1, r2, r3) := h
  clear h
  have HC4 := Aside0.mk H
  clear H
  go_enter Tryz.func33, Tryz.ntmps33
  go_upto_region 1 with (first | ((with_reducible refine gate_dst (N := 6) rfl ?_); (try (refine gate_guard (by rfl) ?_; dsimp only)); refine box_event ?hg (N := 6) ?hd (cs := #[.bool false, .slice none 0 0, .slice none 0 0]) (t := 32) ?hr ?_; (case hd => rfl); (case hg => rfl); (case hr => first | (go_simp; done) | (go_simp; rfl)); intro gb429 hg w5 hbox hb; have n0_ := Aside0.mk (below_step (by repeat (first | (with_reducible first | exact HB.out | apply below_alloc | apply pw_below_drewN | apply below_drew1) | exact HB.out)) hb); have n1_ := Aside0.mk (hbox); have n2_ := Aside0.mk ((by rw [hg]; exact (below_size (by repeat (first | (with_reducible first | exact HB.out | apply below_alloc | apply pw_below_drewN | apply below_drew1) | exact HB.out))) : w.heap.size ≤ gb429)); have n3_ := Aside0.mk ((by rw [hg]; exact (below_size (by repeat (first | (with_reducible first | exact HB.out | apply below_alloc | apply pw_below_drewN | apply below_drew1) | exact HB.out))) : w.heap.size ≤ gb429)); clear HB; have HB := n0_; have BK429 := n1_; have GW429 := n2_; have GE429 := n3_; clear n0_ n1_ n2_ n3_; clear hb hbox hg))
  (try simp only [Act.put, List.setIfInBounds_toArray, List.set_cons_zero, List.set_cons_succ])
  go_cut [19] (fun v19 wc => ∃ (kq : Nat) (x19_3 : Bool), v19 = .bool x19_3 ∧ Aside0 (fluxionref03_Make.j0 kq a0 l1 l2 x19_3 = some (r1, r2, r3)) ∧ Aside0 (kq ≤ k) ∧ Aside0 (wc.heap[gb429]? = some (.cells #[.bool false, (.slice none 0 0), (.slice none 0 0)] 32 (0, 0))) ∧ Aside0 (Below w.heap.size w wc))
  case first =>
    have H := HC4.out
    clear HC4
    by_cases c6 : (l1.length : Int) = 0
    · rw [if_pos c6] at H
      have c6b0 : ((l1.length : Int) == 0) = true := beq_iff_eq.mpr c6
      have c6b1 : ((l1.length : Int) != 0) = false := bne_eq_false_iff_eq.mpr c6
      clear c6
      (first | rw [c6b0] | (simp only [i64_w, i32_w]; rw [c6b0]) | skip)
      have H' := Aside0.mk H
      clear H
      go_wp2
      go_meet
      case rel => exact ⟨_, (true), (by first | rfl | (simp; done) | (simp [*]; done)), H', ⟨by first | omega | exact Nat.le_refl _⟩, ⟨by exact BK429.out⟩, ⟨by repeat (first | (with_reducible first | exact HB.out | apply below_alloc | apply pw_below_drewN | apply below_drew1 | refine below_set ?_ GE429.out) | exact HB.out)⟩⟩
    · rw [if_neg c6] at H
      have c6b0 : ((l1.length : Int) == 0) = false := beq_eq_false_iff_ne.mpr c6
      have c6b1 : ((l1.length : Int) != 0) = true := bne_iff_ne.mpr c6
      have c6b2 : ¬ (l1 = []) := fun h_ => c6 (by rw [h_]; rfl)
      (first | rw [c6b0] | (simp only [i64_w, i32_w]; rw [c6b0]) | skip)
      have H' := Aside0.mk H
      clear H
      go_wp2
      go_meet
      case rel => exact ⟨_, (((l2.length : Int) == 0)), (by first | rfl | (simp; done) | (simp [*]; done)), H', ⟨by first | omega | exact Nat.le_refl _⟩, ⟨by exact BK429.out⟩, ⟨by repeat (first | (with_reducible first | exact HB.out | apply below_alloc | apply pw_below_drewN | apply below_drew1 | refine below_set ?_ GE429.out) | exact HB.out)⟩⟩
  case rest =>
    clear HC4
    try clear c1
    try clear c2
    try clear p2
    try clear c3
    try clear c6
    try clear c6b0
    try clear c6b1
    try clear c6b2
    obtain ⟨kq, x19_3, rfl, HA, HJ3, BK429, HB⟩ := hcut
    cases kq with
    | zero => exact absurd HA.out (by simp [fluxionref03_Make.j0])
    | succ kj3 =>
      have H := HA.out
      clear HA
      simp only [fluxionref03_Make.j0] at H
      by_cases c7 : x19_3 = true
      · subst c7
        have H1 : (some (false, ([] : List Int), (([1] : List Int)))) = some (r1, r2, r3) := by rw [if_pos rfl] at H; exact H
        clear H
        have H := H1
        clear H1
        obtain ⟨y430, hy430⟩ : ∃ y_ : List Int, y_ = (([1] : List Int)) := ⟨_, rfl⟩
        replace H : (some (false, ([] : List Int), y430)) = some (r1, r2, r3) := by first | (rw [hy430]; with_reducible exact H) | (have H2_ := (Option.bind_some _ _).symm.trans H; rw [hy430]; with_reducible exact H2_) | (have H2_ := (Option.bind_some _ _).symm.trans H; with_reducible exact H2_) | with_reducible exact H | (rw [hy430]; exact H) | exact H
        have Ny430 := Aside0.mk hy430
        clear hy430
        simp only [Option.some.injEq, Prod.mk.injEq] at H
        obtain ⟨rfl, rfl, rfl⟩ := H
        go_wp2_with (first | ((with_reducible refine gate_dst (N := 20) rfl ?_); (try (refine gate_guard (by rfl) ?_; dsimp only)); refine Kd.R_lit (Kd.int .i64) _ 3 ?hg (N := 20) ?hd (xs := ([1] : List Int)) (inner := [.int .i64 1]) (ok := fun _ => True) (okp := fun _ => True) ?hr ?hp (fun _ hk => hk) trivial (Below.refl _ _) (Nat.le_refl _) (by simp) ?_; (case hd => rfl); (case hg => rfl); (case hr => first | (go_simp; done) | (go_simp; rfl)); (case hp => exact (Reps.one (show Kd.M (Kd.int .i64) _ _ _ 1 [.int .i64 1] from rfl) (Reps.none _ _))); intro v431 w8 ho9 hb hg_ hnew_; clear hg_ hnew_; (first | rw [← Ny430.out] at ho9 | (simp only [Int.reduceToNat] at ho9; rw [← Ny430.out] at ho9)); have n0_ := Aside0.mk (Kd.R_lower ho9 (below_size (by repeat (first | (with_reducible first | exact HB.out | apply below_alloc | apply pw_below_drewN | apply below_drew1 | refine below_set ?_ GE429.out) | exact HB.out)))); have n1_ := Aside0.mk (blk_below (g := gb429) (o := .cells #[.bool false, .slice none 0 0, .slice none 0 0] 32 (0, 0)) (by exact BK429.out) hb); have n2_ := Aside0.mk (below_step (by repeat (first | (with_reducible first | exact HB.out | apply below_alloc | apply pw_below_drewN | apply below_drew1 | refine below_set ?_ GE429.out) | exact HB.out)) hb); clear BK429; clear HB; have HO432 := n0_; have BK429 := n1_; have HB := n2_; clear n0_ n1_ n2_; clear hb ho9; obtain ⟨Ao10, co10, eo10⟩ := Kd.R_slice HO432.out; subst eo10; have hcz11_0 : w8.cell? ⟨gb429, 0, none⟩ = some (.bool false) := (blk_cell BK429.out 0).trans rfl; have hcz11_1 : w8.cell? ⟨gb429, 1, none⟩ = some (.slice none 0 0) := (blk_cell BK429.out 1).trans rfl; have hcz11_2 : w8.cell? ⟨gb429, 2, none⟩ = some (.slice none 0 0) := (blk_cell BK429.out 2).trans rfl; have hfz11_0 := blk_frozen BK429.out 0; have hfz11_1 := blk_frozen BK429.out 1; have hfz11_2 := blk_frozen BK429.out 2))
        refine bodyPost_ret (results_cell_row rfl _ _ gb429 32 #[.bool false, .slice none 0 0, .slice Ao10 y430.length co10] (0, 0) _ rfl (by refine blk_put (cs := #[.bool false, .slice none 0 0, .slice none 0 0]) ?_ 2 _ rfl; refine blk_put (cs := #[.bool false, .slice none 0 0, .slice none 0 0]) ?_ 1 _ rfl; refine blk_put (cs := #[.bool false, .slice none 0 0, .slice none 0 0]) ?_ 0 _ rfl; exact BK429.out) Tryz.underlying32 rfl (by kernel_rfl)) rfl ?_
        exact ⟨_, _, by first | rfl | (simp [errW_none, errW_some] <;> rfl) | (simp [*, errW_none, errW_some] <;> rfl), by first | exact Kd.R_nil _ _ _ _ _ | exact Kd.N_nil _ _ _ _ _ | exact Kd.V_nil _ _ _ _ _ | exact Kd.Q_nil _ _ _ _ _ | exact Kd.S_nil _ _ _ _ _, by exact Kd.R_mono (Kd.R_far (p := ⟨gb429, 2, none⟩) (Kd.R_far (p := ⟨gb429, 1, none⟩) (Kd.R_far (p := ⟨gb429, 0, none⟩) (Kd.R_types HO432.out BK429.out (by decide)) (fun _ hk => hk.2) (.bool false)) (fun _ hk => hk.2) (.slice none 0 0)) (fun _ hk => hk.2) (.slice Ao10 y430.length co10)) (fun _ hk => (by simp [Value.ownBlock])), by repeat (first | (with_reducible first | exact HB.out | apply below_alloc | apply pw_below_drewN | apply below_drew1 | refine below_set ?_ GE429.out) | exact HB.out)⟩
      · replace c7 := Bool.eq_false_iff.mpr c7
        subst c7
        have H1 : ((fluxionref02_Gcd.f kj3 l1 l2).bind fun t433 => ((fluxionref02_DivMod.f kj3 l1 t433).bind fun bt436 => ((fluxionref02_DivMod.f kj3 l2 t433).bind fun bt442 => (some (a0, bt436.1, bt442.1))))) = some (r1, r2, r3) := by rw [if_neg (show ¬ (false = true) by decide)] at H; exact H
        clear H
        have H := H1
        clear H1
        replace H := Option.bind_eq_some_iff.mp H
        obtain ⟨t433, A120, H⟩ := H
        try dsimp only at H
        have A12 := Aside0.mk A120
        clear A120
        replace H := Option.bind_eq_some_iff.mp H
        obtain ⟨⟨t436, t437⟩, A130, H⟩ := H
        try dsimp only at H
        have A13 := Aside0.mk A130
        clear A130
        replace H := Option.bind_eq_some_iff.mp H
        obtain ⟨⟨t442, t443⟩, A140, H⟩ := H
        try dsimp only at H
        have A14 := Aside0.mk A140
        clear A140
        simp only [Option.some.injEq, Prod.mk.injEq] at H
        obtain ⟨rfl, rfl, rfl⟩ := H
        go_wp2_with (first | ((with_reducible refine gate_callee (f := 68) rfl ?_); refine goesL_ (some 24) rfl rfl Tryz.func68 (by kernel_rfl) rfl #[.slice A1 l1.length c1, .slice A2 l2.length c2] rfl (by (try simp only [List.map_toArray, List.map_cons, List.map_nil]); first | done | rfl | (simp only [List.length_drop, List.length_take]; rfl)) ?_; (with_reducible refine (fluxionref02_Gcd.calls kj3 (fun k_ => k_ < w.heap.size) _ _ l1 (fun k_ => k_ < w.heap.size) _ _ l2 t433 _ ?side1 ?side2 A12.out).mono ?_); (case side1 => exact Kd.V_mk HC1.out (Kd.F_below (Kd.C_F (Kd.heap_int .i64) HR1.out) (by repeat (first | (with_reducible first | exact HB.out | apply below_alloc | apply pw_below_drewN | apply below_drew1 | refine below_set ?_ GE429.out) | exact HB.out)))); (case side2 => exact Kd.V_mk HC2.out (Kd.F_below (Kd.C_F (Kd.heap_int .i64) HR2.out) (by repeat (first | (with_reducible first | exact HB.out | apply below_alloc | apply pw_below_drewN | apply below_drew1 | refine below_set ?_ GE429.out) | exact HB.out)))); rintro e w15 ⟨v434, rfl, ho0, hb⟩; refine ⟨_, rfl, ?_⟩; have n0_ := Aside0.mk (Kd.V_lower (Kd.V_mono (ok' := fun k_ => k_ ≠ gb429) ho0 (fun k_ hk_ => Or.elim hk_ (fun hs_ => Or.elim hs_ (fun hs_ => fun e_ => Nat.not_le.2 hs_ (by rw [e_]; exact GW429.out)) (fun hs_ => fun e_ => Nat.not_le.2 hs_ (by rw [e_]; exact GW429.out))) (fun hn_ => (Kd.freshB (g := gb429) (o := .cells #[.bool false, .slice none 0 0, .slice none 0 0] 32 (0, 0)) (by exact BK429.out) k_ hn_)))) (below_size (by repeat (first | (with_reducible first | exact HB.out | apply below_alloc | apply pw_below_drewN | apply below_drew1 | refine below_set ?_ GE429.out) | exact HB.out)))); have n1_ := Aside0.mk (blk_below (g := gb429) (o := .cells #[.bool false, .slice none 0 0, .slice none 0 0] 32 (0, 0)) (by exact BK429.out) hb); have n2_ := Aside0.mk (below_step (by repeat (first | (with_reducible first | exact HB.out | apply below_alloc | apply pw_below_drewN | apply below_drew1 | refine below_set ?_ GE429.out) | exact HB.out)) hb); clear BK429; clear HB; have HO435 := n0_; have BK429 := n1_; have HB := n2_; clear n0_ n1_ n2_; (try clear hb); (try clear hb2); (try clear hk); (try clear hi); (try clear ho0); obtain ⟨Ao16, co16, eo16⟩ := Kd.V_slice HO435.out; subst eo16) | ((with_reducible refine gate_callee (f := 69) rfl ?_); refine goesL_ (some 28) rfl rfl Tryz.func69 (by kernel_rfl) rfl #[.slice A1 l1.length c1, .slice Ao16 t433.length co16] rfl (by (try simp only [List.map_toArray, List.map_cons, List.map_nil]); first | done | rfl | (simp only [List.length_drop, List.length_take]; rfl)) ?_; (with_reducible refine (fluxionref02_DivMod.calls kj3 _ _ l1 _ _ t433 t436 t437 _ ?side1 ?side2 ?side3 ?side4 A13.out).mono ?_); (case side1 => repeat (first | exact (Kd.C_below HR1.out HB.out) | (with_reducible refine Kd.C_alloc ?_ _) | (with_reducible refine Kd.C_drewN ?_ _) | (with_reducible refine Kd.C_drew ?_))); (case side2 => exact HC1.out); (case side3 => repeat (first | exact (Kd.V_reads' HO435.out).2.2 | (with_reducible refine Kd.C_alloc ?_ _) | (with_reducible refine Kd.C_drewN ?_ _) | (with_reducible refine Kd.C_drew ?_))); (case side4 => exact (Kd.V_reads' HO435.out).2.1); rintro e w17 ⟨v438, v440, rfl, ho0, ho1, hb⟩; refine ⟨_, rfl, ?_⟩; have n0_ := Aside0.mk (Kd.V_mono (Kd.V_told (Kd.V_told (Kd.V_old (by (with_reducible repeat (first | apply Kd.V_alloc | apply Kd.V_drewN | apply Kd.V_drew)); exact HO435.out) hb) (Kd.R_base ho0)) (Kd.R_base ho1)) (fun _ h_ => h_.1)); have n1_ := Aside0.mk (Kd.R_lower ho0 (below_size (by repeat (first | (with_reducible first | exact HB.out | apply below_alloc | apply pw_below_drewN | apply below_drew1 | refine below_set ?_ GE429.out) | exact HB.out)))); have n2_ := Aside0.mk (Kd.R_lower ho1 (below_size (by repeat (first | (with_reducible first | exact HB.out | apply below_alloc | apply pw_below_drewN | apply below_drew1 | refine below_set ?_ GE429.out) | exact HB.out)))); have n3_ := Aside0.mk (blk_below (g := gb429) (o := .cells #[.bool false, .slice none 0 0, .slice none 0 0] 32 (0, 0)) (by exact BK429.out) hb); have n4_ := Aside0.mk (below_step (by repeat (first | (with_reducible first | exact HB.out | apply below_alloc | apply pw_below_drewN | apply below_drew1 | refine below_set ?_ GE429.out) | exact HB.out)) hb); clear HO435; clear BK429; clear HB; have HO435 := n0_; have HO439 := n1_; have HO441 := n2_; have BK429 := n3_; have HB := n4_; clear n0_ n1_ n2_ n3_ n4_; (try clear hb); (try clear hb2); (try clear hk); (try clear hi); (try clear ho0); (try clear ho1)) | ((with_reducible refine gate_callee (f := 69) rfl ?_); refine goesL_ (some 34) rfl rfl Tryz.func69 (by kernel_rfl) rfl #[.slice A2 l2.length c2, .slice Ao16 t433.length co16] rfl (by (try simp only [List.map_toArray, List.map_cons, List.map_nil]); first | done | rfl | (simp only [List.length_drop, List.length_take]; rfl)) ?_; (with_reducible refine (fluxionref02_DivMod.calls kj3 _ _ l2 _ _ t433 t442 t443 _ ?side1 ?side2 ?side3 ?side4 A14.out).mono ?_); (case side1 => repeat (first | exact (Kd.C_below HR2.out HB.out) | (with_reducible refine Kd.C_alloc ?_ _) | (with_reducible refine Kd.C_drewN ?_ _) | (with_reducible refine Kd.C_drew ?_))); (case side2 => exact HC2.out); (case side3 => repeat (first | exact (Kd.V_reads' HO435.out).2.2 | (with_reducible refine Kd.C_alloc ?_ _) | (with_reducible refine Kd.C_drewN ?_ _) | (with_reducible refine Kd.C_drew ?_))); (case side4 => exact (Kd.V_reads' HO435.out).2.1); rintro e w18 ⟨v444, v446, rfl, ho0, ho1, hb⟩; refine ⟨_, rfl, ?_⟩; have n0_ := Aside0.mk (Kd.V_mono (Kd.V_told (Kd.V_told (Kd.V_old (by (with_reducible repeat (first | apply Kd.V_alloc | apply Kd.V_drewN | apply Kd.V_drew)); exact HO435.out) hb) (Kd.R_base ho0)) (Kd.R_base ho1)) (fun _ h_ => h_.1)); have n1_ := Aside0.mk (Kd.R_mono (Kd.R_told (Kd.R_told (Kd.R_old (by exact HO439.out) hb) (Kd.R_base ho0)) (Kd.R_base ho1)) (fun _ h_ => h_.1)); have n2_ := Aside0.mk (Kd.R_mono (Kd.R_told (Kd.R_told (Kd.R_old (by exact HO441.out) hb) (Kd.R_base ho0)) (Kd.R_base ho1)) (fun _ h_ => h_.1)); have n3_ := Aside0.mk (Kd.R_lower (Kd.R_new' (Kd.R_new' ho0 (Kd.R_lt (by exact HO439.out))) (Kd.R_lt (by exact HO441.out))) (below_size (by repeat (first | (with_reducible first | exact HB.out | apply below_alloc | apply pw_below_drewN | apply below_drew1 | refine below_set ?_ GE429.out) | exact HB.out)))); have n4_ := Aside0.mk (Kd.R_lower (Kd.R_new' (Kd.R_new' ho1 (Kd.R_lt (by exact HO439.out))) (Kd.R_lt (by exact HO441.out))) (below_size (by repeat (first | (with_reducible first | exact HB.out | apply below_alloc | apply pw_below_drewN | apply below_drew1 | refine below_set ?_ GE429.out) | exact HB.out)))); have n5_ := Aside0.mk (blk_below (g := gb429) (o := .cells #[.bool false, .slice none 0 0, .slice none 0 0] 32 (0, 0)) (by exact BK429.out) hb); have n6_ := Aside0.mk (below_step (by repeat (first | (with_reducible first | exact HB.out | apply below_alloc | apply pw_below_drewN | apply below_drew1 | refine below_set ?_ GE429.out) | exact HB.out)) hb); clear HO435; clear HO439; clear HO441; clear BK429; clear HB; have HO435 := n0_; have HO439 := n1_; have HO441 := n2_; have HO445 := n3_; have HO447 := n4_; have BK429 := n5_; have HB := n6_; clear n0_ n1_ n2_ n3_ n4_ n5_ n6_; (try clear hb); (try clear hb2); (try clear hk); (try clear hi); (try clear ho0); (try clear ho1); obtain ⟨Ao19, co19, eo19⟩ := Kd.R_slice HO445.out; subst eo19; obtain ⟨Ao20, co20, eo20⟩ := Kd.R_slice HO439.out; subst eo20; have hcz21_0 : w18.cell? ⟨gb429, 0, none⟩ = some (.bool false) := (blk_cell BK429.out 0).trans rfl; have hcz21_1 : w18.cell? ⟨gb429, 1, none⟩ = some (.slice none 0 0) := (blk_cell BK429.out 1).trans rfl; have hcz21_2 : w18.cell? ⟨gb429, 2, none⟩ = some (.slice none 0 0) := (blk_cell BK429.out 2).trans rfl; have hfz21_0 := blk_frozen BK429.out 0; have hfz21_1 := blk_frozen BK429.out 1; have hfz21_2 := blk_frozen BK429.out 2))
        refine bodyPost_ret (results_cell_row rfl _ _ gb429 32 #[.bool a0, .slice Ao20 t436.length co20, .slice Ao19 t442.length co19] (0, 0) _ rfl (by refine blk_put (cs := #[.bool a0, .slice Ao20 t436.length co20, .slice none 0 0]) ?_ 2 _ rfl; refine blk_put (cs := #[.bool a0, .slice none 0 0, .slice none 0 0]) ?_ 1 _ rfl; refine blk_put (cs := #[.bool false, .slice none 0 0, .slice none 0 0]) ?_ 0 _ rfl; exact BK429.out) Tryz.underlying32 rfl (by kernel_rfl)) rfl ?_
        exact ⟨_, _, by first | rfl | (simp [errW_none, errW_some] <;> rfl) | (simp [*, errW_none, errW_some] <;> rfl), by exact Kd.R_mono (Kd.R_far (p := ⟨gb429, 2, none⟩) (Kd.R_far (p := ⟨gb429, 1, none⟩) (Kd.R_far (p := ⟨gb429, 0, none⟩) (Kd.R_types HO439.out BK429.out (by decide)) (fun _ hk => hk.2) (.bool a0)) (fun _ hk => hk.2) (.slice Ao20 t436.length co20)) (fun _ hk => hk.2) (.slice Ao19 t442.length co19)) (fun _ hk => hk.1.1.2), by exact Kd.R_mono (Kd.R_far (p := ⟨gb429, 2, none⟩) (Kd.R_far (p := ⟨gb429, 1, none⟩) (Kd.R_far (p := ⟨gb429, 0, none⟩) (Kd.R_types HO445.out BK429.out (by decide)) (fun _ hk => hk.2) (.bool a0)) (fun _ hk => hk.2) (.slice Ao20 t436.length co20)) (fun _ hk => hk.2) (.slice Ao19 t442.length co19)) (fun _ hk => hk.1.1.2), by repeat (first | (with_reducible first | exact HB.out | apply below_alloc | apply pw_below_drewN | apply below_drew1 | refine below_set ?_ GE429.out) | exact HB.out)⟩

def fluxionref03_Of.f (k : Nat) (a0_0 : Bool) (l0_1 : List Int) (l0_2 : List Int) : Option (Bool × List Int × List Int) := (fluxionref01_Of.f k l0_1).bind fun t450 => ((fluxionref01_Of.f k l0_2).bind fun t453 => ((fluxionref03_Make.f k a0_0 t450 t453).bind fun bt456 => (some (bt456.1, bt456.2.1, bt456.2.2))))
end Go.Proofs.YtpncflaoikeidaaGreatDoor.P
namespace Go.Proofs.YtpncflaoikeidaaGreatDoor.H
open Go.RowKit Go.Proofs.YtpncflaoikeidaaGreatDoorW.PrintWords Go.Proofs.YtpncflaoikeidaaGreatDoorW.PrintLast Go.Proofs.YtpncflaoikeidaaGreatDoorW.PrintMore Go.Proofs.YtpncflaoikeidaaGreatDoor.P
/-- a rational, reduced -/
def redN (neg : Bool) (n d : Nat) : Bool × Nat × Nat := if n = 0 ∨ d = 0 then (false, 0, 1) else (neg, n / Nat.gcd n d, d / Nat.gcd n d)
theorem c4_one : c4 1 = [1] := by rw [c4_pos (by decide), show 1 / 10000 = 0 by decide, c4_zero]; rfl
theorem make2_f (neg : Bool) (n d k : Nat) (hn : (c4 n).length < 300000) (hd : (c4 d).length < 300000) (hk : 2400000 + d + 5 < k) :
    fluxionref03_Make.f k neg (c4 n) (c4 d) = some ((redN neg n d).1, c4 (redN neg n d).2.1, c4 (redN neg n d).2.2) := by
  obtain ⟨k, rfl⟩ : ∃ k2, k = k2 + 1 := ⟨k - 1, by omega⟩
  unfold fluxionref03_Make.f redN
  by_cases h0 : n = 0
  · have h1 := (c4_len0 n).2 h0
    rw [if_pos (by omega), fluxionref03_Make.j0, if_pos rfl, if_pos (.inl h0), c4_zero, c4_one]
  · have h1 := mt (c4_len0 n).1 h0
    rw [if_neg (by omega), fluxionref03_Make.j0]
    by_cases h2 : d = 0
    · have h3 := (c4_len0 d).2 h2
      have hz : (((c4 d).length : Int) == 0) = true := by rw [h3]; rfl
      rw [hz, if_pos rfl, if_pos (.inr h2), c4_zero, c4_one]
    · have h3 := mt (c4_len0 d).1 h2
      have hz : (((c4 d).length : Int) == 0) = false := by simpa using (show ¬ (((c4 d).length : Int) = 0) by omega)
      rw [hz, if_neg (by simp), if_neg (by omega)]
      unfold fluxionref02_Gcd.f
      have hg : 0 < Nat.gcd n d := Nat.gcd_pos_of_pos_left _ (Nat.pos_of_ne_zero h0)
      have hgl := Nat.lt_of_le_of_lt (c4_le_len (Nat.gcd_le_left d (Nat.pos_of_ne_zero h0))) hn
      rw [gcd2_l0 d n k (by omega) hn hd, Option.bind_some, divmod2_f n _ k hg hn hgl (by omega), Option.bind_some, divmod2_f d _ k hg hd hgl (by omega), Option.bind_some]
end Go.Proofs.YtpncflaoikeidaaGreatDoor.H
namespace Go.Proofs.YtpncflaoikeidaaGreatDoor.H
open Go.RowKit Go.Lib Go.Proofs.YtpncflaoikeidaaGreatDoorW.PrintWords Go.Proofs.YtpncflaoikeidaaGreatDoorW.PrintLast Go.Proofs.YtpncflaoikeidaaGreatDoorW.PrintMore Go.Proofs.YtpncflaoikeidaaGreatDoor.P
/-- too great to be read -/
def big (n : Nat) : Bool := decide (1024 < nbits n)
/-- a rational's text -/
def ratT (x : Bool × Nat × Nat) : List UInt8 := (if x.1 = true then [45] else []) ++ (decDigits x.2.1 ++ (if x.2.2 = 1 then [] else 47 :: decDigits x.2.2))
def negB (l : List UInt8) : Bool := l.head? == some 45
def restB (l : List UInt8) : List UInt8 := if negB l = true then l.drop 1 else l
def denB (c : List UInt8 × List UInt8 × Bool) : List UInt8 := if c.2.2 = true then c.2.1 else [49]
/-- the natural of a text, and an error -/
def PN (l : List UInt8) : Nat × Int := if natB l = true then (if big (dv l) = true then (0, 14) else (dv l, 0)) else (0, 19)
/-- the rational of a text, and an error -/
def PR (l : List UInt8) : (Bool × Nat × Nat) × Int :=
  if (natB (cutB (restB l)).1 && natB (denB (cutB (restB l)))) = true then
    if (big (dv (cutB (restB l)).1) || big (dv (denB (cutB (restB l))))) = true then ((false, 0, 0), 14)
    else if ratT (redN (negB l) (dv (cutB (restB l)).1) (dv (denB (cutB (restB l))))) = l then (redN (negB l) (dv (cutB (restB l)).1) (dv (denB (cutB (restB l)))), 0)
    else ((false, 0, 0), 6)
  else ((false, 0, 0), 19)
theorem redN_le (neg : Bool) (n d : Nat) : (redN neg n d).2.1 ≤ n ∧ (redN neg n d).2.2 ≤ max d 1 := by
  unfold redN
  by_cases h : n = 0 ∨ d = 0
  · rw [if_pos h]; simp only; omega
  · rw [if_neg h]
    have h1 := Nat.div_le_self n (Nat.gcd n d)
    have h2 := Nat.div_le_self d (Nat.gcd n d)
    simp only; omega
theorem redN_den (neg : Bool) (n d : Nat) : (redN neg n d).2.2 ≠ 0 := by
  unfold redN
  by_cases h : n = 0 ∨ d = 0
  · rw [if_pos h]; decide
  · rw [if_neg h]
    have hn : 0 < n := Nat.pos_of_ne_zero fun hc => h (.inl hc)
    have hd : 0 < d := Nat.pos_of_ne_zero fun hc => h (.inr hc)
    exact Nat.pos_iff_ne_zero.1 (Nat.div_pos (Nat.gcd_le_right n hd) (Nat.gcd_pos_of_pos_left _ hn))
theorem dec_head45 (n : Nat) (m : List UInt8) : (decDigits n ++ m).head? ≠ some 45 := by
  obtain ⟨h1, _, h3, _⟩ := dec_spec n
  cases hh : decDigits n with
  | nil => exact absurd hh h3
  | cons c l =>
    rw [hh, List.all_cons, Bool.and_eq_true] at h1
    intro hc
    have : c = 45 := by simpa using hc
    subst this
    exact absurd h1.1 (by decide)
theorem un_ratT (x : Bool × Nat × Nat) : negB (ratT x) = x.1 ∧ cutB (restB (ratT x)) = (decDigits x.2.1, (if x.2.2 = 1 then [] else decDigits x.2.2), decide (x.2.2 ≠ 1)) := by
  obtain ⟨g, n, d⟩ := x
  have hc : cutB (decDigits n ++ (if d = 1 then [] else 47 :: decDigits d)) = (decDigits n, (if d = 1 then [] else decDigits d), decide (d ≠ 1)) := by
    by_cases h : d = 1
    · rw [if_pos h, if_pos h, List.append_nil, cutB_none _ (dec_spec n).1]; simp [h]
    · rw [if_neg h, if_neg h, cutB_dig _ _ (dec_spec n).1]; simp [h]
  cases g with
  | true =>
    have hn : negB (ratT (true, n, d)) = true := by unfold negB ratT; rfl
    refine ⟨hn, ?_⟩
    unfold restB
    rw [hn, if_pos rfl]
    exact hc
  | false =>
    have e : ratT (false, n, d) = decDigits n ++ (if d = 1 then [] else 47 :: decDigits d) := by unfold ratT; simp
    have hn : negB (ratT (false, n, d)) = false := by
      rw [e]; unfold negB
      have := dec_head45 n (if d = 1 then [] else 47 :: decDigits d)
      simpa using this
    refine ⟨hn, ?_⟩
    unfold restB
    rw [hn, if_neg (by decide), e]
    exact hc
theorem un_back (l : List UInt8) : l = (if negB l = true then [45] else []) ++ ((cutB (restB l)).1 ++ (if (cutB (restB l)).2.2 = true then 47 :: (cutB (restB l)).2.1 else [])) := by
  rw [← cutB_back (restB l)]
  unfold restB
  by_cases h : negB l = true
  · rw [if_pos h, if_pos h]
    cases l with
    | nil => cases h
    | cons c m =>
      have : c = 45 := by simpa [negB] using h
      rw [this]; rfl
  · rw [if_neg h, if_neg h]; rfl
theorem denB_un (d : Nat) (n : List UInt8) : denB (n, (if d = 1 then [] else decDigits d), decide (d ≠ 1)) = decDigits d := by
  unfold denB
  by_cases h : d = 1
  · subst h; rw [dec_one]; rfl
  · simp [h]
/-- the one form is the text's -/
theorem may_iff {l : List UInt8} (h1 : natB (cutB (restB l)).1 = true) (h2 : natB (denB (cutB (restB l))) = true) :
    ratT (redN (negB l) (dv (cutB (restB l)).1) (dv (denB (cutB (restB l))))) = l ↔ redN (negB l) (dv (cutB (restB l)).1) (dv (denB (cutB (restB l)))) = (negB l, dv (cutB (restB l)).1, dv (denB (cutB (restB l)))) ∧ ¬ ((cutB (restB l)).2.2 = true ∧ (cutB (restB l)).2.1 = [49]) := by
  have hb := un_back l
  obtain ⟨c, hc⟩ : ∃ c, cutB (restB l) = c := ⟨_, rfl⟩
  rw [hc] at h1 h2 hb ⊢
  obtain ⟨x, hx⟩ : ∃ x, redN (negB l) (dv c.1) (dv (denB c)) = x := ⟨_, rfl⟩
  rw [hx]
  obtain ⟨e1, e2⟩ := un_ratT x
  constructor
  · intro h
    rw [h, hc] at e2
    rw [h] at e1
    have q1 : c.1 = decDigits x.2.1 := congrArg Prod.fst e2
    have q2 : c.2.1 = if x.2.2 = 1 then [] else decDigits x.2.2 := congrArg (fun z => z.2.1) e2
    have q3 : c.2.2 = decide (x.2.2 ≠ 1) := congrArg (fun z => z.2.2) e2
    have hd : denB c = decDigits x.2.2 := by rw [e2, denB_un]
    constructor
    · rw [e1, q1, hd, (dec_spec x.2.1).2.1, (dec_spec x.2.2).2.1]
    · rintro ⟨p1, p2⟩
      rw [p1] at q3
      have hne : x.2.2 ≠ 1 := by simpa using q3.symm
      rw [p2, if_neg hne, ← dec_one] at q2
      exact hne (dec_inj q2).symm
  · rintro ⟨h, hn⟩
    have hl : l = (if negB l = true then [45] else []) ++ (c.1 ++ (if c.2.2 = true then 47 :: c.2.1 else [])) := hb
    rw [h]
    unfold ratT
    simp only
    conv => rhs; rw [hl]
    rw [dec_dv h1]
    congr 2
    by_cases h3 : c.2.2 = true
    · have hd : denB c = c.2.1 := by unfold denB; rw [if_pos h3]
      rw [hd] at h2 ⊢
      have hne : dv c.2.1 ≠ 1 := fun hc1 => hn ⟨h3, by rw [← dec_dv h2, hc1, dec_one]⟩
      rw [if_neg hne, dec_dv h2, if_pos h3]
    · have hd : denB c = [49] := by unfold denB; rw [if_neg h3]
      rw [hd, if_neg h3, dv_one]
      rfl
end Go.Proofs.YtpncflaoikeidaaGreatDoor.H
namespace Go.Proofs.YtpncflaoikeidaaGreatDoor.P
open Go.RowKit Go.Proofs.YtpncflaoikeidaaGreatDoorW.PrintWords Go.Proofs.YtpncflaoikeidaaGreatDoorW.PrintLast Go.Proofs.YtpncflaoikeidaaGreatDoorW.PrintMore
attribute [local go_sem] max2_int max_two
set_option linter.unusedVariables false
set_option linter.unusedSimpArgs false
def rat_one.f  : Option (List Int) := (nat_Of.f 1).bind fun t137 => (some t137)
set_option maxHeartbeats 8000000 in
set_option maxRecDepth 100000 in
theorem rat_one.calls  (r : List Int) (w : World) (h : rat_one.f  = some r) :
    Calls Tryz.prog 62 #[] w fun e w' => ∃ v0_ : Value, e = .returned (v0_) ∧ Kd.R (Kd.int .u32) 56 w' w.heap.size (fun _ => True) v0_ r ∧ Below w.heap.size w w' := by
  have HB := Aside0.mk (Below.refl w.heap.size w)
  have H : ((nat_Of.f 1).bind fun t137 => (some t137)) = some r := h
  clear h
  replace H := Option.bind_eq_some_iff.mp H
  obtain ⟨t137, A10, H⟩ := H
  try dsimp only at H
  have A1 := Aside0.mk A10
  clear A10
  obtain rfl := Option.some.inj H
  go_enter Tryz.func62, Tryz.ntmps62
  go_wp2_with (first | ((with_reducible refine gate_callee (f := 31) rfl ?_); refine goesL_ (some 1) rfl rfl Tryz.func31 (by kernel_rfl) rfl #[.int .u64 1] rfl (by (try simp only [List.map_toArray, List.map_cons, List.map_nil]); first | done | rfl | (simp only [List.length_drop, List.length_take]; rfl)) ?_; (with_reducible refine (nat_Of.calls 1 t137 _ A1.out).mono ?_); rintro e w2 ⟨v138, rfl, ho0, hb⟩; refine ⟨_, rfl, ?_⟩; have n0_ := Aside0.mk (Kd.R_lower ho0 (below_size (by repeat (first | (with_reducible first | exact HB.out | apply below_alloc | apply pw_below_drewN | apply below_drew1) | exact HB.out)))); have n1_ := Aside0.mk (below_step (by repeat (first | (with_reducible first | exact HB.out | apply below_alloc | apply pw_below_drewN | apply below_drew1) | exact HB.out)) hb); clear HB; have HO139 := n0_; have HB := n1_; clear n0_ n1_; (try clear hb); (try clear hb2); (try clear hk); (try clear hi); (try clear ho0)))
  go_ret
  exact ⟨_, by first | rfl | (simp [errW_none, errW_some] <;> rfl) | (simp [*, errW_none, errW_some] <;> rfl), by exact HO139.out, by repeat (first | (with_reducible first | exact HB.out | apply below_alloc | apply pw_below_drewN | apply below_drew1) | exact HB.out)⟩

end Go.Proofs.YtpncflaoikeidaaGreatDoor.P
namespace Go.Proofs.YtpncflaoikeidaaGreatDoor.P
open Go.RowKit Go.Proofs.YtpncflaoikeidaaGreatDoorW.PrintWords Go.Proofs.YtpncflaoikeidaaGreatDoorW.PrintLast Go.Proofs.YtpncflaoikeidaaGreatDoorW.PrintMore Go.Proofs.YtpncflaoikeidaaGreatDoor.H
set_option maxHeartbeats 1000000 in
set_option maxRecDepth 100000 in
theorem by_any (A0 : Option Addr) (c0 : Nat) (l0 : List Int) (A1 : Option Addr) (c1 : Nat) (l1 : List Int) (w : World) (hr0 : Kd.C (Kd.int .u32) w A0 l0.length l0) (hc0 : l0.length ≤ c0) (hr1 : Kd.C (Kd.int .u32) w A1 l1.length l1) (hc1 : l1.length ≤ c1)
    (o0 : okl l0) (o1 : okl l1) (n0 : l0.length < 900000) (n1 : l1.length < 900000) (hz : nval l1 ≠ 0) :
    Calls Tryz.prog 99 #[.slice A0 l0.length c0, .slice A1 l1.length c1] w fun e w' => ∃ v0_ : Value, e = .returned (v0_) ∧ Kd.R (Kd.int .u32) 56 w' w.heap.size (fun _ => True) v0_ (limbs (nval l0 / nval l1)) ∧ Below w.heap.size w w' := by
  have D := Aside0.mk (quo_DivMod.calls A0 c0 l0 A1 c1 l1 _ _ _ w hr0 hc0 hr1 hc1 (by
    unfold quo_DivMod.f
    rw [if_pos ⟨o0, o1, n0, n1⟩, if_neg hz]))
  clear hr0 hr1 n0 n1 o0 o1
  go_enter Tryz.func99, Tryz.ntmps99
  go_wp2_with (go_at_call 124; with_reducible refine D.out.mono ?_; rintro e w5 ⟨v0, v1, rfl, ho0, ho1, hb0⟩; have HB0 := Aside0.mk hb0; have HO0 := Aside0.mk ho0; clear ho0 ho1 hb0)
  go_ret
  exact ⟨_, rfl, Kd.R_mono HO0.out (fun _ _ => trivial), HB0.out⟩
set_option maxHeartbeats 1000000 in
set_option maxRecDepth 100000 in
theorem make1_any (A0 : Option Addr) (c0 : Nat) (l0 : List Int) (A1 : Option Addr) (c1 : Nat) (l1 : List Int) (b : Nat) (w : World) (hb : w.cell? ⟨b, 0, none⟩ = some (.slice A1 l1.length c1)) (hr0 : Kd.C (Kd.int .u32) w A0 l0.length l0) (hc0 : l0.length ≤ c0) (hr1 : Kd.C (Kd.int .u32) w A1 l1.length l1) (hc1 : l1.length ≤ c1)
    (o0 : okl l0) (o1 : okl l1) (n0 : l0.length < 900000) (n1 : l1.length < 900000) (hz : nval l1 ≠ 0) :
    Calls Tryz.prog 98 #[.slice A0 l0.length c0, .pointer (some ⟨b, 0, none⟩)] w fun e w' => ∃ v0_ : Value, e = .returned (v0_) ∧ Kd.R (Kd.int .u32) 56 w' w.heap.size (fun _ => True) v0_ (limbs (nval l0 / nval l1)) ∧ Below w.heap.size w w' := by
  have D := Aside0.mk (by_any A0 c0 l0 A1 c1 l1 w hr0 hc0 hr1 hc1 o0 o1 n0 n1 hz)
  clear hr0 hr1 n0 n1 o0 o1
  go_enter Tryz.func98, Tryz.ntmps98
  go_wp2_with (go_at_call 99; with_reducible refine D.out.mono ?_; rintro e w5 ⟨v0, rfl, ho0, hb0⟩; have HB0 := Aside0.mk hb0; have HO0 := Aside0.mk ho0; clear ho0 hb0)
  go_ret
  exact ⟨_, rfl, HO0.out, HB0.out⟩
/-- rat.Make -/
def rat_Make.f (a0 : Bool) (l1 l2 : List Int) : Option (Bool × List Int × List Int × Int) :=
  if okl l1 ∧ okl l2 ∧ l1.length < 900000 ∧ l2.length < 900000 then
    some (if nval l2 = 0 then (false, [], [], 17) else if nval l1 = 0 then (false, [], limbs 1, 0) else (a0, limbs (nval l1 / Nat.gcd (nval l1) (nval l2)), limbs (nval l2 / Nat.gcd (nval l1) (nval l2)), 0))
  else none
def MakePost (w : World) (r1 : Bool) (r2 r3 : List Int) (r4 : Int) (e : Ending) (w' : World) : Prop := ∃ v1_ v2_ : Value, e = .returned (.tuple #[.agg #[.bool r1, v1_, v2_], .int .i64 r4]) ∧ Kd.R (Kd.int .u32) 56 w' w.heap.size (fun k_ => some k_ ≠ (v2_ : Value).ownBlock) v1_ r2 ∧ Kd.R (Kd.int .u32) 56 w' w.heap.size (fun k_ => some k_ ≠ (v1_ : Value).ownBlock) v2_ r3 ∧ Below w.heap.size w w'
theorem bits_any {l : List Int} (hl : okl l) (hn : l.length < 1000000) (A : Option Addr) (c : Nat) (W : World) (hr : Kd.C (Kd.int .u32) W A l.length l) (hc : l.length ≤ c) :
    Calls Tryz.prog 96 #[.slice A l.length c] W fun e w' => e = .returned (.int .i64 ((nbits (nval l) : Nat) : Int)) ∧ ∃ m, w' = W.drewN m :=
  (nat_Bits.calls (l.length + 1) A c l _ W hr hc (bits_f hl hn (by omega))).mono fun _ _ ⟨he, hd⟩ => ⟨he, hd.out⟩
theorem put3 {W : World} {g : Nat} {t : TypeId} {u0 u1 u2 b v1 v2 : Value} (h : W.heap[g]? = some (.cells #[u0, u1, u2] t (0, 0))) : (((W.setCell ⟨g, 0, none⟩ b).setCell ⟨g, 1, none⟩ v1).setCell ⟨g, 2, none⟩ v2).heap[g]? = some (.cells #[b, v1, v2] t (0, 0)) :=
  blk_put (cs := #[b, v1, u2]) (blk_put (cs := #[b, u1, u2]) (blk_put (cs := #[u0, u1, u2]) h 0 _ rfl) 1 _ rfl) 2 _ rfl
theorem far3 {W : World} {g B : Nat} {u x : Value} {l : List Int} (h : Kd.R (Kd.int .u32) 56 W B (fun k => some k ≠ u.ownBlock ∧ k ≠ g) x l) (b v1 v2 : Value) : Kd.R (Kd.int .u32) 56 (((W.setCell ⟨g, 0, none⟩ b).setCell ⟨g, 1, none⟩ v1).setCell ⟨g, 2, none⟩ v2) B (fun k => some k ≠ u.ownBlock) x l :=
  Kd.R_mono (Kd.R_far (p := ⟨g, 2, none⟩) (Kd.R_far (p := ⟨g, 1, none⟩) (Kd.R_far (p := ⟨g, 0, none⟩) h (fun _ hk => hk.2) b) (fun _ hk => hk.2) v1) (fun _ hk => hk.2) v2) (fun _ hk => hk.1)
theorem set3 {w W : World} (h : Below w.heap.size w W) (b v1 v2 : Value) : Below w.heap.size w (((W.setCell ⟨w.heap.size, 0, none⟩ b).setCell ⟨w.heap.size, 1, none⟩ v1).setCell ⟨w.heap.size, 2, none⟩ v2) :=
  ((h.setCell (p := ⟨w.heap.size, 0, none⟩) (Nat.le_refl _) _).setCell (p := ⟨w.heap.size, 1, none⟩) (Nat.le_refl _) _).setCell (p := ⟨w.heap.size, 2, none⟩) (Nat.le_refl _) _
set_option maxHeartbeats 1000000 in
set_option maxRecDepth 100000 in
theorem make_zero (a0 : Bool) (A1 : Option Addr) (c1 : Nat) (l1 : List Int) (A2 : Option Addr) (c2 : Nat) (l2 : List Int) (w : World) (hr2 : Kd.C (Kd.int .u32) w A2 l2.length l2) (hc2 : l2.length ≤ c2)
    (o2 : okl l2) (n2 : l2.length < 900000) (hz : nval l2 = 0) :
    Calls Tryz.prog 61 #[.bool a0, .slice A1 l1.length c1, .slice A2 l2.length c2] w (MakePost w false [] [] 17) := by
  have B2 := Aside0.mk (fun W h => bits_any o2 (by omega) A2 c2 W h hc2)
  rw [(nbits_zero _).2 hz] at B2
  have HR2 := Aside0.mk hr2
  clear hr2 n2
  go_enter Tryz.func61, Tryz.ntmps61
  go_wp2_with (go_at_call 96; with_reducible refine (B2.out _ ?s1).mono ?_; (case s1 => repeat (first | exact HR2.out | (with_reducible refine Kd.C_alloc ?_ _) | (with_reducible refine Kd.C_drewN ?_ _))); rintro e w5 ⟨rfl, ⟨m, rfl⟩⟩)
  refine bodyPost_ret (results_ct rfl _ _ w.heap.size 25 #[.bool false, .slice none 0 0, .slice none 0 0] (0, 0) _ rfl (put3 (blk_drewN (heap_alloc_new _ _) _)) Tryz.underlying25 rfl (by kernel_rfl)) rfl ?_
  exact ⟨_, _, rfl, Kd.R_nil _ _ _ _ _, Kd.R_nil _ _ _ _ _, (((pw_below_drewN ((Below.refl _ _).alloc (Nat.le_refl _) _) _).setCell (p := ⟨w.heap.size, 0, none⟩) (Nat.le_refl _) _).setCell (p := ⟨w.heap.size, 1, none⟩) (Nat.le_refl _) _).setCell (p := ⟨w.heap.size, 2, none⟩) (Nat.le_refl _) _⟩
theorem one_f : rat_one.f = some (limbs 1) := by
  unfold rat_one.f nat_Of.f
  rw [if_pos (by omega)]
  rfl
set_option maxHeartbeats 1000000 in
set_option maxRecDepth 100000 in
theorem make_one (a0 : Bool) (A1 : Option Addr) (c1 : Nat) (l1 : List Int) (A2 : Option Addr) (c2 : Nat) (l2 : List Int) (w : World) (hr1 : Kd.C (Kd.int .u32) w A1 l1.length l1) (hc1 : l1.length ≤ c1) (hr2 : Kd.C (Kd.int .u32) w A2 l2.length l2) (hc2 : l2.length ≤ c2)
    (o1 : okl l1) (o2 : okl l2) (n1 : l1.length < 900000) (n2 : l2.length < 900000) (hz1 : nval l1 = 0) (hz : nval l2 ≠ 0) :
    Calls Tryz.prog 61 #[.bool a0, .slice A1 l1.length c1, .slice A2 l2.length c2] w (MakePost w false [] (limbs 1) 0) := by
  have B2 := Aside0.mk (fun W h => bits_any o2 (by omega) A2 c2 W h hc2)
  have B1 := Aside0.mk (fun W h => bits_any o1 (by omega) A1 c1 W h hc1)
  rw [(nbits_zero _).2 hz1] at B1
  have hb := mt (nbits_zero (nval l2)).1 hz
  obtain ⟨k, hk⟩ : ∃ k, nbits (nval l2) = k := ⟨_, rfl⟩
  rw [hk] at B2 hb
  have hkz : ((k : Int) == 0) = false := by simpa using hb
  have HR2 := Aside0.mk hr2
  have HR1 := Aside0.mk hr1
  have O := Aside0.mk (fun W => rat_one.calls (limbs 1) W one_f)
  clear hr2 hr1 n2 n1 hb hk hz hz1
  go_enter Tryz.func61, Tryz.ntmps61
  go_wp2_with (first | (go_at_call 96; with_reducible refine (B2.out _ ?s1).mono ?_; (case s1 => repeat (first | exact HR2.out | (with_reducible refine Kd.C_alloc ?_ _) | (with_reducible refine Kd.C_drewN ?_ _))); rintro e w5 ⟨rfl, ⟨m, rfl⟩⟩) | (go_at_call 96; with_reducible refine (B1.out _ ?s1).mono ?_; (case s1 => repeat (first | exact HR1.out | (with_reducible refine Kd.C_alloc ?_ _) | (with_reducible refine Kd.C_drewN ?_ _))); rintro e w5 ⟨rfl, ⟨m2, rfl⟩⟩) | (go_at_call 62; with_reducible refine (O.out _).mono ?_; rintro e w6 ⟨v, rfl, ho, hb⟩; have HO := Aside0.mk ho; have BK := Aside0.mk (blk_below (g := w.heap.size) (o := .cells #[.bool false, .slice none 0 0, .slice none 0 0] 25 (0, 0)) (blk_drewN (heap_alloc_new _ _) _) hb); have HB := Aside0.mk hb; have hcz0 : w6.cell? ⟨w.heap.size, 0, none⟩ = some (.bool false) := (blk_cell BK.out 0).trans rfl; have hcz1 : w6.cell? ⟨w.heap.size, 1, none⟩ = some (.slice none 0 0) := (blk_cell BK.out 1).trans rfl; have hcz2 : w6.cell? ⟨w.heap.size, 2, none⟩ = some (.slice none 0 0) := (blk_cell BK.out 2).trans rfl; have hfz0 := blk_frozen BK.out 0; have hfz1 := blk_frozen BK.out 1; have hfz2 := blk_frozen BK.out 2; obtain ⟨A4, c4, rfl⟩ := Kd.R_slice ho; clear ho hb))
  refine bodyPost_ret (results_ct rfl _ _ w.heap.size 25 #[.bool false, .slice none 0 0, .slice A4 (limbs 1).length c4] (0, 0) _ rfl (put3 BK.out) Tryz.underlying25 rfl (by kernel_rfl)) rfl ?_
  have hB := HB.out
  exact ⟨_, _, rfl, Kd.R_nil _ _ _ _ _, far3 (Kd.R_lower (Kd.R_mono (Kd.R_bound HO.out) (fun k hk => ⟨(by simp [Value.ownBlock] : some k ≠ (Value.slice none 0 0).ownBlock), by have := hk.2.1; simp at this; omega⟩)) (by simp)) _ _ _, set3 ((pw_below_drewN ((Below.refl _ _).alloc (Nat.le_refl _) _) _).trans (hB.mono (by simp))) _ _ _⟩
/-- what holds ahead of the two quotients -/
structure Mk8 (w w7 w8 : World) (Ag : Option Addr) (cg : Nat) (lg : List Int) : Prop where
  b : Below w.heap.size w w8
  bk : w8.heap[w.heap.size]? = some (.cells #[.bool false, .slice none 0 0, .slice none 0 0] 25 (0, 0))
  lt : w.heap.size < w7.heap.size
  sz : w8.heap.size = w7.heap.size + 1
  g : w8.heap[w7.heap.size]? = some (.cells #[.slice Ag lg.length cg] 23 (0, 0))
  c : Kd.C (Kd.int .u32) w8 Ag lg.length lg
  le : lg.length ≤ cg
theorem mk8 {w w6 w7 : World} {Ag : Option Addr} {cg : Nat} {lg : List Int} (m : Nat) (e6 : w6 = (w.alloc (.cells #[.bool false, .slice none 0 0, .slice none 0 0] 25)).drewN m) (hb : Below w6.heap.size w6 w7) (ho : Kd.R (Kd.int .u32) 56 w7 w6.heap.size (fun _ => True) (.slice Ag lg.length cg) lg) :
    Mk8 w w7 (w7.alloc (.cells #[.slice Ag lg.length cg] 23)) Ag cg lg := by
  subst e6
  have hs := hb.size
  simp at hs
  exact ⟨((pw_below_drewN ((Below.refl _ _).alloc (Nat.le_refl _) _) _).trans (hb.mono (by simp))).alloc (by omega) _, blk_alloc (blk_below (blk_drewN (heap_alloc_new _ _) _) hb) _, by omega, by simp, heap_alloc_new _ _, Kd.C_alloc (Kd.R_reads' ho).2.2 _, (Kd.R_reads' ho).2.1⟩
set_option maxHeartbeats 1000000 in
set_option maxRecDepth 100000 in
theorem make_long (a0 : Bool) (A1 : Option Addr) (c1 : Nat) (l1 : List Int) (A2 : Option Addr) (c2 : Nat) (l2 : List Int) (w : World) (hr1 : Kd.C (Kd.int .u32) w A1 l1.length l1) (hc1 : l1.length ≤ c1) (hr2 : Kd.C (Kd.int .u32) w A2 l2.length l2) (hc2 : l2.length ≤ c2)
    (o1 : okl l1) (o2 : okl l2) (n1 : l1.length < 900000) (n2 : l2.length < 900000) (hz1 : nval l1 ≠ 0) (hz : nval l2 ≠ 0) (g : Nat) (hg : Nat.gcd (nval l1) (nval l2) = g) :
    Calls Tryz.prog 61 #[.bool a0, .slice A1 l1.length c1, .slice A2 l2.length c2] w (MakePost w a0 (limbs (nval l1 / g)) (limbs (nval l2 / g)) 0) := by
  have B2 := Aside0.mk (fun W h => bits_any o2 (by omega) A2 c2 W h hc2)
  have B1 := Aside0.mk (fun W h => bits_any o1 (by omega) A1 c1 W h hc1)
  have hb := mt (nbits_zero (nval l2)).1 hz
  have hb1 := mt (nbits_zero (nval l1)).1 hz1
  obtain ⟨k, hk⟩ : ∃ k, nbits (nval l2) = k := ⟨_, rfl⟩
  obtain ⟨k1, hk1⟩ : ∃ k1, nbits (nval l1) = k1 := ⟨_, rfl⟩
  rw [hk] at B2 hb
  rw [hk1] at B1 hb1
  have hkz : ((k : Int) == 0) = false := by simpa using hb
  have hkz1 : ((k1 : Int) == 0) = false := by simpa using hb1
  have HR2 := Aside0.mk hr2
  have HR1 := Aside0.mk hr1
  have GG := Aside0.mk (fun W h1 h2 => quo_Gcd.calls _ A1 c1 l1 A2 c2 l2 _ W h1 hc1 h2 hc2 (gcd_f o1 o2 n1 n2))
  rw [hg] at GG
  have hg0 : g ≠ 0 := by
    intro h; rw [h] at hg; exact hz1 (Nat.gcd_eq_zero_iff.1 hg).1
  have hgl : (limbs g).length < 900000 := by
    have h1 : g ≤ nval l1 := by rw [← hg]; exact Nat.gcd_le_left _ (by omega)
    have h2 := limbs_length_le l1.length g (Nat.lt_of_le_of_lt h1 (nval_lt o1))
    omega
  have Q1 := Aside0.mk (fun Ag cg b W hcell hr hC hcg => make1_any A1 c1 l1 Ag cg (limbs g) b W hcell hr hc1 hC hcg o1 (okl_limbs g) n1 hgl (by rw [nval_limbs]; exact hg0))
  have Q2 := Aside0.mk (fun Ag cg b W hcell hr hC hcg => make1_any A2 c2 l2 Ag cg (limbs g) b W hcell hr hc2 hC hcg o2 (okl_limbs g) n2 hgl (by rw [nval_limbs]; exact hg0))
  rw [nval_limbs] at Q1 Q2
  clear hr2 hr1 n2 n1 hb hk hz hz1 hb1 hk1 hg hg0 hgl
  go_enter Tryz.func61, Tryz.ntmps61
  go_wp2_with (first | (go_at_call 96; with_reducible refine (B2.out _ ?s1).mono ?_; (case s1 => repeat (first | exact HR2.out | (with_reducible refine Kd.C_alloc ?_ _) | (with_reducible refine Kd.C_drewN ?_ _))); rintro e w5 ⟨rfl, ⟨m, rfl⟩⟩) | (go_at_call 96; with_reducible refine (B1.out _ ?s1).mono ?_; (case s1 => repeat (first | exact HR1.out | (with_reducible refine Kd.C_alloc ?_ _) | (with_reducible refine Kd.C_drewN ?_ _))); rintro e w5 ⟨rfl, ⟨m2, rfl⟩⟩) | (go_at_call 97; with_reducible refine (GG.out _ ?s1 ?s2).mono ?_; (case s1 => repeat (first | exact HR1.out | (with_reducible refine Kd.C_alloc ?_ _) | (with_reducible refine Kd.C_drewN ?_ _))); (case s2 => repeat (first | exact HR2.out | (with_reducible refine Kd.C_alloc ?_ _) | (with_reducible refine Kd.C_drewN ?_ _))); rintro e w7 ⟨v, rfl, ho, hb⟩; obtain ⟨Ag, cg, rfl⟩ := Kd.R_slice ho; have HM := Aside0.mk (mk8 _ rfl hb ho); clear ho hb) | (go_at_call 98; with_reducible refine (Q1.out Ag cg _ _ ?s1 ?s2 ?s3 ?s4).mono ?_; (case s1 => exact (blk_cell HM.out.g 0).trans rfl); (case s2 => exact Kd.C_below HR1.out HM.out.b); (case s3 => exact HM.out.c); (case s4 => exact HM.out.le); rintro e w9 ⟨v1, rfl, ho, hb⟩; obtain ⟨A4, c4, rfl⟩ := Kd.R_slice ho; have HO1 := Aside0.mk ho; have HB1 := Aside0.mk hb; clear ho hb) | (go_at_call 98; with_reducible refine (Q2.out Ag cg _ _ ?s1 ?s2 ?s3 ?s4).mono ?_; (case s1 => exact (blk_cell (blk_below HM.out.g HB1.out) 0).trans rfl); (case s2 => exact Kd.C_below HR2.out (below_step HM.out.b HB1.out)); (case s3 => exact Kd.C_below HM.out.c HB1.out); (case s4 => exact HM.out.le); rintro e w10 ⟨v2, rfl, ho, hb⟩; obtain ⟨A5, c5, rfl⟩ := Kd.R_slice ho; have HO2 := Aside0.mk ho; have HB2 := Aside0.mk hb; have BK := Aside0.mk (blk_below (blk_below HM.out.bk HB1.out) hb); have hcz0 : w10.cell? ⟨w.heap.size, 0, none⟩ = some (.bool false) := (blk_cell BK.out 0).trans rfl; have hcz1 : w10.cell? ⟨w.heap.size, 1, none⟩ = some (.slice none 0 0) := (blk_cell BK.out 1).trans rfl; have hcz2 : w10.cell? ⟨w.heap.size, 2, none⟩ = some (.slice none 0 0) := (blk_cell BK.out 2).trans rfl; have hfz0 := blk_frozen BK.out 0; have hfz1 := blk_frozen BK.out 1; have hfz2 := blk_frozen BK.out 2; clear ho hb))
  refine bodyPost_ret (results_ct rfl _ _ w.heap.size 25 #[.bool a0, .slice A4 (limbs (nval l1 / g)).length c4, .slice A5 (limbs (nval l2 / g)).length c5] (0, 0) _ rfl (put3 BK.out) Tryz.underlying25 rfl (by kernel_rfl)) rfl ?_
  have hr2 := Kd.R_elder' HO1.out (Kd.R_base HO2.out) HB2.out
  have hr3 := Kd.R_new' HO2.out (Kd.R_lt HO1.out)
  have s1 := HM.out.lt
  have s2 := HM.out.sz
  have s3 := HB1.out.size
  exact ⟨_, _, rfl, far3 (Kd.R_lower (Kd.R_mono (Kd.R_bound hr2) (fun k hk => ⟨hk.1.2, by have := hk.2.1; omega⟩)) (by omega)) _ _ _, far3 (Kd.R_lower (Kd.R_mono (Kd.R_bound hr3) (fun k hk => ⟨hk.1.2, by have := hk.2.1; omega⟩)) (by omega)) _ _ _, set3 (below_step (below_step HM.out.b HB1.out) HB2.out) _ _ _⟩
theorem rat_Make.calls (a0 : Bool) (A1 : Option Addr) (c1 : Nat) (l1 : List Int) (A2 : Option Addr) (c2 : Nat) (l2 : List Int) (r1 : Bool) (r2 r3 : List Int) (r4 : Int) (w : World) (hr1 : Kd.C (Kd.int .u32) w A1 l1.length l1) (hc1 : l1.length ≤ c1) (hr2 : Kd.C (Kd.int .u32) w A2 l2.length l2) (hc2 : l2.length ≤ c2) (h : rat_Make.f a0 l1 l2 = some (r1, r2, r3, r4)) :
    Calls Tryz.prog 61 #[.bool a0, .slice A1 l1.length c1, .slice A2 l2.length c2] w fun e w' => ∃ v1_ v2_ : Value, e = .returned (.tuple #[.agg #[.bool r1, v1_, v2_], .int .i64 r4]) ∧ Kd.R (Kd.int .u32) 56 w' w.heap.size (fun k_ => some k_ ≠ (v2_ : Value).ownBlock) v1_ r2 ∧ Kd.R (Kd.int .u32) 56 w' w.heap.size (fun k_ => some k_ ≠ (v1_ : Value).ownBlock) v2_ r3 ∧ Below w.heap.size w w' := by
  unfold rat_Make.f at h
  split at h
  case isFalse => cases h
  case isTrue hg =>
  obtain ⟨o0, o1, n0, n1⟩ := hg
  have h := Option.some.inj h
  split at h
  case isTrue hz =>
    simp only [Prod.mk.injEq] at h
    obtain ⟨rfl, rfl, rfl, rfl⟩ := h
    exact make_zero a0 A1 c1 l1 A2 c2 l2 w hr2 hc2 o1 n1 hz
  case isFalse hz =>
    split at h
    case isTrue hz1 =>
      simp only [Prod.mk.injEq] at h
      obtain ⟨rfl, rfl, rfl, rfl⟩ := h
      exact make_one a0 A1 c1 l1 A2 c2 l2 w hr1 hc1 hr2 hc2 o0 o1 n0 n1 hz1 hz
    case isFalse hz1 =>
      simp only [Prod.mk.injEq] at h
      obtain ⟨rfl, rfl, rfl, rfl⟩ := h
      exact make_long a0 A1 c1 l1 A2 c2 l2 w hr1 hc1 hr2 hc2 o0 o1 n0 n1 hz1 hz _ rfl
end Go.Proofs.YtpncflaoikeidaaGreatDoor.P
namespace Go.Proofs.YtpncflaoikeidaaGreatDoor.P
open Go.RowKit Go.Lib Go.Proofs.YtpncflaoikeidaaGreatDoorW.PrintWords Go.Proofs.YtpncflaoikeidaaGreatDoorW.PrintLast Go.Proofs.YtpncflaoikeidaaGreatDoorW.PrintMore Go.Proofs.YtpncflaoikeidaaGreatDoor.H
/-- digits.read, of digits alone -/
def digits_read.f (s : ByteArray) : Option (List Int × Int) :=
  if s.data.toList.all digB = true then some (if 309 < s.size then ([], 14) else if 32 < (limbs (dv s.data.toList)).length then ([], 14) else (limbs (dv s.data.toList), 0)) else none
structure RdS (V : Nat) (m : Nat) (rest : ByteArray) : Prop where
  d : rest.data.toList.all digB = true
  le : rest.size ≤ 309
  eq : V = m * 10 ^ rest.size + dv rest.data.toList
  nine : m = 0 ∨ rest.size % 9 = 0
theorem size_len (s : ByteArray) : s.data.toList.length = s.size := by rw [Array.length_toList]; rfl
theorem ext_head (s : ByteArray) (b : Nat) : (s.extract 0 b).data.toList = s.data.toList.take b := by
  have h := ByteArray.extract_mk s.data.toList 0 b
  rw [Array.toArray_toList] at h
  rw [h]; rfl
theorem ext_tail (s : ByteArray) (a : Nat) : (s.extract a s.size).data.toList = s.data.toList.drop a := extract_to_end s a
theorem RdS.step {V m : Nat} {rest : ByteArray} {h : Nat} (hs : RdS V m rest) (h0 : 0 < rest.size) (hh : (rest.size - 1) % 9 + 1 = h) :
    h ≤ rest.size ∧ 0 < h ∧ h ≤ 9 ∧ (rest.extract 0 h).data.toList.all digB = true ∧ (rest.extract 0 h).data.toList.length = h ∧ (rest.extract h rest.size).size = rest.size - h ∧
    RdS V (m * 1000000000 + dv (rest.extract 0 h).data.toList) (rest.extract h rest.size) := by
  have hl := size_len rest
  have e1 : (rest.extract 0 h).data.toList = rest.data.toList.take h := ext_head _ _
  have e2 : (rest.extract h rest.size).data.toList = rest.data.toList.drop h := ext_tail _ _
  have hle : h ≤ rest.size := by omega
  have hsz : (rest.extract h rest.size).size = rest.size - h := by rw [← size_len, e2, List.length_drop, hl]
  have hd := hs.d
  rw [← List.take_append_drop h rest.data.toList, List.all_append, Bool.and_eq_true] at hd
  refine ⟨hle, by omega, by omega, by rw [e1]; exact hd.1, by rw [e1, List.length_take, hl]; omega, hsz, ⟨by rw [e2]; exact hd.2, by rw [hsz]; have := hs.le; omega, ?_, ?_⟩⟩
  · rw [hs.eq, hsz, e2, e1]
    have hv : dv rest.data.toList = dv (rest.data.toList.take h) * 10 ^ (rest.size - h) + dv (rest.data.toList.drop h) := by
      conv => lhs; rw [← List.take_append_drop h rest.data.toList]
      rw [dv_append, List.length_drop, hl]
    rw [hv, Nat.add_mul, Nat.add_assoc]
    congr 1
    rcases hs.nine with h9 | h9
    · subst h9; simp
    · have h99 : h = 9 := by omega
      rw [Nat.mul_assoc]
      congr 1
      rw [show (1000000000 : Nat) = 10 ^ 9 by decide, ← Nat.pow_add]
      congr 1; omega
  · right; rw [hsz]; omega
set_option maxHeartbeats 1000000 in
set_option maxRecDepth 100000 in
theorem digits_read.calls (a0 : ByteArray) (r1 : List Int) (r2 : Int) (w : World) (h : digits_read.f a0 = some (r1, r2)) :
    Calls Tryz.prog 37 #[.string a0] w fun e w' => ∃ v0_ : Value, e = .returned (.tuple #[v0_, .int .i64 r2]) ∧ Kd.R (Kd.int .u32) 56 w' w.heap.size (fun _ => True) v0_ r1 ∧ Below w.heap.size w w' := by
  unfold digits_read.f at h
  split at h
  case isFalse => cases h
  case isTrue hd =>
  have h := Option.some.inj h
  by_cases hbig : 309 < a0.size
  · rw [if_pos hbig] at h
    simp only [Prod.mk.injEq] at h
    obtain ⟨rfl, rfl⟩ := h
    have hgt : decide ((309 : Int) < (a0.size : Int)) = true := decide_eq_true (by omega)
    go_enter Tryz.func37, Tryz.ntmps37
    go_wp2
    go_ret2
    exact ⟨_, rfl, Kd.R_nil _ _ _ _ _, Below.refl _ _⟩
  · rw [if_neg hbig] at h
    have hgt : decide ((309 : Int) < (a0.size : Int)) = false := decide_eq_false (by omega)
    obtain ⟨V, hV⟩ : ∃ V, dv a0.data.toList = V := ⟨_, rfl⟩
    rw [hV] at h
    have HH := Aside0.mk h
    have S0 : Aside0 (RdS V 0 a0) := ⟨⟨hd, by omega, by rw [hV]; omega, .inl rfl⟩⟩
    obtain ⟨E, hE⟩ : ∃ E : Nat, E = 309 := ⟨_, rfl⟩
    have hVl : V < 10 ^ E := by
      have h1 := dv_lt _ hd
      rw [hV, size_len] at h1
      exact Nat.lt_of_lt_of_le h1 (Nat.pow_le_pow_right (by decide) (by omega))
    have HVL : Aside0 (V < 4294967296 ^ 36) := ⟨Nat.lt_trans hVl (by rw [hE]; decide +kernel)⟩
    have O9 := Aside0.mk (fun W => nat_Of.calls 1000000000 (limbs 1000000000) W (by unfold nat_Of.f; rw [if_pos (by decide)]; rfl))
    clear h hd hV hVl hbig
    go_enter Tryz.func37, Tryz.ntmps37
    go_wp2
    go_loopw [0, 4] (fun v0 v4 wr => ∃ (rest : ByteArray) (m : Nat) (A : Option Addr) (c : Nat), v0 = .string rest ∧ v4 = .slice A (limbs m).length c ∧ Aside0 (RdS V m rest) ∧ Aside0 (Kd.R (Kd.int .u32) 56 wr w.heap.size (fun _ => True) v4 (limbs m)) ∧ Aside0 (Below w.heap.size w wr)) (fun v0 _ _ => match v0 with | .string s => s.size | _ => 0)
    case atStart => exact ⟨a0, 0, none, 0, rfl, by rw [limbs_zero]; rfl, S0, ⟨by rw [limbs_zero]; exact Kd.R_nil _ _ _ _ _⟩, ⟨Below.refl _ _⟩⟩
    case round =>
      obtain ⟨rest, m, A, c, rfl, rfl, HS, HR, HB⟩ := hrel
      by_cases h0 : rest.size = 0
      · have hz : decide ((0 : Int) < (rest.size : Int)) = false := decide_eq_false (by omega)
        have hrl : rest.data.toList = [] := List.eq_nil_of_length_eq_zero (by rw [size_len]; exact h0)
        have hVm : V = m := by
          have h1 := HS.out.eq
          rw [h0, hrl, dv_nil] at h1
          omega
        subst hVm
        have h2 := HH.out
        by_cases h32 : 32 < (limbs V).length
        · rw [if_pos h32] at h2
          simp only [Prod.mk.injEq] at h2
          obtain ⟨rfl, rfl⟩ := h2
          clear HVL
          go_wp2
          go_ret2
          exact ⟨_, rfl, Kd.R_nil _ _ _ _ _, HB.out⟩
        · rw [if_neg h32] at h2
          simp only [Prod.mk.injEq] at h2
          obtain ⟨rfl, rfl⟩ := h2
          clear HVL
          go_wp2
          go_ret2
          exact ⟨_, rfl, HR.out, HB.out⟩
      · have hz : decide ((0 : Int) < (rest.size : Int)) = true := decide_eq_true (by omega)
        obtain ⟨hd, hhd⟩ : ∃ hd, (rest.size - 1) % 9 + 1 = hd := ⟨_, rfl⟩
        obtain ⟨s1, s2, s3, s4, s5, s6, s7⟩ := HS.out.step (Nat.pos_of_ne_zero h0) hhd
        have hmV : m ≤ V := by
          have := Nat.le_mul_of_pos_right m (Nat.pow_pos (by decide) : 0 < 10 ^ rest.size)
          have := HS.out.eq; omega
        have hlm : (limbs m).length ≤ 36 := limbs_length_le _ _ (Nat.lt_of_le_of_lt hmV HVL.out)
        have hu : dv (rest.extract 0 hd).data.toList < 1000000000 := by
          have h1 := dv_lt _ s4
          rw [s5] at h1
          exact Nat.lt_of_lt_of_le h1 (by
            have : 10 ^ hd ≤ 10 ^ 9 := Nat.pow_le_pow_right (by decide) s3
            exact this)
        have hpu := parse_ok _ s4 (by intro hc; rw [hc] at s5; simp at s5; omega) (by omega)
        obtain ⟨u, hue⟩ : ∃ u, dv (rest.extract 0 hd).data.toList = u := ⟨_, rfl⟩
        rw [hue] at s7 hu hpu
        have hsr := HS.out.le
        have hsh : (rest.extract 0 hd).size = hd := by rw [← size_len, s5]
        have PU : Aside0 (∀ W, Calls Tryz.prog 74 #[.string (rest.extract 0 hd), .int .i64 10, .int .i64 32] W fun e w' => e = .returned (.tuple #[.int .u64 (u : Int), .nilIface]) ∧ Below W.heap.size W w') := ⟨fun W =>
          (Tryz.strconv_ParseUint_10_at32_ok (rest.extract 0 hd) (by rw [hsh]; omega) u hpu W).mono fun e w' ⟨he, hw⟩ => ⟨he, by
            rcases hw with rfl | rfl
            · exact Below.refl _ _
            · exact bytesWorld_below _ _ _⟩⟩
        have MU := Aside0.mk (fun A c B d W h1 h2 h3 h4 => nat_Mul.calls 2 A c (limbs m) B d (limbs 1000000000) _ W h1 h2 h3 h4 (mul_ten9 (m := m) (by omega)))
        have hl2 : (limbs (m * 1000000000)).length ≤ 38 := by
          refine limbs_length_le _ _ ?_
          have h1 := nval_lt (okl_limbs m)
          rw [nval_limbs] at h1
          have h2 : (4294967296 : Nat) ^ (limbs m).length ≤ 4294967296 ^ 36 := Nat.pow_le_pow_right (by decide) hlm
          have h3 : m * 1000000000 < 4294967296 ^ 36 * 1000000000 := Nat.mul_lt_mul_of_pos_right (Nat.lt_of_lt_of_le h1 h2) (by decide)
          exact Nat.lt_trans h3 (by decide +kernel)
        have hl3 : (limbs u).length ≤ 1 := limbs_length_le _ _ (by omega)
        have OU := Aside0.mk (fun W => nat_Of.calls ((u : Nat) : Int) (limbs u) W (by unfold nat_Of.f; rw [if_pos (by omega), Int.toNat_natCast]))
        have AD := Aside0.mk (fun A c B d W h1 h2 h3 h4 => nat_Add.calls A c (limbs (m * 1000000000)) B d (limbs u) (limbs (m * 1000000000 + u)) W h1 h2 h3 h4 (by unfold nat_Add.f; rw [if_pos ⟨okl_limbs _, okl_limbs _, by omega, by omega⟩, nval_limbs, nval_limbs]))
        have HS2 := Aside0.mk s7
        have HSZ := Aside0.mk s6
        have HH0 : Aside0 (0 < hd ∧ hd ≤ rest.size) := ⟨s2, s1⟩
        have hw1 : wrap64 ((rest.size : Int) - 1) = ((rest.size - 1 : Nat) : Int) := by unfold wrap64; omega
        have hw2 : wrap64 (Int.tmod (wrap64 ((rest.size : Int) - 1)) 9 + 1) = (hd : Int) := by
          rw [hw1, Int.tmod_eq_emod_of_nonneg (by omega)]
          unfold wrap64; omega
        have hle : (hd : Int) ≤ (rest.size : Int) := by omega
        have hge : (0 : Int) ≤ (hd : Int) := by omega
        have hz2 : 0 < rest.size := by omega
        obtain ⟨m2, hm2⟩ : ∃ m2, m * 1000000000 + u = m2 := ⟨_, rfl⟩
        rw [hm2] at AD HS2
        clear hw1 hz h0 hhd s1 s2 s3 s4 s5 s6 s7 hmV hlm hu hpu hsr hsh hl2 hl3 hm2 hue
        go_wp2_with (first | (go_at_call 74; with_reducible refine (PU.out _).mono ?_; rintro e w5 ⟨rfl, hb⟩; have HB1 := Aside0.mk (below_step HB.out hb); have HR1 := Aside0.mk (Kd.R_old HR.out hb); clear hb) | (go_at_call 31; with_reducible refine (O9.out _).mono ?_; rintro e w6 ⟨v1, rfl, ho, hb⟩; have HO1 := Aside0.mk ho; have HR2 := Aside0.mk (Kd.R_old HR1.out hb); have HB2 := Aside0.mk (below_step HB1.out hb); obtain ⟨A1, c1, rfl⟩ := Kd.R_slice ho; clear ho hb) | (go_at_call 76; with_reducible refine (MU.out _ _ _ _ _ ?s1 ?s2 ?s3 ?s4).mono ?_; (case s1 => exact (Kd.R_reads' HR2.out).2.2); (case s2 => exact (Kd.R_reads' HR2.out).2.1); (case s3 => exact (Kd.R_reads' HO1.out).2.2); (case s4 => exact (Kd.R_reads' HO1.out).2.1); rintro e w7 ⟨v2, rfl, ho, hb⟩; have HO2 := Aside0.mk ho; have HB3 := Aside0.mk (below_step HB2.out hb); obtain ⟨A2, c2, rfl⟩ := Kd.R_slice ho; clear ho hb) | (go_at_call 31; with_reducible refine (OU.out _).mono ?_; rintro e w8 ⟨v3, rfl, ho, hb⟩; have HO3 := Aside0.mk ho; have HO2' := Aside0.mk (Kd.R_old HO2.out hb); have HB4 := Aside0.mk (below_step HB3.out hb); obtain ⟨A3, c3, rfl⟩ := Kd.R_slice ho; clear ho hb) | (go_at_call 75; with_reducible refine (AD.out _ _ _ _ _ ?s1 ?s2 ?s3 ?s4).mono ?_; (case s1 => exact (Kd.R_reads' HO2'.out).2.2); (case s2 => exact (Kd.R_reads' HO2'.out).2.1); (case s3 => exact (Kd.R_reads' HO3.out).2.2); (case s4 => exact (Kd.R_reads' HO3.out).2.1); rintro e w9 ⟨v4, rfl, ho, hb⟩; have HO4 := Aside0.mk ho; have HB5 := Aside0.mk (below_step HB4.out hb); have HL4 := Aside0.mk HB4.out.size; obtain ⟨A4, c4, rfl⟩ := Kd.R_slice ho; clear ho hb))
        go_roundw
        case rel => exact ⟨rest.extract hd rest.size, m2, A4, c4, rfl, rfl, HS2, ⟨Kd.R_lower HO4.out HL4.out⟩, HB5⟩
        case measure => show (rest.extract hd rest.size).size < rest.size; rw [HSZ.out]; have := HH0.out; omega
end Go.Proofs.YtpncflaoikeidaaGreatDoor.P
namespace Go.Proofs.YtpncflaoikeidaaGreatDoor.P
open Go.RowKit Go.Proofs.YtpncflaoikeidaaGreatDoorW.PrintWords Go.Proofs.YtpncflaoikeidaaGreatDoorW.PrintLast Go.Proofs.YtpncflaoikeidaaGreatDoorW.PrintMore
attribute [local go_sem] max2_int max_two
set_option linter.unusedVariables false
set_option linter.unusedSimpArgs false
def rat_Norm.f (a0_0 : Bool) (l0_1 : List Int) (l0_2 : List Int) : Option (Bool × List Int × List Int) := (rat_Make.f a0_0 l0_1 l0_2).bind fun bt176 => (if bt176.2.2.2 = 0 then (some (bt176.1, bt176.2.1, bt176.2.2.1)) else ((rat_one.f).bind fun t185 => (some (false, ([] : List Int), t185))))
set_option maxHeartbeats 8000000 in
set_option maxRecDepth 100000 in
theorem rat_Norm.calls (a0_0 : Bool) (A0_1 : Option Addr) (c0_1 : Nat) (l0_1 : List Int) (A0_2 : Option Addr) (c0_2 : Nat) (l0_2 : List Int) (r1 : Bool) (r2 : List Int) (r3 : List Int) (w : World) (hr0_1 : Kd.C (Kd.int .u32) w A0_1 l0_1.length l0_1) (hc0_1 : l0_1.length ≤ c0_1) (hr0_2 : Kd.C (Kd.int .u32) w A0_2 l0_2.length l0_2) (hc0_2 : l0_2.length ≤ c0_2) (h : rat_Norm.f a0_0 l0_1 l0_2 = some (r1, r2, r3)) :
    Calls Tryz.prog 29 #[.agg #[.bool a0_0, .slice A0_1 l0_1.length c0_1, .slice A0_2 l0_2.length c0_2]] w fun e w' => ∃ v1_ v2_ : Value, e = .returned (.agg #[.bool r1, v1_, v2_]) ∧ Kd.R (Kd.int .u32) 56 w' w.heap.size (fun k_ => some k_ ≠ (v2_ : Value).ownBlock) v1_ r2 ∧ Kd.R (Kd.int .u32) 56 w' w.heap.size (fun k_ => some k_ ≠ (v1_ : Value).ownBlock) v2_ r3 ∧ Below w.heap.size w w' := by
  have hu25 := Tryz.underlying25
  have HR0_1 := Aside0.mk hr0_1
  have HC0_1 := Aside0.mk hc0_1
  clear hr0_1 hc0_1
  have HR0_2 := Aside0.mk hr0_2
  have HC0_2 := Aside0.mk hc0_2
  clear hr0_2 hc0_2
  have HB := Aside0.mk (Below.refl w.heap.size w)
  have H : ((rat_Make.f a0_0 l0_1 l0_2).bind fun bt176 => (if bt176.2.2.2 = 0 then (some (bt176.1, bt176.2.1, bt176.2.2.1)) else ((rat_one.f).bind fun t185 => (some (false, ([] : List Int), t185))))) = some (r1, r2, r3) := h
  clear h
  replace H := Option.bind_eq_some_iff.mp H
  obtain ⟨⟨t176, t177, t180, t183⟩, A20, H⟩ := H
  try dsimp only at H
  have A2 := Aside0.mk A20
  clear A20
  by_cases c3 : t183 = 0
  · rw [if_pos c3] at H
    have c3b0 : (t183 == 0) = true := beq_iff_eq.mpr c3
    have c3b1 : (t183 != 0) = false := bne_eq_false_iff_eq.mpr c3
    clear c3
    simp only [Option.some.injEq, Prod.mk.injEq] at H
    obtain ⟨rfl, rfl, rfl⟩ := H
    go_enter Tryz.func29, Tryz.ntmps29
    go_wp2_with (first | ((with_reducible refine gate_dst (N := 1) rfl ?_); refine box_event ?hg (N := 1) ?hd (cs := #[.bool a0_0, .slice A0_1 l0_1.length c0_1, .slice A0_2 l0_2.length c0_2]) (t := 25) ?hr ?_; (case hd => rfl); (case hg => rfl); (case hr => first | (go_simp; done) | (go_simp; rfl)); intro gb174 hg w4 hbox hb; have n0_ := Aside0.mk (below_step (by repeat (first | (with_reducible first | exact HB.out | apply below_alloc | apply pw_below_drewN | apply below_drew1) | exact HB.out)) hb); have n1_ := Aside0.mk (hbox); have n2_ := Aside0.mk ((by rw [hg]; exact (below_size (by repeat (first | (with_reducible first | exact HB.out | apply below_alloc | apply pw_below_drewN | apply below_drew1) | exact HB.out))) : w.heap.size ≤ gb174)); have n3_ := Aside0.mk ((by rw [hg]; exact (below_size (by repeat (first | (with_reducible first | exact HB.out | apply below_alloc | apply pw_below_drewN | apply below_drew1) | exact HB.out))) : w.heap.size ≤ gb174)); clear HB; have HB := n0_; have BK174 := n1_; have GW174 := n2_; have GE174 := n3_; clear n0_ n1_ n2_ n3_; clear hb hbox hg) | ((with_reducible refine gate_dst (N := 2) rfl ?_); refine box_event ?hg (N := 2) ?hd (cs := #[.bool false, .slice none 0 0, .slice none 0 0]) (t := 25) ?hr ?_; (case hd => rfl); (case hg => rfl); (case hr => first | (go_simp; done) | (go_simp; rfl)); intro gb175 hg w5 hbox hb; have n0_ := Aside0.mk (blk_below (g := gb174) (o := .cells #[.bool a0_0, .slice A0_1 l0_1.length c0_1, .slice A0_2 l0_2.length c0_2] 25 (0, 0)) (by exact BK174.out) hb); have n1_ := Aside0.mk (below_step (by repeat (first | (with_reducible first | exact HB.out | apply below_alloc | apply pw_below_drewN | apply below_drew1 | refine below_set ?_ GE174.out) | exact HB.out)) hb); have n2_ := Aside0.mk (hbox); have n3_ := Aside0.mk ((by rw [hg]; exact (below_size (by repeat (first | (with_reducible first | exact HB.out | apply below_alloc | apply pw_below_drewN | apply below_drew1 | refine below_set ?_ GE174.out) | exact HB.out))) : w.heap.size ≤ gb175)); have n4_ := Aside0.mk ((by rw [hg]; exact (below_size (by repeat (first | (with_reducible first | exact HB.out | apply below_alloc | apply pw_below_drewN | apply below_drew1 | refine below_set ?_ GE174.out) | exact HB.out))) : w.heap.size ≤ gb175)); have n5_ := Aside0.mk ((by rw [hg]; exact Nat.ne_of_lt (blk_lt (g := gb174) (o := .cells #[.bool a0_0, .slice A0_1 l0_1.length c0_1, .slice A0_2 l0_2.length c0_2] 25 (0, 0)) (by exact BK174.out)) : gb174 ≠ gb175)); have n6_ := Aside0.mk ((by rw [hg]; exact Nat.ne_of_gt (blk_lt (g := gb174) (o := .cells #[.bool a0_0, .slice A0_1 l0_1.length c0_1, .slice A0_2 l0_2.length c0_2] 25 (0, 0)) (by exact BK174.out)) : gb175 ≠ gb174)); clear BK174; clear HB; have BK174 := n0_; have HB := n1_; have BK175 := n2_; have GW175 := n3_; have GE175 := n4_; have NB174_175 := n5_; have NB175_174 := n6_; clear n0_ n1_ n2_ n3_ n4_ n5_ n6_; clear hb hbox hg; have hnb6 := NB174_175.out; have hnc6 := NB175_174.out; have hcz7_0 : w5.cell? ⟨gb174, 0, none⟩ = some (.bool a0_0) := (blk_cell BK174.out 0).trans rfl; have hcz7_1 : w5.cell? ⟨gb174, 1, none⟩ = some (.slice A0_1 l0_1.length c0_1) := (blk_cell BK174.out 1).trans rfl; have hcz7_2 : w5.cell? ⟨gb174, 2, none⟩ = some (.slice A0_2 l0_2.length c0_2) := (blk_cell BK174.out 2).trans rfl; have hfz7_0 := blk_frozen BK174.out 0; have hfz7_1 := blk_frozen BK174.out 1; have hfz7_2 := blk_frozen BK174.out 2) | ((with_reducible refine gate_callee (f := 61) rfl ?_); refine goesL_ (some 12) rfl rfl Tryz.func61 (by kernel_rfl) rfl #[.bool a0_0, .slice A0_1 l0_1.length c0_1, .slice A0_2 l0_2.length c0_2] rfl (by (try simp only [List.map_toArray, List.map_cons, List.map_nil]); first | done | rfl | (simp only [List.length_drop, List.length_take]; rfl)) ?_; (with_reducible refine (rat_Make.calls a0_0 _ _ l0_1 _ _ l0_2 t176 t177 t180 t183 _ ?side1 ?side2 ?side3 ?side4 A2.out).mono ?_); (case side1 => repeat (first | exact (Kd.C_below HR0_1.out HB.out) | (with_reducible refine Kd.C_alloc ?_ _) | (with_reducible refine Kd.C_drewN ?_ _) | (with_reducible refine Kd.C_drew ?_))); (case side2 => exact HC0_1.out); (case side3 => repeat (first | exact (Kd.C_below HR0_2.out HB.out) | (with_reducible refine Kd.C_alloc ?_ _) | (with_reducible refine Kd.C_drewN ?_ _) | (with_reducible refine Kd.C_drew ?_))); (case side4 => exact HC0_2.out); rintro e w8 ⟨v178, v181, rfl, ho0, ho1, hb⟩; refine ⟨_, rfl, ?_⟩; have n0_ := Aside0.mk (Kd.R_lower ho0 (below_size (by repeat (first | (with_reducible first | exact HB.out | apply below_alloc | apply pw_below_drewN | apply below_drew1 | refine below_set ?_ GE174.out | refine below_set ?_ GE175.out) | exact HB.out)))); have n1_ := Aside0.mk (Kd.R_lower ho1 (below_size (by repeat (first | (with_reducible first | exact HB.out | apply below_alloc | apply pw_below_drewN | apply below_drew1 | refine below_set ?_ GE174.out | refine below_set ?_ GE175.out) | exact HB.out)))); have n2_ := Aside0.mk (blk_below (g := gb174) (o := .cells #[.bool a0_0, .slice A0_1 l0_1.length c0_1, .slice A0_2 l0_2.length c0_2] 25 (0, 0)) (by exact BK174.out) hb); have n3_ := Aside0.mk (blk_below (g := gb175) (o := .cells #[.bool false, .slice none 0 0, .slice none 0 0] 25 (0, 0)) (by exact BK175.out) hb); have n4_ := Aside0.mk (below_step (by repeat (first | (with_reducible first | exact HB.out | apply below_alloc | apply pw_below_drewN | apply below_drew1 | refine below_set ?_ GE174.out | refine below_set ?_ GE175.out) | exact HB.out)) hb); clear BK174; clear BK175; clear HB; have HO179 := n0_; have HO182 := n1_; have BK174 := n2_; have BK175 := n3_; have HB := n4_; clear n0_ n1_ n2_ n3_ n4_; (try clear hb); (try clear hb2); (try clear hk); (try clear hi); (try clear ho0); (try clear ho1)) | ((with_reducible refine gate_dst (N := 3) rfl ?_); refine box_event ?hg (N := 3) ?hd (cs := #[.bool false, .slice none 0 0, .slice none 0 0]) (t := 25) ?hr ?_; (case hd => rfl); (case hg => rfl); (case hr => first | (go_simp; done) | (go_simp; rfl)); intro gb184 hg w9 hbox hb; have n0_ := Aside0.mk (Kd.R_below (by exact HO179.out) hb); have n1_ := Aside0.mk (Kd.R_below (by exact HO182.out) hb); have n2_ := Aside0.mk (blk_below (g := gb174) (o := .cells #[.bool a0_0, .slice A0_1 l0_1.length c0_1, .slice A0_2 l0_2.length c0_2] 25 (0, 0)) (by exact BK174.out) hb); have n3_ := Aside0.mk (blk_below (g := gb175) (o := .cells #[.bool false, .slice none 0 0, .slice none 0 0] 25 (0, 0)) (by exact BK175.out) hb); have n4_ := Aside0.mk (below_step (by repeat (first | (with_reducible first | exact HB.out | apply below_alloc | apply pw_below_drewN | apply below_drew1 | refine below_set ?_ GE174.out | refine below_set ?_ GE175.out) | exact HB.out)) hb); have n5_ := Aside0.mk (hbox); have n6_ := Aside0.mk ((by rw [hg]; exact (below_size (by repeat (first | (with_reducible first | exact HB.out | apply below_alloc | apply pw_below_drewN | apply below_drew1 | refine below_set ?_ GE174.out | refine below_set ?_ GE175.out) | exact HB.out))) : w.heap.size ≤ gb184)); have n7_ := Aside0.mk ((by rw [hg]; exact (below_size (by repeat (first | (with_reducible first | exact HB.out | apply below_alloc | apply pw_below_drewN | apply below_drew1 | refine below_set ?_ GE174.out | refine below_set ?_ GE175.out) | exact HB.out))) : w.heap.size ≤ gb184)); have n8_ := Aside0.mk ((by rw [hg]; exact Nat.ne_of_lt (blk_lt (g := gb174) (o := .cells #[.bool a0_0, .slice A0_1 l0_1.length c0_1, .slice A0_2 l0_2.length c0_2] 25 (0, 0)) (by exact BK174.out)) : gb174 ≠ gb184)); have n9_ := Aside0.mk ((by rw [hg]; exact Nat.ne_of_gt (blk_lt (g := gb174) (o := .cells #[.bool a0_0, .slice A0_1 l0_1.length c0_1, .slice A0_2 l0_2.length c0_2] 25 (0, 0)) (by exact BK174.out)) : gb184 ≠ gb174)); have n10_ := Aside0.mk ((by rw [hg]; exact Nat.ne_of_lt (blk_lt (g := gb175) (o := .cells #[.bool false, .slice none 0 0, .slice none 0 0] 25 (0, 0)) (by exact BK175.out)) : gb175 ≠ gb184)); have n11_ := Aside0.mk ((by rw [hg]; exact Nat.ne_of_gt (blk_lt (g := gb175) (o := .cells #[.bool false, .slice none 0 0, .slice none 0 0] 25 (0, 0)) (by exact BK175.out)) : gb184 ≠ gb175)); clear HO179; clear HO182; clear BK174; clear BK175; clear HB; have HO179 := n0_; have HO182 := n1_; have BK174 := n2_; have BK175 := n3_; have HB := n4_; have BK184 := n5_; have GW184 := n6_; have GE184 := n7_; have NB174_184 := n8_; have NB184_174 := n9_; have NB175_184 := n10_; have NB184_175 := n11_; clear n0_ n1_ n2_ n3_ n4_ n5_ n6_ n7_ n8_ n9_ n10_ n11_; clear hb hbox hg; have hnb10 := NB184_174.out; have hnc10 := NB174_184.out; have hnb11 := NB184_175.out; have hnc11 := NB175_184.out; have hcz12_0 : w9.cell? ⟨gb184, 0, none⟩ = some (.bool false) := (blk_cell BK184.out 0).trans rfl; have hcz12_1 : w9.cell? ⟨gb184, 1, none⟩ = some (.slice none 0 0) := (blk_cell BK184.out 1).trans rfl; have hcz12_2 : w9.cell? ⟨gb184, 2, none⟩ = some (.slice none 0 0) := (blk_cell BK184.out 2).trans rfl; have hfz12_0 := blk_frozen BK184.out 0; have hfz12_1 := blk_frozen BK184.out 1; have hfz12_2 := blk_frozen BK184.out 2; obtain ⟨Ao13, co13, eo13⟩ := Kd.R_slice HO179.out; subst eo13; obtain ⟨Ao14, co14, eo14⟩ := Kd.R_slice HO182.out; subst eo14; have hcz15_0 : w9.cell? ⟨gb175, 0, none⟩ = some (.bool false) := (blk_cell BK175.out 0).trans rfl; have hcz15_1 : w9.cell? ⟨gb175, 1, none⟩ = some (.slice none 0 0) := (blk_cell BK175.out 1).trans rfl; have hcz15_2 : w9.cell? ⟨gb175, 2, none⟩ = some (.slice none 0 0) := (blk_cell BK175.out 2).trans rfl; have hfz15_0 := blk_frozen BK175.out 0; have hfz15_1 := blk_frozen BK175.out 1; have hfz15_2 := blk_frozen BK175.out 2))
    refine bodyPost_ret (results_cell_row rfl _ _ gb175 25 #[.bool t176, .slice Ao13 t177.length co13, .slice Ao14 t180.length co14] (0, 0) _ rfl (by refine blk_put (cs := #[.bool t176, .slice Ao13 t177.length co13, .slice none 0 0]) ?_ 2 _ rfl; refine blk_put (cs := #[.bool t176, .slice none 0 0, .slice none 0 0]) ?_ 1 _ rfl; refine blk_put (cs := #[.bool false, .slice none 0 0, .slice none 0 0]) ?_ 0 _ rfl; refine blk_far ?_ NB175_184.out _; refine blk_far ?_ NB175_184.out _; refine blk_far ?_ NB175_184.out _; exact BK175.out) Tryz.underlying25 rfl (by kernel_rfl)) rfl ?_
    exact ⟨_, _, by first | rfl | (simp [errW_none, errW_some] <;> rfl) | (simp [*, errW_none, errW_some] <;> rfl), by exact Kd.R_mono (Kd.R_far (p := ⟨gb175, 2, none⟩) (Kd.R_far (p := ⟨gb175, 1, none⟩) (Kd.R_far (p := ⟨gb175, 0, none⟩) (Kd.R_far (p := ⟨gb184, 2, none⟩) (Kd.R_far (p := ⟨gb184, 1, none⟩) (Kd.R_far (p := ⟨gb184, 0, none⟩) (Kd.R_types (Kd.R_types HO179.out BK184.out (by decide)) BK175.out (by decide)) (fun _ hk => hk.1.2) (.bool t176)) (fun _ hk => hk.1.2) (.slice Ao13 t177.length co13)) (fun _ hk => hk.1.2) (.slice Ao14 t180.length co14)) (fun _ hk => hk.2) (.bool t176)) (fun _ hk => hk.2) (.slice Ao13 t177.length co13)) (fun _ hk => hk.2) (.slice Ao14 t180.length co14)) (fun _ hk => hk.1.1), by exact Kd.R_mono (Kd.R_far (p := ⟨gb175, 2, none⟩) (Kd.R_far (p := ⟨gb175, 1, none⟩) (Kd.R_far (p := ⟨gb175, 0, none⟩) (Kd.R_far (p := ⟨gb184, 2, none⟩) (Kd.R_far (p := ⟨gb184, 1, none⟩) (Kd.R_far (p := ⟨gb184, 0, none⟩) (Kd.R_types (Kd.R_types HO182.out BK184.out (by decide)) BK175.out (by decide)) (fun _ hk => hk.1.2) (.bool t176)) (fun _ hk => hk.1.2) (.slice Ao13 t177.length co13)) (fun _ hk => hk.1.2) (.slice Ao14 t180.length co14)) (fun _ hk => hk.2) (.bool t176)) (fun _ hk => hk.2) (.slice Ao13 t177.length co13)) (fun _ hk => hk.2) (.slice Ao14 t180.length co14)) (fun _ hk => hk.1.1), by repeat (first | (with_reducible first | exact HB.out | apply below_alloc | apply pw_below_drewN | apply below_drew1 | refine below_set ?_ GE174.out | refine below_set ?_ GE175.out | refine below_set ?_ GE184.out) | exact HB.out)⟩
  · rw [if_neg c3] at H
    have c3b0 : (t183 == 0) = false := beq_eq_false_iff_ne.mpr c3
    have c3b1 : (t183 != 0) = true := bne_iff_ne.mpr c3
    replace H := Option.bind_eq_some_iff.mp H
    obtain ⟨t185, A160, H⟩ := H
    try dsimp only at H
    have A16 := Aside0.mk A160
    clear A160
    simp only [Option.some.injEq, Prod.mk.injEq] at H
    obtain ⟨rfl, rfl, rfl⟩ := H
    go_enter Tryz.func29, Tryz.ntmps29
    go_wp2_with (first | ((with_reducible refine gate_dst (N := 1) rfl ?_); refine box_event ?hg (N := 1) ?hd (cs := #[.bool a0_0, .slice A0_1 l0_1.length c0_1, .slice A0_2 l0_2.length c0_2]) (t := 25) ?hr ?_; (case hd => rfl); (case hg => rfl); (case hr => first | (go_simp; done) | (go_simp; rfl)); intro gb174 hg w17 hbox hb; have n0_ := Aside0.mk (below_step (by repeat (first | (with_reducible first | exact HB.out | apply below_alloc | apply pw_below_drewN | apply below_drew1) | exact HB.out)) hb); have n1_ := Aside0.mk (hbox); have n2_ := Aside0.mk ((by rw [hg]; exact (below_size (by repeat (first | (with_reducible first | exact HB.out | apply below_alloc | apply pw_below_drewN | apply below_drew1) | exact HB.out))) : w.heap.size ≤ gb174)); have n3_ := Aside0.mk ((by rw [hg]; exact (below_size (by repeat (first | (with_reducible first | exact HB.out | apply below_alloc | apply pw_below_drewN | apply below_drew1) | exact HB.out))) : w.heap.size ≤ gb174)); clear HB; have HB := n0_; have BK174 := n1_; have GW174 := n2_; have GE174 := n3_; clear n0_ n1_ n2_ n3_; clear hb hbox hg) | ((with_reducible refine gate_dst (N := 2) rfl ?_); refine box_event ?hg (N := 2) ?hd (cs := #[.bool false, .slice none 0 0, .slice none 0 0]) (t := 25) ?hr ?_; (case hd => rfl); (case hg => rfl); (case hr => first | (go_simp; done) | (go_simp; rfl)); intro gb175 hg w18 hbox hb; have n0_ := Aside0.mk (blk_below (g := gb174) (o := .cells #[.bool a0_0, .slice A0_1 l0_1.length c0_1, .slice A0_2 l0_2.length c0_2] 25 (0, 0)) (by exact BK174.out) hb); have n1_ := Aside0.mk (below_step (by repeat (first | (with_reducible first | exact HB.out | apply below_alloc | apply pw_below_drewN | apply below_drew1 | refine below_set ?_ GE174.out) | exact HB.out)) hb); have n2_ := Aside0.mk (hbox); have n3_ := Aside0.mk ((by rw [hg]; exact (below_size (by repeat (first | (with_reducible first | exact HB.out | apply below_alloc | apply pw_below_drewN | apply below_drew1 | refine below_set ?_ GE174.out) | exact HB.out))) : w.heap.size ≤ gb175)); have n4_ := Aside0.mk ((by rw [hg]; exact (below_size (by repeat (first | (with_reducible first | exact HB.out | apply below_alloc | apply pw_below_drewN | apply below_drew1 | refine below_set ?_ GE174.out) | exact HB.out))) : w.heap.size ≤ gb175)); have n5_ := Aside0.mk ((by rw [hg]; exact Nat.ne_of_lt (blk_lt (g := gb174) (o := .cells #[.bool a0_0, .slice A0_1 l0_1.length c0_1, .slice A0_2 l0_2.length c0_2] 25 (0, 0)) (by exact BK174.out)) : gb174 ≠ gb175)); have n6_ := Aside0.mk ((by rw [hg]; exact Nat.ne_of_gt (blk_lt (g := gb174) (o := .cells #[.bool a0_0, .slice A0_1 l0_1.length c0_1, .slice A0_2 l0_2.length c0_2] 25 (0, 0)) (by exact BK174.out)) : gb175 ≠ gb174)); clear BK174; clear HB; have BK174 := n0_; have HB := n1_; have BK175 := n2_; have GW175 := n3_; have GE175 := n4_; have NB174_175 := n5_; have NB175_174 := n6_; clear n0_ n1_ n2_ n3_ n4_ n5_ n6_; clear hb hbox hg; have hnb19 := NB174_175.out; have hnc19 := NB175_174.out; have hcz20_0 : w18.cell? ⟨gb174, 0, none⟩ = some (.bool a0_0) := (blk_cell BK174.out 0).trans rfl; have hcz20_1 : w18.cell? ⟨gb174, 1, none⟩ = some (.slice A0_1 l0_1.length c0_1) := (blk_cell BK174.out 1).trans rfl; have hcz20_2 : w18.cell? ⟨gb174, 2, none⟩ = some (.slice A0_2 l0_2.length c0_2) := (blk_cell BK174.out 2).trans rfl; have hfz20_0 := blk_frozen BK174.out 0; have hfz20_1 := blk_frozen BK174.out 1; have hfz20_2 := blk_frozen BK174.out 2) | ((with_reducible refine gate_callee (f := 61) rfl ?_); refine goesL_ (some 12) rfl rfl Tryz.func61 (by kernel_rfl) rfl #[.bool a0_0, .slice A0_1 l0_1.length c0_1, .slice A0_2 l0_2.length c0_2] rfl (by (try simp only [List.map_toArray, List.map_cons, List.map_nil]); first | done | rfl | (simp only [List.length_drop, List.length_take]; rfl)) ?_; (with_reducible refine (rat_Make.calls a0_0 _ _ l0_1 _ _ l0_2 t176 t177 t180 t183 _ ?side1 ?side2 ?side3 ?side4 A2.out).mono ?_); (case side1 => repeat (first | exact (Kd.C_below HR0_1.out HB.out) | (with_reducible refine Kd.C_alloc ?_ _) | (with_reducible refine Kd.C_drewN ?_ _) | (with_reducible refine Kd.C_drew ?_))); (case side2 => exact HC0_1.out); (case side3 => repeat (first | exact (Kd.C_below HR0_2.out HB.out) | (with_reducible refine Kd.C_alloc ?_ _) | (with_reducible refine Kd.C_drewN ?_ _) | (with_reducible refine Kd.C_drew ?_))); (case side4 => exact HC0_2.out); rintro e w21 ⟨v178, v181, rfl, ho0, ho1, hb⟩; refine ⟨_, rfl, ?_⟩; have n0_ := Aside0.mk (Kd.R_lower ho0 (below_size (by repeat (first | (with_reducible first | exact HB.out | apply below_alloc | apply pw_below_drewN | apply below_drew1 | refine below_set ?_ GE174.out | refine below_set ?_ GE175.out) | exact HB.out)))); have n1_ := Aside0.mk (Kd.R_lower ho1 (below_size (by repeat (first | (with_reducible first | exact HB.out | apply below_alloc | apply pw_below_drewN | apply below_drew1 | refine below_set ?_ GE174.out | refine below_set ?_ GE175.out) | exact HB.out)))); have n2_ := Aside0.mk (blk_below (g := gb174) (o := .cells #[.bool a0_0, .slice A0_1 l0_1.length c0_1, .slice A0_2 l0_2.length c0_2] 25 (0, 0)) (by exact BK174.out) hb); have n3_ := Aside0.mk (blk_below (g := gb175) (o := .cells #[.bool false, .slice none 0 0, .slice none 0 0] 25 (0, 0)) (by exact BK175.out) hb); have n4_ := Aside0.mk (below_step (by repeat (first | (with_reducible first | exact HB.out | apply below_alloc | apply pw_below_drewN | apply below_drew1 | refine below_set ?_ GE174.out | refine below_set ?_ GE175.out) | exact HB.out)) hb); clear BK174; clear BK175; clear HB; have HO179 := n0_; have HO182 := n1_; have BK174 := n2_; have BK175 := n3_; have HB := n4_; clear n0_ n1_ n2_ n3_ n4_; (try clear hb); (try clear hb2); (try clear hk); (try clear hi); (try clear ho0); (try clear ho1)) | ((with_reducible refine gate_dst (N := 3) rfl ?_); refine box_event ?hg (N := 3) ?hd (cs := #[.bool false, .slice none 0 0, .slice none 0 0]) (t := 25) ?hr ?_; (case hd => rfl); (case hg => rfl); (case hr => first | (go_simp; done) | (go_simp; rfl)); intro gb184 hg w22 hbox hb; have n0_ := Aside0.mk (Kd.R_below (by exact HO179.out) hb); have n1_ := Aside0.mk (Kd.R_below (by exact HO182.out) hb); have n2_ := Aside0.mk (blk_below (g := gb174) (o := .cells #[.bool a0_0, .slice A0_1 l0_1.length c0_1, .slice A0_2 l0_2.length c0_2] 25 (0, 0)) (by exact BK174.out) hb); have n3_ := Aside0.mk (blk_below (g := gb175) (o := .cells #[.bool false, .slice none 0 0, .slice none 0 0] 25 (0, 0)) (by exact BK175.out) hb); have n4_ := Aside0.mk (below_step (by repeat (first | (with_reducible first | exact HB.out | apply below_alloc | apply pw_below_drewN | apply below_drew1 | refine below_set ?_ GE174.out | refine below_set ?_ GE175.out) | exact HB.out)) hb); have n5_ := Aside0.mk (hbox); have n6_ := Aside0.mk ((by rw [hg]; exact (below_size (by repeat (first | (with_reducible first | exact HB.out | apply below_alloc | apply pw_below_drewN | apply below_drew1 | refine below_set ?_ GE174.out | refine below_set ?_ GE175.out) | exact HB.out))) : w.heap.size ≤ gb184)); have n7_ := Aside0.mk ((by rw [hg]; exact (below_size (by repeat (first | (with_reducible first | exact HB.out | apply below_alloc | apply pw_below_drewN | apply below_drew1 | refine below_set ?_ GE174.out | refine below_set ?_ GE175.out) | exact HB.out))) : w.heap.size ≤ gb184)); have n8_ := Aside0.mk ((by rw [hg]; exact Nat.ne_of_lt (blk_lt (g := gb174) (o := .cells #[.bool a0_0, .slice A0_1 l0_1.length c0_1, .slice A0_2 l0_2.length c0_2] 25 (0, 0)) (by exact BK174.out)) : gb174 ≠ gb184)); have n9_ := Aside0.mk ((by rw [hg]; exact Nat.ne_of_gt (blk_lt (g := gb174) (o := .cells #[.bool a0_0, .slice A0_1 l0_1.length c0_1, .slice A0_2 l0_2.length c0_2] 25 (0, 0)) (by exact BK174.out)) : gb184 ≠ gb174)); have n10_ := Aside0.mk ((by rw [hg]; exact Nat.ne_of_lt (blk_lt (g := gb175) (o := .cells #[.bool false, .slice none 0 0, .slice none 0 0] 25 (0, 0)) (by exact BK175.out)) : gb175 ≠ gb184)); have n11_ := Aside0.mk ((by rw [hg]; exact Nat.ne_of_gt (blk_lt (g := gb175) (o := .cells #[.bool false, .slice none 0 0, .slice none 0 0] 25 (0, 0)) (by exact BK175.out)) : gb184 ≠ gb175)); clear HO179; clear HO182; clear BK174; clear BK175; clear HB; have HO179 := n0_; have HO182 := n1_; have BK174 := n2_; have BK175 := n3_; have HB := n4_; have BK184 := n5_; have GW184 := n6_; have GE184 := n7_; have NB174_184 := n8_; have NB184_174 := n9_; have NB175_184 := n10_; have NB184_175 := n11_; clear n0_ n1_ n2_ n3_ n4_ n5_ n6_ n7_ n8_ n9_ n10_ n11_; clear hb hbox hg; have hnb23 := NB184_174.out; have hnc23 := NB174_184.out; have hnb24 := NB184_175.out; have hnc24 := NB175_184.out; have hcz25_0 : w22.cell? ⟨gb184, 0, none⟩ = some (.bool false) := (blk_cell BK184.out 0).trans rfl; have hcz25_1 : w22.cell? ⟨gb184, 1, none⟩ = some (.slice none 0 0) := (blk_cell BK184.out 1).trans rfl; have hcz25_2 : w22.cell? ⟨gb184, 2, none⟩ = some (.slice none 0 0) := (blk_cell BK184.out 2).trans rfl; have hfz25_0 := blk_frozen BK184.out 0; have hfz25_1 := blk_frozen BK184.out 1; have hfz25_2 := blk_frozen BK184.out 2; obtain ⟨Ao26, co26, eo26⟩ := Kd.R_slice HO179.out; subst eo26; obtain ⟨Ao27, co27, eo27⟩ := Kd.R_slice HO182.out; subst eo27) | ((with_reducible refine gate_callee (f := 62) rfl ?_); refine goesL_ (some 17) rfl rfl Tryz.func62 (by kernel_rfl) rfl #[] rfl (by (try simp only [List.map_toArray, List.map_cons, List.map_nil]); first | done | rfl | (simp only [List.length_drop, List.length_take]; rfl)) ?_; (with_reducible refine (rat_one.calls  t185 _ A16.out).mono ?_); rintro e w28 ⟨v186, rfl, ho0, hb⟩; refine ⟨_, rfl, ?_⟩; have n0_ := Aside0.mk (Kd.R_elder' (by exact (Kd.R_mono (Kd.R_far (p := ⟨gb184, 2, none⟩) (Kd.R_far (p := ⟨gb184, 1, none⟩) (Kd.R_far (p := ⟨gb184, 0, none⟩) (Kd.R_types HO179.out BK184.out (by decide)) (fun _ hk => hk.2) (.bool t176)) (fun _ hk => hk.2) (.slice Ao26 t177.length co26)) (fun _ hk => hk.2) (.slice Ao27 t180.length co27)) (fun _ h_ => h_.1))) (Kd.R_base ho0) hb); have n1_ := Aside0.mk (Kd.R_elder' (by exact (Kd.R_mono (Kd.R_far (p := ⟨gb184, 2, none⟩) (Kd.R_far (p := ⟨gb184, 1, none⟩) (Kd.R_far (p := ⟨gb184, 0, none⟩) (Kd.R_types HO182.out BK184.out (by decide)) (fun _ hk => hk.2) (.bool t176)) (fun _ hk => hk.2) (.slice Ao26 t177.length co26)) (fun _ hk => hk.2) (.slice Ao27 t180.length co27)) (fun _ h_ => h_.1))) (Kd.R_base ho0) hb); have n2_ := Aside0.mk (Kd.R_lower (Kd.R_new' (Kd.R_new' ho0 (Kd.R_lt (by exact (Kd.R_mono (Kd.R_far (p := ⟨gb184, 2, none⟩) (Kd.R_far (p := ⟨gb184, 1, none⟩) (Kd.R_far (p := ⟨gb184, 0, none⟩) (Kd.R_types HO179.out BK184.out (by decide)) (fun _ hk => hk.2) (.bool t176)) (fun _ hk => hk.2) (.slice Ao26 t177.length co26)) (fun _ hk => hk.2) (.slice Ao27 t180.length co27)) (fun _ h_ => h_.1))))) (Kd.R_lt (by exact (Kd.R_mono (Kd.R_far (p := ⟨gb184, 2, none⟩) (Kd.R_far (p := ⟨gb184, 1, none⟩) (Kd.R_far (p := ⟨gb184, 0, none⟩) (Kd.R_types HO182.out BK184.out (by decide)) (fun _ hk => hk.2) (.bool t176)) (fun _ hk => hk.2) (.slice Ao26 t177.length co26)) (fun _ hk => hk.2) (.slice Ao27 t180.length co27)) (fun _ h_ => h_.1))))) (below_size (by repeat (first | (with_reducible first | exact HB.out | apply below_alloc | apply pw_below_drewN | apply below_drew1 | refine below_set ?_ GE174.out | refine below_set ?_ GE175.out | refine below_set ?_ GE184.out) | exact HB.out)))); have n3_ := Aside0.mk (blk_below (g := gb174) (o := .cells #[.bool a0_0, .slice A0_1 l0_1.length c0_1, .slice A0_2 l0_2.length c0_2] 25 (0, 0)) (by refine blk_far ?_ NB174_184.out _; refine blk_far ?_ NB174_184.out _; refine blk_far ?_ NB174_184.out _; exact BK174.out) hb); have n4_ := Aside0.mk (blk_below (g := gb175) (o := .cells #[.bool false, .slice none 0 0, .slice none 0 0] 25 (0, 0)) (by refine blk_far ?_ NB175_184.out _; refine blk_far ?_ NB175_184.out _; refine blk_far ?_ NB175_184.out _; exact BK175.out) hb); have n5_ := Aside0.mk (blk_below (g := gb184) (o := .cells #[.bool t176, .slice Ao26 t177.length co26, .slice Ao27 t180.length co27] 25 (0, 0)) (by refine blk_put (cs := #[.bool t176, .slice Ao26 t177.length co26, .slice none 0 0]) ?_ 2 _ rfl; refine blk_put (cs := #[.bool t176, .slice none 0 0, .slice none 0 0]) ?_ 1 _ rfl; refine blk_put (cs := #[.bool false, .slice none 0 0, .slice none 0 0]) ?_ 0 _ rfl; exact BK184.out) hb); have n6_ := Aside0.mk (below_step (by repeat (first | (with_reducible first | exact HB.out | apply below_alloc | apply pw_below_drewN | apply below_drew1 | refine below_set ?_ GE174.out | refine below_set ?_ GE175.out | refine below_set ?_ GE184.out) | exact HB.out)) hb); clear HO179; clear HO182; clear BK174; clear BK175; clear BK184; clear HB; have HO179 := n0_; have HO182 := n1_; have HO187 := n2_; have BK174 := n3_; have BK175 := n4_; have BK184 := n5_; have HB := n6_; clear n0_ n1_ n2_ n3_ n4_ n5_ n6_; (try clear hb); (try clear hb2); (try clear hk); (try clear hi); (try clear ho0); obtain ⟨Ao29, co29, eo29⟩ := Kd.R_slice HO187.out; subst eo29; have hcz30_0 : w28.cell? ⟨gb175, 0, none⟩ = some (.bool false) := (blk_cell BK175.out 0).trans rfl; have hcz30_1 : w28.cell? ⟨gb175, 1, none⟩ = some (.slice none 0 0) := (blk_cell BK175.out 1).trans rfl; have hcz30_2 : w28.cell? ⟨gb175, 2, none⟩ = some (.slice none 0 0) := (blk_cell BK175.out 2).trans rfl; have hfz30_0 := blk_frozen BK175.out 0; have hfz30_1 := blk_frozen BK175.out 1; have hfz30_2 := blk_frozen BK175.out 2))
    refine bodyPost_ret (results_cell_row rfl _ _ gb175 25 #[.bool false, .slice none 0 0, .slice Ao29 t185.length co29] (0, 0) _ rfl (by refine blk_put (cs := #[.bool false, .slice none 0 0, .slice none 0 0]) ?_ 2 _ rfl; refine blk_put (cs := #[.bool false, .slice none 0 0, .slice none 0 0]) ?_ 1 _ rfl; refine blk_put (cs := #[.bool false, .slice none 0 0, .slice none 0 0]) ?_ 0 _ rfl; exact BK175.out) Tryz.underlying25 rfl (by kernel_rfl)) rfl ?_
    exact ⟨_, _, by first | rfl | (simp [errW_none, errW_some] <;> rfl) | (simp [*, errW_none, errW_some] <;> rfl), by first | exact Kd.R_nil _ _ _ _ _ | exact Kd.N_nil _ _ _ _ _ | exact Kd.V_nil _ _ _ _ _ | exact Kd.Q_nil _ _ _ _ _ | exact Kd.S_nil _ _ _ _ _, by exact Kd.R_mono (Kd.R_far (p := ⟨gb175, 2, none⟩) (Kd.R_far (p := ⟨gb175, 1, none⟩) (Kd.R_far (p := ⟨gb175, 0, none⟩) (Kd.R_types HO187.out BK175.out (by decide)) (fun _ hk => hk.2) (.bool false)) (fun _ hk => hk.2) (.slice none 0 0)) (fun _ hk => hk.2) (.slice Ao29 t185.length co29)) (fun _ hk => (by simp [Value.ownBlock])), by repeat (first | (with_reducible first | exact HB.out | apply below_alloc | apply pw_below_drewN | apply below_drew1 | refine below_set ?_ GE174.out | refine below_set ?_ GE175.out | refine below_set ?_ GE184.out) | exact HB.out)⟩

end Go.Proofs.YtpncflaoikeidaaGreatDoor.P
namespace Go.Proofs.YtpncflaoikeidaaGreatDoor.H
open Go.RowKit Go.Shelf Go.Proofs.YtpncflaoikeidaaGreatDoorW.PrintWords Go.Proofs.YtpncflaoikeidaaGreatDoorW.PrintLast Go.Proofs.YtpncflaoikeidaaGreatDoorW.PrintMore Go.Proofs.YtpncflaoikeidaaGreatDoor.P
attribute [local go_sem] Oper.semAt_some
abbrev encB (xs : List Int) : Nat → Array Value := fun x => #[.int .i64 (x : Int), .int .u32 (rd xs (x : Int))]
set_option maxRecDepth 100000 in
set_option maxHeartbeats 1000000 in
theorem back1_in (F : Fence) (n : Nat) (h7 : F.fn 81) (hro : F.round = none) (hn : 1 ≤ n) (l Bn : Nat) (xs : List Int) (N : Nat) (hN : N < 1000000000) (A : Option Addr) (c : Nat) (Kp : World → World → Prop) (Kw : World → Prop) (hKw : ∀ {A B : World}, Kw A → Kp A B → Kw B) (J Jx : List Nat → World → Prop)
    (hY : ∀ pre x W, J pre W → pre.length < N → YieldAt F (n - 1) Tryz.prog l (encB xs x) W fun e W' =>
      (e = .returned (.bool true) ∧ J (pre ++ [x]) W' ∧ Kp W W') ∨ (e = .returned (.bool false) ∧ Jx (pre ++ [x]) W'))
    (W : World) (hkeep : ∀ W', Kw W' → W'.cell? ⟨Bn, 0, none⟩ = some (.slice A N c) ∧ Kd.C (Kd.int .u32) W' A N xs) (hw0 : Kw W) (h0 : J [] W) :
    CallsIn F n Tryz.prog 81 #[.func (.yield l) #[] #[], .pointer (some ⟨Bn, 0, none⟩)] W fun e W' => (∃ v, e = .returned v) ∧
      ((∃ ys, ys = downTo N N ∧ J ys W') ∨ (∃ pre, (∃ k, k ≤ N ∧ pre = downTo N k) ∧ Jx pre W')) := by
  have HK := Aside0.mk hkeep
  have hBn := (hkeep W hw0).1
  clear hkeep
  refine callsIn_of_wp Tryz.func81 rfl h7 ?_ hro
  simp only [Tryz.ntmps81, List.size_toArray, List.length_cons, List.length_nil, Nat.reduceAdd, Nat.reduceSub, Array.replicate_succ, Array.replicate_zero, List.push_toArray, List.append_toArray, List.nil_append, List.cons_append]
  gi_wp2
  gi_loopw [3] (fun i wr => ∃ k : Nat, k ≤ N ∧ i = .int .i64 ((N : Int) - 1 - (k : Int)) ∧ J (downTo N k) wr ∧ Aside0 (Kw wr))
    (fun i _ => (intOf i + 1).toNat)
  case atStart => exact ⟨0, Nat.zero_le _, by simp, h0, ⟨hw0⟩⟩
  case round =>
    obtain ⟨k, hk, rfl, hJs, HBL⟩ := hrel
    by_cases hlt : k < N
    · have hx0 : (0 : Int) ≤ (N : Int) - 1 - (k : Int) := by omega
      obtain ⟨x, hx⟩ : ∃ x : Nat, N - 1 - k = x := ⟨_, rfl⟩
      have hxe : (N : Int) - 1 - (k : Int) = (x : Int) := by omega
      obtain ⟨fn, tmps, assign, body, hy, hR⟩ := hY _ x wr hJs (by rw [downTo_length]; exact hlt)
      obtain ⟨hcell, hC⟩ := HK.out wr HBL.out
      obtain ⟨ad, ead, hat⟩ := Kd.at_int hC (x : Int) (by omega) (by omega)
      subst ead
      dsimp only [encB] at hy
      rw [Int.toNat_natCast] at hat
      obtain ⟨v, hv⟩ : ∃ v, rd xs (x : Int) = v := ⟨_, rfl⟩
      rw [hv] at hat hy
      rw [hxe]
      have HX := Aside0.mk hxe
      have HX2 := Aside0.mk hx
      have hxN : (x : Int) < (N : Int) := by omega
      clear hxe hx hx0 hC hv
      have hx0 : (0 : Int) ≤ (x : Int) := Int.natCast_nonneg _
      gi_wp2
      refine hR.mono ?_
      rintro e W3 (⟨rfl, hJ3, hk3⟩ | ⟨rfl, hJx3⟩)
      · gi_wp2
        go_roundw
        case rel => exact ⟨k + 1, by omega, by have := HX.out; have e : (x : Int) - 1 = (N : Int) - 1 - ((k + 1 : Nat) : Int) := by omega
                                               rw [← e], by rw [downTo_succ, HX2.out]; exact hJ3, ⟨hKw HBL.out hk3⟩⟩
        case measure => simp [intOf]
      · gi_wp2
        refine bodyPost_ret (results_none rfl _ _ _) rfl ?_
        exact ⟨⟨_, rfl⟩, .inr ⟨_, ⟨k + 1, by omega, by rw [downTo_succ, HX2.out]⟩, hJx3⟩⟩
    · obtain rfl : k = N := by omega
      have e1 : ((k : Int) - 1 - (k : Int)) = -1 := by omega
      rw [e1]
      gi_wp2
      go_end0
      exact ⟨⟨_, rfl⟩, .inl ⟨_, rfl, hJs⟩⟩
theorem back_stops (F : Fence) (n : Nat) (h7 : F.fn 81) (hro : F.round = none) (hn : 1 ≤ n) (Bn : Nat) (xs : List Int) (N : Nat) (hN : N < 1000000000) (A : Option Addr) (c : Nat) (Kp : World → World → Prop) (Kw : World → Prop) (hKw : ∀ {A B : World}, Kw A → Kp A B → Kw B) (w : World) (hw : ∀ W, Below w.heap.size w W → Kw W) (hkeep : ∀ W', Kw W' → W'.cell? ⟨Bn, 0, none⟩ = some (.slice A N c) ∧ Kd.C (Kd.int .u32) W' A N xs) :
    SeqStopsK F n Tryz.prog 81 #[.pointer (some ⟨Bn, 0, none⟩)] (encB xs) Kp (fun ys => ys = downTo N N) (fun pre => ∃ k, k ≤ N ∧ pre = downTo N k) N w :=
  fun l J Jx W hW _ _ hY h0 => back1_in F n h7 hro hn l Bn xs N hN A c Kp Kw hKw J Jx hY W hkeep (hw W hW) h0
set_option maxRecDepth 100000 in
set_option maxHeartbeats 1000000 in
theorem backward_any (A : Option Addr) (n c : Nat) (w : World) :
    Calls Tryz.prog 44 #[.slice A n c] w fun e w' => e = .returned (.func (.func 81) #[] #[.pointer (some ⟨w.heap.size, 0, none⟩)]) ∧ w' = w.alloc (.cells #[.slice A n c] 22) := by
  go_enter Tryz.func44, Tryz.ntmps44
  go_wp2
  go_ret
  exact ⟨rfl, rfl⟩
end Go.Proofs.YtpncflaoikeidaaGreatDoor.H
namespace Go.Proofs.YtpncflaoikeidaaGreatDoor.P
open Go.RowKit Go.Sort Go.Lib Go.Proofs.YtpncflaoikeidaaGreatDoorW.PrintWords Go.Proofs.YtpncflaoikeidaaGreatDoorW.PrintLast Go.Proofs.YtpncflaoikeidaaGreatDoorW.PrintMore
theorem holds_zero0 (w : World) (T : TypeId) (nd : Nat) (hs : nd ≤ 24) : Holds (fun (b : UInt8) => Value.int .u8 (b.toNat : Int)) (w.alloc (.cells zeros24 T)) w.heap.size 0 (Array.replicate nd (0 : UInt8)) := fun j hj => by
  have hj' : j < nd := by simpa using hj
  refine ⟨?_, World.frozen?_alloc_new _ _ _ _⟩
  rw [World.cell?_alloc_new, zeros24_at _ (by omega), getElem!_pos _ j hj]
  simp
theorem fin_zero (w : World) (o : Obj) (dk : Array UInt8) (k : Nat) : ∃ os, (putRow (fun (b : UInt8) => Value.int .u8 (b.toNat : Int)) (w.alloc o) w.heap.size 0 dk).drewN k = grow (w.drewN k) os := by
  rw [alloc_eq_grow]
  obtain ⟨os', _, e⟩ := putRow_grow_new (fun (b : UInt8) => Value.int .u8 (b.toNat : Int)) w #[o] w.heap.size 0 dk (Nat.le_refl _)
  exact ⟨os', by rw [e]; rfl⟩
set_option maxHeartbeats 6400000 in
set_option maxRecDepth 100000 in
theorem fmt_any (u : Nat) (hu : u < 4294967296) (w : World) (htab : Lib.TabIs Tryz.prog w "internal/strconv.uint64pow10" .u64 Lib.pow10Tab) :
    Calls Tryz.prog 82 #[.int .u64 (u : Int), .int .i64 10] w fun e w' => e = .returned (.string ⟨(Lib.decDigits u).toArray⟩) ∧ ∃ k os, w' = grow (w.drewN k) os := by
  have hu64 : u < 18446744073709551616 := by omega
  by_cases hs : u < 100
  · have hwr : IntKind.i64.wrap (u : Int) = (u : Int) := by rw [IntKind.wrap_i64]; omega
    go_enter Tryz.func82, Tryz.ntmps82
    go_wp2_with (go_at_call 112; refine (Tryz.internal_strconv_small u hs _).mono ?_; rintro e w' ⟨rfl, rfl⟩)
    go_ret
    exact ⟨rfl, 0, #[], by simp [World.drewN_zero]⟩
  · have hu1 : 1 ≤ u := by omega
    have hnd20 : Lib.nDigits u ≤ 20 := by have := Lib.numDigits_eq u hu1 hu64; split at this <;> omega
    have hb3 : Lib.nDigits u ≤ 24 := by omega
    have hal : Tryz.prog.arrayLen 138 = 24 := by simp [Program.arrayLen, Tryz.underlying138]
    have hsl1 : ∀ W, (Instr.sliceAt 138 (.pointer (some ⟨w.heap.size, 0, none⟩)) none (some (.int .i64 ((Lib.nDigits u : Nat) : Int))) none).run Tryz.prog W = .ok (.slice (some ⟨w.heap.size, 0, none⟩) (Lib.nDigits u) 24) W := fun W => by
      rw [run_sliceAt_array_h W 138 ⟨w.heap.size, 0, none⟩ (by simp [Program.arrayLen, Program.elem, Tryz.underlying138]) .i64 ((Lib.nDigits u : Nat) : Int) (by omega) (by rw [hal]; omega)]
      go_simp
    have hH0 := holds_zero0 w 138 (Lib.nDigits u) (by omega)
    have hfmt := Tryz.internal_strconv_formatBase10 w.heap.size 0 24 u (Array.replicate (Lib.nDigits u) 0) (w.alloc (.cells Lib.zeros24 138)) hH0 (by rw [Array.size_replicate]; exact Lib.lt_pow_nDigits u) hu64 (by rw [Array.size_replicate]; omega)
    rw [Array.size_replicate] at hfmt
    have HH0 := Lib.hid hH0
    clear hH0 hal
    go_enter Tryz.func82, Tryz.ntmps82
    go_wp2_with (first
      | (go_at_call 113; refine (Tryz.internal_strconv_numDigits u hu1 hu64 _ (Lib.tabIs_alloc htab _)).mono ?_; rintro e w' ⟨rfl, rfl⟩))
    go_at_call 114
    refine hfmt.mono ?_
    rintro e w' ⟨rfl, k, v', dk, rfl, hF⟩
    have hcv : (convert 75 9 (.slice (some ⟨w.heap.size, 0, none⟩) (Lib.nDigits u) 24)).run Tryz.prog ((putRow (fun (b : UInt8) => Value.int .u8 (b.toNat : Int)) (w.alloc (.cells Lib.zeros24 138)) w.heap.size 0 dk).drewN k) = .ok (.string ⟨(Lib.decDigits u).toArray⟩) ((putRow (fun (b : UInt8) => Value.int .u8 (b.toNat : Int)) (w.alloc (.cells Lib.zeros24 138)) w.heap.size 0 dk).drewN k) := by
      have h := run_convert_bytes_back (P := Tryz.prog) ((putRow (fun (b : UInt8) => Value.int .u8 (b.toNat : Int)) (w.alloc (.cells Lib.zeros24 138)) w.heap.size 0 dk).drewN k) 75 9 5 ⟨w.heap.size, 0, none⟩ 24 (Lib.decDigits u) Tryz.underlying75 Tryz.underlying5 Tryz.underlying9 (fun j hj => by
        rw [Lib.row_is_numeral hF j hj, Lib.add_plain, World.cell?_drewN]
        exact cell?_putRow (fun (b : UInt8) => Value.int .u8 (b.toNat : Int)) _ w.heap.size 0 _ dk HH0.out (by rw [hF.size, Array.size_replicate]) j (by rw [hF.size]; rw [Lib.decDigits_length] at hj; exact hj))
      rw [Lib.decDigits_length] at h
      exact h
    go_wp2
    go_ret
    obtain ⟨os, eo⟩ := fin_zero w (.cells Lib.zeros24 138) dk k
    exact ⟨rfl, k, os, eo⟩
theorem below_grow' (w : World) (k : Nat) (os : Array Obj) : Below w.heap.size w (grow (w.drewN k) os) :=
  (pw_below_drewN (Below.refl w.heap.size w) k).trans ⟨rfl, rfl, rfl, by simp [grow], fun i hi => by
    show (w.heap ++ os)[i]? = w.heap[i]?
    exact Array.getElem?_append_left hi⟩
set_option maxHeartbeats 6400000 in
set_option maxRecDepth 100000 in
theorem fmt45_any (u : Nat) (hu : u < 4294967296) (w : World) (htab : Lib.TabIs Tryz.prog w "internal/strconv.uint64pow10" .u64 Lib.pow10Tab) :
    Calls Tryz.prog 45 #[.int .u64 (u : Int), .int .i64 10] w fun e w' => e = .returned (.string ⟨(Lib.decDigits u).toArray⟩) ∧ Below w.heap.size w w' := by
  have F := Aside0.mk (fmt_any u hu w htab)
  clear hu htab
  go_enter Tryz.func45, Tryz.ntmps45
  go_wp2_with (go_at_call 82; with_reducible refine F.out.mono ?_; rintro e w' ⟨rfl, k, os, rfl⟩)
  go_ret
  exact ⟨rfl, below_grow' w k os⟩
end Go.Proofs.YtpncflaoikeidaaGreatDoor.P
namespace Go.Proofs
open Go.Shelf
def Tryz.lays166_ren : Go.Shelf.Ren := ⟨fun | 166 => 46 | 240 => 83 | 276 => 116 | n => n, fun | 0 => 0 | 3 => 3 | 4 => 4 | 9 => 9 | 20 => 20 | 37 => 75 | 70 => 74 | 72 => 77 | 75 => 83 | 164 => 143 | 5 => 5 | 80 => 87 | n => n, fun | n => n⟩
theorem Tryz.lays166 : Go.Proofs.Lays.n166 Tryz.prog Tryz.lays166_ren := {
  mixed := by kernel_rfl
  f166 := Tryz.func46.trans (congrArg some (by kernel_rfl))
  f240 := Tryz.func83.trans (congrArg some (by kernel_rfl))
  f276 := Tryz.func116.trans (congrArg some (by kernel_rfl))
  t0 := Tryz.underlying0
  a0 := Tryz.isAgg0
  z0 := Tryz.sizeOf0
  v0 := Tryz.zeroValue0
  t3 := Tryz.underlying3
  a3 := Tryz.isAgg3
  z3 := Tryz.sizeOf3
  v3 := Tryz.zeroValue3
  t4 := Tryz.underlying4
  a4 := Tryz.isAgg4
  z4 := Tryz.sizeOf4
  v4 := Tryz.zeroValue4
  t9 := Tryz.underlying9
  a9 := Tryz.isAgg9
  z9 := Tryz.sizeOf9
  v9 := Tryz.zeroValue9
  t20 := Tryz.underlying20
  a20 := Tryz.isAgg20
  z20 := Tryz.sizeOf20
  v20 := Tryz.zeroValue20
  t37 := Tryz.underlying75
  a37 := Tryz.isAgg75
  z37 := Tryz.sizeOf75
  v37 := Tryz.zeroValue75
  t70 := Tryz.underlying74
  a70 := Tryz.isAgg74
  z70 := Tryz.sizeOf74
  v70 := Tryz.zeroValue74
  t72 := Tryz.underlying77
  a72 := Tryz.isAgg77
  z72 := Tryz.sizeOf77
  v72 := Tryz.zeroValue77
  t75 := Tryz.underlying83
  a75 := Tryz.isAgg83
  z75 := Tryz.sizeOf83
  v75 := Tryz.zeroValue83
  t164 := Tryz.underlying143
  a164 := Tryz.isAgg143
  z164 := Tryz.sizeOf143
  v164 := Tryz.zeroValue143 }
theorem Tryz.Builder_Extra_166 : Builder.Extra Tryz.prog Tryz.lays166_ren := {
  sizeBuilder := by kernel_rfl
  liesBuilder := by kernel_rfl
  t5 := Tryz.underlying5
  a5 := Tryz.isAgg5
  z5 := Tryz.sizeOf5
  v5 := Tryz.zeroValue5
  infoByte := by kernel_rfl
  cellsByte := by kernel_rfl
  sizeByte := by kernel_rfl
  neB5 := by decide }
open Go.RowKit in
theorem Tryz.Builder_WriteString_k (B b : Nat) (bs : List Value) (s : ByteArray) (w : World) (h : Lib.IsBuilderF 77 5 B b bs w) (hlen : bs.length + s.size ≤ 140737488355328) (hBw : B ≤ w.heap.size) :
    Calls Tryz.prog 46 #[.pointer (some ⟨b, 0, none⟩), .string s] w fun e w' => e = .returned (.tuple #[.int .i64 s.size, .nilIface]) ∧ (Lib.BuilderAtF 77 5 B b (.pointer (some ⟨b, 0, none⟩)) (bs ++ Lib.strCells s) w' ∧ Below B w w' ∧ Lib.OthersKept 5 (some b) w w') := Any.Builder_WriteString_k Tryz.lays166 Tryz.Builder_Extra_166 B b bs s w h hlen hBw
end Go.Proofs
namespace Go.Proofs.YtpncflaoikeidaaGreatDoor.H
open Go.RowKit Go.Shelf Go.Lib Go.Proofs.YtpncflaoikeidaaGreatDoorW.PrintWords Go.Proofs.YtpncflaoikeidaaGreatDoorW.PrintLast Go.Proofs.YtpncflaoikeidaaGreatDoorW.PrintMore Go.Proofs.YtpncflaoikeidaaGreatDoor.P
theorem bf_grown {T e : TypeId} {B b : Nat} {bs : List Value} {w w' : World} {row : Option Nat} (h : IsBuilderF T e B b bs w) (hg : w.grownBy w' row) (hr : ∀ r, row = some r → ∃ o : Obj, w.heap[r]? = some o ∧ o.isCells = false) : IsBuilderF T e B b bs w' := by
  have go : ∀ p, BuilderAtF T e B b p bs w → BuilderAtF T e B b p bs w' := by
    rintro p ⟨hB, v, hb, hown, hne⟩
    have hbr : some b ≠ row := by
      intro hc
      obtain ⟨o, ho, hoc⟩ := hr b hc.symm
      rw [hb] at ho; cases ho; cases hoc
    refine ⟨hB, v, by rw [hg.block b (blk_lt hb) hbr]; exact hb, hown.kept hg ?_, hne⟩
    rcases hown.2 with ⟨rfl, _⟩ | ⟨g, cap, cur, fz, rfl, _, hgg, _⟩
    · exact .inl rfl
    · refine .inr ?_
      intro hc
      obtain ⟨o, ho, hoc⟩ := hr g hc.symm
      rw [hgg] at ho; cases ho; cases hoc
  exact h.elim (fun x => .inl (go _ x)) (fun x => .inr (go _ x))
theorem bf_cells {T e : TypeId} {B b : Nat} {bs : List Value} {w : World} (h : IsBuilderF T e B b bs w) : ∃ c, w.heap[b]? = some (.cells c T (0, 0)) := by
  rcases h with ⟨_, v, hb, _⟩ | ⟨_, v, hb, _⟩ <;> exact ⟨_, hb⟩
structure DigI (b7 : Nat) (wr : World) (box : Array Value) (bs : List UInt8) (W : World) : Prop where
  f : IsBuilderF 77 5 b7 b7 (byteCells bs) W
  x : W.heap[b7 + 1]? = some (.cells box 22 (0, 0))
  b : Below b7 wr W
def DigKp (b7 : Nat) (box : Array Value) (A B : World) : Prop := Below b7 A B ∧ (A.heap[b7 + 1]? = some (.cells box 22 (0, 0)) → B.heap[b7 + 1]? = some (.cells box 22 (0, 0)))
theorem DigKp.trans {b7 : Nat} {box : Array Value} {A B C : World} (h : DigKp b7 box A B) (k : DigKp b7 box B C) : DigKp b7 box A C := ⟨h.1.trans k.1, fun x => k.2 (h.2 x)⟩
/-- one step of the body -/
structure DigS (b7 : Nat) (wr : World) (box : Array Value) (bs : List UInt8) (W W' : World) : Prop where
  i : DigI b7 wr box bs W'
  o : KeepsOthers W W'
  k : DigKp b7 box W W'
theorem DigI.start {b7 : Nat} {wr : World} {box : Array Value} {bs : List UInt8} {W : World} (h : DigI b7 wr box bs W) : DigS b7 wr box bs W W := ⟨h, KeepsOthers.refl W, Below.refl _ _, fun x => x⟩
theorem DigS.below {b7 : Nat} {wr : World} {box : Array Value} {bs : List UInt8} {W0 W W' : World} (h : DigS b7 wr box bs W0 W) (hb : Below W.heap.size W W') : DigS b7 wr box bs W0 W' := by
  have hlt := blk_lt h.i.x
  have hbm : Below b7 W W' := hb.mono (by omega)
  exact ⟨⟨bf_grown h.i.f (grown_of_below hb none) (fun r e => by cases e), blk_below h.i.x hb, h.i.b.trans hbm⟩, h.o.trans ⟨hb.size, fun k o hk _ => blk_below hk hb⟩, h.k.trans ⟨hbm, fun x => blk_below x hb⟩⟩
theorem DigS.write {b7 : Nat} {wr : World} {box : Array Value} {bs : List UInt8} {W0 W W' : World} {s : ByteArray} (h : DigS b7 wr box bs W0 W) (h1 : BuilderAtF 77 5 b7 b7 (.pointer (some ⟨b7, 0, none⟩)) (byteCells bs ++ strCells s) W') (h2 : Below b7 W W') (h3 : OthersKept 5 (some b7) W W') : DigS b7 wr box (bs ++ s.data.toList) W0 W' := by
  have hx : ∀ {A : World}, A = W → A.heap[b7 + 1]? = some (.cells box 22 (0, 0)) → W'.heap[b7 + 1]? = some (.cells box 22 (0, 0)) := by
    rintro A rfl hA
    exact h3 _ _ hA (by simp) (fun c fz hc => by cases hc)
  obtain ⟨c, hc⟩ := bf_cells h.i.f
  refine ⟨⟨.inr ?_, hx rfl h.i.x, h.i.b.trans h2⟩, h.o.trans ⟨h2.size, fun k o hk ho => h3 k o hk (fun e => ?_) (fun c fz hc => by rw [hc] at ho; cases ho)⟩, h.k.trans ⟨h2, hx rfl⟩⟩
  · rw [strCells_eq] at h1
    rw [show byteCells (bs ++ s.data.toList) = byteCells bs ++ byteCells s.data.toList by simp [byteCells]]
    exact h1
  · cases e
    rw [hc] at hk; cases hk; cases ho
theorem digI_own {β : Type} {b7 B : Nat} {wr : World} {box : Array Value} (hn : b7 ≤ wr.heap.size) (hB : b7 ≤ B) (f : β → List UInt8) : OwnFrom B (fun (s : β) W => DigI b7 wr box (f s) W) := fun s W W' row hs hg hr => by
  refine ⟨bf_grown hs.f hg (fun r e => (hr r e).2), ?_, ownFrom_below (β := β) hn hB s W W' row hs.b hg hr⟩
  have hne : some (b7 + 1) ≠ row := by
    intro hc
    obtain ⟨_, o, ho, hoc⟩ := hr _ hc.symm
    rw [hs.x] at ho; cases ho; cases hoc
  rw [hg.block _ (blk_lt hs.x) hne]; exact hs.x
theorem repeatL_one (x : UInt8) : ∀ c, repeatL [x] c = List.replicate c x
  | 0 => rfl
  | c + 1 => by rw [repeatL, repeatL_one x c, List.replicate_succ]; rfl
theorem piece_len {xs : List Nat} (h : ∀ x ∈ xs, x < 1000000000) (x : Nat) : (piece xs x).length ≤ 9 ∧ xs.getD x 0 < 1000000000 := by
  have hu : xs.getD x 0 < 1000000000 := by
    rw [List.getD_eq_getElem?_getD]
    rcases Nat.lt_or_ge x xs.length with hx | hx
    · rw [List.getElem?_eq_getElem hx]; exact h _ (List.getElem_mem hx)
    · rw [List.getElem?_eq_none hx]; decide
  have hl := dec_len (j := 9) (r := xs.getD x 0) (by decide) (by omega)
  refine ⟨?_, hu⟩
  unfold piece
  rw [List.length_append]
  split
  · rw [List.length_replicate]; omega
  · rw [List.length_nil]; omega
theorem flat_len {xs : List Nat} (h : ∀ x ∈ xs, x < 1000000000) : ∀ pre : List Nat, (pre.flatMap (piece xs)).length ≤ 9 * pre.length
  | [] => Nat.le_refl _
  | x :: l => by
    rw [List.flatMap_cons, List.length_append, List.length_cons]
    have := flat_len h l
    have := (piece_len h x).1
    omega
theorem flat_all (xs : List Nat) : ∀ k, (downTo xs.length k).flatMap (piece xs) = outD xs k
  | 0 => rfl
  | k + 1 => by
    rw [downTo_succ, List.flatMap_append, flat_all xs k, outD]
    simp
end Go.Proofs.YtpncflaoikeidaaGreatDoor.H
namespace Go.Proofs.YtpncflaoikeidaaGreatDoor.P
open Go.RowKit Go.Shelf Go.Proofs.YtpncflaoikeidaaGreatDoorW.PrintWords Go.Proofs.YtpncflaoikeidaaGreatDoorW.PrintLast Go.Proofs.YtpncflaoikeidaaGreatDoorW.PrintMore Go.Proofs.YtpncflaoikeidaaGreatDoor.H
attribute [local go_sem] Oper.semAt_some
/-- digits.Nat -/
def digits_Nat.f (l0 : List Int) : Option ByteArray := if okl l0 ∧ l0.length < 100000 then some ⟨(Lib.decDigits (nval l0)).toArray⟩ else none
def ints (xs : List Nat) : List Int := xs.map fun n => ((n : Nat) : Int)
/-- the state of the division by a thousand million -/
structure Dig9 (n : Nat) (m : Nat) (xs : List Nat) : Prop where
  eq : n = v9 xs + 1000000000 ^ xs.length * m
  lt : ∀ x ∈ xs, x < 1000000000
  last : m = 0 → ∀ h : xs ≠ [], xs.getLast h ≠ 0
theorem Dig9.next {n m : Nat} {xs : List Nat} (h : Dig9 n m xs) (hm : m ≠ 0) : Dig9 n (m / 1000000000) (xs ++ [m % 1000000000]) := by
  refine ⟨?_, fun x hx => ?_, fun h0 hne => ?_⟩
  · rw [v9_append, List.length_append, List.length_singleton, Nat.pow_succ, Nat.mul_assoc, Nat.add_assoc, ← Nat.mul_add, h.eq]
    simp only [v9]
    rw [Nat.mul_zero, Nat.add_zero, Nat.mod_add_div]
  · rcases List.mem_append.1 hx with hx | hx
    · exact h.lt x hx
    · rw [List.mem_singleton.1 hx]; exact Nat.mod_lt _ (by decide)
  · rw [List.getLast_concat]; omega
structure L17 (w : World) (vp vn : Value) (m : Nat) (xs : List Nat) (W : World) : Prop where
  blk : W.heap[w.heap.size]? = some (.cells #[vp] 22 (0, 0))
  rp : Kd.R (Kd.int .u32) 56 W w.heap.size (fun _ => True) vp (ints xs)
  rn : Kd.R (Kd.int .u32) 56 W w.heap.size (fun k => some k ≠ vp.ownBlock) vn (limbs m)
  b : Below w.heap.size w W
theorem L17.short {w : World} {vp vn : Value} {m q : Nat} {xs : List Nat} {W w6 : World} {vq : Value} (h : L17 w vp vn m xs W) (ho : Kd.R (Kd.int .u32) 56 w6 W.heap.size (fun _ => True) vq (limbs q)) (hb : Below W.heap.size W w6) : L17 w vp vq q xs w6 :=
  ⟨blk_below h.blk hb, Kd.R_mono (Kd.R_old h.rp hb) (fun _ _ => trivial), Kd.R_lower (Kd.R_mono (Kd.R_new' ho (Kd.R_lt h.rp)) (fun _ hk => hk.2)) h.b.size, below_step h.b hb⟩
theorem L17.app {w : World} {vp vn v' : Value} {m r : Nat} {xs : List Nat} {W w1 : World} (h : L17 w vp vn m xs W) (ho : Kd.R (Kd.int .u32) 56 w1 w.heap.size (fun _ => True) v' (ints xs ++ [((r : Nat) : Int)])) (hg : W.grownBy w1 vp.ownBlock) (ha : v'.ownBlock = vp.ownBlock ∨ ∃ b, v'.ownBlock = some b ∧ W.heap.size ≤ b) (hb : Below w.heap.size w w1) :
    L17 w v' vn m (xs ++ [r]) (w1.setCell ⟨w.heap.size, 0, none⟩ v') := by
  have hblk := blk_grown h.blk hg (Kd.R_ne h.rp h.blk (by decide))
  have e : ints (xs ++ [r]) = ints xs ++ [((r : Nat) : Int)] := by simp [ints]
  refine ⟨blk_put (cs := #[vp]) hblk 0 _ rfl, by rw [e]; exact Kd.R_set ho hblk (by decide) 0 _, ?_, hb.setCell (p := ⟨w.heap.size, 0, none⟩) (Nat.le_refl _) _⟩
  refine Kd.R_set (Kd.R_mono (Kd.R_grown (Kd.R_mono (Kd.R_bound h.rn) (fun k hk => (⟨hk.1, hk.2.2.1⟩ : some k ≠ vp.ownBlock ∧ k < W.heap.size))) hg (fun k hk => hk.1)) (fun k hk => ?_)) hblk (by decide) 0 _
  rcases ha with ha | ⟨b, ha, hlt⟩
  · rw [ha]; exact hk.1
  · rw [ha]; intro hc; cases hc; have := hk.2; omega
theorem dig_len {M m L : Nat} {xs : List Nat} (h : Dig9 M m xs) (hm : m ≠ 0) (hM : M < 4294967296 ^ L) : 29 * xs.length < 32 * L := by
  have h1 : 1000000000 ^ xs.length ≤ M := by
    have := Nat.le_mul_of_pos_right (1000000000 ^ xs.length) (Nat.pos_of_ne_zero hm)
    have := h.eq; omega
  have h2 : 2 ^ (29 * xs.length) ≤ 1000000000 ^ xs.length := by rw [Nat.pow_mul]; exact Nat.pow_le_pow_left (by decide) _
  have h3 : (4294967296 : Nat) ^ L = 2 ^ (32 * L) := by rw [Nat.pow_mul]
  rw [h3] at hM
  exact (Nat.pow_lt_pow_iff_right (by decide : 1 < 2)).1 (Nat.lt_of_le_of_lt (Nat.le_trans h2 h1) hM)
set_option maxRecDepth 100000 in
set_option maxHeartbeats 2000000 in
theorem digits_Nat.calls (A0 : Option Addr) (c0 : Nat) (l0 : List Int) (r : ByteArray) (w : World) (hr0 : Kd.C (Kd.int .u32) w A0 l0.length l0) (hc0 : l0.length ≤ c0) (h : digits_Nat.f l0 = some r) (hL : LaidT w) :
    Calls Tryz.prog 17 #[.slice A0 l0.length c0] w fun e w' => e = .returned (.string r) ∧ Below w.heap.size w w' := by
  unfold digits_Nat.f at h
  split at h
  case isFalse => cases h
  case isTrue hg =>
  obtain rfl := Option.some.inj h
  clear h
  obtain ⟨o0, n0⟩ := hg
  obtain ⟨M, hM⟩ : ∃ M, nval l0 = M := ⟨_, rfl⟩
  have T0 := Aside0.mk (trim_any o0 (by omega) A0 c0 (w.alloc (.cells #[.slice none 0 0] 22)) (Kd.C_alloc hr0 _) hc0)
  have hlen := limbs_trim_le o0
  rw [hM] at T0 hlen ⊢
  have HN0 : Aside0 ((limbs M).length < 100000) := ⟨by omega⟩
  have HL := Aside0.mk hL
  clear hr0 n0 hL hlen hM
  refine (callsIn_wide (n := 3)).1 ?_
  refine callsIn_of_wp_marks Tryz.func17 rfl trivial ?_ rfl
  simp only [Tryz.ntmps17, List.size_toArray, List.length_cons, List.length_nil, Nat.reduceAdd, Nat.reduceSub, Array.replicate_succ, Array.replicate_zero, List.push_toArray, List.append_toArray, List.nil_append, List.cons_append]
  refine wpIn_wide.2 ?_
  go_wp2_with (go_at_call 42; with_reducible refine T0.out.mono ?_; rintro e w5 ⟨v0, rfl, ho0, hb0⟩; have HB0 := Aside0.mk hb0; have HO0 := Aside0.mk ho0; clear ho0 hb0)
  go_loopg [0] (M + 1) (fun kq v0 wr => ∃ (m : Nat) (xs : List Nat) (A : Option Addr) (cn : Nat) (vp : Value), v0 = .slice A (limbs m).length cn ∧ Aside0 (m < kq) ∧ Aside0 (Dig9 M m xs) ∧ Aside0 (L17 w vp v0 m xs wr) ∧ Aside0 (29 * xs.length ≤ 3200030))
  case atStart =>
    obtain ⟨A2, c2, rfl⟩ := Kd.R_slice HO0.out
    refine ⟨M, [], A2, c2, .slice none 0 0, rfl, ⟨Nat.lt_succ_self _⟩, ⟨⟨by simp [v9], by simp, fun _ h => absurd rfl h⟩⟩, ⟨⟨blk_below (heap_alloc_new _ _) HB0.out, Kd.R_nil _ _ _ _ _, Kd.R_mono (Kd.R_lower HO0.out (by simp)) (fun _ _ => by simp [Value.ownBlock]), ((Below.refl _ _).alloc (Nat.le_refl _) _).trans (HB0.out.mono (by simp))⟩⟩, ⟨by simp⟩⟩
  case round =>
    obtain ⟨m, xs, A, cn, vp, rfl, HK, HD, HJ, HX⟩ := hrel
    cases gk with
    | zero => exact absurd HK.out (by omega)
    | succ k1 =>
    by_cases hm : m = 0
    · subst hm
      rw [limbs_zero]
      obtain ⟨Ap, cp, rfl⟩ := Kd.R_slice HJ.out.rp
      have hv := HD.out.eq
      rw [Nat.mul_zero, Nat.add_zero] at hv
      have hlast := HD.out.last rfl
      have hltx := HD.out.lt
      clear HD HK T0
      have e8 : wr.cell? ⟨w.heap.size, 0, none⟩ = some (.slice Ap (ints xs).length cp) := (blk_cell HJ.out.blk 0).trans rfl
      by_cases hx0 : xs = []
      · subst hx0
        simp only [v9] at hv
        subst hv
        have e9 : wr.cell? ⟨w.heap.size, 0, none⟩ = some (.slice Ap 0 cp) := e8
        have HBW := Aside0.mk HJ.out.b
        clear e8 HJ HX hlast hltx
        go_wp2
        exact ⟨_, results_tmp rfl _ _ _, by rw [Lib.decDigits_one (by decide)]; rfl, HBW.out⟩
      · have HXS := Aside0.mk hx0
        have hxl : 0 < xs.length := List.length_pos_iff.2 hx0
        have hil : (ints xs).length = xs.length := by simp [ints]
        rw [hil] at e8
        have hz : ((xs.length : Int) == 0) = false := by simpa using (show ¬ ((xs.length : Int) = 0) by omega)
        have hsz : w.heap.size < wr.heap.size := blk_lt HJ.out.blk
        have u4n := u4; have HXL : Aside0 (29 * xs.length ≤ 3200030) := HX
        clear u4n
        go_upto_region 11 with (go_at_call 44; with_reducible refine (backward_any _ _ _ _).mono ?_; rintro e w' ⟨rfl, rfl⟩)
        obtain ⟨w8, hw8⟩ : ∃ w8 : World, w8 = (wr.alloc (.cells #[.pointer none, .slice none 0 0] 77)).alloc (.cells #[.slice Ap xs.length cp] 22) := ⟨_, rfl⟩
        have hs8 : w8.heap.size = wr.heap.size + 2 := by rw [hw8]; simp
        have hbox : w8.heap[wr.heap.size + 1]? = some (.cells #[.slice Ap xs.length cp] 22 (0, 0)) := by
          have h := heap_alloc_new (wr.alloc (.cells #[.pointer none, .slice none 0 0] 77)) (.cells #[.slice Ap xs.length cp] 22)
          rw [← hw8] at h; simpa using h
        have hbld : w8.heap[wr.heap.size]? = some (.cells #[.pointer none, .slice none 0 0] 77 (0, 0)) := by rw [hw8]; exact blk_alloc (heap_alloc_new _ _) _
        have hB8 : Below wr.heap.size wr w8 := by rw [hw8]; exact ((Below.refl _ _).alloc (Nat.le_refl _) _).alloc (by simp) _
        have D0 : DigI wr.heap.size wr #[.slice Ap xs.length cp] [] w8 := ⟨.inl ⟨Nat.le_refl _, _, hbld, World.ownsRowF_nil _ _ _ _, by simp [Value.ownBlock]⟩, hbox, hB8⟩
        rw [← hw8]
        have hCp := (Kd.R_reads' HJ.out.rp).2.2
        rw [hil] at hCp
        have CP := Aside0.mk hCp
        have HLX := Aside0.mk hltx
        have HBL := Aside0.mk HJ.out.b
        have E8 := Aside0.mk e8
        clear hCp hltx hw8 hbld
        refine (wpIn_wide (n := 3)).1 ?_
        refine wpIn_rangeFunc_ownF rfl (by omega) (gf := 81) (lb := #[.pointer (some ⟨wr.heap.size + 1, 0, none⟩)]) rfl trivial (enters_of Tryz.func81 (by kernel_rfl) rfl)
          (back_stops Fence.wide 2 trivial rfl (by omega) (wr.heap.size + 1) (ints xs) xs.length (by have := HXL.out; omega) Ap cp (DigKp wr.heap.size #[.slice Ap xs.length cp]) (fun W => Below wr.heap.size wr W ∧ W.heap[wr.heap.size + 1]? = some (.cells #[.slice Ap xs.length cp] 22 (0, 0))) (fun h k => ⟨h.1.trans k.1, k.2 h.2⟩) w8
            (fun W hW => ⟨hB8.trans (hW.mono (by omega)), blk_below hbox hW⟩) (fun W' h => ⟨(blk_cell h.2 0).trans rfl, Kd.C_below CP.out h.1⟩))
          (fun h k => h.trans k) (fun W l o o' hl ho hc hw => ⟨belowK_b (w := w8) (by omega) W l o o' hl ho hc hw, fun hx => (World.putObj_heap_other (by omega)).trans hx⟩) (Below.refl _ _) (fun _ => rfl)
          (fun pre W => DigI wr.heap.size wr #[.slice Ap xs.length cp] (pre.flatMap (piece xs)) W)
          (fun _ _ _ => False)
          (digI_own (Nat.le_refl _) (by omega) _) (fun c => fun _ _ _ _ h _ _ => h.elim) D0
          (fun x => { tmps := #[Value.slice A 0 cn, undef, Value.string { data := #[] }, Value.pointer (some { block := w.heap.size, off := 0 }), u4, u5, u6, Value.pointer (some { block := wr.heap.size, off := 0 }), .int .i64 (x : Int), .int .u32 (rd (ints xs) (x : Int)), undef, Value.slice A0 l0.length c0, v0, Value.slice A 0 cn, Value.int IntKind.i64 0, Value.bool false, u16, u17, u18, u19, u20, u21, u22, u23, u24, u25, u26, Value.slice Ap xs.length cp, Value.int IntKind.i64 ↑xs.length, Value.bool false, Value.slice Ap xs.length cp, Value.func (Fn.func 81) #[] #[Value.pointer (some { block := wr.heap.size + 1, off := 0 })], .int .i64 (x : Int), .int .u32 (rd (ints xs) (x : Int)), undef, undef, undef, undef, undef, undef, undef, undef, undef, undef, undef, undef, undef, undef, undef, undef], defers := [] }) ?assign ?body ?done ?stop
        case assign =>
          intro l x W K hK
          gi_wp2
          exact hK
        case body =>
          intro l pre x W hI hpre
          obtain ⟨hpl, hu⟩ := piece_len HLX.out x
          have hrd : rd (ints xs) (x : Int) = ((xs.getD x 0 : Nat) : Int) := by
            unfold rd ints
            rw [Int.toNat_natCast, List.getD_eq_getElem?_getD, List.getD_eq_getElem?_getD, List.getElem?_map]
            cases xs[x]? <;> rfl
          rw [hrd]
          have hfl := flat_len HLX.out pre
          have HFL : Aside0 ((pre.flatMap (piece xs)).length ≤ 1100000) := ⟨by have := HXL.out; omega⟩
          have hpc : piece xs x = (if x + 1 < xs.length then List.replicate (9 - (Lib.decDigits (xs.getD x 0)).length) 48 else []) ++ Lib.decDigits (xs.getD x 0) := rfl
          have hdl := dec_len (j := 9) (r := xs.getD x 0) (by decide) (by omega)
          have hpost : (pre ++ [x]).flatMap (piece xs) = pre.flatMap (piece xs) ++ ((if x + 1 < xs.length then List.replicate (9 - (Lib.decDigits (xs.getD x 0)).length) 48 else []) ++ Lib.decDigits (xs.getD x 0)) := by
            rw [List.flatMap_append, List.flatMap_cons, List.flatMap_nil, List.append_nil, hpc]
          clear hpl hrd hfl hpc
          obtain ⟨u, hue⟩ : ∃ u, xs.getD x 0 = u := ⟨_, rfl⟩
          rw [hue] at hu hdl hpost ⊢
          have HPOST := Aside0.mk hpost
          clear hue hpost
          have S0 := Aside0.mk hI.start
          have LT : Aside0 (∀ W', Below w.heap.size w W' → LaidT W') := ⟨fun W' h => HL.out.below h⟩
          have bW : Below w.heap.size w W := below_step HBL.out hI.b
          have F := Aside0.mk (fmt45_any u (by omega) W (LT.out W bW).tab)
          obtain ⟨s, hs⟩ : ∃ s : ByteArray, ⟨(Lib.decDigits u).toArray⟩ = s := ⟨_, rfl⟩
          have hsl : s.data.toList = Lib.decDigits u := by rw [← hs]
          have hss : s.size = (Lib.decDigits u).length := by rw [← hs]; rfl
          rw [hs] at F
          have hc3 : W.cell? ⟨w.heap.size, 0, none⟩ = some (.slice Ap xs.length cp) := pw_cell_below hI.b E8.out
          have hw1 : IntKind.u64.wrap ((u : Nat) : Int) = (u : Int) := IntWalk.u64_in _ (by omega)
          have hw2 : ((u : Nat) : Int) % 18446744073709551616 = (u : Int) := by omega
          have HSL := Aside0.mk hsl
          have HSS := Aside0.mk hss
          have HU := Aside0.mk hu
          have HDL := Aside0.mk hdl
          have HPR := Aside0.mk hpre
          have HII := Aside0.mk hI
          clear hI hpre hu hdl hs hsl hss bW
          by_cases hlast2 : x + 1 < xs.length
          · have hc1 : (x : Int) < (xs.length : Int) - 1 := by omega
            have hw3 : wrap64 ((xs.length : Int) - 1) = (xs.length : Int) - 1 := by have := HXL.out; unfold wrap64; omega
            have HNL := Aside0.mk hlast2
            obtain ⟨c, hc⟩ : ∃ c : Nat, 9 - s.size = c := ⟨_, rfl⟩
            have hw4 : wrap64 (9 - (s.size : Int)) = (c : Int) := by have := HSS.out; have := HDL.out; unfold wrap64; omega
            have RP := Aside0.mk (fun W => Tryz.strings_Repeat ⟨#[48]⟩ c W (by omega) (by show 1 * c ≤ _; omega))
            obtain ⟨z, hz2⟩ : ∃ z : ByteArray, ⟨(Lib.repeatL (⟨#[48]⟩ : ByteArray).data.toList c).toArray⟩ = z := ⟨_, rfl⟩
            rw [hz2] at RP
            have hzl : z.data.toList = List.replicate (9 - (Lib.decDigits u).length) 48 := by
              rw [← hz2, ← HSS.out, hc]; exact repeatL_one 48 c
            have hzs : z.size = c := by
              have h1 := congrArg List.length hzl
              rw [List.length_replicate, ← HSS.out, hc] at h1
              exact h1
            have HZL := Aside0.mk hzl
            have HZS := Aside0.mk hzs
            have HC9 : Aside0 (c ≤ 9) := ⟨by omega⟩
            clear hlast2 hc hz2 hzl hzs
            gi_wp2_with (first | (refine ⟨trivial, ?_⟩; gi_at_call 45; with_reducible refine (CallsIn.inRound l (callsIn_wide.2 F.out)).mono ?_; rintro e w' ⟨rfl, hb⟩; have S1 := Aside0.mk (S0.out.below hb); have hc4 : w'.cell? ⟨w.heap.size, 0, none⟩ = some (.slice Ap xs.length cp) := pw_cell_below S1.out.i.b E8.out; clear hb) | (refine ⟨trivial, ?_⟩; gi_at_call 47; with_reducible refine (CallsIn.inRound l (callsIn_wide.2 (RP.out _))).mono ?_; rintro e w3 ⟨rfl, hb⟩; have S2 := Aside0.mk (S1.out.below hb); clear hb) | (refine ⟨trivial, ?_⟩; gi_at_call 46; with_reducible refine (CallsIn.inRound l (callsIn_wide.2 (Tryz.Builder_WriteString_k wr.heap.size wr.heap.size _ z _ S2.out.i.f ?a1 ?a2))).mono ?_; (case a1 => rw [Lib.byteCells_length]; have := HFL.out; have := HZS.out; have := HC9.out; omega); (case a2 => exact Nat.le_trans (Nat.le_succ _) (Nat.le_of_lt (blk_lt S2.out.i.x))); rintro e w'' ⟨rfl, h1, h2, h3⟩; have S3 := Aside0.mk (S2.out.write h1 h2 h3); clear h1 h2 h3) | (refine ⟨trivial, ?_⟩; gi_at_call 46; with_reducible refine (CallsIn.inRound l (callsIn_wide.2 (Tryz.Builder_WriteString_k wr.heap.size wr.heap.size _ s _ S3.out.i.f ?a1 ?a2))).mono ?_; (case a1 => rw [Lib.byteCells_length]; rw [List.length_append, HZL.out, List.length_replicate]; have := HFL.out; have := HSS.out; have := HDL.out; omega); (case a2 => exact Nat.le_trans (Nat.le_succ _) (Nat.le_of_lt (blk_lt S3.out.i.x))); rintro e w'' ⟨rfl, h1, h2, h3⟩; have S4 := Aside0.mk (S3.out.write h1 h2 h3); clear h1 h2 h3))
            refine ⟨S4.out.o, S4.out.k, ?_⟩
            show DigI _ _ _ ((pre ++ [x]).flatMap (piece xs)) _
            rw [HPOST.out, if_pos HNL.out, ← List.append_assoc, ← HZL.out, ← HSL.out]
            exact S4.out.i
          · have hc1 : ¬ (x : Int) < (xs.length : Int) - 1 := by omega
            have hw3 : wrap64 ((xs.length : Int) - 1) = (xs.length : Int) - 1 := by have := HXL.out; unfold wrap64; omega
            have HNL := Aside0.mk hlast2
            clear hlast2
            gi_wp2_with (first | (refine ⟨trivial, ?_⟩; gi_at_call 45; with_reducible refine (CallsIn.inRound l (callsIn_wide.2 F.out)).mono ?_; rintro e w' ⟨rfl, hb⟩; have S1 := Aside0.mk (S0.out.below hb); have hc4 : w'.cell? ⟨w.heap.size, 0, none⟩ = some (.slice Ap xs.length cp) := pw_cell_below S1.out.i.b E8.out; clear hb) | (refine ⟨trivial, ?_⟩; gi_at_call 46; with_reducible refine (CallsIn.inRound l (callsIn_wide.2 (Tryz.Builder_WriteString_k wr.heap.size wr.heap.size _ s _ S1.out.i.f ?a1 ?a2))).mono ?_; (case a1 => rw [Lib.byteCells_length]; have := HFL.out; have := HSS.out; have := HDL.out; omega); (case a2 => exact Nat.le_trans (Nat.le_succ _) (Nat.le_of_lt (blk_lt S1.out.i.x))); rintro e w'' ⟨rfl, h1, h2, h3⟩; have S2 := Aside0.mk (S1.out.write h1 h2 h3); clear h1 h2 h3))
            refine ⟨S2.out.o, S2.out.k, ?_⟩
            show DigI _ _ _ ((pre ++ [x]).flatMap (piece xs)) _
            rw [HPOST.out, if_neg HNL.out, List.nil_append, ← HSL.out]
            exact S2.out.i
        case done =>
          rintro D ys W hD rfl hI hK
          have hall := flat_all xs xs.length
          have hout := outD_all xs HLX.out hlast hx0
          rw [hall, hout, ← hv] at hI
          have hne : Lib.decDigits M ≠ [] := by
            intro hc
            have h1 := Lib.decDigits_length M
            have h2 := Lib.nDigits_pos M
            rw [hc] at h1; simp at h1; omega
          have ST := Aside0.mk (Tryz.Builder_String_k wr.heap.size wr.heap.size (Lib.decDigits M) W hI.f hne)
          have HI := Aside0.mk hI
          have HKK := Aside0.mk hK
          clear hall hout hI hK hv
          go_wp2_with (go_at_call 48; with_reducible refine ST.out.mono ?_; rintro e w' ⟨rfl, _, hb9, ho9⟩; have HB9 := Aside0.mk hb9; have HO9 := Aside0.mk ho9; clear hb9 ho9)
          have hK' := HO9.out D _ HKK.out (by intro hc; cases hc; omega) (fun c fz hc => by cases hc)
          refine ⟨by simp, .inl ⟨_, _, rfl, run_takeDeferred hK', ?_⟩⟩
          exact ⟨_, results_tmp rfl _ _ _, rfl, (below_step HBL.out (HI.out.b.trans HB9.out)).trans (belowK_b (w := w) (Nat.le_refl _) w' D _ _ (by omega) hK' rfl rfl)⟩
        case stop => exact fun D c pre W _ _ h _ => h.elim
    · have hlp : 0 < (limbs m).length := by
        rcases Nat.eq_zero_or_pos (limbs m).length with h | h
        · have h4 := nval_limbs m
          rw [List.eq_nil_of_length_eq_zero h] at h4
          exact absurd h4.symm hm
        · exact h
      have hmM : m ≤ M := by
        have := Nat.le_mul_of_pos_left m (Nat.pow_pos (by decide) : 0 < 1000000000 ^ xs.length)
        have := HD.out.eq; omega
      have hML : M < 4294967296 ^ (limbs M).length := by have := nval_lt (okl_limbs M); rwa [nval_limbs] at this
      have hln : (limbs m).length < 100000 := by
        have := limbs_length_le _ m (Nat.lt_of_le_of_lt hmM hML)
        have := HN0.out; omega
      have hx2 := dig_len HD.out hm hML
      have HX2 : Aside0 (29 * (xs ++ [m % 1000000000]).length ≤ 3200030) := ⟨by rw [List.length_append, List.length_singleton]; have := HN0.out; omega⟩
      have S := Aside0.mk (quo_Short.calls (2 * (limbs m).length + 2) A cn (limbs m) ((1000000000 : Nat) : Int) _ _ _ wr (Kd.R_reads' HJ.out.rn).2.2 (Kd.R_reads' HJ.out.rn).2.1 (short_f (okl_limbs m) (by omega) (by decide) (by decide) (by omega)))
      rw [nval_limbs, show ((1000000000 : Nat) : Int) = 1000000000 from rfl] at S
      have HD2 := Aside0.mk (HD.out.next hm)
      have HM2 : Aside0 (m / 1000000000 < m) := ⟨Nat.div_lt_self (Nat.pos_of_ne_zero hm) (by decide)⟩
      obtain ⟨q, hq⟩ : ∃ q, m / 1000000000 = q := ⟨_, rfl⟩
      obtain ⟨r, hr⟩ : ∃ r, m % 1000000000 = r := ⟨_, rfl⟩
      rw [hq, hr] at S
      rw [hq, hr] at HD2
      rw [hq] at HM2
      rw [hr] at HX2
      clear hm hmM hML hln hx2 hq hr
      have e8 : wr.cell? ⟨w.heap.size, 0, none⟩ = some vp := (blk_cell HJ.out.blk 0).trans rfl
      go_wp2_with (first | (go_at_call 43; with_reducible refine S.out.mono ?_; rintro e w6 ⟨vq, rfl, ho, hb⟩; have HJ2 := Aside0.mk (HJ.out.short ho hb); have c1 : w6.cell? ⟨w.heap.size, 0, none⟩ = some vp := (blk_cell HJ2.out.blk 0).trans rfl; have f1 := blk_frozen HJ2.out.blk 0; clear ho hb) | (at_builtin; refine Kd.R_append (Kd.int .u32) (w0 := w) w.heap.size rfl (.tmp 22) (.tmp 24) 22 56 (.int .u32 0) 4 rfl Tryz.underlying22 info56 rfl (by decide) (by omega) vp (ints xs) ((r : Nat) : Int) [.int .u32 ((r : Nat) : Int)] (fun _ => True) (fun _ => False) rfl rfl ?aP (fun _ hk => hk.elim) ?aF ?aO ?aB ?aS ?aL ?_; (case aP => exact rfl); (case aB => exact HJ2.out.b); (case aF => exact (fun _ _ => trivial)); (case aO => exact HJ2.out.rp); (case aS => exact HJ2.out.b.size); (case aL => have := HX.out; simp only [ints, List.length_map]; omega); intro v' w1 ho1 hb1 hg1 ha1; have HJ3 := Aside0.mk (HJ2.out.app ho1 hg1 ha1 hb1); have hblk := Aside0.mk (blk_grown HJ2.out.blk hg1 (Kd.R_ne HJ2.out.rp HJ2.out.blk (by decide))); have e1 : w1.cell? ⟨w.heap.size, 0, none⟩ = some vp := (blk_cell hblk.out 0).trans rfl; have e2 := blk_frozen hblk.out 0; obtain ⟨Ao, co, eo⟩ := Kd.R_slice ho1; subst eo; clear ho1 hg1 ha1 hb1))
      obtain ⟨Aq, cq, rfl⟩ := Kd.R_slice HJ3.out.rn
      go_roundg k1
      case measure => omega
      case rel => exact ⟨q, xs ++ [r], Aq, cq, .slice Ao ((ints xs).length + 1) co, rfl, ⟨by have := HK.out; have := HM2.out; omega⟩, HD2, ⟨by have h_ := HJ3.out; rw [List.length_append, List.length_singleton] at h_; exact h_⟩, HX2⟩
end Go.Proofs.YtpncflaoikeidaaGreatDoor.P
namespace Go.Proofs.YtpncflaoikeidaaGreatDoor.P
open Go.RowKit Go.Proofs.YtpncflaoikeidaaGreatDoorW.PrintWords Go.Proofs.YtpncflaoikeidaaGreatDoorW.PrintLast Go.Proofs.YtpncflaoikeidaaGreatDoorW.PrintMore
attribute [local go_sem] max2_int max_two
set_option linter.unusedVariables false
set_option linter.unusedSimpArgs false
def digits_Rat.j0 : Nat → ByteArray → Bool → List Int → List Int → Option (ByteArray)
  | 0, _, _, _, _ => none
  | k + 1, x3, x189000, x189001, x189002 => (nat_Of.f 1).bind fun t197 => ((nat_Cmp.f x189002 t197).bind fun t200 => (if t200 = 0 then (some x3) else ((digits_Nat.f x189002).bind fun t201 => (if 1 + t201.size ≤ 9223372036854775807 then (if x3.size + ((⟨#[47]⟩ : ByteArray) ++ t201).size ≤ 9223372036854775807 then (some (x3 ++ ((⟨#[47]⟩ : ByteArray) ++ t201))) else (none)) else (none)))))
def digits_Rat.f (k : Nat) (a0_0 : Bool) (l0_1 : List Int) (l0_2 : List Int) : Option (ByteArray) := (rat_Norm.f a0_0 l0_1 l0_2).bind fun bt189 => ((digits_Nat.f bt189.2.1).bind fun t196 => (if bt189.1 = true then (if 1 + t196.size ≤ 9223372036854775807 then (digits_Rat.j0 k ((⟨#[45]⟩ : ByteArray) ++ t196) bt189.1 bt189.2.1 bt189.2.2) else (none)) else (digits_Rat.j0 k t196 bt189.1 bt189.2.1 bt189.2.2)))
set_option maxHeartbeats 8000000 in
set_option maxRecDepth 100000 in
theorem digits_Rat.calls (k : Nat) (a0_0 : Bool) (A0_1 : Option Addr) (c0_1 : Nat) (l0_1 : List Int) (A0_2 : Option Addr) (c0_2 : Nat) (l0_2 : List Int) (r : ByteArray) (w : World) (hr0_1 : Kd.C (Kd.int .u32) w A0_1 l0_1.length l0_1) (hc0_1 : l0_1.length ≤ c0_1) (hr0_2 : Kd.C (Kd.int .u32) w A0_2 l0_2.length l0_2) (hc0_2 : l0_2.length ≤ c0_2) (h : digits_Rat.f k a0_0 l0_1 l0_2 = some r) (hL : LaidT w) :
    Calls Tryz.prog 9 #[.agg #[.bool a0_0, .slice A0_1 l0_1.length c0_1, .slice A0_2 l0_2.length c0_2]] w fun e w' => e = .returned (.string r) ∧ Below w.heap.size w w' := by
  have hu25 := Tryz.underlying25
  have HR0_1 := Aside0.mk hr0_1
  have HC0_1 := Aside0.mk hc0_1
  clear hr0_1 hc0_1
  have HR0_2 := Aside0.mk hr0_2
  have HC0_2 := Aside0.mk hc0_2
  clear hr0_2 hc0_2
  have HB := Aside0.mk (Below.refl w.heap.size w)
  have H : ((rat_Norm.f a0_0 l0_1 l0_2).bind fun bt189 => ((digits_Nat.f bt189.2.1).bind fun t196 => (if bt189.1 = true then (if 1 + t196.size ≤ 9223372036854775807 then (digits_Rat.j0 k ((⟨#[45]⟩ : ByteArray) ++ t196) bt189.1 bt189.2.1 bt189.2.2) else (none)) else (digits_Rat.j0 k t196 bt189.1 bt189.2.1 bt189.2.2)))) = some r := h
  clear h
  replace H := Option.bind_eq_some_iff.mp H
  obtain ⟨⟨t189, t190, t193⟩, A20, H⟩ := H
  try dsimp only at H
  have A2 := Aside0.mk A20
  clear A20
  replace H := Option.bind_eq_some_iff.mp H
  obtain ⟨t196, A30, H⟩ := H
  try dsimp only at H
  have A3 := Aside0.mk A30
  clear A30
  have HC4 := Aside0.mk H
  clear H
  go_enter Tryz.func9, Tryz.ntmps9
  go_upto_if 10 with (first | ((with_reducible refine gate_dst (N := 1) rfl ?_); refine box_event ?hg (N := 1) ?hd (cs := #[.bool a0_0, .slice A0_1 l0_1.length c0_1, .slice A0_2 l0_2.length c0_2]) (t := 25) ?hr ?_; (case hd => rfl); (case hg => rfl); (case hr => first | (go_simp; done) | (go_simp; rfl)); intro gb188 hg w5 hbox hb; have n0_ := Aside0.mk (below_step (by repeat (first | (with_reducible first | exact HB.out | apply below_alloc | apply pw_below_drewN | apply below_drew1) | exact HB.out)) hb); have n1_ := Aside0.mk (hbox); have n2_ := Aside0.mk ((by rw [hg]; exact (below_size (by repeat (first | (with_reducible first | exact HB.out | apply below_alloc | apply pw_below_drewN | apply below_drew1) | exact HB.out))) : w.heap.size ≤ gb188)); have n3_ := Aside0.mk ((by rw [hg]; exact (below_size (by repeat (first | (with_reducible first | exact HB.out | apply below_alloc | apply pw_below_drewN | apply below_drew1) | exact HB.out))) : w.heap.size ≤ gb188)); clear HB; have HB := n0_; have BK188 := n1_; have GW188 := n2_; have GE188 := n3_; clear n0_ n1_ n2_ n3_; clear hb hbox hg; have hcz6_0 : w5.cell? ⟨gb188, 0, none⟩ = some (.bool a0_0) := (blk_cell BK188.out 0).trans rfl; have hcz6_1 : w5.cell? ⟨gb188, 1, none⟩ = some (.slice A0_1 l0_1.length c0_1) := (blk_cell BK188.out 1).trans rfl; have hcz6_2 : w5.cell? ⟨gb188, 2, none⟩ = some (.slice A0_2 l0_2.length c0_2) := (blk_cell BK188.out 2).trans rfl; have hfz6_0 := blk_frozen BK188.out 0; have hfz6_1 := blk_frozen BK188.out 1; have hfz6_2 := blk_frozen BK188.out 2) | ((with_reducible refine gate_callee (f := 29) rfl ?_); refine goesL_ (some 5) rfl rfl Tryz.func29 (by kernel_rfl) rfl #[.agg #[.bool a0_0, .slice A0_1 l0_1.length c0_1, .slice A0_2 l0_2.length c0_2]] rfl (by (try simp only [List.map_toArray, List.map_cons, List.map_nil]); first | done | rfl | (simp only [List.length_drop, List.length_take]; rfl)) ?_; (with_reducible refine (rat_Norm.calls a0_0 _ _ l0_1 _ _ l0_2 t189 t190 t193 _ ?side1 ?side2 ?side3 ?side4 A2.out).mono ?_); (case side1 => repeat (first | exact (Kd.C_below HR0_1.out HB.out) | (with_reducible refine Kd.C_alloc ?_ _) | (with_reducible refine Kd.C_drewN ?_ _) | (with_reducible refine Kd.C_drew ?_))); (case side2 => exact HC0_1.out); (case side3 => repeat (first | exact (Kd.C_below HR0_2.out HB.out) | (with_reducible refine Kd.C_alloc ?_ _) | (with_reducible refine Kd.C_drewN ?_ _) | (with_reducible refine Kd.C_drew ?_))); (case side4 => exact HC0_2.out); rintro e w7 ⟨v191, v194, rfl, ho0, ho1, hb⟩; refine ⟨_, rfl, ?_⟩; have n0_ := Aside0.mk (Kd.R_lower ho0 (below_size (by repeat (first | (with_reducible first | exact HB.out | apply below_alloc | apply pw_below_drewN | apply below_drew1 | refine below_set ?_ GE188.out) | exact HB.out)))); have n1_ := Aside0.mk (Kd.R_lower ho1 (below_size (by repeat (first | (with_reducible first | exact HB.out | apply below_alloc | apply pw_below_drewN | apply below_drew1 | refine below_set ?_ GE188.out) | exact HB.out)))); have n2_ := Aside0.mk (blk_below (g := gb188) (o := .cells #[.bool a0_0, .slice A0_1 l0_1.length c0_1, .slice A0_2 l0_2.length c0_2] 25 (0, 0)) (by exact BK188.out) hb); have n3_ := Aside0.mk (below_step (by repeat (first | (with_reducible first | exact HB.out | apply below_alloc | apply pw_below_drewN | apply below_drew1 | refine below_set ?_ GE188.out) | exact HB.out)) hb); clear BK188; clear HB; have HO192 := n0_; have HO195 := n1_; have BK188 := n2_; have HB := n3_; clear n0_ n1_ n2_ n3_; (try clear hb); (try clear hb2); (try clear hk); (try clear hi); (try clear ho0); (try clear ho1); have hcz8_0 : w7.cell? ⟨gb188, 0, none⟩ = some (.bool a0_0) := (blk_cell BK188.out 0).trans rfl; have hcz8_1 : w7.cell? ⟨gb188, 1, none⟩ = some (.slice A0_1 l0_1.length c0_1) := (blk_cell BK188.out 1).trans rfl; have hcz8_2 : w7.cell? ⟨gb188, 2, none⟩ = some (.slice A0_2 l0_2.length c0_2) := (blk_cell BK188.out 2).trans rfl; have hfz8_0 := blk_frozen BK188.out 0; have hfz8_1 := blk_frozen BK188.out 1; have hfz8_2 := blk_frozen BK188.out 2; obtain ⟨Ao9, co9, eo9⟩ := Kd.R_slice HO192.out; subst eo9; obtain ⟨Ao10, co10, eo10⟩ := Kd.R_slice HO195.out; subst eo10) | ((with_reducible refine gate_callee (f := 17) rfl ?_); refine goesL_ (some 8) rfl rfl Tryz.func17 (by kernel_rfl) rfl #[.slice Ao9 t190.length co9] rfl (by (try simp only [List.map_toArray, List.map_cons, List.map_nil]); first | done | rfl | (simp only [List.length_drop, List.length_take]; rfl)) ?_; (with_reducible refine (digits_Nat.calls _ _ t190 t196 _ ?side1 ?side2 A3.out ?side3).mono ?_); (case side1 => refine (Kd.R_reads' (e := 56) (base := w.heap.size) (ok := fun k_ => some k_ ≠ (.slice Ao10 t193.length co10 : Value).ownBlock) (n := t190.length) (c := co9) ?_).2.2; exact (by exact (Kd.R_mono (Kd.R_far (p := ⟨gb188, 2, none⟩) (Kd.R_far (p := ⟨gb188, 1, none⟩) (Kd.R_far (p := ⟨gb188, 0, none⟩) (Kd.R_types HO192.out BK188.out (by decide)) (fun _ hk => hk.2) (.bool t189)) (fun _ hk => hk.2) (.slice Ao9 t190.length co9)) (fun _ hk => hk.2) (.slice Ao10 t193.length co10)) (fun _ h_ => h_.1)))); (case side2 => exact (Kd.R_reads' HO192.out).2.1); (case side3 => exact LaidT.below hL (by repeat (first | (with_reducible first | exact HB.out | apply below_alloc | apply pw_below_drewN | apply below_drew1 | refine below_set ?_ GE188.out) | exact HB.out))); rintro e w11 ⟨rfl, hb⟩; refine ⟨_, rfl, ?_⟩; have n0_ := Aside0.mk (Kd.R_below (by exact (Kd.R_mono (Kd.R_far (p := ⟨gb188, 2, none⟩) (Kd.R_far (p := ⟨gb188, 1, none⟩) (Kd.R_far (p := ⟨gb188, 0, none⟩) (Kd.R_types HO192.out BK188.out (by decide)) (fun _ hk => hk.2) (.bool t189)) (fun _ hk => hk.2) (.slice Ao9 t190.length co9)) (fun _ hk => hk.2) (.slice Ao10 t193.length co10)) (fun _ h_ => h_.1))) hb); have n1_ := Aside0.mk (Kd.R_below (by exact (Kd.R_mono (Kd.R_far (p := ⟨gb188, 2, none⟩) (Kd.R_far (p := ⟨gb188, 1, none⟩) (Kd.R_far (p := ⟨gb188, 0, none⟩) (Kd.R_types HO195.out BK188.out (by decide)) (fun _ hk => hk.2) (.bool t189)) (fun _ hk => hk.2) (.slice Ao9 t190.length co9)) (fun _ hk => hk.2) (.slice Ao10 t193.length co10)) (fun _ h_ => h_.1))) hb); have n2_ := Aside0.mk (blk_below (g := gb188) (o := .cells #[.bool t189, .slice Ao9 t190.length co9, .slice Ao10 t193.length co10] 25 (0, 0)) (by refine blk_put (cs := #[.bool t189, .slice Ao9 t190.length co9, .slice A0_2 l0_2.length c0_2]) ?_ 2 _ rfl; refine blk_put (cs := #[.bool t189, .slice A0_1 l0_1.length c0_1, .slice A0_2 l0_2.length c0_2]) ?_ 1 _ rfl; refine blk_put (cs := #[.bool a0_0, .slice A0_1 l0_1.length c0_1, .slice A0_2 l0_2.length c0_2]) ?_ 0 _ rfl; exact BK188.out) hb); have n3_ := Aside0.mk (below_step (by repeat (first | (with_reducible first | exact HB.out | apply below_alloc | apply pw_below_drewN | apply below_drew1 | refine below_set ?_ GE188.out) | exact HB.out)) hb); clear HO192; clear HO195; clear BK188; clear HB; have HO192 := n0_; have HO195 := n1_; have BK188 := n2_; have HB := n3_; clear n0_ n1_ n2_ n3_; (try clear hb); (try clear hb2); (try clear hk); (try clear hi); have hcz12_0 : w11.cell? ⟨gb188, 0, none⟩ = some (.bool t189) := (blk_cell BK188.out 0).trans rfl; have hcz12_1 : w11.cell? ⟨gb188, 1, none⟩ = some (.slice Ao9 t190.length co9) := (blk_cell BK188.out 1).trans rfl; have hcz12_2 : w11.cell? ⟨gb188, 2, none⟩ = some (.slice Ao10 t193.length co10) := (blk_cell BK188.out 2).trans rfl; have hfz12_0 := blk_frozen BK188.out 0; have hfz12_1 := blk_frozen BK188.out 1; have hfz12_2 := blk_frozen BK188.out 2))
  (try simp only [Act.put, List.setIfInBounds_toArray, List.set_cons_zero, List.set_cons_succ])
  go_cut [3] (fun v3 wc => ∃ (kq : Nat) (x3_3 : ByteArray), v3 = .string x3_3 ∧ Aside0 (digits_Rat.j0 kq x3_3 t189 t190 t193 = some r) ∧ Aside0 (kq ≤ k) ∧ Aside0 (Kd.R (Kd.int .u32) 56 wc w.heap.size (fun k_ => some k_ ≠ ((.slice Ao10 t193.length co10) : Value).ownBlock) (.slice Ao9 t190.length co9) t190) ∧ Aside0 (Kd.R (Kd.int .u32) 56 wc w.heap.size (fun k_ => some k_ ≠ ((.slice Ao9 t190.length co9) : Value).ownBlock) (.slice Ao10 t193.length co10) t193) ∧ Aside0 (wc.heap[gb188]? = some (.cells #[.bool t189, (.slice Ao9 t190.length co9), (.slice Ao10 t193.length co10)] 25 (0, 0))) ∧ Aside0 (Below w.heap.size w wc))
  case first =>
    have H := HC4.out
    clear HC4
    by_cases c13 : t189 = true
    · subst c13
      have H1 : (if 1 + t196.size ≤ 9223372036854775807 then (digits_Rat.j0 k ((⟨#[45]⟩ : ByteArray) ++ t196) true t190 t193) else (none)) = some r := by rw [if_pos rfl] at H; exact H
      clear H
      have H := H1
      clear H1
      by_cases c14 : 1 + t196.size ≤ 9223372036854775807
      · rw [if_pos c14] at H
        have c14b0 := eq_true c14
        have c14b1 : decide (1 + t196.size ≤ 9223372036854775807) = true := decide_eq_true c14
        try have c14b2 : (9223372036854775807 < 1 + t196.size) = False := eq_false (Nat.not_lt.2 c14)
        have H' := Aside0.mk H
        clear H
        go_wp2
        go_meet
        case rel => exact ⟨_, ((⟨#[45]⟩ : ByteArray) ++ t196), (by first | rfl | (simp; done) | (simp [*]; done)), H', ⟨by first | omega | exact Nat.le_refl _⟩, ⟨by exact HO192.out⟩, ⟨by exact HO195.out⟩, ⟨by exact BK188.out⟩, ⟨by repeat (first | (with_reducible first | exact HB.out | apply below_alloc | apply pw_below_drewN | apply below_drew1 | refine below_set ?_ GE188.out) | exact HB.out)⟩⟩
      · rw [if_neg c14] at H
        exact absurd H (by simp)
    · replace c13 := Bool.eq_false_iff.mpr c13
      subst c13
      have H1 : (digits_Rat.j0 k t196 false t190 t193) = some r := by rw [if_neg (show ¬ (false = true) by decide)] at H; exact H
      clear H
      have H := H1
      clear H1
      have H' := Aside0.mk H
      clear H
      go_wp2
      go_meet
      case rel => exact ⟨_, (t196), (by first | rfl | (simp; done) | (simp [*]; done)), H', ⟨by first | omega | exact Nat.le_refl _⟩, ⟨by exact HO192.out⟩, ⟨by exact HO195.out⟩, ⟨by exact BK188.out⟩, ⟨by repeat (first | (with_reducible first | exact HB.out | apply below_alloc | apply pw_below_drewN | apply below_drew1 | refine below_set ?_ GE188.out) | exact HB.out)⟩⟩
  case rest =>
    clear HC4
    try clear c1
    try clear c2
    try clear p2
    try clear c9
    try clear c13
    try clear c14
    try clear c14b0
    try clear c14b1
    try clear c14b2
    try clear hcz12_0
    try clear hcz12_1
    try clear hcz12_2
    try clear hcz6_0
    try clear hcz6_1
    try clear hcz6_2
    try clear hcz8_0
    try clear hcz8_1
    try clear hcz8_2
    try clear hfz12_0
    try clear hfz12_1
    try clear hfz12_2
    try clear hfz6_0
    try clear hfz6_1
    try clear hfz6_2
    try clear hfz8_0
    try clear hfz8_1
    try clear hfz8_2
    obtain ⟨kq, x3_3, rfl, HA, HJ3, HO_189001, HO_189002, BK188, HB⟩ := hcut
    cases kq with
    | zero => exact absurd HA.out (by simp [digits_Rat.j0])
    | succ kj3 =>
      have H := HA.out
      clear HA
      simp only [digits_Rat.j0] at H
      replace H := Option.bind_eq_some_iff.mp H
      obtain ⟨t197, A150, H⟩ := H
      try dsimp only at H
      have A15 := Aside0.mk A150
      clear A150
      replace H := Option.bind_eq_some_iff.mp H
      obtain ⟨t200, A160, H⟩ := H
      try dsimp only at H
      have A16 := Aside0.mk A160
      clear A160
      by_cases c17 : t200 = 0
      · rw [if_pos c17] at H
        have c17b0 : (t200 == 0) = true := beq_iff_eq.mpr c17
        have c17b1 : (t200 != 0) = false := bne_eq_false_iff_eq.mpr c17
        clear c17
        obtain rfl := Option.some.inj H
        try go_wp2
        have n0_ := Aside0.mk (Kd.R_drew HO_189001.out)
        have n1_ := Aside0.mk (Kd.R_drew HO_189002.out)
        have n2_ := Aside0.mk (blk_drew BK188.out)
        have n3_ := Aside0.mk (below_drew1 HB.out)
        clear HO_189001
        clear HO_189002
        clear BK188
        clear HB
        have HO_189001 := n0_
        have HO_189002 := n1_
        have BK188 := n2_
        have HB := n3_
        clear n0_ n1_ n2_ n3_
        refine start_ (n := 5) (S := fun w' => w'.cell? ⟨gb188, 0, none⟩ = some (.bool t189) ∧ w'.cell? ⟨gb188, 1, none⟩ = some (.slice Ao9 t190.length co9) ∧ w'.cell? ⟨gb188, 2, none⟩ = some (.slice Ao10 t193.length co10)) (ds := []) #[false, false, false, false, false] (by kernel_rfl) rfl rfl ⟨(blk_cell BK188.out 0).trans rfl, (blk_cell BK188.out 1).trans rfl, (blk_cell BK188.out 2).trans rfl⟩ (fun hHeld => ?_)
        generalize wc.drew = w18 at HO_189001 HO_189002 BK188 HB hHeld ⊢
        refine pure_ (i := 0) (N := some 13) (v := ?_) (a' := ?_) #[true, false, false, false, false] rfl rfl (by kernel_rfl) (fun _ _ _ h => h) (Or.inl ⟨by rfl, ?_⟩) ?_ ?_
        rotate_left
        · intro w'
          go_simp
          with_reducible rfl
        rotate_left
        · simp only [Act.put, List.setIfInBounds_toArray, List.set_cons_zero, List.set_cons_succ, i64_w, i32_w]
          rfl
        refine take_ (i := 1) (N := some 14) (v := ?_) (a' := ?_) #[true, true, false, false, false] rfl rfl (by kernel_rfl) (fun _ _ _ h => h) (Or.inl ⟨by rfl, ?_⟩) hHeld ?_ ?_
        rotate_left
        · rintro w' ⟨s0, s1, s2⟩
          go_simp
          with_reducible rfl
        rotate_left
        · simp only [Act.put, List.setIfInBounds_toArray, List.set_cons_zero, List.set_cons_succ, i64_w, i32_w]
          rfl
        refine one_ (i := 2) (N := some 15) #[true, true, true, false, false] rfl rfl (by kernel_rfl) (by decide) (fun K hK => ?_)
        refine goes_ Tryz.func31 (by kernel_rfl) rfl #[.int .u64 1] (by rfl) rfl rfl (by (try simp only [List.map_toArray, List.map_cons, List.map_nil]); first | done | rfl | (simp only [List.length_drop, List.length_take]; rfl)) ?_
        with_reducible refine (nat_Of.calls 1 t197 _ A15.out).mono ?_
        rintro e w19 ⟨v198, rfl, ho0, hb⟩
        refine ⟨_, rfl, ?_⟩
        have n0_ := Aside0.mk (Kd.R_elder' (by exact HO_189001.out) (Kd.R_base ho0) hb)
        have n1_ := Aside0.mk (Kd.R_elder' (by exact HO_189002.out) (Kd.R_base ho0) hb)
        have n2_ := Aside0.mk (Kd.R_lower (Kd.R_new' (Kd.R_new' ho0 (Kd.R_lt (by exact HO_189001.out))) (Kd.R_lt (by exact HO_189002.out))) (below_size (by repeat (first | (with_reducible first | exact HB.out | apply below_alloc | apply pw_below_drewN | apply below_drew1 | refine below_set ?_ GE188.out) | exact HB.out))))
        have n3_ := Aside0.mk (blk_below (g := gb188) (o := .cells #[.bool t189, .slice Ao9 t190.length co9, .slice Ao10 t193.length co10] 25 (0, 0)) (by exact BK188.out) hb)
        have n4_ := Aside0.mk (below_step (by repeat (first | (with_reducible first | exact HB.out | apply below_alloc | apply pw_below_drewN | apply below_drew1 | refine below_set ?_ GE188.out) | exact HB.out)) hb)
        clear HO_189001
        clear HO_189002
        clear BK188
        clear HB
        have HO_189001 := n0_
        have HO_189002 := n1_
        have HO199 := n2_
        have BK188 := n3_
        have HB := n4_
        clear n0_ n1_ n2_ n3_ n4_
        (try clear hb)
        (try clear hb2)
        (try clear hk)
        (try clear hi)
        (try clear ho0)
        obtain ⟨Ao20, co20, eo20⟩ := Kd.R_slice HO199.out
        (first | subst eo20 | (injection eo20 with f1_ f2_ f3_; have f4_ := f1_.symm; have f5_ := f3_.symm; clear f1_ f2_ f3_; subst f4_; subst f5_))
        refine hK.out _ _ ⟨(blk_cell BK188.out 0).trans rfl, (blk_cell BK188.out 1).trans rfl, (blk_cell BK188.out 2).trans rfl⟩ (fun hHeld => ?_)
        clear hK K
        refine norm_ (a' := ?_) ?_ ?_
        rotate_left
        · show Act.put _ (some 15) _ = _
          simp only [Act.put, List.setIfInBounds_toArray, List.set_cons_zero, List.set_cons_succ, i64_w, i32_w]
          rfl
        refine one_ (i := 3) (N := some 16) #[true, true, true, true, false] rfl rfl (by kernel_rfl) (by decide) (fun K hK => ?_)
        refine goes_ Tryz.func30 (by kernel_rfl) rfl #[.slice Ao10 t193.length co10, .slice Ao20 t197.length co20] (by rfl) rfl rfl (by (try simp only [List.map_toArray, List.map_cons, List.map_nil]); first | done | rfl | (simp only [List.length_drop, List.length_take]; rfl)) ?_
        with_reducible refine (nat_Cmp.calls _ _ t193 _ _ t197 t200 _ ?side1 ?side2 ?side3 ?side4 A16.out).mono ?_
        (case side1 => repeat (first | exact (Kd.R_reads' HO_189002.out).2.2 | (with_reducible refine Kd.C_alloc ?_ _) | (with_reducible refine Kd.C_drewN ?_ _) | (with_reducible refine Kd.C_drew ?_)))
        (case side2 => exact (Kd.R_reads' HO_189002.out).2.1)
        (case side3 => repeat (first | exact (Kd.R_reads' HO199.out).2.2 | (with_reducible refine Kd.C_alloc ?_ _) | (with_reducible refine Kd.C_drewN ?_ _) | (with_reducible refine Kd.C_drew ?_)))
        (case side4 => exact (Kd.R_reads' HO199.out).2.1)
        rintro e w21 ⟨rfl, hb⟩
        refine ⟨_, rfl, ?_⟩
        have n0_ := Aside0.mk (Kd.R_below (by exact HO_189001.out) hb)
        have n1_ := Aside0.mk (Kd.R_below (by exact HO_189002.out) hb)
        have n2_ := Aside0.mk (Kd.R_below (by exact HO199.out) hb)
        have n3_ := Aside0.mk (blk_below (g := gb188) (o := .cells #[.bool t189, .slice Ao9 t190.length co9, .slice Ao10 t193.length co10] 25 (0, 0)) (by exact BK188.out) hb)
        have n4_ := Aside0.mk (below_step (by repeat (first | (with_reducible first | exact HB.out | apply below_alloc | apply pw_below_drewN | apply below_drew1 | refine below_set ?_ GE188.out) | exact HB.out)) hb)
        clear HO_189001
        clear HO_189002
        clear HO199
        clear BK188
        clear HB
        have HO_189001 := n0_
        have HO_189002 := n1_
        have HO199 := n2_
        have BK188 := n3_
        have HB := n4_
        clear n0_ n1_ n2_ n3_ n4_
        (try clear hb)
        (try clear hb2)
        (try clear hk)
        (try clear hi)
        refine hK.out _ _ ⟨(blk_cell BK188.out 0).trans rfl, (blk_cell BK188.out 1).trans rfl, (blk_cell BK188.out 2).trans rfl⟩ (fun hHeld => ?_)
        clear hK K
        refine norm_ (a' := ?_) ?_ ?_
        rotate_left
        · show Act.put _ (some 16) _ = _
          simp only [Act.put, List.setIfInBounds_toArray, List.set_cons_zero, List.set_cons_succ, i64_w, i32_w]
          rfl
        refine pure_ (i := 4) (N := some 17) (v := ?_) (a' := ?_) #[true, true, true, true, true] rfl rfl (by kernel_rfl) (fun _ _ _ h => h) (Or.inl ⟨by rfl, ?_⟩) ?_ ?_
        rotate_left
        · intro w'
          go_simp
          with_reducible rfl
        rotate_left
        · simp only [Act.put, List.setIfInBounds_toArray, List.set_cons_zero, List.set_cons_succ, i64_w, i32_w]
          rfl
        refine done_ (by kernel_rfl) ?_
        try go_wp2
        go_ret
        exact ⟨by first | rfl | (simp [errW_none, errW_some] <;> rfl) | (simp [*, errW_none, errW_some] <;> rfl), by repeat (first | (with_reducible first | exact HB.out | apply below_alloc | apply pw_below_drewN | apply below_drew1 | refine below_set ?_ GE188.out) | exact HB.out)⟩
      · rw [if_neg c17] at H
        have c17b0 : (t200 == 0) = false := beq_eq_false_iff_ne.mpr c17
        have c17b1 : (t200 != 0) = true := bne_iff_ne.mpr c17
        replace H := Option.bind_eq_some_iff.mp H
        obtain ⟨t201, A220, H⟩ := H
        try dsimp only at H
        have A22 := Aside0.mk A220
        clear A220
        by_cases c23 : 1 + t201.size ≤ 9223372036854775807
        · rw [if_pos c23] at H
          have c23b0 := eq_true c23
          have c23b1 : decide (1 + t201.size ≤ 9223372036854775807) = true := decide_eq_true c23
          try have c23b2 : (9223372036854775807 < 1 + t201.size) = False := eq_false (Nat.not_lt.2 c23)
          by_cases c24 : x3_3.size + ((⟨#[47]⟩ : ByteArray) ++ t201).size ≤ 9223372036854775807
          · rw [if_pos c24] at H
            have c24b0 := eq_true c24
            have c24b1 : decide (x3_3.size + ((⟨#[47]⟩ : ByteArray) ++ t201).size ≤ 9223372036854775807) = true := decide_eq_true c24
            try have c24b2 : (9223372036854775807 < x3_3.size + ((⟨#[47]⟩ : ByteArray) ++ t201).size) = False := eq_false (Nat.not_lt.2 c24)
            have c24b3 := c24
            simp only [ByteArray.size_append, show (⟨#[47]⟩ : ByteArray).size = 1 from rfl] at c24b3
            have c24b4 := eq_false (Nat.not_lt.2 c24b3)
            obtain rfl := Option.some.inj H
            try go_wp2
            have n0_ := Aside0.mk (Kd.R_drew HO_189001.out)
            have n1_ := Aside0.mk (Kd.R_drew HO_189002.out)
            have n2_ := Aside0.mk (blk_drew BK188.out)
            have n3_ := Aside0.mk (below_drew1 HB.out)
            clear HO_189001
            clear HO_189002
            clear BK188
            clear HB
            have HO_189001 := n0_
            have HO_189002 := n1_
            have BK188 := n2_
            have HB := n3_
            clear n0_ n1_ n2_ n3_
            refine start_ (n := 5) (S := fun w' => w'.cell? ⟨gb188, 0, none⟩ = some (.bool t189) ∧ w'.cell? ⟨gb188, 1, none⟩ = some (.slice Ao9 t190.length co9) ∧ w'.cell? ⟨gb188, 2, none⟩ = some (.slice Ao10 t193.length co10)) (ds := []) #[false, false, false, false, false] (by kernel_rfl) rfl rfl ⟨(blk_cell BK188.out 0).trans rfl, (blk_cell BK188.out 1).trans rfl, (blk_cell BK188.out 2).trans rfl⟩ (fun hHeld => ?_)
            generalize wc.drew = w25 at HO_189001 HO_189002 BK188 HB hHeld ⊢
            refine pure_ (i := 0) (N := some 13) (v := ?_) (a' := ?_) #[true, false, false, false, false] rfl rfl (by kernel_rfl) (fun _ _ _ h => h) (Or.inl ⟨by rfl, ?_⟩) ?_ ?_
            rotate_left
            · intro w'
              go_simp
              with_reducible rfl
            rotate_left
            · simp only [Act.put, List.setIfInBounds_toArray, List.set_cons_zero, List.set_cons_succ, i64_w, i32_w]
              rfl
            refine take_ (i := 1) (N := some 14) (v := ?_) (a' := ?_) #[true, true, false, false, false] rfl rfl (by kernel_rfl) (fun _ _ _ h => h) (Or.inl ⟨by rfl, ?_⟩) hHeld ?_ ?_
            rotate_left
            · rintro w' ⟨s0, s1, s2⟩
              go_simp
              with_reducible rfl
            rotate_left
            · simp only [Act.put, List.setIfInBounds_toArray, List.set_cons_zero, List.set_cons_succ, i64_w, i32_w]
              rfl
            refine one_ (i := 2) (N := some 15) #[true, true, true, false, false] rfl rfl (by kernel_rfl) (by decide) (fun K hK => ?_)
            refine goes_ Tryz.func31 (by kernel_rfl) rfl #[.int .u64 1] (by rfl) rfl rfl (by (try simp only [List.map_toArray, List.map_cons, List.map_nil]); first | done | rfl | (simp only [List.length_drop, List.length_take]; rfl)) ?_
            with_reducible refine (nat_Of.calls 1 t197 _ A15.out).mono ?_
            rintro e w26 ⟨v198, rfl, ho0, hb⟩
            refine ⟨_, rfl, ?_⟩
            have n0_ := Aside0.mk (Kd.R_elder' (by exact HO_189001.out) (Kd.R_base ho0) hb)
            have n1_ := Aside0.mk (Kd.R_elder' (by exact HO_189002.out) (Kd.R_base ho0) hb)
            have n2_ := Aside0.mk (Kd.R_lower (Kd.R_new' (Kd.R_new' ho0 (Kd.R_lt (by exact HO_189001.out))) (Kd.R_lt (by exact HO_189002.out))) (below_size (by repeat (first | (with_reducible first | exact HB.out | apply below_alloc | apply pw_below_drewN | apply below_drew1 | refine below_set ?_ GE188.out) | exact HB.out))))
            have n3_ := Aside0.mk (blk_below (g := gb188) (o := .cells #[.bool t189, .slice Ao9 t190.length co9, .slice Ao10 t193.length co10] 25 (0, 0)) (by exact BK188.out) hb)
            have n4_ := Aside0.mk (below_step (by repeat (first | (with_reducible first | exact HB.out | apply below_alloc | apply pw_below_drewN | apply below_drew1 | refine below_set ?_ GE188.out) | exact HB.out)) hb)
            clear HO_189001
            clear HO_189002
            clear BK188
            clear HB
            have HO_189001 := n0_
            have HO_189002 := n1_
            have HO199 := n2_
            have BK188 := n3_
            have HB := n4_
            clear n0_ n1_ n2_ n3_ n4_
            (try clear hb)
            (try clear hb2)
            (try clear hk)
            (try clear hi)
            (try clear ho0)
            obtain ⟨Ao27, co27, eo27⟩ := Kd.R_slice HO199.out
            (first | subst eo27 | (injection eo27 with f1_ f2_ f3_; have f4_ := f1_.symm; have f5_ := f3_.symm; clear f1_ f2_ f3_; subst f4_; subst f5_))
            refine hK.out _ _ ⟨(blk_cell BK188.out 0).trans rfl, (blk_cell BK188.out 1).trans rfl, (blk_cell BK188.out 2).trans rfl⟩ (fun hHeld => ?_)
            clear hK K
            refine norm_ (a' := ?_) ?_ ?_
            rotate_left
            · show Act.put _ (some 15) _ = _
              simp only [Act.put, List.setIfInBounds_toArray, List.set_cons_zero, List.set_cons_succ, i64_w, i32_w]
              rfl
            refine one_ (i := 3) (N := some 16) #[true, true, true, true, false] rfl rfl (by kernel_rfl) (by decide) (fun K hK => ?_)
            refine goes_ Tryz.func30 (by kernel_rfl) rfl #[.slice Ao10 t193.length co10, .slice Ao27 t197.length co27] (by rfl) rfl rfl (by (try simp only [List.map_toArray, List.map_cons, List.map_nil]); first | done | rfl | (simp only [List.length_drop, List.length_take]; rfl)) ?_
            with_reducible refine (nat_Cmp.calls _ _ t193 _ _ t197 t200 _ ?side1 ?side2 ?side3 ?side4 A16.out).mono ?_
            (case side1 => repeat (first | exact (Kd.R_reads' HO_189002.out).2.2 | (with_reducible refine Kd.C_alloc ?_ _) | (with_reducible refine Kd.C_drewN ?_ _) | (with_reducible refine Kd.C_drew ?_)))
            (case side2 => exact (Kd.R_reads' HO_189002.out).2.1)
            (case side3 => repeat (first | exact (Kd.R_reads' HO199.out).2.2 | (with_reducible refine Kd.C_alloc ?_ _) | (with_reducible refine Kd.C_drewN ?_ _) | (with_reducible refine Kd.C_drew ?_)))
            (case side4 => exact (Kd.R_reads' HO199.out).2.1)
            rintro e w28 ⟨rfl, hb⟩
            refine ⟨_, rfl, ?_⟩
            have n0_ := Aside0.mk (Kd.R_below (by exact HO_189001.out) hb)
            have n1_ := Aside0.mk (Kd.R_below (by exact HO_189002.out) hb)
            have n2_ := Aside0.mk (Kd.R_below (by exact HO199.out) hb)
            have n3_ := Aside0.mk (blk_below (g := gb188) (o := .cells #[.bool t189, .slice Ao9 t190.length co9, .slice Ao10 t193.length co10] 25 (0, 0)) (by exact BK188.out) hb)
            have n4_ := Aside0.mk (below_step (by repeat (first | (with_reducible first | exact HB.out | apply below_alloc | apply pw_below_drewN | apply below_drew1 | refine below_set ?_ GE188.out) | exact HB.out)) hb)
            clear HO_189001
            clear HO_189002
            clear HO199
            clear BK188
            clear HB
            have HO_189001 := n0_
            have HO_189002 := n1_
            have HO199 := n2_
            have BK188 := n3_
            have HB := n4_
            clear n0_ n1_ n2_ n3_ n4_
            (try clear hb)
            (try clear hb2)
            (try clear hk)
            (try clear hi)
            refine hK.out _ _ ⟨(blk_cell BK188.out 0).trans rfl, (blk_cell BK188.out 1).trans rfl, (blk_cell BK188.out 2).trans rfl⟩ (fun hHeld => ?_)
            clear hK K
            refine norm_ (a' := ?_) ?_ ?_
            rotate_left
            · show Act.put _ (some 16) _ = _
              simp only [Act.put, List.setIfInBounds_toArray, List.set_cons_zero, List.set_cons_succ, i64_w, i32_w]
              rfl
            refine pure_ (i := 4) (N := some 17) (v := ?_) (a' := ?_) #[true, true, true, true, true] rfl rfl (by kernel_rfl) (fun _ _ _ h => h) (Or.inl ⟨by rfl, ?_⟩) ?_ ?_
            rotate_left
            · intro w'
              go_simp
              with_reducible rfl
            rotate_left
            · simp only [Act.put, List.setIfInBounds_toArray, List.set_cons_zero, List.set_cons_succ, i64_w, i32_w]
              rfl
            refine done_ (by kernel_rfl) ?_
            have hcz29_0 : w28.cell? ⟨gb188, 0, none⟩ = some (.bool t189) := (blk_cell BK188.out 0).trans rfl
            have hcz29_1 : w28.cell? ⟨gb188, 1, none⟩ = some (.slice Ao9 t190.length co9) := (blk_cell BK188.out 1).trans rfl
            have hcz29_2 : w28.cell? ⟨gb188, 2, none⟩ = some (.slice Ao10 t193.length co10) := (blk_cell BK188.out 2).trans rfl
            have hfz29_0 := blk_frozen BK188.out 0
            have hfz29_1 := blk_frozen BK188.out 1
            have hfz29_2 := blk_frozen BK188.out 2
            try go_wp2_with (first | ((with_reducible refine gate_callee (f := 17) rfl ?_); refine goesL_ (some 21) rfl rfl Tryz.func17 (by kernel_rfl) rfl #[.slice Ao10 t193.length co10] rfl (by (try simp only [List.map_toArray, List.map_cons, List.map_nil]); first | done | rfl | (simp only [List.length_drop, List.length_take]; rfl)) ?_; (with_reducible refine (digits_Nat.calls _ _ t193 t201 _ ?side1 ?side2 A22.out ?side3).mono ?_); (case side1 => repeat (first | exact (Kd.R_reads' HO_189002.out).2.2 | (with_reducible refine Kd.C_alloc ?_ _) | (with_reducible refine Kd.C_drewN ?_ _) | (with_reducible refine Kd.C_drew ?_))); (case side2 => exact (Kd.R_reads' HO_189002.out).2.1); (case side3 => exact LaidT.below hL (by repeat (first | (with_reducible first | exact HB.out | apply below_alloc | apply pw_below_drewN | apply below_drew1 | refine below_set ?_ GE188.out) | exact HB.out))); rintro e w30 ⟨rfl, hb⟩; refine ⟨_, rfl, ?_⟩; have n0_ := Aside0.mk (Kd.R_below (by exact HO_189001.out) hb); have n1_ := Aside0.mk (Kd.R_below (by exact HO_189002.out) hb); have n2_ := Aside0.mk (Kd.R_below (by exact HO199.out) hb); have n3_ := Aside0.mk (blk_below (g := gb188) (o := .cells #[.bool t189, .slice Ao9 t190.length co9, .slice Ao10 t193.length co10] 25 (0, 0)) (by exact BK188.out) hb); have n4_ := Aside0.mk (below_step (by repeat (first | (with_reducible first | exact HB.out | apply below_alloc | apply pw_below_drewN | apply below_drew1 | refine below_set ?_ GE188.out) | exact HB.out)) hb); clear HO_189001; clear HO_189002; clear HO199; clear BK188; clear HB; have HO_189001 := n0_; have HO_189002 := n1_; have HO199 := n2_; have BK188 := n3_; have HB := n4_; clear n0_ n1_ n2_ n3_ n4_; (try clear hb); (try clear hb2); (try clear hk); (try clear hi)))
            go_ret
            exact ⟨by first | rfl | (simp [errW_none, errW_some] <;> rfl) | (simp [*, errW_none, errW_some] <;> rfl), by repeat (first | (with_reducible first | exact HB.out | apply below_alloc | apply pw_below_drewN | apply below_drew1 | refine below_set ?_ GE188.out) | exact HB.out)⟩
          · rw [if_neg c24] at H
            exact absurd H (by simp)
        · rw [if_neg c23] at H
          exact absurd H (by simp)

def stringslite_HasPrefix.f (a0 : ByteArray) (a1 : ByteArray) : Option (Bool) := if (a0.size : Int) ≥ (a1.size : Int) then (if 0 ≤ (a1.size : Int) then (if (a1.size : Int) ≤ (a0.size : Int) then (some ((a0.extract 0 ((a1.size : Int) : Int).toNat).toList == a1.toList)) else (none)) else (none)) else (some false)
set_option maxHeartbeats 8000000 in
set_option maxRecDepth 100000 in
theorem stringslite_HasPrefix.calls (a0 : ByteArray) (a1 : ByteArray) (r : Bool) (w : World) (h : stringslite_HasPrefix.f a0 a1 = some r) :
    Calls Tryz.prog 105 #[.string a0, .string a1] w fun e w' => e = .returned (.bool r) ∧ Drawn0 w w' := by
  have H : (if (a0.size : Int) ≥ (a1.size : Int) then (if 0 ≤ (a1.size : Int) then (if (a1.size : Int) ≤ (a0.size : Int) then (some ((a0.extract 0 ((a1.size : Int) : Int).toNat).toList == a1.toList)) else (none)) else (none)) else (some false)) = some r := h
  clear h
  by_cases c3 : (a0.size : Int) ≥ (a1.size : Int)
  · rw [if_pos c3] at H
    have c3b0 : decide ((a1.size : Int) ≤ (a0.size : Int)) = true := decide_eq_true c3
    have c3b1 : decide (a1.size ≤ a0.size) = true := decide_eq_true (Int.ofNat_le.mp c3)
    clear c3
    by_cases c4 : 0 ≤ (a1.size : Int)
    · rw [if_pos c4] at H
      have c4b0 := eq_true c4
      have c4b1 : decide (0 ≤ (a1.size : Int)) = true := decide_eq_true c4
      clear c4
      by_cases c5 : (a1.size : Int) ≤ (a0.size : Int)
      · rw [if_pos c5] at H
        have c5b0 := eq_true c5
        have c5b1 : decide ((a1.size : Int) ≤ (a0.size : Int)) = true := decide_eq_true c5
        clear c5
        obtain rfl := Option.some.inj H
        go_enter Tryz.func105, Tryz.ntmps105
        go_wp2
        go_ret
        exact ⟨by first | rfl | (simp; done) | (simp [*]; done), by repeat (first | exact Drawn0.refl _ | apply Drawn0.step)⟩
      · rw [if_neg c5] at H
        exact absurd H (by simp)
    · rw [if_neg c4] at H
      exact absurd H (by simp)
  · rw [if_neg c3] at H
    have c3b0 : decide ((a1.size : Int) ≤ (a0.size : Int)) = false := decide_eq_false c3
    have c3b1 : decide (a1.size ≤ a0.size) = false := decide_eq_false (fun h => c3 (Int.ofNat_le.mpr h))
    clear c3
    obtain rfl := Option.some.inj H
    go_enter Tryz.func105, Tryz.ntmps105
    go_wp2
    go_ret
    exact ⟨by first | rfl | (simp; done) | (simp [*]; done), by repeat (first | exact Drawn0.refl _ | apply Drawn0.step)⟩

def stringslite_CutPrefix.f (a0 : ByteArray) (a1 : ByteArray) : Option (ByteArray × Bool) := (stringslite_HasPrefix.f a0 a1).bind fun t202 => (if t202 = true then (if 0 ≤ (a1.size : Int) then (if (a1.size : Int) ≤ (a0.size : Int) then (some (a0.extract ((a1.size : Int) : Int).toNat a0.size, true)) else (none)) else (none)) else (some (a0, false)))
set_option maxHeartbeats 8000000 in
set_option maxRecDepth 100000 in
theorem stringslite_CutPrefix.calls (a0 : ByteArray) (a1 : ByteArray) (r1 : ByteArray) (r2 : Bool) (w : World) (h : stringslite_CutPrefix.f a0 a1 = some (r1, r2)) :
    Calls Tryz.prog 70 #[.string a0, .string a1] w fun e w' => e = .returned (.tuple #[.string r1, .bool r2]) ∧ Drawn0 w w' := by
  have H : ((stringslite_HasPrefix.f a0 a1).bind fun t202 => (if t202 = true then (if 0 ≤ (a1.size : Int) then (if (a1.size : Int) ≤ (a0.size : Int) then (some (a0.extract ((a1.size : Int) : Int).toNat a0.size, true)) else (none)) else (none)) else (some (a0, false)))) = some (r1, r2) := h
  clear h
  replace H := Option.bind_eq_some_iff.mp H
  obtain ⟨t202, A30, H⟩ := H
  try dsimp only at H
  have A3 := Aside0.mk A30
  clear A30
  by_cases c4 : t202 = true
  · subst c4
    have H1 : (if 0 ≤ (a1.size : Int) then (if (a1.size : Int) ≤ (a0.size : Int) then (some (a0.extract ((a1.size : Int) : Int).toNat a0.size, true)) else (none)) else (none)) = some (r1, r2) := by rw [if_pos rfl] at H; exact H
    clear H
    have H := H1
    clear H1
    by_cases c5 : 0 ≤ (a1.size : Int)
    · rw [if_pos c5] at H
      have c5b0 := eq_true c5
      have c5b1 : decide (0 ≤ (a1.size : Int)) = true := decide_eq_true c5
      clear c5
      by_cases c6 : (a1.size : Int) ≤ (a0.size : Int)
      · rw [if_pos c6] at H
        have c6b0 := eq_true c6
        have c6b1 : decide ((a1.size : Int) ≤ (a0.size : Int)) = true := decide_eq_true c6
        clear c6
        simp only [Option.some.injEq, Prod.mk.injEq] at H
        obtain ⟨rfl, rfl⟩ := H
        go_enter Tryz.func70, Tryz.ntmps70
        go_wp2_with (first | ((with_reducible refine gate_callee (f := 105) rfl ?_); refine goesL_ (some 8) rfl rfl Tryz.func105 (by kernel_rfl) rfl #[.string a0, .string a1] rfl (by (try simp only [List.map_toArray, List.map_cons, List.map_nil]); first | done | rfl | (simp only [List.length_drop, List.length_take]; rfl)) ?_; (with_reducible refine (stringslite_HasPrefix.calls a0 a1 true _ A3.out).mono ?_); rintro e w' ⟨rfl, ⟨nd, rfl⟩⟩; refine ⟨_, rfl, ?_⟩))
        go_ret2
        exact ⟨by first | rfl | (simp; done) | (simp [*]; done), by repeat (first | exact Drawn0.refl _ | apply Drawn0.step)⟩
      · rw [if_neg c6] at H
        exact absurd H (by simp)
    · rw [if_neg c5] at H
      exact absurd H (by simp)
  · replace c4 := Bool.eq_false_iff.mpr c4
    subst c4
    have H1 : (some (a0, false)) = some (r1, r2) := by rw [if_neg (show ¬ (false = true) by decide)] at H; exact H
    clear H
    have H := H1
    clear H1
    simp only [Option.some.injEq, Prod.mk.injEq] at H
    obtain ⟨rfl, rfl⟩ := H
    go_enter Tryz.func70, Tryz.ntmps70
    go_wp2_with (first | ((with_reducible refine gate_callee (f := 105) rfl ?_); refine goesL_ (some 8) rfl rfl Tryz.func105 (by kernel_rfl) rfl #[.string a0, .string a1] rfl (by (try simp only [List.map_toArray, List.map_cons, List.map_nil]); first | done | rfl | (simp only [List.length_drop, List.length_take]; rfl)) ?_; (with_reducible refine (stringslite_HasPrefix.calls a0 a1 false _ A3.out).mono ?_); rintro e w' ⟨rfl, ⟨nd, rfl⟩⟩; refine ⟨_, rfl, ?_⟩))
    go_ret2
    exact ⟨by first | rfl | (simp; done) | (simp [*]; done), by repeat (first | exact Drawn0.refl _ | apply Drawn0.step)⟩

def strings_CutPrefix.f (a0 : ByteArray) (a1 : ByteArray) : Option (ByteArray × Bool) := (stringslite_CutPrefix.f a0 a1).bind fun bt203 => (some (bt203.1, bt203.2))
set_option maxHeartbeats 8000000 in
set_option maxRecDepth 100000 in
theorem strings_CutPrefix.calls (a0 : ByteArray) (a1 : ByteArray) (r1 : ByteArray) (r2 : Bool) (w : World) (h : strings_CutPrefix.f a0 a1 = some (r1, r2)) :
    Calls Tryz.prog 34 #[.string a0, .string a1] w fun e w' => e = .returned (.tuple #[.string r1, .bool r2]) ∧ Drawn0 w w' := by
  have H : ((stringslite_CutPrefix.f a0 a1).bind fun bt203 => (some (bt203.1, bt203.2))) = some (r1, r2) := h
  clear h
  replace H := Option.bind_eq_some_iff.mp H
  obtain ⟨⟨t203, t204⟩, A30, H⟩ := H
  try dsimp only at H
  have A3 := Aside0.mk A30
  clear A30
  simp only [Option.some.injEq, Prod.mk.injEq] at H
  obtain ⟨rfl, rfl⟩ := H
  go_enter Tryz.func34, Tryz.ntmps34
  go_wp2_with (first | ((with_reducible refine gate_callee (f := 70) rfl ?_); refine goesL_ (some 8) rfl rfl Tryz.func70 (by kernel_rfl) rfl #[.string a0, .string a1] rfl (by (try simp only [List.map_toArray, List.map_cons, List.map_nil]); first | done | rfl | (simp only [List.length_drop, List.length_take]; rfl)) ?_; (with_reducible refine (stringslite_CutPrefix.calls a0 a1 t203 t204 _ A3.out).mono ?_); rintro e w' ⟨rfl, ⟨nd, rfl⟩⟩; refine ⟨_, rfl, ?_⟩))
  go_ret2
  exact ⟨by first | rfl | (simp; done) | (simp [*]; done), by repeat (first | exact Drawn0.refl _ | apply Drawn0.step)⟩

def rat_limbs.f (l0 : List Int) (l1 : List Int) : Option (Bool) := if (l0.length : Int) = (l1.length : Int) then ((nat_Cmp.f l0 l1).bind fun t230 => (some (t230 == 0))) else (some false)
set_option maxHeartbeats 8000000 in
set_option maxRecDepth 100000 in
theorem rat_limbs.calls (A0 : Option Addr) (c0 : Nat) (l0 : List Int) (A1 : Option Addr) (c1 : Nat) (l1 : List Int) (r : Bool) (w : World) (hr0 : Kd.C (Kd.int .u32) w A0 l0.length l0) (hc0 : l0.length ≤ c0) (hr1 : Kd.C (Kd.int .u32) w A1 l1.length l1) (hc1 : l1.length ≤ c1) (h : rat_limbs.f l0 l1 = some r) :
    Calls Tryz.prog 77 #[.slice A0 l0.length c0, .slice A1 l1.length c1] w fun e w' => e = .returned (.bool r) ∧ Below w.heap.size w w' := by
  have HR0 := Aside0.mk hr0
  have HC0 := Aside0.mk hc0
  clear hr0 hc0
  have HR1 := Aside0.mk hr1
  have HC1 := Aside0.mk hc1
  clear hr1 hc1
  have HB := Aside0.mk (Below.refl w.heap.size w)
  have H : (if (l0.length : Int) = (l1.length : Int) then ((nat_Cmp.f l0 l1).bind fun t230 => (some (t230 == 0))) else (some false)) = some r := h
  clear h
  by_cases c3 : (l0.length : Int) = (l1.length : Int)
  · rw [if_pos c3] at H
    have c3b0 : ((l0.length : Int) == (l1.length : Int)) = true := beq_iff_eq.mpr c3
    have c3b1 : ((l0.length : Int) != (l1.length : Int)) = false := bne_eq_false_iff_eq.mpr c3
    have c3b2 : (l0.length == l1.length) = true := by first | simpa using c3 | (simp at c3 ⊢; omega)
    clear c3
    replace H := Option.bind_eq_some_iff.mp H
    obtain ⟨t230, A40, H⟩ := H
    try dsimp only at H
    have A4 := Aside0.mk A40
    clear A40
    obtain rfl := Option.some.inj H
    go_enter Tryz.func77, Tryz.ntmps77
    go_wp2_with (first | (go_at_call 30; (with_reducible refine (nat_Cmp.calls _ _ l0 _ _ l1 t230 _ ?side1 ?side2 ?side3 ?side4 A4.out).mono ?_); (case side1 => repeat (first | exact HR0.out | (with_reducible refine Kd.C_alloc ?_ _) | (with_reducible refine Kd.C_drewN ?_ _) | (with_reducible refine Kd.C_drew ?_))); (case side2 => exact HC0.out); (case side3 => repeat (first | exact HR1.out | (with_reducible refine Kd.C_alloc ?_ _) | (with_reducible refine Kd.C_drewN ?_ _) | (with_reducible refine Kd.C_drew ?_))); (case side4 => exact HC1.out); rintro e w5 ⟨rfl, hb⟩; have n0_ := Aside0.mk (below_step (by repeat (first | (with_reducible first | exact HB.out | apply below_alloc | apply pw_below_drewN | apply below_drew1) | exact HB.out)) hb); clear HB; have HB := n0_; clear n0_; (try clear hb); (try clear hb2); (try clear hk); (try clear hi)))
    go_ret
    exact ⟨by first | rfl | (simp [errW_none, errW_some] <;> rfl) | (simp [*, errW_none, errW_some] <;> rfl), by repeat (first | (with_reducible first | exact HB.out | apply below_alloc | apply pw_below_drewN | apply below_drew1) | exact HB.out)⟩
  · rw [if_neg c3] at H
    have c3b0 : ((l0.length : Int) == (l1.length : Int)) = false := beq_eq_false_iff_ne.mpr c3
    have c3b1 : ((l0.length : Int) != (l1.length : Int)) = true := bne_iff_ne.mpr c3
    have c3b2 : (l0.length == l1.length) = false := by first | simpa using c3 | (simp at c3 ⊢; omega)
    obtain rfl := Option.some.inj H
    go_enter Tryz.func77, Tryz.ntmps77
    go_wp2
    go_ret
    exact ⟨by first | rfl | (simp [errW_none, errW_some] <;> rfl) | (simp [*, errW_none, errW_some] <;> rfl), by repeat (first | (with_reducible first | exact HB.out | apply below_alloc | apply pw_below_drewN | apply below_drew1) | exact HB.out)⟩

def rat_May.f (a0_0 : Bool) (l0_1 : List Int) (l0_2 : List Int) : Option (Int) := (rat_Norm.f a0_0 l0_1 l0_2).bind fun bt232 => (if (bt232.1 != a0_0) = true then (some 6) else ((rat_limbs.f bt232.2.1 l0_1).bind fun t240 => (if t240 = true then ((rat_limbs.f bt232.2.2 l0_2).bind fun t241 => (if t241 = true then (some 0) else (some 6))) else (some 6))))
set_option maxHeartbeats 8000000 in
set_option maxRecDepth 100000 in
theorem rat_May.calls (a0_0 : Bool) (A0_1 : Option Addr) (c0_1 : Nat) (l0_1 : List Int) (A0_2 : Option Addr) (c0_2 : Nat) (l0_2 : List Int) (r : Int) (w : World) (hr0_1 : Kd.C (Kd.int .u32) w A0_1 l0_1.length l0_1) (hc0_1 : l0_1.length ≤ c0_1) (hr0_2 : Kd.C (Kd.int .u32) w A0_2 l0_2.length l0_2) (hc0_2 : l0_2.length ≤ c0_2) (h : rat_May.f a0_0 l0_1 l0_2 = some r) :
    Calls Tryz.prog 38 #[.agg #[.bool a0_0, .slice A0_1 l0_1.length c0_1, .slice A0_2 l0_2.length c0_2]] w fun e w' => e = .returned (.int .i64 r) ∧ Below w.heap.size w w' := by
  have hu25 := Tryz.underlying25
  have HR0_1 := Aside0.mk hr0_1
  have HC0_1 := Aside0.mk hc0_1
  clear hr0_1 hc0_1
  have HR0_2 := Aside0.mk hr0_2
  have HC0_2 := Aside0.mk hc0_2
  clear hr0_2 hc0_2
  have HB := Aside0.mk (Below.refl w.heap.size w)
  have H : ((rat_Norm.f a0_0 l0_1 l0_2).bind fun bt232 => (if (bt232.1 != a0_0) = true then (some 6) else ((rat_limbs.f bt232.2.1 l0_1).bind fun t240 => (if t240 = true then ((rat_limbs.f bt232.2.2 l0_2).bind fun t241 => (if t241 = true then (some 0) else (some 6))) else (some 6))))) = some r := h
  clear h
  replace H := Option.bind_eq_some_iff.mp H
  obtain ⟨⟨t232, t233, t236⟩, A20, H⟩ := H
  try dsimp only at H
  have A2 := Aside0.mk A20
  clear A20
  by_cases c3 : (t232 != a0_0) = true
  · rw [if_pos c3] at H
    have c3b0 : (t232 != a0_0) = true := c3
    (try (have c3b1 : decide (t232 = a0_0) = false := by simpa using c3))
    (try (have c3b2 : (t232 == a0_0) = false := by simpa using c3))
    (try (have c3b3 : ¬ (t232 = a0_0) := by simpa using c3))
    clear c3
    obtain rfl := Option.some.inj H
    go_enter Tryz.func38, Tryz.ntmps38
    go_wp2_with (first | ((with_reducible refine gate_dst (N := 1) rfl ?_); refine box_event ?hg (N := 1) ?hd (cs := #[.bool a0_0, .slice A0_1 l0_1.length c0_1, .slice A0_2 l0_2.length c0_2]) (t := 25) ?hr ?_; (case hd => rfl); (case hg => rfl); (case hr => first | (go_simp; done) | (go_simp; rfl)); intro gb231 hg w4 hbox hb; have n0_ := Aside0.mk (below_step (by repeat (first | (with_reducible first | exact HB.out | apply below_alloc | apply pw_below_drewN | apply below_drew1) | exact HB.out)) hb); have n1_ := Aside0.mk (hbox); have n2_ := Aside0.mk ((by rw [hg]; exact (below_size (by repeat (first | (with_reducible first | exact HB.out | apply below_alloc | apply pw_below_drewN | apply below_drew1) | exact HB.out))) : w.heap.size ≤ gb231)); have n3_ := Aside0.mk ((by rw [hg]; exact (below_size (by repeat (first | (with_reducible first | exact HB.out | apply below_alloc | apply pw_below_drewN | apply below_drew1) | exact HB.out))) : w.heap.size ≤ gb231)); clear HB; have HB := n0_; have BK231 := n1_; have GW231 := n2_; have GE231 := n3_; clear n0_ n1_ n2_ n3_; clear hb hbox hg; have hcz5_0 : w4.cell? ⟨gb231, 0, none⟩ = some (.bool a0_0) := (blk_cell BK231.out 0).trans rfl; have hcz5_1 : w4.cell? ⟨gb231, 1, none⟩ = some (.slice A0_1 l0_1.length c0_1) := (blk_cell BK231.out 1).trans rfl; have hcz5_2 : w4.cell? ⟨gb231, 2, none⟩ = some (.slice A0_2 l0_2.length c0_2) := (blk_cell BK231.out 2).trans rfl; have hfz5_0 := blk_frozen BK231.out 0; have hfz5_1 := blk_frozen BK231.out 1; have hfz5_2 := blk_frozen BK231.out 2) | ((with_reducible refine gate_callee (f := 29) rfl ?_); refine goesL_ (some 5) rfl rfl Tryz.func29 (by kernel_rfl) rfl #[.agg #[.bool a0_0, .slice A0_1 l0_1.length c0_1, .slice A0_2 l0_2.length c0_2]] rfl (by (try simp only [List.map_toArray, List.map_cons, List.map_nil]); first | done | rfl | (simp only [List.length_drop, List.length_take]; rfl)) ?_; (with_reducible refine (rat_Norm.calls a0_0 _ _ l0_1 _ _ l0_2 t232 t233 t236 _ ?side1 ?side2 ?side3 ?side4 A2.out).mono ?_); (case side1 => repeat (first | exact (Kd.C_below HR0_1.out HB.out) | (with_reducible refine Kd.C_alloc ?_ _) | (with_reducible refine Kd.C_drewN ?_ _) | (with_reducible refine Kd.C_drew ?_))); (case side2 => exact HC0_1.out); (case side3 => repeat (first | exact (Kd.C_below HR0_2.out HB.out) | (with_reducible refine Kd.C_alloc ?_ _) | (with_reducible refine Kd.C_drewN ?_ _) | (with_reducible refine Kd.C_drew ?_))); (case side4 => exact HC0_2.out); rintro e w6 ⟨v234, v237, rfl, ho0, ho1, hb⟩; refine ⟨_, rfl, ?_⟩; have n0_ := Aside0.mk (Kd.R_lower ho0 (below_size (by repeat (first | (with_reducible first | exact HB.out | apply below_alloc | apply pw_below_drewN | apply below_drew1 | refine below_set ?_ GE231.out) | exact HB.out)))); have n1_ := Aside0.mk (Kd.R_lower ho1 (below_size (by repeat (first | (with_reducible first | exact HB.out | apply below_alloc | apply pw_below_drewN | apply below_drew1 | refine below_set ?_ GE231.out) | exact HB.out)))); have n2_ := Aside0.mk (blk_below (g := gb231) (o := .cells #[.bool a0_0, .slice A0_1 l0_1.length c0_1, .slice A0_2 l0_2.length c0_2] 25 (0, 0)) (by exact BK231.out) hb); have n3_ := Aside0.mk (below_step (by repeat (first | (with_reducible first | exact HB.out | apply below_alloc | apply pw_below_drewN | apply below_drew1 | refine below_set ?_ GE231.out) | exact HB.out)) hb); clear BK231; clear HB; have HO235 := n0_; have HO238 := n1_; have BK231 := n2_; have HB := n3_; clear n0_ n1_ n2_ n3_; (try clear hb); (try clear hb2); (try clear hk); (try clear hi); (try clear ho0); (try clear ho1)) | ((with_reducible refine gate_dst (N := 3) rfl ?_); refine box_event ?hg (N := 3) ?hd (cs := #[.bool false, .slice none 0 0, .slice none 0 0]) (t := 25) ?hr ?_; (case hd => rfl); (case hg => rfl); (case hr => first | (go_simp; done) | (go_simp; rfl)); intro gb239 hg w7 hbox hb; have n0_ := Aside0.mk (Kd.R_below (by exact HO235.out) hb); have n1_ := Aside0.mk (Kd.R_below (by exact HO238.out) hb); have n2_ := Aside0.mk (blk_below (g := gb231) (o := .cells #[.bool a0_0, .slice A0_1 l0_1.length c0_1, .slice A0_2 l0_2.length c0_2] 25 (0, 0)) (by exact BK231.out) hb); have n3_ := Aside0.mk (below_step (by repeat (first | (with_reducible first | exact HB.out | apply below_alloc | apply pw_below_drewN | apply below_drew1 | refine below_set ?_ GE231.out) | exact HB.out)) hb); have n4_ := Aside0.mk (hbox); have n5_ := Aside0.mk ((by rw [hg]; exact (below_size (by repeat (first | (with_reducible first | exact HB.out | apply below_alloc | apply pw_below_drewN | apply below_drew1 | refine below_set ?_ GE231.out) | exact HB.out))) : w.heap.size ≤ gb239)); have n6_ := Aside0.mk ((by rw [hg]; exact (below_size (by repeat (first | (with_reducible first | exact HB.out | apply below_alloc | apply pw_below_drewN | apply below_drew1 | refine below_set ?_ GE231.out) | exact HB.out))) : w.heap.size ≤ gb239)); have n7_ := Aside0.mk ((by rw [hg]; exact Nat.ne_of_lt (blk_lt (g := gb231) (o := .cells #[.bool a0_0, .slice A0_1 l0_1.length c0_1, .slice A0_2 l0_2.length c0_2] 25 (0, 0)) (by exact BK231.out)) : gb231 ≠ gb239)); have n8_ := Aside0.mk ((by rw [hg]; exact Nat.ne_of_gt (blk_lt (g := gb231) (o := .cells #[.bool a0_0, .slice A0_1 l0_1.length c0_1, .slice A0_2 l0_2.length c0_2] 25 (0, 0)) (by exact BK231.out)) : gb239 ≠ gb231)); clear HO235; clear HO238; clear BK231; clear HB; have HO235 := n0_; have HO238 := n1_; have BK231 := n2_; have HB := n3_; have BK239 := n4_; have GW239 := n5_; have GE239 := n6_; have NB231_239 := n7_; have NB239_231 := n8_; clear n0_ n1_ n2_ n3_ n4_ n5_ n6_ n7_ n8_; clear hb hbox hg; have hnb8 := NB239_231.out; have hnc8 := NB231_239.out; have hcz9_0 : w7.cell? ⟨gb239, 0, none⟩ = some (.bool false) := (blk_cell BK239.out 0).trans rfl; have hcz9_1 : w7.cell? ⟨gb239, 1, none⟩ = some (.slice none 0 0) := (blk_cell BK239.out 1).trans rfl; have hcz9_2 : w7.cell? ⟨gb239, 2, none⟩ = some (.slice none 0 0) := (blk_cell BK239.out 2).trans rfl; have hfz9_0 := blk_frozen BK239.out 0; have hfz9_1 := blk_frozen BK239.out 1; have hfz9_2 := blk_frozen BK239.out 2; obtain ⟨Ao10, co10, eo10⟩ := Kd.R_slice HO235.out; subst eo10; obtain ⟨Ao11, co11, eo11⟩ := Kd.R_slice HO238.out; subst eo11; have hcz12_0 : w7.cell? ⟨gb231, 0, none⟩ = some (.bool a0_0) := (blk_cell BK231.out 0).trans rfl; have hcz12_1 : w7.cell? ⟨gb231, 1, none⟩ = some (.slice A0_1 l0_1.length c0_1) := (blk_cell BK231.out 1).trans rfl; have hcz12_2 : w7.cell? ⟨gb231, 2, none⟩ = some (.slice A0_2 l0_2.length c0_2) := (blk_cell BK231.out 2).trans rfl; have hfz12_0 := blk_frozen BK231.out 0; have hfz12_1 := blk_frozen BK231.out 1; have hfz12_2 := blk_frozen BK231.out 2))
    go_ret
    exact ⟨by first | rfl | (simp [errW_none, errW_some] <;> rfl) | (simp [*, errW_none, errW_some] <;> rfl), by repeat (first | (with_reducible first | exact HB.out | apply below_alloc | apply pw_below_drewN | apply below_drew1 | refine below_set ?_ GE231.out | refine below_set ?_ GE239.out) | exact HB.out)⟩
  · rw [if_neg c3] at H
    have c3b0 : (t232 != a0_0) = false := by simpa using c3
    (try (have c3b1 : decide (t232 = a0_0) = true := by simpa using c3))
    (try (have c3b2 : (t232 == a0_0) = true := by simpa using c3))
    clear c3
    replace H := Option.bind_eq_some_iff.mp H
    obtain ⟨t240, A130, H⟩ := H
    try dsimp only at H
    have A13 := Aside0.mk A130
    clear A130
    by_cases c14 : t240 = true
    · subst c14
      have H1 : ((rat_limbs.f t236 l0_2).bind fun t241 => (if t241 = true then (some 0) else (some 6))) = some r := by rw [if_pos rfl] at H; exact H
      clear H
      have H := H1
      clear H1
      replace H := Option.bind_eq_some_iff.mp H
      obtain ⟨t241, A150, H⟩ := H
      try dsimp only at H
      have A15 := Aside0.mk A150
      clear A150
      by_cases c16 : t241 = true
      · subst c16
        have H1 : (some 0) = some r := by rw [if_pos rfl] at H; exact H
        clear H
        have H := H1
        clear H1
        obtain rfl := Option.some.inj H
        go_enter Tryz.func38, Tryz.ntmps38
        go_wp2_with (first | ((with_reducible refine gate_dst (N := 1) rfl ?_); refine box_event ?hg (N := 1) ?hd (cs := #[.bool a0_0, .slice A0_1 l0_1.length c0_1, .slice A0_2 l0_2.length c0_2]) (t := 25) ?hr ?_; (case hd => rfl); (case hg => rfl); (case hr => first | (go_simp; done) | (go_simp; rfl)); intro gb231 hg w17 hbox hb; have n0_ := Aside0.mk (below_step (by repeat (first | (with_reducible first | exact HB.out | apply below_alloc | apply pw_below_drewN | apply below_drew1) | exact HB.out)) hb); have n1_ := Aside0.mk (hbox); have n2_ := Aside0.mk ((by rw [hg]; exact (below_size (by repeat (first | (with_reducible first | exact HB.out | apply below_alloc | apply pw_below_drewN | apply below_drew1) | exact HB.out))) : w.heap.size ≤ gb231)); have n3_ := Aside0.mk ((by rw [hg]; exact (below_size (by repeat (first | (with_reducible first | exact HB.out | apply below_alloc | apply pw_below_drewN | apply below_drew1) | exact HB.out))) : w.heap.size ≤ gb231)); clear HB; have HB := n0_; have BK231 := n1_; have GW231 := n2_; have GE231 := n3_; clear n0_ n1_ n2_ n3_; clear hb hbox hg; have hcz18_0 : w17.cell? ⟨gb231, 0, none⟩ = some (.bool a0_0) := (blk_cell BK231.out 0).trans rfl; have hcz18_1 : w17.cell? ⟨gb231, 1, none⟩ = some (.slice A0_1 l0_1.length c0_1) := (blk_cell BK231.out 1).trans rfl; have hcz18_2 : w17.cell? ⟨gb231, 2, none⟩ = some (.slice A0_2 l0_2.length c0_2) := (blk_cell BK231.out 2).trans rfl; have hfz18_0 := blk_frozen BK231.out 0; have hfz18_1 := blk_frozen BK231.out 1; have hfz18_2 := blk_frozen BK231.out 2) | ((with_reducible refine gate_callee (f := 29) rfl ?_); refine goesL_ (some 5) rfl rfl Tryz.func29 (by kernel_rfl) rfl #[.agg #[.bool a0_0, .slice A0_1 l0_1.length c0_1, .slice A0_2 l0_2.length c0_2]] rfl (by (try simp only [List.map_toArray, List.map_cons, List.map_nil]); first | done | rfl | (simp only [List.length_drop, List.length_take]; rfl)) ?_; (with_reducible refine (rat_Norm.calls a0_0 _ _ l0_1 _ _ l0_2 t232 t233 t236 _ ?side1 ?side2 ?side3 ?side4 A2.out).mono ?_); (case side1 => repeat (first | exact (Kd.C_below HR0_1.out HB.out) | (with_reducible refine Kd.C_alloc ?_ _) | (with_reducible refine Kd.C_drewN ?_ _) | (with_reducible refine Kd.C_drew ?_))); (case side2 => exact HC0_1.out); (case side3 => repeat (first | exact (Kd.C_below HR0_2.out HB.out) | (with_reducible refine Kd.C_alloc ?_ _) | (with_reducible refine Kd.C_drewN ?_ _) | (with_reducible refine Kd.C_drew ?_))); (case side4 => exact HC0_2.out); rintro e w19 ⟨v234, v237, rfl, ho0, ho1, hb⟩; refine ⟨_, rfl, ?_⟩; have n0_ := Aside0.mk (Kd.R_lower ho0 (below_size (by repeat (first | (with_reducible first | exact HB.out | apply below_alloc | apply pw_below_drewN | apply below_drew1 | refine below_set ?_ GE231.out) | exact HB.out)))); have n1_ := Aside0.mk (Kd.R_lower ho1 (below_size (by repeat (first | (with_reducible first | exact HB.out | apply below_alloc | apply pw_below_drewN | apply below_drew1 | refine below_set ?_ GE231.out) | exact HB.out)))); have n2_ := Aside0.mk (blk_below (g := gb231) (o := .cells #[.bool a0_0, .slice A0_1 l0_1.length c0_1, .slice A0_2 l0_2.length c0_2] 25 (0, 0)) (by exact BK231.out) hb); have n3_ := Aside0.mk (below_step (by repeat (first | (with_reducible first | exact HB.out | apply below_alloc | apply pw_below_drewN | apply below_drew1 | refine below_set ?_ GE231.out) | exact HB.out)) hb); clear BK231; clear HB; have HO235 := n0_; have HO238 := n1_; have BK231 := n2_; have HB := n3_; clear n0_ n1_ n2_ n3_; (try clear hb); (try clear hb2); (try clear hk); (try clear hi); (try clear ho0); (try clear ho1)) | ((with_reducible refine gate_dst (N := 3) rfl ?_); refine box_event ?hg (N := 3) ?hd (cs := #[.bool false, .slice none 0 0, .slice none 0 0]) (t := 25) ?hr ?_; (case hd => rfl); (case hg => rfl); (case hr => first | (go_simp; done) | (go_simp; rfl)); intro gb239 hg w20 hbox hb; have n0_ := Aside0.mk (Kd.R_below (by exact HO235.out) hb); have n1_ := Aside0.mk (Kd.R_below (by exact HO238.out) hb); have n2_ := Aside0.mk (blk_below (g := gb231) (o := .cells #[.bool a0_0, .slice A0_1 l0_1.length c0_1, .slice A0_2 l0_2.length c0_2] 25 (0, 0)) (by exact BK231.out) hb); have n3_ := Aside0.mk (below_step (by repeat (first | (with_reducible first | exact HB.out | apply below_alloc | apply pw_below_drewN | apply below_drew1 | refine below_set ?_ GE231.out) | exact HB.out)) hb); have n4_ := Aside0.mk (hbox); have n5_ := Aside0.mk ((by rw [hg]; exact (below_size (by repeat (first | (with_reducible first | exact HB.out | apply below_alloc | apply pw_below_drewN | apply below_drew1 | refine below_set ?_ GE231.out) | exact HB.out))) : w.heap.size ≤ gb239)); have n6_ := Aside0.mk ((by rw [hg]; exact (below_size (by repeat (first | (with_reducible first | exact HB.out | apply below_alloc | apply pw_below_drewN | apply below_drew1 | refine below_set ?_ GE231.out) | exact HB.out))) : w.heap.size ≤ gb239)); have n7_ := Aside0.mk ((by rw [hg]; exact Nat.ne_of_lt (blk_lt (g := gb231) (o := .cells #[.bool a0_0, .slice A0_1 l0_1.length c0_1, .slice A0_2 l0_2.length c0_2] 25 (0, 0)) (by exact BK231.out)) : gb231 ≠ gb239)); have n8_ := Aside0.mk ((by rw [hg]; exact Nat.ne_of_gt (blk_lt (g := gb231) (o := .cells #[.bool a0_0, .slice A0_1 l0_1.length c0_1, .slice A0_2 l0_2.length c0_2] 25 (0, 0)) (by exact BK231.out)) : gb239 ≠ gb231)); clear HO235; clear HO238; clear BK231; clear HB; have HO235 := n0_; have HO238 := n1_; have BK231 := n2_; have HB := n3_; have BK239 := n4_; have GW239 := n5_; have GE239 := n6_; have NB231_239 := n7_; have NB239_231 := n8_; clear n0_ n1_ n2_ n3_ n4_ n5_ n6_ n7_ n8_; clear hb hbox hg; have hnb21 := NB239_231.out; have hnc21 := NB231_239.out; have hcz22_0 : w20.cell? ⟨gb239, 0, none⟩ = some (.bool false) := (blk_cell BK239.out 0).trans rfl; have hcz22_1 : w20.cell? ⟨gb239, 1, none⟩ = some (.slice none 0 0) := (blk_cell BK239.out 1).trans rfl; have hcz22_2 : w20.cell? ⟨gb239, 2, none⟩ = some (.slice none 0 0) := (blk_cell BK239.out 2).trans rfl; have hfz22_0 := blk_frozen BK239.out 0; have hfz22_1 := blk_frozen BK239.out 1; have hfz22_2 := blk_frozen BK239.out 2; obtain ⟨Ao23, co23, eo23⟩ := Kd.R_slice HO235.out; subst eo23; obtain ⟨Ao24, co24, eo24⟩ := Kd.R_slice HO238.out; subst eo24; have hcz25_0 : w20.cell? ⟨gb231, 0, none⟩ = some (.bool a0_0) := (blk_cell BK231.out 0).trans rfl; have hcz25_1 : w20.cell? ⟨gb231, 1, none⟩ = some (.slice A0_1 l0_1.length c0_1) := (blk_cell BK231.out 1).trans rfl; have hcz25_2 : w20.cell? ⟨gb231, 2, none⟩ = some (.slice A0_2 l0_2.length c0_2) := (blk_cell BK231.out 2).trans rfl; have hfz25_0 := blk_frozen BK231.out 0; have hfz25_1 := blk_frozen BK231.out 1; have hfz25_2 := blk_frozen BK231.out 2) | (go_at_call 77; (with_reducible refine (rat_limbs.calls _ _ t233 _ _ l0_1 true _ ?side1 ?side2 ?side3 ?side4 A13.out).mono ?_); (case side1 => refine (Kd.R_reads' (e := 56) (base := w.heap.size) (ok := fun k_ => some k_ ≠ (.slice Ao24 t236.length co24 : Value).ownBlock) (n := t233.length) (c := co23) ?_).2.2; exact (by exact (Kd.R_mono (Kd.R_far (p := ⟨gb239, 2, none⟩) (Kd.R_far (p := ⟨gb239, 1, none⟩) (Kd.R_far (p := ⟨gb239, 0, none⟩) (Kd.R_types HO235.out BK239.out (by decide)) (fun _ hk => hk.2) (.bool t232)) (fun _ hk => hk.2) (.slice Ao23 t233.length co23)) (fun _ hk => hk.2) (.slice Ao24 t236.length co24)) (fun _ h_ => h_.1)))); (case side2 => exact (Kd.R_reads' HO235.out).2.1); (case side3 => exact Kd.C_below HR0_1.out (by repeat (first | (with_reducible first | exact HB.out | apply below_alloc | apply pw_below_drewN | apply below_drew1 | refine below_set ?_ GE231.out | refine below_set ?_ GE239.out) | exact HB.out))); (case side4 => exact HC0_1.out); rintro e w26 ⟨rfl, hb⟩; have n0_ := Aside0.mk (Kd.R_below (by exact (Kd.R_mono (Kd.R_far (p := ⟨gb239, 2, none⟩) (Kd.R_far (p := ⟨gb239, 1, none⟩) (Kd.R_far (p := ⟨gb239, 0, none⟩) (Kd.R_types HO235.out BK239.out (by decide)) (fun _ hk => hk.2) (.bool t232)) (fun _ hk => hk.2) (.slice Ao23 t233.length co23)) (fun _ hk => hk.2) (.slice Ao24 t236.length co24)) (fun _ h_ => h_.1))) hb); have n1_ := Aside0.mk (Kd.R_below (by exact (Kd.R_mono (Kd.R_far (p := ⟨gb239, 2, none⟩) (Kd.R_far (p := ⟨gb239, 1, none⟩) (Kd.R_far (p := ⟨gb239, 0, none⟩) (Kd.R_types HO238.out BK239.out (by decide)) (fun _ hk => hk.2) (.bool t232)) (fun _ hk => hk.2) (.slice Ao23 t233.length co23)) (fun _ hk => hk.2) (.slice Ao24 t236.length co24)) (fun _ h_ => h_.1))) hb); have n2_ := Aside0.mk (blk_below (g := gb231) (o := .cells #[.bool a0_0, .slice A0_1 l0_1.length c0_1, .slice A0_2 l0_2.length c0_2] 25 (0, 0)) (by refine blk_far ?_ NB231_239.out _; refine blk_far ?_ NB231_239.out _; refine blk_far ?_ NB231_239.out _; exact BK231.out) hb); have n3_ := Aside0.mk (blk_below (g := gb239) (o := .cells #[.bool t232, .slice Ao23 t233.length co23, .slice Ao24 t236.length co24] 25 (0, 0)) (by refine blk_put (cs := #[.bool t232, .slice Ao23 t233.length co23, .slice none 0 0]) ?_ 2 _ rfl; refine blk_put (cs := #[.bool t232, .slice none 0 0, .slice none 0 0]) ?_ 1 _ rfl; refine blk_put (cs := #[.bool false, .slice none 0 0, .slice none 0 0]) ?_ 0 _ rfl; exact BK239.out) hb); have n4_ := Aside0.mk (below_step (by repeat (first | (with_reducible first | exact HB.out | apply below_alloc | apply pw_below_drewN | apply below_drew1 | refine below_set ?_ GE231.out | refine below_set ?_ GE239.out) | exact HB.out)) hb); clear HO235; clear HO238; clear BK231; clear BK239; clear HB; have HO235 := n0_; have HO238 := n1_; have BK231 := n2_; have BK239 := n3_; have HB := n4_; clear n0_ n1_ n2_ n3_ n4_; (try clear hb); (try clear hb2); (try clear hk); (try clear hi); have hcz27_0 : w26.cell? ⟨gb239, 0, none⟩ = some (.bool t232) := (blk_cell BK239.out 0).trans rfl; have hcz27_1 : w26.cell? ⟨gb239, 1, none⟩ = some (.slice Ao23 t233.length co23) := (blk_cell BK239.out 1).trans rfl; have hcz27_2 : w26.cell? ⟨gb239, 2, none⟩ = some (.slice Ao24 t236.length co24) := (blk_cell BK239.out 2).trans rfl; have hfz27_0 := blk_frozen BK239.out 0; have hfz27_1 := blk_frozen BK239.out 1; have hfz27_2 := blk_frozen BK239.out 2; have hcz28_0 : w26.cell? ⟨gb231, 0, none⟩ = some (.bool a0_0) := (blk_cell BK231.out 0).trans rfl; have hcz28_1 : w26.cell? ⟨gb231, 1, none⟩ = some (.slice A0_1 l0_1.length c0_1) := (blk_cell BK231.out 1).trans rfl; have hcz28_2 : w26.cell? ⟨gb231, 2, none⟩ = some (.slice A0_2 l0_2.length c0_2) := (blk_cell BK231.out 2).trans rfl; have hfz28_0 := blk_frozen BK231.out 0; have hfz28_1 := blk_frozen BK231.out 1; have hfz28_2 := blk_frozen BK231.out 2) | (go_at_call 77; (with_reducible refine (rat_limbs.calls _ _ t236 _ _ l0_2 true _ ?side1 ?side2 ?side3 ?side4 A15.out).mono ?_); (case side1 => repeat (first | exact (Kd.R_reads' HO238.out).2.2 | (with_reducible refine Kd.C_alloc ?_ _) | (with_reducible refine Kd.C_drewN ?_ _) | (with_reducible refine Kd.C_drew ?_))); (case side2 => exact (Kd.R_reads' HO238.out).2.1); (case side3 => repeat (first | exact (Kd.C_below HR0_2.out HB.out) | (with_reducible refine Kd.C_alloc ?_ _) | (with_reducible refine Kd.C_drewN ?_ _) | (with_reducible refine Kd.C_drew ?_))); (case side4 => exact HC0_2.out); rintro e w29 ⟨rfl, hb⟩; have n0_ := Aside0.mk (Kd.R_below (by exact HO235.out) hb); have n1_ := Aside0.mk (Kd.R_below (by exact HO238.out) hb); have n2_ := Aside0.mk (blk_below (g := gb231) (o := .cells #[.bool a0_0, .slice A0_1 l0_1.length c0_1, .slice A0_2 l0_2.length c0_2] 25 (0, 0)) (by exact BK231.out) hb); have n3_ := Aside0.mk (blk_below (g := gb239) (o := .cells #[.bool t232, .slice Ao23 t233.length co23, .slice Ao24 t236.length co24] 25 (0, 0)) (by exact BK239.out) hb); have n4_ := Aside0.mk (below_step (by repeat (first | (with_reducible first | exact HB.out | apply below_alloc | apply pw_below_drewN | apply below_drew1 | refine below_set ?_ GE231.out | refine below_set ?_ GE239.out) | exact HB.out)) hb); clear HO235; clear HO238; clear BK231; clear BK239; clear HB; have HO235 := n0_; have HO238 := n1_; have BK231 := n2_; have BK239 := n3_; have HB := n4_; clear n0_ n1_ n2_ n3_ n4_; (try clear hb); (try clear hb2); (try clear hk); (try clear hi)))
        go_ret
        exact ⟨by first | rfl | (simp [errW_none, errW_some] <;> rfl) | (simp [*, errW_none, errW_some] <;> rfl), by repeat (first | (with_reducible first | exact HB.out | apply below_alloc | apply pw_below_drewN | apply below_drew1 | refine below_set ?_ GE231.out | refine below_set ?_ GE239.out) | exact HB.out)⟩
      · replace c16 := Bool.eq_false_iff.mpr c16
        subst c16
        have H1 : (some 6) = some r := by rw [if_neg (show ¬ (false = true) by decide)] at H; exact H
        clear H
        have H := H1
        clear H1
        obtain rfl := Option.some.inj H
        go_enter Tryz.func38, Tryz.ntmps38
        go_wp2_with (first | ((with_reducible refine gate_dst (N := 1) rfl ?_); refine box_event ?hg (N := 1) ?hd (cs := #[.bool a0_0, .slice A0_1 l0_1.length c0_1, .slice A0_2 l0_2.length c0_2]) (t := 25) ?hr ?_; (case hd => rfl); (case hg => rfl); (case hr => first | (go_simp; done) | (go_simp; rfl)); intro gb231 hg w30 hbox hb; have n0_ := Aside0.mk (below_step (by repeat (first | (with_reducible first | exact HB.out | apply below_alloc | apply pw_below_drewN | apply below_drew1) | exact HB.out)) hb); have n1_ := Aside0.mk (hbox); have n2_ := Aside0.mk ((by rw [hg]; exact (below_size (by repeat (first | (with_reducible first | exact HB.out | apply below_alloc | apply pw_below_drewN | apply below_drew1) | exact HB.out))) : w.heap.size ≤ gb231)); have n3_ := Aside0.mk ((by rw [hg]; exact (below_size (by repeat (first | (with_reducible first | exact HB.out | apply below_alloc | apply pw_below_drewN | apply below_drew1) | exact HB.out))) : w.heap.size ≤ gb231)); clear HB; have HB := n0_; have BK231 := n1_; have GW231 := n2_; have GE231 := n3_; clear n0_ n1_ n2_ n3_; clear hb hbox hg; have hcz31_0 : w30.cell? ⟨gb231, 0, none⟩ = some (.bool a0_0) := (blk_cell BK231.out 0).trans rfl; have hcz31_1 : w30.cell? ⟨gb231, 1, none⟩ = some (.slice A0_1 l0_1.length c0_1) := (blk_cell BK231.out 1).trans rfl; have hcz31_2 : w30.cell? ⟨gb231, 2, none⟩ = some (.slice A0_2 l0_2.length c0_2) := (blk_cell BK231.out 2).trans rfl; have hfz31_0 := blk_frozen BK231.out 0; have hfz31_1 := blk_frozen BK231.out 1; have hfz31_2 := blk_frozen BK231.out 2) | ((with_reducible refine gate_callee (f := 29) rfl ?_); refine goesL_ (some 5) rfl rfl Tryz.func29 (by kernel_rfl) rfl #[.agg #[.bool a0_0, .slice A0_1 l0_1.length c0_1, .slice A0_2 l0_2.length c0_2]] rfl (by (try simp only [List.map_toArray, List.map_cons, List.map_nil]); first | done | rfl | (simp only [List.length_drop, List.length_take]; rfl)) ?_; (with_reducible refine (rat_Norm.calls a0_0 _ _ l0_1 _ _ l0_2 t232 t233 t236 _ ?side1 ?side2 ?side3 ?side4 A2.out).mono ?_); (case side1 => repeat (first | exact (Kd.C_below HR0_1.out HB.out) | (with_reducible refine Kd.C_alloc ?_ _) | (with_reducible refine Kd.C_drewN ?_ _) | (with_reducible refine Kd.C_drew ?_))); (case side2 => exact HC0_1.out); (case side3 => repeat (first | exact (Kd.C_below HR0_2.out HB.out) | (with_reducible refine Kd.C_alloc ?_ _) | (with_reducible refine Kd.C_drewN ?_ _) | (with_reducible refine Kd.C_drew ?_))); (case side4 => exact HC0_2.out); rintro e w32 ⟨v234, v237, rfl, ho0, ho1, hb⟩; refine ⟨_, rfl, ?_⟩; have n0_ := Aside0.mk (Kd.R_lower ho0 (below_size (by repeat (first | (with_reducible first | exact HB.out | apply below_alloc | apply pw_below_drewN | apply below_drew1 | refine below_set ?_ GE231.out) | exact HB.out)))); have n1_ := Aside0.mk (Kd.R_lower ho1 (below_size (by repeat (first | (with_reducible first | exact HB.out | apply below_alloc | apply pw_below_drewN | apply below_drew1 | refine below_set ?_ GE231.out) | exact HB.out)))); have n2_ := Aside0.mk (blk_below (g := gb231) (o := .cells #[.bool a0_0, .slice A0_1 l0_1.length c0_1, .slice A0_2 l0_2.length c0_2] 25 (0, 0)) (by exact BK231.out) hb); have n3_ := Aside0.mk (below_step (by repeat (first | (with_reducible first | exact HB.out | apply below_alloc | apply pw_below_drewN | apply below_drew1 | refine below_set ?_ GE231.out) | exact HB.out)) hb); clear BK231; clear HB; have HO235 := n0_; have HO238 := n1_; have BK231 := n2_; have HB := n3_; clear n0_ n1_ n2_ n3_; (try clear hb); (try clear hb2); (try clear hk); (try clear hi); (try clear ho0); (try clear ho1)) | ((with_reducible refine gate_dst (N := 3) rfl ?_); refine box_event ?hg (N := 3) ?hd (cs := #[.bool false, .slice none 0 0, .slice none 0 0]) (t := 25) ?hr ?_; (case hd => rfl); (case hg => rfl); (case hr => first | (go_simp; done) | (go_simp; rfl)); intro gb239 hg w33 hbox hb; have n0_ := Aside0.mk (Kd.R_below (by exact HO235.out) hb); have n1_ := Aside0.mk (Kd.R_below (by exact HO238.out) hb); have n2_ := Aside0.mk (blk_below (g := gb231) (o := .cells #[.bool a0_0, .slice A0_1 l0_1.length c0_1, .slice A0_2 l0_2.length c0_2] 25 (0, 0)) (by exact BK231.out) hb); have n3_ := Aside0.mk (below_step (by repeat (first | (with_reducible first | exact HB.out | apply below_alloc | apply pw_below_drewN | apply below_drew1 | refine below_set ?_ GE231.out) | exact HB.out)) hb); have n4_ := Aside0.mk (hbox); have n5_ := Aside0.mk ((by rw [hg]; exact (below_size (by repeat (first | (with_reducible first | exact HB.out | apply below_alloc | apply pw_below_drewN | apply below_drew1 | refine below_set ?_ GE231.out) | exact HB.out))) : w.heap.size ≤ gb239)); have n6_ := Aside0.mk ((by rw [hg]; exact (below_size (by repeat (first | (with_reducible first | exact HB.out | apply below_alloc | apply pw_below_drewN | apply below_drew1 | refine below_set ?_ GE231.out) | exact HB.out))) : w.heap.size ≤ gb239)); have n7_ := Aside0.mk ((by rw [hg]; exact Nat.ne_of_lt (blk_lt (g := gb231) (o := .cells #[.bool a0_0, .slice A0_1 l0_1.length c0_1, .slice A0_2 l0_2.length c0_2] 25 (0, 0)) (by exact BK231.out)) : gb231 ≠ gb239)); have n8_ := Aside0.mk ((by rw [hg]; exact Nat.ne_of_gt (blk_lt (g := gb231) (o := .cells #[.bool a0_0, .slice A0_1 l0_1.length c0_1, .slice A0_2 l0_2.length c0_2] 25 (0, 0)) (by exact BK231.out)) : gb239 ≠ gb231)); clear HO235; clear HO238; clear BK231; clear HB; have HO235 := n0_; have HO238 := n1_; have BK231 := n2_; have HB := n3_; have BK239 := n4_; have GW239 := n5_; have GE239 := n6_; have NB231_239 := n7_; have NB239_231 := n8_; clear n0_ n1_ n2_ n3_ n4_ n5_ n6_ n7_ n8_; clear hb hbox hg; have hnb34 := NB239_231.out; have hnc34 := NB231_239.out; have hcz35_0 : w33.cell? ⟨gb239, 0, none⟩ = some (.bool false) := (blk_cell BK239.out 0).trans rfl; have hcz35_1 : w33.cell? ⟨gb239, 1, none⟩ = some (.slice none 0 0) := (blk_cell BK239.out 1).trans rfl; have hcz35_2 : w33.cell? ⟨gb239, 2, none⟩ = some (.slice none 0 0) := (blk_cell BK239.out 2).trans rfl; have hfz35_0 := blk_frozen BK239.out 0; have hfz35_1 := blk_frozen BK239.out 1; have hfz35_2 := blk_frozen BK239.out 2; obtain ⟨Ao36, co36, eo36⟩ := Kd.R_slice HO235.out; subst eo36; obtain ⟨Ao37, co37, eo37⟩ := Kd.R_slice HO238.out; subst eo37; have hcz38_0 : w33.cell? ⟨gb231, 0, none⟩ = some (.bool a0_0) := (blk_cell BK231.out 0).trans rfl; have hcz38_1 : w33.cell? ⟨gb231, 1, none⟩ = some (.slice A0_1 l0_1.length c0_1) := (blk_cell BK231.out 1).trans rfl; have hcz38_2 : w33.cell? ⟨gb231, 2, none⟩ = some (.slice A0_2 l0_2.length c0_2) := (blk_cell BK231.out 2).trans rfl; have hfz38_0 := blk_frozen BK231.out 0; have hfz38_1 := blk_frozen BK231.out 1; have hfz38_2 := blk_frozen BK231.out 2) | (go_at_call 77; (with_reducible refine (rat_limbs.calls _ _ t233 _ _ l0_1 true _ ?side1 ?side2 ?side3 ?side4 A13.out).mono ?_); (case side1 => refine (Kd.R_reads' (e := 56) (base := w.heap.size) (ok := fun k_ => some k_ ≠ (.slice Ao37 t236.length co37 : Value).ownBlock) (n := t233.length) (c := co36) ?_).2.2; exact (by exact (Kd.R_mono (Kd.R_far (p := ⟨gb239, 2, none⟩) (Kd.R_far (p := ⟨gb239, 1, none⟩) (Kd.R_far (p := ⟨gb239, 0, none⟩) (Kd.R_types HO235.out BK239.out (by decide)) (fun _ hk => hk.2) (.bool t232)) (fun _ hk => hk.2) (.slice Ao36 t233.length co36)) (fun _ hk => hk.2) (.slice Ao37 t236.length co37)) (fun _ h_ => h_.1)))); (case side2 => exact (Kd.R_reads' HO235.out).2.1); (case side3 => exact Kd.C_below HR0_1.out (by repeat (first | (with_reducible first | exact HB.out | apply below_alloc | apply pw_below_drewN | apply below_drew1 | refine below_set ?_ GE231.out | refine below_set ?_ GE239.out) | exact HB.out))); (case side4 => exact HC0_1.out); rintro e w39 ⟨rfl, hb⟩; have n0_ := Aside0.mk (Kd.R_below (by exact (Kd.R_mono (Kd.R_far (p := ⟨gb239, 2, none⟩) (Kd.R_far (p := ⟨gb239, 1, none⟩) (Kd.R_far (p := ⟨gb239, 0, none⟩) (Kd.R_types HO235.out BK239.out (by decide)) (fun _ hk => hk.2) (.bool t232)) (fun _ hk => hk.2) (.slice Ao36 t233.length co36)) (fun _ hk => hk.2) (.slice Ao37 t236.length co37)) (fun _ h_ => h_.1))) hb); have n1_ := Aside0.mk (Kd.R_below (by exact (Kd.R_mono (Kd.R_far (p := ⟨gb239, 2, none⟩) (Kd.R_far (p := ⟨gb239, 1, none⟩) (Kd.R_far (p := ⟨gb239, 0, none⟩) (Kd.R_types HO238.out BK239.out (by decide)) (fun _ hk => hk.2) (.bool t232)) (fun _ hk => hk.2) (.slice Ao36 t233.length co36)) (fun _ hk => hk.2) (.slice Ao37 t236.length co37)) (fun _ h_ => h_.1))) hb); have n2_ := Aside0.mk (blk_below (g := gb231) (o := .cells #[.bool a0_0, .slice A0_1 l0_1.length c0_1, .slice A0_2 l0_2.length c0_2] 25 (0, 0)) (by refine blk_far ?_ NB231_239.out _; refine blk_far ?_ NB231_239.out _; refine blk_far ?_ NB231_239.out _; exact BK231.out) hb); have n3_ := Aside0.mk (blk_below (g := gb239) (o := .cells #[.bool t232, .slice Ao36 t233.length co36, .slice Ao37 t236.length co37] 25 (0, 0)) (by refine blk_put (cs := #[.bool t232, .slice Ao36 t233.length co36, .slice none 0 0]) ?_ 2 _ rfl; refine blk_put (cs := #[.bool t232, .slice none 0 0, .slice none 0 0]) ?_ 1 _ rfl; refine blk_put (cs := #[.bool false, .slice none 0 0, .slice none 0 0]) ?_ 0 _ rfl; exact BK239.out) hb); have n4_ := Aside0.mk (below_step (by repeat (first | (with_reducible first | exact HB.out | apply below_alloc | apply pw_below_drewN | apply below_drew1 | refine below_set ?_ GE231.out | refine below_set ?_ GE239.out) | exact HB.out)) hb); clear HO235; clear HO238; clear BK231; clear BK239; clear HB; have HO235 := n0_; have HO238 := n1_; have BK231 := n2_; have BK239 := n3_; have HB := n4_; clear n0_ n1_ n2_ n3_ n4_; (try clear hb); (try clear hb2); (try clear hk); (try clear hi); have hcz40_0 : w39.cell? ⟨gb239, 0, none⟩ = some (.bool t232) := (blk_cell BK239.out 0).trans rfl; have hcz40_1 : w39.cell? ⟨gb239, 1, none⟩ = some (.slice Ao36 t233.length co36) := (blk_cell BK239.out 1).trans rfl; have hcz40_2 : w39.cell? ⟨gb239, 2, none⟩ = some (.slice Ao37 t236.length co37) := (blk_cell BK239.out 2).trans rfl; have hfz40_0 := blk_frozen BK239.out 0; have hfz40_1 := blk_frozen BK239.out 1; have hfz40_2 := blk_frozen BK239.out 2; have hcz41_0 : w39.cell? ⟨gb231, 0, none⟩ = some (.bool a0_0) := (blk_cell BK231.out 0).trans rfl; have hcz41_1 : w39.cell? ⟨gb231, 1, none⟩ = some (.slice A0_1 l0_1.length c0_1) := (blk_cell BK231.out 1).trans rfl; have hcz41_2 : w39.cell? ⟨gb231, 2, none⟩ = some (.slice A0_2 l0_2.length c0_2) := (blk_cell BK231.out 2).trans rfl; have hfz41_0 := blk_frozen BK231.out 0; have hfz41_1 := blk_frozen BK231.out 1; have hfz41_2 := blk_frozen BK231.out 2) | (go_at_call 77; (with_reducible refine (rat_limbs.calls _ _ t236 _ _ l0_2 false _ ?side1 ?side2 ?side3 ?side4 A15.out).mono ?_); (case side1 => repeat (first | exact (Kd.R_reads' HO238.out).2.2 | (with_reducible refine Kd.C_alloc ?_ _) | (with_reducible refine Kd.C_drewN ?_ _) | (with_reducible refine Kd.C_drew ?_))); (case side2 => exact (Kd.R_reads' HO238.out).2.1); (case side3 => repeat (first | exact (Kd.C_below HR0_2.out HB.out) | (with_reducible refine Kd.C_alloc ?_ _) | (with_reducible refine Kd.C_drewN ?_ _) | (with_reducible refine Kd.C_drew ?_))); (case side4 => exact HC0_2.out); rintro e w42 ⟨rfl, hb⟩; have n0_ := Aside0.mk (Kd.R_below (by exact HO235.out) hb); have n1_ := Aside0.mk (Kd.R_below (by exact HO238.out) hb); have n2_ := Aside0.mk (blk_below (g := gb231) (o := .cells #[.bool a0_0, .slice A0_1 l0_1.length c0_1, .slice A0_2 l0_2.length c0_2] 25 (0, 0)) (by exact BK231.out) hb); have n3_ := Aside0.mk (blk_below (g := gb239) (o := .cells #[.bool t232, .slice Ao36 t233.length co36, .slice Ao37 t236.length co37] 25 (0, 0)) (by exact BK239.out) hb); have n4_ := Aside0.mk (below_step (by repeat (first | (with_reducible first | exact HB.out | apply below_alloc | apply pw_below_drewN | apply below_drew1 | refine below_set ?_ GE231.out | refine below_set ?_ GE239.out) | exact HB.out)) hb); clear HO235; clear HO238; clear BK231; clear BK239; clear HB; have HO235 := n0_; have HO238 := n1_; have BK231 := n2_; have BK239 := n3_; have HB := n4_; clear n0_ n1_ n2_ n3_ n4_; (try clear hb); (try clear hb2); (try clear hk); (try clear hi)))
        go_ret
        exact ⟨by first | rfl | (simp [errW_none, errW_some] <;> rfl) | (simp [*, errW_none, errW_some] <;> rfl), by repeat (first | (with_reducible first | exact HB.out | apply below_alloc | apply pw_below_drewN | apply below_drew1 | refine below_set ?_ GE231.out | refine below_set ?_ GE239.out) | exact HB.out)⟩
    · replace c14 := Bool.eq_false_iff.mpr c14
      subst c14
      have H1 : (some 6) = some r := by rw [if_neg (show ¬ (false = true) by decide)] at H; exact H
      clear H
      have H := H1
      clear H1
      obtain rfl := Option.some.inj H
      go_enter Tryz.func38, Tryz.ntmps38
      go_wp2_with (first | ((with_reducible refine gate_dst (N := 1) rfl ?_); refine box_event ?hg (N := 1) ?hd (cs := #[.bool a0_0, .slice A0_1 l0_1.length c0_1, .slice A0_2 l0_2.length c0_2]) (t := 25) ?hr ?_; (case hd => rfl); (case hg => rfl); (case hr => first | (go_simp; done) | (go_simp; rfl)); intro gb231 hg w43 hbox hb; have n0_ := Aside0.mk (below_step (by repeat (first | (with_reducible first | exact HB.out | apply below_alloc | apply pw_below_drewN | apply below_drew1) | exact HB.out)) hb); have n1_ := Aside0.mk (hbox); have n2_ := Aside0.mk ((by rw [hg]; exact (below_size (by repeat (first | (with_reducible first | exact HB.out | apply below_alloc | apply pw_below_drewN | apply below_drew1) | exact HB.out))) : w.heap.size ≤ gb231)); have n3_ := Aside0.mk ((by rw [hg]; exact (below_size (by repeat (first | (with_reducible first | exact HB.out | apply below_alloc | apply pw_below_drewN | apply below_drew1) | exact HB.out))) : w.heap.size ≤ gb231)); clear HB; have HB := n0_; have BK231 := n1_; have GW231 := n2_; have GE231 := n3_; clear n0_ n1_ n2_ n3_; clear hb hbox hg; have hcz44_0 : w43.cell? ⟨gb231, 0, none⟩ = some (.bool a0_0) := (blk_cell BK231.out 0).trans rfl; have hcz44_1 : w43.cell? ⟨gb231, 1, none⟩ = some (.slice A0_1 l0_1.length c0_1) := (blk_cell BK231.out 1).trans rfl; have hcz44_2 : w43.cell? ⟨gb231, 2, none⟩ = some (.slice A0_2 l0_2.length c0_2) := (blk_cell BK231.out 2).trans rfl; have hfz44_0 := blk_frozen BK231.out 0; have hfz44_1 := blk_frozen BK231.out 1; have hfz44_2 := blk_frozen BK231.out 2) | ((with_reducible refine gate_callee (f := 29) rfl ?_); refine goesL_ (some 5) rfl rfl Tryz.func29 (by kernel_rfl) rfl #[.agg #[.bool a0_0, .slice A0_1 l0_1.length c0_1, .slice A0_2 l0_2.length c0_2]] rfl (by (try simp only [List.map_toArray, List.map_cons, List.map_nil]); first | done | rfl | (simp only [List.length_drop, List.length_take]; rfl)) ?_; (with_reducible refine (rat_Norm.calls a0_0 _ _ l0_1 _ _ l0_2 t232 t233 t236 _ ?side1 ?side2 ?side3 ?side4 A2.out).mono ?_); (case side1 => repeat (first | exact (Kd.C_below HR0_1.out HB.out) | (with_reducible refine Kd.C_alloc ?_ _) | (with_reducible refine Kd.C_drewN ?_ _) | (with_reducible refine Kd.C_drew ?_))); (case side2 => exact HC0_1.out); (case side3 => repeat (first | exact (Kd.C_below HR0_2.out HB.out) | (with_reducible refine Kd.C_alloc ?_ _) | (with_reducible refine Kd.C_drewN ?_ _) | (with_reducible refine Kd.C_drew ?_))); (case side4 => exact HC0_2.out); rintro e w45 ⟨v234, v237, rfl, ho0, ho1, hb⟩; refine ⟨_, rfl, ?_⟩; have n0_ := Aside0.mk (Kd.R_lower ho0 (below_size (by repeat (first | (with_reducible first | exact HB.out | apply below_alloc | apply pw_below_drewN | apply below_drew1 | refine below_set ?_ GE231.out) | exact HB.out)))); have n1_ := Aside0.mk (Kd.R_lower ho1 (below_size (by repeat (first | (with_reducible first | exact HB.out | apply below_alloc | apply pw_below_drewN | apply below_drew1 | refine below_set ?_ GE231.out) | exact HB.out)))); have n2_ := Aside0.mk (blk_below (g := gb231) (o := .cells #[.bool a0_0, .slice A0_1 l0_1.length c0_1, .slice A0_2 l0_2.length c0_2] 25 (0, 0)) (by exact BK231.out) hb); have n3_ := Aside0.mk (below_step (by repeat (first | (with_reducible first | exact HB.out | apply below_alloc | apply pw_below_drewN | apply below_drew1 | refine below_set ?_ GE231.out) | exact HB.out)) hb); clear BK231; clear HB; have HO235 := n0_; have HO238 := n1_; have BK231 := n2_; have HB := n3_; clear n0_ n1_ n2_ n3_; (try clear hb); (try clear hb2); (try clear hk); (try clear hi); (try clear ho0); (try clear ho1)) | ((with_reducible refine gate_dst (N := 3) rfl ?_); refine box_event ?hg (N := 3) ?hd (cs := #[.bool false, .slice none 0 0, .slice none 0 0]) (t := 25) ?hr ?_; (case hd => rfl); (case hg => rfl); (case hr => first | (go_simp; done) | (go_simp; rfl)); intro gb239 hg w46 hbox hb; have n0_ := Aside0.mk (Kd.R_below (by exact HO235.out) hb); have n1_ := Aside0.mk (Kd.R_below (by exact HO238.out) hb); have n2_ := Aside0.mk (blk_below (g := gb231) (o := .cells #[.bool a0_0, .slice A0_1 l0_1.length c0_1, .slice A0_2 l0_2.length c0_2] 25 (0, 0)) (by exact BK231.out) hb); have n3_ := Aside0.mk (below_step (by repeat (first | (with_reducible first | exact HB.out | apply below_alloc | apply pw_below_drewN | apply below_drew1 | refine below_set ?_ GE231.out) | exact HB.out)) hb); have n4_ := Aside0.mk (hbox); have n5_ := Aside0.mk ((by rw [hg]; exact (below_size (by repeat (first | (with_reducible first | exact HB.out | apply below_alloc | apply pw_below_drewN | apply below_drew1 | refine below_set ?_ GE231.out) | exact HB.out))) : w.heap.size ≤ gb239)); have n6_ := Aside0.mk ((by rw [hg]; exact (below_size (by repeat (first | (with_reducible first | exact HB.out | apply below_alloc | apply pw_below_drewN | apply below_drew1 | refine below_set ?_ GE231.out) | exact HB.out))) : w.heap.size ≤ gb239)); have n7_ := Aside0.mk ((by rw [hg]; exact Nat.ne_of_lt (blk_lt (g := gb231) (o := .cells #[.bool a0_0, .slice A0_1 l0_1.length c0_1, .slice A0_2 l0_2.length c0_2] 25 (0, 0)) (by exact BK231.out)) : gb231 ≠ gb239)); have n8_ := Aside0.mk ((by rw [hg]; exact Nat.ne_of_gt (blk_lt (g := gb231) (o := .cells #[.bool a0_0, .slice A0_1 l0_1.length c0_1, .slice A0_2 l0_2.length c0_2] 25 (0, 0)) (by exact BK231.out)) : gb239 ≠ gb231)); clear HO235; clear HO238; clear BK231; clear HB; have HO235 := n0_; have HO238 := n1_; have BK231 := n2_; have HB := n3_; have BK239 := n4_; have GW239 := n5_; have GE239 := n6_; have NB231_239 := n7_; have NB239_231 := n8_; clear n0_ n1_ n2_ n3_ n4_ n5_ n6_ n7_ n8_; clear hb hbox hg; have hnb47 := NB239_231.out; have hnc47 := NB231_239.out; have hcz48_0 : w46.cell? ⟨gb239, 0, none⟩ = some (.bool false) := (blk_cell BK239.out 0).trans rfl; have hcz48_1 : w46.cell? ⟨gb239, 1, none⟩ = some (.slice none 0 0) := (blk_cell BK239.out 1).trans rfl; have hcz48_2 : w46.cell? ⟨gb239, 2, none⟩ = some (.slice none 0 0) := (blk_cell BK239.out 2).trans rfl; have hfz48_0 := blk_frozen BK239.out 0; have hfz48_1 := blk_frozen BK239.out 1; have hfz48_2 := blk_frozen BK239.out 2; obtain ⟨Ao49, co49, eo49⟩ := Kd.R_slice HO235.out; subst eo49; obtain ⟨Ao50, co50, eo50⟩ := Kd.R_slice HO238.out; subst eo50; have hcz51_0 : w46.cell? ⟨gb231, 0, none⟩ = some (.bool a0_0) := (blk_cell BK231.out 0).trans rfl; have hcz51_1 : w46.cell? ⟨gb231, 1, none⟩ = some (.slice A0_1 l0_1.length c0_1) := (blk_cell BK231.out 1).trans rfl; have hcz51_2 : w46.cell? ⟨gb231, 2, none⟩ = some (.slice A0_2 l0_2.length c0_2) := (blk_cell BK231.out 2).trans rfl; have hfz51_0 := blk_frozen BK231.out 0; have hfz51_1 := blk_frozen BK231.out 1; have hfz51_2 := blk_frozen BK231.out 2) | (go_at_call 77; (with_reducible refine (rat_limbs.calls _ _ t233 _ _ l0_1 false _ ?side1 ?side2 ?side3 ?side4 A13.out).mono ?_); (case side1 => refine (Kd.R_reads' (e := 56) (base := w.heap.size) (ok := fun k_ => some k_ ≠ (.slice Ao50 t236.length co50 : Value).ownBlock) (n := t233.length) (c := co49) ?_).2.2; exact (by exact (Kd.R_mono (Kd.R_far (p := ⟨gb239, 2, none⟩) (Kd.R_far (p := ⟨gb239, 1, none⟩) (Kd.R_far (p := ⟨gb239, 0, none⟩) (Kd.R_types HO235.out BK239.out (by decide)) (fun _ hk => hk.2) (.bool t232)) (fun _ hk => hk.2) (.slice Ao49 t233.length co49)) (fun _ hk => hk.2) (.slice Ao50 t236.length co50)) (fun _ h_ => h_.1)))); (case side2 => exact (Kd.R_reads' HO235.out).2.1); (case side3 => exact Kd.C_below HR0_1.out (by repeat (first | (with_reducible first | exact HB.out | apply below_alloc | apply pw_below_drewN | apply below_drew1 | refine below_set ?_ GE231.out | refine below_set ?_ GE239.out) | exact HB.out))); (case side4 => exact HC0_1.out); rintro e w52 ⟨rfl, hb⟩; have n0_ := Aside0.mk (Kd.R_below (by exact (Kd.R_mono (Kd.R_far (p := ⟨gb239, 2, none⟩) (Kd.R_far (p := ⟨gb239, 1, none⟩) (Kd.R_far (p := ⟨gb239, 0, none⟩) (Kd.R_types HO235.out BK239.out (by decide)) (fun _ hk => hk.2) (.bool t232)) (fun _ hk => hk.2) (.slice Ao49 t233.length co49)) (fun _ hk => hk.2) (.slice Ao50 t236.length co50)) (fun _ h_ => h_.1))) hb); have n1_ := Aside0.mk (Kd.R_below (by exact (Kd.R_mono (Kd.R_far (p := ⟨gb239, 2, none⟩) (Kd.R_far (p := ⟨gb239, 1, none⟩) (Kd.R_far (p := ⟨gb239, 0, none⟩) (Kd.R_types HO238.out BK239.out (by decide)) (fun _ hk => hk.2) (.bool t232)) (fun _ hk => hk.2) (.slice Ao49 t233.length co49)) (fun _ hk => hk.2) (.slice Ao50 t236.length co50)) (fun _ h_ => h_.1))) hb); have n2_ := Aside0.mk (blk_below (g := gb231) (o := .cells #[.bool a0_0, .slice A0_1 l0_1.length c0_1, .slice A0_2 l0_2.length c0_2] 25 (0, 0)) (by refine blk_far ?_ NB231_239.out _; refine blk_far ?_ NB231_239.out _; refine blk_far ?_ NB231_239.out _; exact BK231.out) hb); have n3_ := Aside0.mk (blk_below (g := gb239) (o := .cells #[.bool t232, .slice Ao49 t233.length co49, .slice Ao50 t236.length co50] 25 (0, 0)) (by refine blk_put (cs := #[.bool t232, .slice Ao49 t233.length co49, .slice none 0 0]) ?_ 2 _ rfl; refine blk_put (cs := #[.bool t232, .slice none 0 0, .slice none 0 0]) ?_ 1 _ rfl; refine blk_put (cs := #[.bool false, .slice none 0 0, .slice none 0 0]) ?_ 0 _ rfl; exact BK239.out) hb); have n4_ := Aside0.mk (below_step (by repeat (first | (with_reducible first | exact HB.out | apply below_alloc | apply pw_below_drewN | apply below_drew1 | refine below_set ?_ GE231.out | refine below_set ?_ GE239.out) | exact HB.out)) hb); clear HO235; clear HO238; clear BK231; clear BK239; clear HB; have HO235 := n0_; have HO238 := n1_; have BK231 := n2_; have BK239 := n3_; have HB := n4_; clear n0_ n1_ n2_ n3_ n4_; (try clear hb); (try clear hb2); (try clear hk); (try clear hi)))
      go_ret
      exact ⟨by first | rfl | (simp [errW_none, errW_some] <;> rfl) | (simp [*, errW_none, errW_some] <;> rfl), by repeat (first | (with_reducible first | exact HB.out | apply below_alloc | apply pw_below_drewN | apply below_drew1 | refine below_set ?_ GE231.out | refine below_set ?_ GE239.out) | exact HB.out)⟩

end Go.Proofs.YtpncflaoikeidaaGreatDoor.P
