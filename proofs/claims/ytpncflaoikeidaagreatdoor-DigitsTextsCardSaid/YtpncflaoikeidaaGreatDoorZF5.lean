/- TEXTS OF THIS CLAIM, GATHERED: words printed by the kit, functions printed over the translation, contracts and plain laws by hand. -/
import Derived.Test.YtpncflaoikeidaaGreatDoorZF4
namespace Go.Proofs.YtpncflaoikeidaaGreatDoor.P
open Go.RowKit Go.Proofs.YtpncflaoikeidaaGreatDoorW.PrintWords Go.Proofs.YtpncflaoikeidaaGreatDoorW.PrintLast Go.Proofs.YtpncflaoikeidaaGreatDoorW.PrintMore
attribute [local go_sem] max2_int max_two
set_option linter.unusedVariables false
set_option linter.unusedSimpArgs false
def digits_ParseRat.j0 : Nat → Bool → ByteArray → ByteArray → Bool → Bool → Option (Bool × List Int × List Int × Int)
  | 0, _, _, _, _, _ => none
  | k + 1, x5, x6, x7, x8, x32 => if x32 = true then (some (false, ([] : List Int), ([] : List Int), 19)) else ((nat_Of.f 1).bind fun t250 => ((digits_read.f x6).bind fun bt254 => (if bt254.2 = 0 then (if x8 = true then ((digits_read.f x7).bind fun bt258 => (if bt258.2 = 0 then ((rat_May.f x5 bt254.1 bt258.1).bind fun t262 => (if t262 = 0 then (if x7.toList = ([49] : List UInt8) then (some (false, ([] : List Int), ([] : List Int), 6)) else (some (x5, bt254.1, bt258.1, 0))) else (some (false, ([] : List Int), ([] : List Int), 6)))) else (some (false, ([] : List Int), ([] : List Int), bt258.2)))) else ((rat_May.f x5 bt254.1 t250).bind fun t263 => (if t263 = 0 then (some (x5, bt254.1, t250, 0)) else (some (false, ([] : List Int), ([] : List Int), 6))))) else (some (false, ([] : List Int), ([] : List Int), bt254.2)))))
def digits_ParseRat.f (k : Nat) (a0 : ByteArray) : Option (Bool × List Int × List Int × Int) := (strings_CutPrefix.f a0 (⟨#[45]⟩ : ByteArray)).bind fun bt243 => ((strings_Cut.f bt243.1 (⟨#[47]⟩ : ByteArray)).bind fun bt245 => ((digits_natural.f bt245.1).bind fun t248 => (if t248 = true then (if bt245.2.2 = true then ((digits_natural.f bt245.2.1).bind fun t249 => (digits_ParseRat.j0 k bt243.2 bt245.1 bt245.2.1 bt245.2.2 (!t249))) else (digits_ParseRat.j0 k bt243.2 bt245.1 bt245.2.1 bt245.2.2 false)) else (digits_ParseRat.j0 k bt243.2 bt245.1 bt245.2.1 bt245.2.2 true))))
set_option maxHeartbeats 8000000 in
set_option maxRecDepth 100000 in
theorem digits_ParseRat.calls (k : Nat) (a0 : ByteArray) (r1 : Bool) (r2 : List Int) (r3 : List Int) (r4 : Int) (w : World) (h : digits_ParseRat.f k a0 = some (r1, r2, r3, r4)) (hL : LaidT w) :
    Calls Tryz.prog 12 #[.string a0] w fun e w' => ∃ v1_ v2_ : Value, e = .returned (.tuple #[.agg #[.bool r1, v1_, v2_], .int .i64 r4]) ∧ Kd.R (Kd.int .u32) 56 w' w.heap.size (fun k_ => some k_ ≠ (v2_ : Value).ownBlock) v1_ r2 ∧ Kd.R (Kd.int .u32) 56 w' w.heap.size (fun k_ => some k_ ≠ (v1_ : Value).ownBlock) v2_ r3 ∧ Below w.heap.size w w' := by
  have hu25 := Tryz.underlying25
  have HB := Aside0.mk (Below.refl w.heap.size w)
  have H : ((strings_CutPrefix.f a0 (⟨#[45]⟩ : ByteArray)).bind fun bt243 => ((strings_Cut.f bt243.1 (⟨#[47]⟩ : ByteArray)).bind fun bt245 => ((digits_natural.f bt245.1).bind fun t248 => (if t248 = true then (if bt245.2.2 = true then ((digits_natural.f bt245.2.1).bind fun t249 => (digits_ParseRat.j0 k bt243.2 bt245.1 bt245.2.1 bt245.2.2 (!t249))) else (digits_ParseRat.j0 k bt243.2 bt245.1 bt245.2.1 bt245.2.2 false)) else (digits_ParseRat.j0 k bt243.2 bt245.1 bt245.2.1 bt245.2.2 true))))) = some (r1, r2, r3, r4) := h
  clear h
  replace H := Option.bind_eq_some_iff.mp H
  obtain ⟨⟨t243, t244⟩, A20, H⟩ := H
  try dsimp only at H
  have A2 := Aside0.mk A20
  clear A20
  replace H := Option.bind_eq_some_iff.mp H
  obtain ⟨⟨t245, t246, t247⟩, A30, H⟩ := H
  try dsimp only at H
  have A3 := Aside0.mk A30
  clear A30
  have HC4 := Aside0.mk H
  clear H
  go_enter Tryz.func12, Tryz.ntmps12
  go_upto_region 3 with (first | ((with_reducible refine gate_dst (N := 2) rfl ?_); refine box_event ?hg (N := 2) ?hd (cs := #[.bool false, .slice none 0 0, .slice none 0 0]) (t := 25) ?hr ?_; (case hd => rfl); (case hg => rfl); (case hr => first | (go_simp; done) | (go_simp; rfl)); intro gb242 hg w5 hbox hb; have n0_ := Aside0.mk (below_step (by repeat (first | (with_reducible first | exact HB.out | apply below_alloc | apply pw_below_drewN | apply below_drew1) | exact HB.out)) hb); have n1_ := Aside0.mk (hbox); have n2_ := Aside0.mk ((by rw [hg]; exact (below_size (by repeat (first | (with_reducible first | exact HB.out | apply below_alloc | apply pw_below_drewN | apply below_drew1) | exact HB.out))) : w.heap.size ≤ gb242)); have n3_ := Aside0.mk ((by rw [hg]; exact (below_size (by repeat (first | (with_reducible first | exact HB.out | apply below_alloc | apply pw_below_drewN | apply below_drew1) | exact HB.out))) : w.heap.size ≤ gb242)); clear HB; have HB := n0_; have BK242 := n1_; have GW242 := n2_; have GE242 := n3_; clear n0_ n1_ n2_ n3_; clear hb hbox hg) | ((with_reducible refine gate_callee (f := 34) rfl ?_); refine goesL_ (some 13) rfl rfl Tryz.func34 (by kernel_rfl) rfl #[.string a0, .string (⟨#[45]⟩ : ByteArray)] rfl (by (try simp only [List.map_toArray, List.map_cons, List.map_nil]); first | done | rfl | (simp only [List.length_drop, List.length_take]; rfl)) ?_; (with_reducible refine (strings_CutPrefix.calls a0 (⟨#[45]⟩ : ByteArray) t243 t244 _ A2.out).mono ?_); rintro e w' ⟨rfl, ⟨nd, rfl⟩⟩; refine ⟨_, rfl, ?_⟩) | ((with_reducible refine gate_callee (f := 35) rfl ?_); refine goesL_ (some 18) rfl rfl Tryz.func35 (by kernel_rfl) rfl #[.string t243, .string (⟨#[47]⟩ : ByteArray)] rfl (by (try simp only [List.map_toArray, List.map_cons, List.map_nil]); first | done | rfl | (simp only [List.length_drop, List.length_take]; rfl)) ?_; (with_reducible refine (strings_Cut.calls t243 (⟨#[47]⟩ : ByteArray) t245 t246 t247 _ A3.out ?side1).mono ?_); (case side1 => exact LaidT.below hL (by repeat (first | (with_reducible first | exact HB.out | apply below_alloc | apply pw_below_drewN | apply below_drew1 | refine below_set ?_ GE242.out) | exact HB.out))); rintro e w6 ⟨rfl, hb⟩; refine ⟨_, rfl, ?_⟩; have n0_ := Aside0.mk (blk_below (g := gb242) (o := .cells #[.bool false, .slice none 0 0, .slice none 0 0] 25 (0, 0)) (by exact BK242.out) hb); have n1_ := Aside0.mk (below_step (by repeat (first | (with_reducible first | exact HB.out | apply below_alloc | apply pw_below_drewN | apply below_drew1 | refine below_set ?_ GE242.out) | exact HB.out)) hb); clear BK242; clear HB; have BK242 := n0_; have HB := n1_; clear n0_ n1_; (try clear hb); (try clear hb2); (try clear hk); (try clear hi)))
  (try simp only [Act.put, List.setIfInBounds_toArray, List.set_cons_zero, List.set_cons_succ])
  go_cut [32] (fun v32 wc => ∃ (kq : Nat) (x32_3 : Bool), v32 = .bool x32_3 ∧ Aside0 (digits_ParseRat.j0 kq t244 t245 t246 t247 x32_3 = some (r1, r2, r3, r4)) ∧ Aside0 (kq ≤ k) ∧ Aside0 (wc.heap[gb242]? = some (.cells #[.bool false, (.slice none 0 0), (.slice none 0 0)] 25 (0, 0))) ∧ Aside0 (Below w.heap.size w wc))
  case first =>
    have H := HC4.out
    clear HC4
    replace H := Option.bind_eq_some_iff.mp H
    obtain ⟨t248, A70, H⟩ := H
    try dsimp only at H
    have A7 := Aside0.mk A70
    clear A70
    by_cases c8 : t248 = true
    · subst c8
      have H1 : (if t247 = true then ((digits_natural.f t246).bind fun t249 => (digits_ParseRat.j0 k t244 t245 t246 t247 (!t249))) else (digits_ParseRat.j0 k t244 t245 t246 t247 false)) = some (r1, r2, r3, r4) := by rw [if_pos rfl] at H; exact H
      clear H
      have H := H1
      clear H1
      by_cases c9 : t247 = true
      · subst c9
        have H1 : ((digits_natural.f t246).bind fun t249 => (digits_ParseRat.j0 k t244 t245 t246 true (!t249))) = some (r1, r2, r3, r4) := by rw [if_pos rfl] at H; exact H
        clear H
        have H := H1
        clear H1
        replace H := Option.bind_eq_some_iff.mp H
        obtain ⟨t249, A100, H⟩ := H
        try dsimp only at H
        have A10 := Aside0.mk A100
        clear A100
        have H' := Aside0.mk H
        clear H
        go_wp2_with (first | ((with_reducible refine gate_callee (f := 36) rfl ?_); refine goesL_ (some 23) rfl rfl Tryz.func36 (by kernel_rfl) rfl #[.string t245] rfl (by (try simp only [List.map_toArray, List.map_cons, List.map_nil]); first | done | rfl | (simp only [List.length_drop, List.length_take]; rfl)) ?_; (with_reducible refine (digits_natural.calls t245 true _ A7.out).mono ?_); rintro e w11 ⟨rfl, hb⟩; refine ⟨_, rfl, ?_⟩; have n0_ := Aside0.mk (blk_below (g := gb242) (o := .cells #[.bool false, .slice none 0 0, .slice none 0 0] 25 (0, 0)) (by exact BK242.out) hb); have n1_ := Aside0.mk (below_step (by repeat (first | (with_reducible first | exact HB.out | apply below_alloc | apply pw_below_drewN | apply below_drew1 | refine below_set ?_ GE242.out) | exact HB.out)) hb); clear BK242; clear HB; have BK242 := n0_; have HB := n1_; clear n0_ n1_; (try clear hb); (try clear hb2); (try clear hk); (try clear hi)) | (go_at_call 36; (with_reducible refine (digits_natural.calls t246 t249 _ A10.out).mono ?_); rintro e w12 ⟨rfl, hb⟩; have n0_ := Aside0.mk (blk_below (g := gb242) (o := .cells #[.bool false, .slice none 0 0, .slice none 0 0] 25 (0, 0)) (by exact BK242.out) hb); have n1_ := Aside0.mk (below_step (by repeat (first | (with_reducible first | exact HB.out | apply below_alloc | apply pw_below_drewN | apply below_drew1 | refine below_set ?_ GE242.out) | exact HB.out)) hb); clear BK242; clear HB; have BK242 := n0_; have HB := n1_; clear n0_ n1_; (try clear hb); (try clear hb2); (try clear hk); (try clear hi)))
        go_meet
        case rel => exact ⟨_, (!t249), (by first | rfl | (simp; done) | (simp [*]; done)), H', ⟨by first | omega | exact Nat.le_refl _⟩, ⟨by exact BK242.out⟩, ⟨by repeat (first | (with_reducible first | exact HB.out | apply below_alloc | apply pw_below_drewN | apply below_drew1 | refine below_set ?_ GE242.out) | exact HB.out)⟩⟩
      · replace c9 := Bool.eq_false_iff.mpr c9
        subst c9
        have H1 : (digits_ParseRat.j0 k t244 t245 t246 false false) = some (r1, r2, r3, r4) := by rw [if_neg (show ¬ (false = true) by decide)] at H; exact H
        clear H
        have H := H1
        clear H1
        have H' := Aside0.mk H
        clear H
        go_wp2_with (first | ((with_reducible refine gate_callee (f := 36) rfl ?_); refine goesL_ (some 23) rfl rfl Tryz.func36 (by kernel_rfl) rfl #[.string t245] rfl (by (try simp only [List.map_toArray, List.map_cons, List.map_nil]); first | done | rfl | (simp only [List.length_drop, List.length_take]; rfl)) ?_; (with_reducible refine (digits_natural.calls t245 true _ A7.out).mono ?_); rintro e w13 ⟨rfl, hb⟩; refine ⟨_, rfl, ?_⟩; have n0_ := Aside0.mk (blk_below (g := gb242) (o := .cells #[.bool false, .slice none 0 0, .slice none 0 0] 25 (0, 0)) (by exact BK242.out) hb); have n1_ := Aside0.mk (below_step (by repeat (first | (with_reducible first | exact HB.out | apply below_alloc | apply pw_below_drewN | apply below_drew1 | refine below_set ?_ GE242.out) | exact HB.out)) hb); clear BK242; clear HB; have BK242 := n0_; have HB := n1_; clear n0_ n1_; (try clear hb); (try clear hb2); (try clear hk); (try clear hi)))
        go_meet
        case rel => exact ⟨_, (false), (by first | rfl | (simp; done) | (simp [*]; done)), H', ⟨by first | omega | exact Nat.le_refl _⟩, ⟨by exact BK242.out⟩, ⟨by repeat (first | (with_reducible first | exact HB.out | apply below_alloc | apply pw_below_drewN | apply below_drew1 | refine below_set ?_ GE242.out) | exact HB.out)⟩⟩
    · replace c8 := Bool.eq_false_iff.mpr c8
      subst c8
      have H1 : (digits_ParseRat.j0 k t244 t245 t246 t247 true) = some (r1, r2, r3, r4) := by rw [if_neg (show ¬ (false = true) by decide)] at H; exact H
      clear H
      have H := H1
      clear H1
      have H' := Aside0.mk H
      clear H
      go_wp2_with (first | ((with_reducible refine gate_callee (f := 36) rfl ?_); refine goesL_ (some 23) rfl rfl Tryz.func36 (by kernel_rfl) rfl #[.string t245] rfl (by (try simp only [List.map_toArray, List.map_cons, List.map_nil]); first | done | rfl | (simp only [List.length_drop, List.length_take]; rfl)) ?_; (with_reducible refine (digits_natural.calls t245 false _ A7.out).mono ?_); rintro e w14 ⟨rfl, hb⟩; refine ⟨_, rfl, ?_⟩; have n0_ := Aside0.mk (blk_below (g := gb242) (o := .cells #[.bool false, .slice none 0 0, .slice none 0 0] 25 (0, 0)) (by exact BK242.out) hb); have n1_ := Aside0.mk (below_step (by repeat (first | (with_reducible first | exact HB.out | apply below_alloc | apply pw_below_drewN | apply below_drew1 | refine below_set ?_ GE242.out) | exact HB.out)) hb); clear BK242; clear HB; have BK242 := n0_; have HB := n1_; clear n0_ n1_; (try clear hb); (try clear hb2); (try clear hk); (try clear hi)))
      go_meet
      case rel => exact ⟨_, (true), (by first | rfl | (simp; done) | (simp [*]; done)), H', ⟨by first | omega | exact Nat.le_refl _⟩, ⟨by exact BK242.out⟩, ⟨by repeat (first | (with_reducible first | exact HB.out | apply below_alloc | apply pw_below_drewN | apply below_drew1 | refine below_set ?_ GE242.out) | exact HB.out)⟩⟩
  case rest =>
    clear HC4
    try clear c1
    try clear p2
    try clear c3
    try clear c8
    try clear c9
    try clear c12
    obtain ⟨kq, x32_3, rfl, HA, HJ3, BK242, HB⟩ := hcut
    cases kq with
    | zero => exact absurd HA.out (by simp [digits_ParseRat.j0])
    | succ kj3 =>
      have H := HA.out
      clear HA
      simp only [digits_ParseRat.j0] at H
      by_cases c15 : x32_3 = true
      · subst c15
        have H1 : (some (false, ([] : List Int), ([] : List Int), 19)) = some (r1, r2, r3, r4) := by rw [if_pos rfl] at H; exact H
        clear H
        have H := H1
        clear H1
        simp only [Option.some.injEq, Prod.mk.injEq] at H
        obtain ⟨rfl, rfl, rfl, rfl⟩ := H
        have hcz16_0 : wc.cell? ⟨gb242, 0, none⟩ = some (.bool false) := (blk_cell BK242.out 0).trans rfl
        have hcz16_1 : wc.cell? ⟨gb242, 1, none⟩ = some (.slice none 0 0) := (blk_cell BK242.out 1).trans rfl
        have hcz16_2 : wc.cell? ⟨gb242, 2, none⟩ = some (.slice none 0 0) := (blk_cell BK242.out 2).trans rfl
        have hfz16_0 := blk_frozen BK242.out 0
        have hfz16_1 := blk_frozen BK242.out 1
        have hfz16_2 := blk_frozen BK242.out 2
        go_wp2
        refine bodyPost_ret (results_ct rfl _ _ gb242 25 #[.bool false, .slice none 0 0, .slice none 0 0] (0, 0) _ rfl (by refine blk_put (cs := #[.bool false, .slice none 0 0, .slice none 0 0]) ?_ 2 _ rfl; refine blk_put (cs := #[.bool false, .slice none 0 0, .slice none 0 0]) ?_ 1 _ rfl; refine blk_put (cs := #[.bool false, .slice none 0 0, .slice none 0 0]) ?_ 0 _ rfl; exact BK242.out) Tryz.underlying25 rfl (by kernel_rfl)) rfl ?_
        exact ⟨_, _, by first | rfl | (simp [errW_none, errW_some] <;> rfl) | (simp [*, errW_none, errW_some] <;> rfl), by first | exact Kd.R_nil _ _ _ _ _ | exact Kd.N_nil _ _ _ _ _ | exact Kd.V_nil _ _ _ _ _ | exact Kd.Q_nil _ _ _ _ _ | exact Kd.S_nil _ _ _ _ _, by first | exact Kd.R_nil _ _ _ _ _ | exact Kd.N_nil _ _ _ _ _ | exact Kd.V_nil _ _ _ _ _ | exact Kd.Q_nil _ _ _ _ _ | exact Kd.S_nil _ _ _ _ _, by repeat (first | (with_reducible first | exact HB.out | apply below_alloc | apply pw_below_drewN | apply below_drew1 | refine below_set ?_ GE242.out) | exact HB.out)⟩
      · replace c15 := Bool.eq_false_iff.mpr c15
        subst c15
        have H1 : ((nat_Of.f 1).bind fun t250 => ((digits_read.f t245).bind fun bt254 => (if bt254.2 = 0 then (if t247 = true then ((digits_read.f t246).bind fun bt258 => (if bt258.2 = 0 then ((rat_May.f t244 bt254.1 bt258.1).bind fun t262 => (if t262 = 0 then (if t246.toList = ([49] : List UInt8) then (some (false, ([] : List Int), ([] : List Int), 6)) else (some (t244, bt254.1, bt258.1, 0))) else (some (false, ([] : List Int), ([] : List Int), 6)))) else (some (false, ([] : List Int), ([] : List Int), bt258.2)))) else ((rat_May.f t244 bt254.1 t250).bind fun t263 => (if t263 = 0 then (some (t244, bt254.1, t250, 0)) else (some (false, ([] : List Int), ([] : List Int), 6))))) else (some (false, ([] : List Int), ([] : List Int), bt254.2))))) = some (r1, r2, r3, r4) := by rw [if_neg (show ¬ (false = true) by decide)] at H; exact H
        clear H
        have H := H1
        clear H1
        replace H := Option.bind_eq_some_iff.mp H
        obtain ⟨t250, A170, H⟩ := H
        try dsimp only at H
        have A17 := Aside0.mk A170
        clear A170
        replace H := Option.bind_eq_some_iff.mp H
        obtain ⟨⟨t254, t255⟩, A180, H⟩ := H
        try dsimp only at H
        have A18 := Aside0.mk A180
        clear A180
        by_cases c19 : t255 = 0
        · rw [if_pos c19] at H
          have c19b0 : (t255 == 0) = true := beq_iff_eq.mpr c19
          have c19b1 : (t255 != 0) = false := bne_eq_false_iff_eq.mpr c19
          clear c19
          by_cases c20 : t247 = true
          · subst c20
            have H1 : ((digits_read.f t246).bind fun bt258 => (if bt258.2 = 0 then ((rat_May.f t244 t254 bt258.1).bind fun t262 => (if t262 = 0 then (if t246.toList = ([49] : List UInt8) then (some (false, ([] : List Int), ([] : List Int), 6)) else (some (t244, t254, bt258.1, 0))) else (some (false, ([] : List Int), ([] : List Int), 6)))) else (some (false, ([] : List Int), ([] : List Int), bt258.2)))) = some (r1, r2, r3, r4) := by rw [if_pos rfl] at H; exact H
            clear H
            have H := H1
            clear H1
            replace H := Option.bind_eq_some_iff.mp H
            obtain ⟨⟨t258, t259⟩, A210, H⟩ := H
            try dsimp only at H
            have A21 := Aside0.mk A210
            clear A210
            by_cases c22 : t259 = 0
            · rw [if_pos c22] at H
              have c22b0 : (t259 == 0) = true := beq_iff_eq.mpr c22
              have c22b1 : (t259 != 0) = false := bne_eq_false_iff_eq.mpr c22
              clear c22
              replace H := Option.bind_eq_some_iff.mp H
              obtain ⟨t262, A230, H⟩ := H
              try dsimp only at H
              have A23 := Aside0.mk A230
              clear A230
              by_cases c24 : t262 = 0
              · rw [if_pos c24] at H
                have c24b0 : (t262 == 0) = true := beq_iff_eq.mpr c24
                have c24b1 : (t262 != 0) = false := bne_eq_false_iff_eq.mpr c24
                clear c24
                by_cases c25 : t246.toList = ([49] : List UInt8)
                · rw [if_pos c25] at H
                  have c25b0 : (t246.toList == ([49] : List UInt8)) = true := beq_iff_eq.mpr c25
                  have c25b1 : (t246.toList != ([49] : List UInt8)) = false := bne_eq_false_iff_eq.mpr c25
                  clear c25
                  simp only [Option.some.injEq, Prod.mk.injEq] at H
                  obtain ⟨rfl, rfl, rfl, rfl⟩ := H
                  go_wp2_with (first | ((with_reducible refine gate_callee (f := 31) rfl ?_); refine goesL_ (some 35) rfl rfl Tryz.func31 (by kernel_rfl) rfl #[.int .u64 1] rfl (by (try simp only [List.map_toArray, List.map_cons, List.map_nil]); first | done | rfl | (simp only [List.length_drop, List.length_take]; rfl)) ?_; (with_reducible refine (nat_Of.calls 1 t250 _ A17.out).mono ?_); rintro e w26 ⟨v251, rfl, ho0, hb⟩; refine ⟨_, rfl, ?_⟩; have n0_ := Aside0.mk (Kd.R_lower ho0 (below_size (by repeat (first | (with_reducible first | exact HB.out | apply below_alloc | apply pw_below_drewN | apply below_drew1 | refine below_set ?_ GE242.out) | exact HB.out)))); have n1_ := Aside0.mk (blk_below (g := gb242) (o := .cells #[.bool false, .slice none 0 0, .slice none 0 0] 25 (0, 0)) (by exact BK242.out) hb); have n2_ := Aside0.mk (below_step (by repeat (first | (with_reducible first | exact HB.out | apply below_alloc | apply pw_below_drewN | apply below_drew1 | refine below_set ?_ GE242.out) | exact HB.out)) hb); clear BK242; clear HB; have HO252 := n0_; have BK242 := n1_; have HB := n2_; clear n0_ n1_ n2_; (try clear hb); (try clear hb2); (try clear hk); (try clear hi); (try clear ho0); obtain ⟨Ao27, co27, eo27⟩ := Kd.R_slice HO252.out; subst eo27) | ((with_reducible refine gate_dst (N := 9) rfl ?_); refine box_event ?hg (N := 9) ?hd (cs := #[.bool false, .slice none 0 0, .slice none 0 0]) (t := 25) ?hr ?_; (case hd => rfl); (case hg => rfl); (case hr => first | (go_simp; done) | (go_simp; rfl)); intro gb253 hg w28 hbox hb; have n0_ := Aside0.mk (Kd.R_below (by exact HO252.out) hb); have n1_ := Aside0.mk (blk_below (g := gb242) (o := .cells #[.bool false, .slice none 0 0, .slice none 0 0] 25 (0, 0)) (by exact BK242.out) hb); have n2_ := Aside0.mk (below_step (by repeat (first | (with_reducible first | exact HB.out | apply below_alloc | apply pw_below_drewN | apply below_drew1 | refine below_set ?_ GE242.out) | exact HB.out)) hb); have n3_ := Aside0.mk (hbox); have n4_ := Aside0.mk ((by rw [hg]; exact (below_size (by repeat (first | (with_reducible first | exact HB.out | apply below_alloc | apply pw_below_drewN | apply below_drew1 | refine below_set ?_ GE242.out) | exact HB.out))) : w.heap.size ≤ gb253)); have n5_ := Aside0.mk ((by rw [hg]; exact (below_size (by repeat (first | (with_reducible first | exact HB.out | apply below_alloc | apply pw_below_drewN | apply below_drew1 | refine below_set ?_ GE242.out) | exact HB.out))) : w.heap.size ≤ gb253)); have n6_ := Aside0.mk ((by rw [hg]; exact Nat.ne_of_lt (blk_lt (g := gb242) (o := .cells #[.bool false, .slice none 0 0, .slice none 0 0] 25 (0, 0)) (by exact BK242.out)) : gb242 ≠ gb253)); have n7_ := Aside0.mk ((by rw [hg]; exact Nat.ne_of_gt (blk_lt (g := gb242) (o := .cells #[.bool false, .slice none 0 0, .slice none 0 0] 25 (0, 0)) (by exact BK242.out)) : gb253 ≠ gb242)); clear HO252; clear BK242; clear HB; have HO252 := n0_; have BK242 := n1_; have HB := n2_; have BK253 := n3_; have GW253 := n4_; have GE253 := n5_; have NB242_253 := n6_; have NB253_242 := n7_; clear n0_ n1_ n2_ n3_ n4_ n5_ n6_ n7_; clear hb hbox hg; have hnb29 := NB253_242.out; have hnc29 := NB242_253.out; have hcz30_0 : w28.cell? ⟨gb253, 0, none⟩ = some (.bool false) := (blk_cell BK253.out 0).trans rfl; have hcz30_1 : w28.cell? ⟨gb253, 1, none⟩ = some (.slice none 0 0) := (blk_cell BK253.out 1).trans rfl; have hcz30_2 : w28.cell? ⟨gb253, 2, none⟩ = some (.slice none 0 0) := (blk_cell BK253.out 2).trans rfl; have hfz30_0 := blk_frozen BK253.out 0; have hfz30_1 := blk_frozen BK253.out 1; have hfz30_2 := blk_frozen BK253.out 2) | ((with_reducible refine gate_callee (f := 37) rfl ?_); refine goesL_ (some 39) rfl rfl Tryz.func37 (by kernel_rfl) rfl #[.string t245] rfl (by (try simp only [List.map_toArray, List.map_cons, List.map_nil]); first | done | rfl | (simp only [List.length_drop, List.length_take]; rfl)) ?_; (with_reducible refine (digits_read.calls t245 t254 t255 _ A18.out).mono ?_); rintro e w31 ⟨v256, rfl, ho0, hb⟩; refine ⟨_, rfl, ?_⟩; have n0_ := Aside0.mk (Kd.R_elder' (by exact (Kd.R_mono (Kd.R_far (p := ⟨gb253, 2, none⟩) (Kd.R_far (p := ⟨gb253, 1, none⟩) (Kd.R_far (p := ⟨gb253, 0, none⟩) (Kd.R_types HO252.out BK253.out (by decide)) (fun _ hk => hk.2) (.bool t244)) (fun _ hk => hk.2) (.slice none 0 0)) (fun _ hk => hk.2) (.slice Ao27 t250.length co27)) (fun _ h_ => h_.1))) (Kd.R_base ho0) hb); have n1_ := Aside0.mk (Kd.R_lower (Kd.R_new' ho0 (Kd.R_lt (by exact (Kd.R_mono (Kd.R_far (p := ⟨gb253, 2, none⟩) (Kd.R_far (p := ⟨gb253, 1, none⟩) (Kd.R_far (p := ⟨gb253, 0, none⟩) (Kd.R_types HO252.out BK253.out (by decide)) (fun _ hk => hk.2) (.bool t244)) (fun _ hk => hk.2) (.slice none 0 0)) (fun _ hk => hk.2) (.slice Ao27 t250.length co27)) (fun _ h_ => h_.1))))) (below_size (by repeat (first | (with_reducible first | exact HB.out | apply below_alloc | apply pw_below_drewN | apply below_drew1 | refine below_set ?_ GE242.out | refine below_set ?_ GE253.out) | exact HB.out)))); have n2_ := Aside0.mk (blk_below (g := gb242) (o := .cells #[.bool false, .slice none 0 0, .slice none 0 0] 25 (0, 0)) (by refine blk_far ?_ NB242_253.out _; refine blk_far ?_ NB242_253.out _; refine blk_far ?_ NB242_253.out _; exact BK242.out) hb); have n3_ := Aside0.mk (blk_below (g := gb253) (o := .cells #[.bool t244, .slice none 0 0, .slice Ao27 t250.length co27] 25 (0, 0)) (by refine blk_put (cs := #[.bool t244, .slice none 0 0, .slice none 0 0]) ?_ 2 _ rfl; refine blk_put (cs := #[.bool t244, .slice none 0 0, .slice none 0 0]) ?_ 1 _ rfl; refine blk_put (cs := #[.bool false, .slice none 0 0, .slice none 0 0]) ?_ 0 _ rfl; exact BK253.out) hb); have n4_ := Aside0.mk (below_step (by repeat (first | (with_reducible first | exact HB.out | apply below_alloc | apply pw_below_drewN | apply below_drew1 | refine below_set ?_ GE242.out | refine below_set ?_ GE253.out) | exact HB.out)) hb); clear HO252; clear BK242; clear BK253; clear HB; have HO252 := n0_; have HO257 := n1_; have BK242 := n2_; have BK253 := n3_; have HB := n4_; clear n0_ n1_ n2_ n3_ n4_; (try clear hb); (try clear hb2); (try clear hk); (try clear hi); (try clear ho0); obtain ⟨Ao32, co32, eo32⟩ := Kd.R_slice HO257.out; subst eo32; have hcz33_0 : w31.cell? ⟨gb253, 0, none⟩ = some (.bool t244) := (blk_cell BK253.out 0).trans rfl; have hcz33_1 : w31.cell? ⟨gb253, 1, none⟩ = some (.slice none 0 0) := (blk_cell BK253.out 1).trans rfl; have hcz33_2 : w31.cell? ⟨gb253, 2, none⟩ = some (.slice Ao27 t250.length co27) := (blk_cell BK253.out 2).trans rfl; have hfz33_0 := blk_frozen BK253.out 0; have hfz33_1 := blk_frozen BK253.out 1; have hfz33_2 := blk_frozen BK253.out 2) | ((with_reducible refine gate_callee (f := 37) rfl ?_); refine goesL_ (some 50) rfl rfl Tryz.func37 (by kernel_rfl) rfl #[.string t246] rfl (by (try simp only [List.map_toArray, List.map_cons, List.map_nil]); first | done | rfl | (simp only [List.length_drop, List.length_take]; rfl)) ?_; (with_reducible refine (digits_read.calls t246 t258 t259 _ A21.out).mono ?_); rintro e w34 ⟨v260, rfl, ho0, hb⟩; refine ⟨_, rfl, ?_⟩; have n0_ := Aside0.mk (Kd.R_elder' (by exact (Kd.R_mono (Kd.R_far (p := ⟨gb253, 1, none⟩) (Kd.R_types HO252.out BK253.out (by decide)) (fun _ hk => hk.2) (.slice Ao32 t254.length co32)) (fun _ h_ => h_.1))) (Kd.R_base ho0) hb); have n1_ := Aside0.mk (Kd.R_elder' (by exact (Kd.R_mono (Kd.R_far (p := ⟨gb253, 1, none⟩) (Kd.R_types HO257.out BK253.out (by decide)) (fun _ hk => hk.2) (.slice Ao32 t254.length co32)) (fun _ h_ => h_.1))) (Kd.R_base ho0) hb); have n2_ := Aside0.mk (Kd.R_lower (Kd.R_new' (Kd.R_new' ho0 (Kd.R_lt (by exact (Kd.R_mono (Kd.R_far (p := ⟨gb253, 1, none⟩) (Kd.R_types HO252.out BK253.out (by decide)) (fun _ hk => hk.2) (.slice Ao32 t254.length co32)) (fun _ h_ => h_.1))))) (Kd.R_lt (by exact (Kd.R_mono (Kd.R_far (p := ⟨gb253, 1, none⟩) (Kd.R_types HO257.out BK253.out (by decide)) (fun _ hk => hk.2) (.slice Ao32 t254.length co32)) (fun _ h_ => h_.1))))) (below_size (by repeat (first | (with_reducible first | exact HB.out | apply below_alloc | apply pw_below_drewN | apply below_drew1 | refine below_set ?_ GE242.out | refine below_set ?_ GE253.out) | exact HB.out)))); have n3_ := Aside0.mk (blk_below (g := gb242) (o := .cells #[.bool false, .slice none 0 0, .slice none 0 0] 25 (0, 0)) (by refine blk_far ?_ NB242_253.out _; exact BK242.out) hb); have n4_ := Aside0.mk (blk_below (g := gb253) (o := .cells #[.bool t244, .slice Ao32 t254.length co32, .slice Ao27 t250.length co27] 25 (0, 0)) (by refine blk_put (cs := #[.bool t244, .slice none 0 0, .slice Ao27 t250.length co27]) ?_ 1 _ rfl; exact BK253.out) hb); have n5_ := Aside0.mk (below_step (by repeat (first | (with_reducible first | exact HB.out | apply below_alloc | apply pw_below_drewN | apply below_drew1 | refine below_set ?_ GE242.out | refine below_set ?_ GE253.out) | exact HB.out)) hb); clear HO252; clear HO257; clear BK242; clear BK253; clear HB; have HO252 := n0_; have HO257 := n1_; have HO261 := n2_; have BK242 := n3_; have BK253 := n4_; have HB := n5_; clear n0_ n1_ n2_ n3_ n4_ n5_; (try clear hb); (try clear hb2); (try clear hk); (try clear hi); (try clear ho0); obtain ⟨Ao35, co35, eo35⟩ := Kd.R_slice HO261.out; subst eo35; have hcz36_0 : w34.cell? ⟨gb253, 0, none⟩ = some (.bool t244) := (blk_cell BK253.out 0).trans rfl; have hcz36_1 : w34.cell? ⟨gb253, 1, none⟩ = some (.slice Ao32 t254.length co32) := (blk_cell BK253.out 1).trans rfl; have hcz36_2 : w34.cell? ⟨gb253, 2, none⟩ = some (.slice Ao27 t250.length co27) := (blk_cell BK253.out 2).trans rfl; have hfz36_0 := blk_frozen BK253.out 0; have hfz36_1 := blk_frozen BK253.out 1; have hfz36_2 := blk_frozen BK253.out 2) | ((with_reducible refine gate_callee (f := 38) rfl ?_); refine goesL_ (some 59) rfl rfl Tryz.func38 (by kernel_rfl) rfl #[.agg #[.bool t244, .slice Ao32 t254.length co32, .slice Ao35 t258.length co35]] rfl (by (try simp only [List.map_toArray, List.map_cons, List.map_nil]); first | done | rfl | (simp only [List.length_drop, List.length_take]; rfl)) ?_; (with_reducible refine (rat_May.calls t244 _ _ t254 _ _ t258 t262 _ ?side1 ?side2 ?side3 ?side4 A23.out).mono ?_); (case side1 => refine (Kd.R_reads' (e := 56) (base := w.heap.size) (ok := fun k_ => ((True ∧ some k_ ≠ (.slice Ao27 t250.length co27 : Value).ownBlock) ∧ some k_ ≠ (.slice Ao35 t258.length co35 : Value).ownBlock)) (n := t254.length) (c := co32) ?_).2.2; exact (by exact (Kd.R_mono (Kd.R_far (p := ⟨gb253, 2, none⟩) (Kd.R_types HO257.out BK253.out (by decide)) (fun _ hk => hk.2) (.slice Ao35 t258.length co35)) (fun _ h_ => h_.1)))); (case side2 => exact (Kd.R_reads' HO257.out).2.1); (case side3 => refine (Kd.R_reads' (e := 56) (base := w.heap.size) (ok := fun k_ => ((True ∧ some k_ ≠ (.slice Ao27 t250.length co27 : Value).ownBlock) ∧ some k_ ≠ (.slice Ao32 t254.length co32 : Value).ownBlock)) (n := t258.length) (c := co35) ?_).2.2; exact (by exact (Kd.R_mono (Kd.R_far (p := ⟨gb253, 2, none⟩) (Kd.R_types HO261.out BK253.out (by decide)) (fun _ hk => hk.2) (.slice Ao35 t258.length co35)) (fun _ h_ => h_.1)))); (case side4 => exact (Kd.R_reads' HO261.out).2.1); rintro e w37 ⟨rfl, hb⟩; refine ⟨_, rfl, ?_⟩; have n0_ := Aside0.mk (Kd.R_below (by exact (Kd.R_mono (Kd.R_far (p := ⟨gb253, 2, none⟩) (Kd.R_types HO252.out BK253.out (by decide)) (fun _ hk => hk.2) (.slice Ao35 t258.length co35)) (fun _ h_ => h_.1))) hb); have n1_ := Aside0.mk (Kd.R_below (by exact (Kd.R_mono (Kd.R_far (p := ⟨gb253, 2, none⟩) (Kd.R_types HO257.out BK253.out (by decide)) (fun _ hk => hk.2) (.slice Ao35 t258.length co35)) (fun _ h_ => h_.1))) hb); have n2_ := Aside0.mk (Kd.R_below (by exact (Kd.R_mono (Kd.R_far (p := ⟨gb253, 2, none⟩) (Kd.R_types HO261.out BK253.out (by decide)) (fun _ hk => hk.2) (.slice Ao35 t258.length co35)) (fun _ h_ => h_.1))) hb); have n3_ := Aside0.mk (blk_below (g := gb242) (o := .cells #[.bool false, .slice none 0 0, .slice none 0 0] 25 (0, 0)) (by refine blk_far ?_ NB242_253.out _; exact BK242.out) hb); have n4_ := Aside0.mk (blk_below (g := gb253) (o := .cells #[.bool t244, .slice Ao32 t254.length co32, .slice Ao35 t258.length co35] 25 (0, 0)) (by refine blk_put (cs := #[.bool t244, .slice Ao32 t254.length co32, .slice Ao27 t250.length co27]) ?_ 2 _ rfl; exact BK253.out) hb); have n5_ := Aside0.mk (below_step (by repeat (first | (with_reducible first | exact HB.out | apply below_alloc | apply pw_below_drewN | apply below_drew1 | refine below_set ?_ GE242.out | refine below_set ?_ GE253.out) | exact HB.out)) hb); clear HO252; clear HO257; clear HO261; clear BK242; clear BK253; clear HB; have HO252 := n0_; have HO257 := n1_; have HO261 := n2_; have BK242 := n3_; have BK253 := n4_; have HB := n5_; clear n0_ n1_ n2_ n3_ n4_ n5_; (try clear hb); (try clear hb2); (try clear hk); (try clear hi); have hcz38_0 : w37.cell? ⟨gb242, 0, none⟩ = some (.bool false) := (blk_cell BK242.out 0).trans rfl; have hcz38_1 : w37.cell? ⟨gb242, 1, none⟩ = some (.slice none 0 0) := (blk_cell BK242.out 1).trans rfl; have hcz38_2 : w37.cell? ⟨gb242, 2, none⟩ = some (.slice none 0 0) := (blk_cell BK242.out 2).trans rfl; have hfz38_0 := blk_frozen BK242.out 0; have hfz38_1 := blk_frozen BK242.out 1; have hfz38_2 := blk_frozen BK242.out 2))
                  refine bodyPost_ret (results_ct rfl _ _ gb242 25 #[.bool false, .slice none 0 0, .slice none 0 0] (0, 0) _ rfl (by refine blk_put (cs := #[.bool false, .slice none 0 0, .slice none 0 0]) ?_ 2 _ rfl; refine blk_put (cs := #[.bool false, .slice none 0 0, .slice none 0 0]) ?_ 1 _ rfl; refine blk_put (cs := #[.bool false, .slice none 0 0, .slice none 0 0]) ?_ 0 _ rfl; exact BK242.out) Tryz.underlying25 rfl (by kernel_rfl)) rfl ?_
                  exact ⟨_, _, by first | rfl | (simp [errW_none, errW_some] <;> rfl) | (simp [*, errW_none, errW_some] <;> rfl), by first | exact Kd.R_nil _ _ _ _ _ | exact Kd.N_nil _ _ _ _ _ | exact Kd.V_nil _ _ _ _ _ | exact Kd.Q_nil _ _ _ _ _ | exact Kd.S_nil _ _ _ _ _, by first | exact Kd.R_nil _ _ _ _ _ | exact Kd.N_nil _ _ _ _ _ | exact Kd.V_nil _ _ _ _ _ | exact Kd.Q_nil _ _ _ _ _ | exact Kd.S_nil _ _ _ _ _, by repeat (first | (with_reducible first | exact HB.out | apply below_alloc | apply pw_below_drewN | apply below_drew1 | refine below_set ?_ GE242.out | refine below_set ?_ GE253.out) | exact HB.out)⟩
                · rw [if_neg c25] at H
                  have c25b0 : (t246.toList == ([49] : List UInt8)) = false := beq_eq_false_iff_ne.mpr c25
                  have c25b1 : (t246.toList != ([49] : List UInt8)) = true := bne_iff_ne.mpr c25
                  simp only [Option.some.injEq, Prod.mk.injEq] at H
                  obtain ⟨rfl, rfl, rfl, rfl⟩ := H
                  go_wp2_with (first | ((with_reducible refine gate_callee (f := 31) rfl ?_); refine goesL_ (some 35) rfl rfl Tryz.func31 (by kernel_rfl) rfl #[.int .u64 1] rfl (by (try simp only [List.map_toArray, List.map_cons, List.map_nil]); first | done | rfl | (simp only [List.length_drop, List.length_take]; rfl)) ?_; (with_reducible refine (nat_Of.calls 1 t250 _ A17.out).mono ?_); rintro e w39 ⟨v251, rfl, ho0, hb⟩; refine ⟨_, rfl, ?_⟩; have n0_ := Aside0.mk (Kd.R_lower ho0 (below_size (by repeat (first | (with_reducible first | exact HB.out | apply below_alloc | apply pw_below_drewN | apply below_drew1 | refine below_set ?_ GE242.out) | exact HB.out)))); have n1_ := Aside0.mk (blk_below (g := gb242) (o := .cells #[.bool false, .slice none 0 0, .slice none 0 0] 25 (0, 0)) (by exact BK242.out) hb); have n2_ := Aside0.mk (below_step (by repeat (first | (with_reducible first | exact HB.out | apply below_alloc | apply pw_below_drewN | apply below_drew1 | refine below_set ?_ GE242.out) | exact HB.out)) hb); clear BK242; clear HB; have HO252 := n0_; have BK242 := n1_; have HB := n2_; clear n0_ n1_ n2_; (try clear hb); (try clear hb2); (try clear hk); (try clear hi); (try clear ho0); obtain ⟨Ao40, co40, eo40⟩ := Kd.R_slice HO252.out; subst eo40) | ((with_reducible refine gate_dst (N := 9) rfl ?_); refine box_event ?hg (N := 9) ?hd (cs := #[.bool false, .slice none 0 0, .slice none 0 0]) (t := 25) ?hr ?_; (case hd => rfl); (case hg => rfl); (case hr => first | (go_simp; done) | (go_simp; rfl)); intro gb253 hg w41 hbox hb; have n0_ := Aside0.mk (Kd.R_below (by exact HO252.out) hb); have n1_ := Aside0.mk (blk_below (g := gb242) (o := .cells #[.bool false, .slice none 0 0, .slice none 0 0] 25 (0, 0)) (by exact BK242.out) hb); have n2_ := Aside0.mk (below_step (by repeat (first | (with_reducible first | exact HB.out | apply below_alloc | apply pw_below_drewN | apply below_drew1 | refine below_set ?_ GE242.out) | exact HB.out)) hb); have n3_ := Aside0.mk (hbox); have n4_ := Aside0.mk ((by rw [hg]; exact (below_size (by repeat (first | (with_reducible first | exact HB.out | apply below_alloc | apply pw_below_drewN | apply below_drew1 | refine below_set ?_ GE242.out) | exact HB.out))) : w.heap.size ≤ gb253)); have n5_ := Aside0.mk ((by rw [hg]; exact (below_size (by repeat (first | (with_reducible first | exact HB.out | apply below_alloc | apply pw_below_drewN | apply below_drew1 | refine below_set ?_ GE242.out) | exact HB.out))) : w.heap.size ≤ gb253)); have n6_ := Aside0.mk ((by rw [hg]; exact Nat.ne_of_lt (blk_lt (g := gb242) (o := .cells #[.bool false, .slice none 0 0, .slice none 0 0] 25 (0, 0)) (by exact BK242.out)) : gb242 ≠ gb253)); have n7_ := Aside0.mk ((by rw [hg]; exact Nat.ne_of_gt (blk_lt (g := gb242) (o := .cells #[.bool false, .slice none 0 0, .slice none 0 0] 25 (0, 0)) (by exact BK242.out)) : gb253 ≠ gb242)); clear HO252; clear BK242; clear HB; have HO252 := n0_; have BK242 := n1_; have HB := n2_; have BK253 := n3_; have GW253 := n4_; have GE253 := n5_; have NB242_253 := n6_; have NB253_242 := n7_; clear n0_ n1_ n2_ n3_ n4_ n5_ n6_ n7_; clear hb hbox hg; have hnb42 := NB253_242.out; have hnc42 := NB242_253.out; have hcz43_0 : w41.cell? ⟨gb253, 0, none⟩ = some (.bool false) := (blk_cell BK253.out 0).trans rfl; have hcz43_1 : w41.cell? ⟨gb253, 1, none⟩ = some (.slice none 0 0) := (blk_cell BK253.out 1).trans rfl; have hcz43_2 : w41.cell? ⟨gb253, 2, none⟩ = some (.slice none 0 0) := (blk_cell BK253.out 2).trans rfl; have hfz43_0 := blk_frozen BK253.out 0; have hfz43_1 := blk_frozen BK253.out 1; have hfz43_2 := blk_frozen BK253.out 2) | ((with_reducible refine gate_callee (f := 37) rfl ?_); refine goesL_ (some 39) rfl rfl Tryz.func37 (by kernel_rfl) rfl #[.string t245] rfl (by (try simp only [List.map_toArray, List.map_cons, List.map_nil]); first | done | rfl | (simp only [List.length_drop, List.length_take]; rfl)) ?_; (with_reducible refine (digits_read.calls t245 t254 t255 _ A18.out).mono ?_); rintro e w44 ⟨v256, rfl, ho0, hb⟩; refine ⟨_, rfl, ?_⟩; have n0_ := Aside0.mk (Kd.R_elder' (by exact (Kd.R_mono (Kd.R_far (p := ⟨gb253, 2, none⟩) (Kd.R_far (p := ⟨gb253, 1, none⟩) (Kd.R_far (p := ⟨gb253, 0, none⟩) (Kd.R_types HO252.out BK253.out (by decide)) (fun _ hk => hk.2) (.bool t244)) (fun _ hk => hk.2) (.slice none 0 0)) (fun _ hk => hk.2) (.slice Ao40 t250.length co40)) (fun _ h_ => h_.1))) (Kd.R_base ho0) hb); have n1_ := Aside0.mk (Kd.R_lower (Kd.R_new' ho0 (Kd.R_lt (by exact (Kd.R_mono (Kd.R_far (p := ⟨gb253, 2, none⟩) (Kd.R_far (p := ⟨gb253, 1, none⟩) (Kd.R_far (p := ⟨gb253, 0, none⟩) (Kd.R_types HO252.out BK253.out (by decide)) (fun _ hk => hk.2) (.bool t244)) (fun _ hk => hk.2) (.slice none 0 0)) (fun _ hk => hk.2) (.slice Ao40 t250.length co40)) (fun _ h_ => h_.1))))) (below_size (by repeat (first | (with_reducible first | exact HB.out | apply below_alloc | apply pw_below_drewN | apply below_drew1 | refine below_set ?_ GE242.out | refine below_set ?_ GE253.out) | exact HB.out)))); have n2_ := Aside0.mk (blk_below (g := gb242) (o := .cells #[.bool false, .slice none 0 0, .slice none 0 0] 25 (0, 0)) (by refine blk_far ?_ NB242_253.out _; refine blk_far ?_ NB242_253.out _; refine blk_far ?_ NB242_253.out _; exact BK242.out) hb); have n3_ := Aside0.mk (blk_below (g := gb253) (o := .cells #[.bool t244, .slice none 0 0, .slice Ao40 t250.length co40] 25 (0, 0)) (by refine blk_put (cs := #[.bool t244, .slice none 0 0, .slice none 0 0]) ?_ 2 _ rfl; refine blk_put (cs := #[.bool t244, .slice none 0 0, .slice none 0 0]) ?_ 1 _ rfl; refine blk_put (cs := #[.bool false, .slice none 0 0, .slice none 0 0]) ?_ 0 _ rfl; exact BK253.out) hb); have n4_ := Aside0.mk (below_step (by repeat (first | (with_reducible first | exact HB.out | apply below_alloc | apply pw_below_drewN | apply below_drew1 | refine below_set ?_ GE242.out | refine below_set ?_ GE253.out) | exact HB.out)) hb); clear HO252; clear BK242; clear BK253; clear HB; have HO252 := n0_; have HO257 := n1_; have BK242 := n2_; have BK253 := n3_; have HB := n4_; clear n0_ n1_ n2_ n3_ n4_; (try clear hb); (try clear hb2); (try clear hk); (try clear hi); (try clear ho0); obtain ⟨Ao45, co45, eo45⟩ := Kd.R_slice HO257.out; subst eo45; have hcz46_0 : w44.cell? ⟨gb253, 0, none⟩ = some (.bool t244) := (blk_cell BK253.out 0).trans rfl; have hcz46_1 : w44.cell? ⟨gb253, 1, none⟩ = some (.slice none 0 0) := (blk_cell BK253.out 1).trans rfl; have hcz46_2 : w44.cell? ⟨gb253, 2, none⟩ = some (.slice Ao40 t250.length co40) := (blk_cell BK253.out 2).trans rfl; have hfz46_0 := blk_frozen BK253.out 0; have hfz46_1 := blk_frozen BK253.out 1; have hfz46_2 := blk_frozen BK253.out 2) | ((with_reducible refine gate_callee (f := 37) rfl ?_); refine goesL_ (some 50) rfl rfl Tryz.func37 (by kernel_rfl) rfl #[.string t246] rfl (by (try simp only [List.map_toArray, List.map_cons, List.map_nil]); first | done | rfl | (simp only [List.length_drop, List.length_take]; rfl)) ?_; (with_reducible refine (digits_read.calls t246 t258 t259 _ A21.out).mono ?_); rintro e w47 ⟨v260, rfl, ho0, hb⟩; refine ⟨_, rfl, ?_⟩; have n0_ := Aside0.mk (Kd.R_elder' (by exact (Kd.R_mono (Kd.R_far (p := ⟨gb253, 1, none⟩) (Kd.R_types HO252.out BK253.out (by decide)) (fun _ hk => hk.2) (.slice Ao45 t254.length co45)) (fun _ h_ => h_.1))) (Kd.R_base ho0) hb); have n1_ := Aside0.mk (Kd.R_elder' (by exact (Kd.R_mono (Kd.R_far (p := ⟨gb253, 1, none⟩) (Kd.R_types HO257.out BK253.out (by decide)) (fun _ hk => hk.2) (.slice Ao45 t254.length co45)) (fun _ h_ => h_.1))) (Kd.R_base ho0) hb); have n2_ := Aside0.mk (Kd.R_lower (Kd.R_new' (Kd.R_new' ho0 (Kd.R_lt (by exact (Kd.R_mono (Kd.R_far (p := ⟨gb253, 1, none⟩) (Kd.R_types HO252.out BK253.out (by decide)) (fun _ hk => hk.2) (.slice Ao45 t254.length co45)) (fun _ h_ => h_.1))))) (Kd.R_lt (by exact (Kd.R_mono (Kd.R_far (p := ⟨gb253, 1, none⟩) (Kd.R_types HO257.out BK253.out (by decide)) (fun _ hk => hk.2) (.slice Ao45 t254.length co45)) (fun _ h_ => h_.1))))) (below_size (by repeat (first | (with_reducible first | exact HB.out | apply below_alloc | apply pw_below_drewN | apply below_drew1 | refine below_set ?_ GE242.out | refine below_set ?_ GE253.out) | exact HB.out)))); have n3_ := Aside0.mk (blk_below (g := gb242) (o := .cells #[.bool false, .slice none 0 0, .slice none 0 0] 25 (0, 0)) (by refine blk_far ?_ NB242_253.out _; exact BK242.out) hb); have n4_ := Aside0.mk (blk_below (g := gb253) (o := .cells #[.bool t244, .slice Ao45 t254.length co45, .slice Ao40 t250.length co40] 25 (0, 0)) (by refine blk_put (cs := #[.bool t244, .slice none 0 0, .slice Ao40 t250.length co40]) ?_ 1 _ rfl; exact BK253.out) hb); have n5_ := Aside0.mk (below_step (by repeat (first | (with_reducible first | exact HB.out | apply below_alloc | apply pw_below_drewN | apply below_drew1 | refine below_set ?_ GE242.out | refine below_set ?_ GE253.out) | exact HB.out)) hb); clear HO252; clear HO257; clear BK242; clear BK253; clear HB; have HO252 := n0_; have HO257 := n1_; have HO261 := n2_; have BK242 := n3_; have BK253 := n4_; have HB := n5_; clear n0_ n1_ n2_ n3_ n4_ n5_; (try clear hb); (try clear hb2); (try clear hk); (try clear hi); (try clear ho0); obtain ⟨Ao48, co48, eo48⟩ := Kd.R_slice HO261.out; subst eo48; have hcz49_0 : w47.cell? ⟨gb253, 0, none⟩ = some (.bool t244) := (blk_cell BK253.out 0).trans rfl; have hcz49_1 : w47.cell? ⟨gb253, 1, none⟩ = some (.slice Ao45 t254.length co45) := (blk_cell BK253.out 1).trans rfl; have hcz49_2 : w47.cell? ⟨gb253, 2, none⟩ = some (.slice Ao40 t250.length co40) := (blk_cell BK253.out 2).trans rfl; have hfz49_0 := blk_frozen BK253.out 0; have hfz49_1 := blk_frozen BK253.out 1; have hfz49_2 := blk_frozen BK253.out 2) | ((with_reducible refine gate_callee (f := 38) rfl ?_); refine goesL_ (some 59) rfl rfl Tryz.func38 (by kernel_rfl) rfl #[.agg #[.bool t244, .slice Ao45 t254.length co45, .slice Ao48 t258.length co48]] rfl (by (try simp only [List.map_toArray, List.map_cons, List.map_nil]); first | done | rfl | (simp only [List.length_drop, List.length_take]; rfl)) ?_; (with_reducible refine (rat_May.calls t244 _ _ t254 _ _ t258 t262 _ ?side1 ?side2 ?side3 ?side4 A23.out).mono ?_); (case side1 => refine (Kd.R_reads' (e := 56) (base := w.heap.size) (ok := fun k_ => ((True ∧ some k_ ≠ (.slice Ao40 t250.length co40 : Value).ownBlock) ∧ some k_ ≠ (.slice Ao48 t258.length co48 : Value).ownBlock)) (n := t254.length) (c := co45) ?_).2.2; exact (by exact (Kd.R_mono (Kd.R_far (p := ⟨gb253, 2, none⟩) (Kd.R_types HO257.out BK253.out (by decide)) (fun _ hk => hk.2) (.slice Ao48 t258.length co48)) (fun _ h_ => h_.1)))); (case side2 => exact (Kd.R_reads' HO257.out).2.1); (case side3 => refine (Kd.R_reads' (e := 56) (base := w.heap.size) (ok := fun k_ => ((True ∧ some k_ ≠ (.slice Ao40 t250.length co40 : Value).ownBlock) ∧ some k_ ≠ (.slice Ao45 t254.length co45 : Value).ownBlock)) (n := t258.length) (c := co48) ?_).2.2; exact (by exact (Kd.R_mono (Kd.R_far (p := ⟨gb253, 2, none⟩) (Kd.R_types HO261.out BK253.out (by decide)) (fun _ hk => hk.2) (.slice Ao48 t258.length co48)) (fun _ h_ => h_.1)))); (case side4 => exact (Kd.R_reads' HO261.out).2.1); rintro e w50 ⟨rfl, hb⟩; refine ⟨_, rfl, ?_⟩; have n0_ := Aside0.mk (Kd.R_below (by exact (Kd.R_mono (Kd.R_far (p := ⟨gb253, 2, none⟩) (Kd.R_types HO252.out BK253.out (by decide)) (fun _ hk => hk.2) (.slice Ao48 t258.length co48)) (fun _ h_ => h_.1))) hb); have n1_ := Aside0.mk (Kd.R_below (by exact (Kd.R_mono (Kd.R_far (p := ⟨gb253, 2, none⟩) (Kd.R_types HO257.out BK253.out (by decide)) (fun _ hk => hk.2) (.slice Ao48 t258.length co48)) (fun _ h_ => h_.1))) hb); have n2_ := Aside0.mk (Kd.R_below (by exact (Kd.R_mono (Kd.R_far (p := ⟨gb253, 2, none⟩) (Kd.R_types HO261.out BK253.out (by decide)) (fun _ hk => hk.2) (.slice Ao48 t258.length co48)) (fun _ h_ => h_.1))) hb); have n3_ := Aside0.mk (blk_below (g := gb242) (o := .cells #[.bool false, .slice none 0 0, .slice none 0 0] 25 (0, 0)) (by refine blk_far ?_ NB242_253.out _; exact BK242.out) hb); have n4_ := Aside0.mk (blk_below (g := gb253) (o := .cells #[.bool t244, .slice Ao45 t254.length co45, .slice Ao48 t258.length co48] 25 (0, 0)) (by refine blk_put (cs := #[.bool t244, .slice Ao45 t254.length co45, .slice Ao40 t250.length co40]) ?_ 2 _ rfl; exact BK253.out) hb); have n5_ := Aside0.mk (below_step (by repeat (first | (with_reducible first | exact HB.out | apply below_alloc | apply pw_below_drewN | apply below_drew1 | refine below_set ?_ GE242.out | refine below_set ?_ GE253.out) | exact HB.out)) hb); clear HO252; clear HO257; clear HO261; clear BK242; clear BK253; clear HB; have HO252 := n0_; have HO257 := n1_; have HO261 := n2_; have BK242 := n3_; have BK253 := n4_; have HB := n5_; clear n0_ n1_ n2_ n3_ n4_ n5_; (try clear hb); (try clear hb2); (try clear hk); (try clear hi); have hcz51_0 : w50.cell? ⟨gb253, 0, none⟩ = some (.bool t244) := (blk_cell BK253.out 0).trans rfl; have hcz51_1 : w50.cell? ⟨gb253, 1, none⟩ = some (.slice Ao45 t254.length co45) := (blk_cell BK253.out 1).trans rfl; have hcz51_2 : w50.cell? ⟨gb253, 2, none⟩ = some (.slice Ao48 t258.length co48) := (blk_cell BK253.out 2).trans rfl; have hfz51_0 := blk_frozen BK253.out 0; have hfz51_1 := blk_frozen BK253.out 1; have hfz51_2 := blk_frozen BK253.out 2; have hcz52_0 : w50.cell? ⟨gb242, 0, none⟩ = some (.bool false) := (blk_cell BK242.out 0).trans rfl; have hcz52_1 : w50.cell? ⟨gb242, 1, none⟩ = some (.slice none 0 0) := (blk_cell BK242.out 1).trans rfl; have hcz52_2 : w50.cell? ⟨gb242, 2, none⟩ = some (.slice none 0 0) := (blk_cell BK242.out 2).trans rfl; have hfz52_0 := blk_frozen BK242.out 0; have hfz52_1 := blk_frozen BK242.out 1; have hfz52_2 := blk_frozen BK242.out 2))
                  refine bodyPost_ret (results_ct rfl _ _ gb242 25 #[.bool t244, .slice Ao45 t254.length co45, .slice Ao48 t258.length co48] (0, 0) _ rfl (by refine blk_put (cs := #[.bool t244, .slice Ao45 t254.length co45, .slice none 0 0]) ?_ 2 _ rfl; refine blk_put (cs := #[.bool t244, .slice none 0 0, .slice none 0 0]) ?_ 1 _ rfl; refine blk_put (cs := #[.bool false, .slice none 0 0, .slice none 0 0]) ?_ 0 _ rfl; exact BK242.out) Tryz.underlying25 rfl (by kernel_rfl)) rfl ?_
                  exact ⟨_, _, by first | rfl | (simp [errW_none, errW_some] <;> rfl) | (simp [*, errW_none, errW_some] <;> rfl), by exact Kd.R_mono (Kd.R_far (p := ⟨gb242, 2, none⟩) (Kd.R_far (p := ⟨gb242, 1, none⟩) (Kd.R_far (p := ⟨gb242, 0, none⟩) (Kd.R_types HO257.out BK242.out (by decide)) (fun _ hk => hk.2) (.bool t244)) (fun _ hk => hk.2) (.slice Ao45 t254.length co45)) (fun _ hk => hk.2) (.slice Ao48 t258.length co48)) (fun _ hk => hk.1.2), by exact Kd.R_mono (Kd.R_far (p := ⟨gb242, 2, none⟩) (Kd.R_far (p := ⟨gb242, 1, none⟩) (Kd.R_far (p := ⟨gb242, 0, none⟩) (Kd.R_types HO261.out BK242.out (by decide)) (fun _ hk => hk.2) (.bool t244)) (fun _ hk => hk.2) (.slice Ao45 t254.length co45)) (fun _ hk => hk.2) (.slice Ao48 t258.length co48)) (fun _ hk => hk.1.2), by repeat (first | (with_reducible first | exact HB.out | apply below_alloc | apply pw_below_drewN | apply below_drew1 | refine below_set ?_ GE242.out | refine below_set ?_ GE253.out) | exact HB.out)⟩
              · rw [if_neg c24] at H
                have c24b0 : (t262 == 0) = false := beq_eq_false_iff_ne.mpr c24
                have c24b1 : (t262 != 0) = true := bne_iff_ne.mpr c24
                simp only [Option.some.injEq, Prod.mk.injEq] at H
                obtain ⟨rfl, rfl, rfl, rfl⟩ := H
                go_wp2_with (first | ((with_reducible refine gate_callee (f := 31) rfl ?_); refine goesL_ (some 35) rfl rfl Tryz.func31 (by kernel_rfl) rfl #[.int .u64 1] rfl (by (try simp only [List.map_toArray, List.map_cons, List.map_nil]); first | done | rfl | (simp only [List.length_drop, List.length_take]; rfl)) ?_; (with_reducible refine (nat_Of.calls 1 t250 _ A17.out).mono ?_); rintro e w53 ⟨v251, rfl, ho0, hb⟩; refine ⟨_, rfl, ?_⟩; have n0_ := Aside0.mk (Kd.R_lower ho0 (below_size (by repeat (first | (with_reducible first | exact HB.out | apply below_alloc | apply pw_below_drewN | apply below_drew1 | refine below_set ?_ GE242.out) | exact HB.out)))); have n1_ := Aside0.mk (blk_below (g := gb242) (o := .cells #[.bool false, .slice none 0 0, .slice none 0 0] 25 (0, 0)) (by exact BK242.out) hb); have n2_ := Aside0.mk (below_step (by repeat (first | (with_reducible first | exact HB.out | apply below_alloc | apply pw_below_drewN | apply below_drew1 | refine below_set ?_ GE242.out) | exact HB.out)) hb); clear BK242; clear HB; have HO252 := n0_; have BK242 := n1_; have HB := n2_; clear n0_ n1_ n2_; (try clear hb); (try clear hb2); (try clear hk); (try clear hi); (try clear ho0); obtain ⟨Ao54, co54, eo54⟩ := Kd.R_slice HO252.out; subst eo54) | ((with_reducible refine gate_dst (N := 9) rfl ?_); refine box_event ?hg (N := 9) ?hd (cs := #[.bool false, .slice none 0 0, .slice none 0 0]) (t := 25) ?hr ?_; (case hd => rfl); (case hg => rfl); (case hr => first | (go_simp; done) | (go_simp; rfl)); intro gb253 hg w55 hbox hb; have n0_ := Aside0.mk (Kd.R_below (by exact HO252.out) hb); have n1_ := Aside0.mk (blk_below (g := gb242) (o := .cells #[.bool false, .slice none 0 0, .slice none 0 0] 25 (0, 0)) (by exact BK242.out) hb); have n2_ := Aside0.mk (below_step (by repeat (first | (with_reducible first | exact HB.out | apply below_alloc | apply pw_below_drewN | apply below_drew1 | refine below_set ?_ GE242.out) | exact HB.out)) hb); have n3_ := Aside0.mk (hbox); have n4_ := Aside0.mk ((by rw [hg]; exact (below_size (by repeat (first | (with_reducible first | exact HB.out | apply below_alloc | apply pw_below_drewN | apply below_drew1 | refine below_set ?_ GE242.out) | exact HB.out))) : w.heap.size ≤ gb253)); have n5_ := Aside0.mk ((by rw [hg]; exact (below_size (by repeat (first | (with_reducible first | exact HB.out | apply below_alloc | apply pw_below_drewN | apply below_drew1 | refine below_set ?_ GE242.out) | exact HB.out))) : w.heap.size ≤ gb253)); have n6_ := Aside0.mk ((by rw [hg]; exact Nat.ne_of_lt (blk_lt (g := gb242) (o := .cells #[.bool false, .slice none 0 0, .slice none 0 0] 25 (0, 0)) (by exact BK242.out)) : gb242 ≠ gb253)); have n7_ := Aside0.mk ((by rw [hg]; exact Nat.ne_of_gt (blk_lt (g := gb242) (o := .cells #[.bool false, .slice none 0 0, .slice none 0 0] 25 (0, 0)) (by exact BK242.out)) : gb253 ≠ gb242)); clear HO252; clear BK242; clear HB; have HO252 := n0_; have BK242 := n1_; have HB := n2_; have BK253 := n3_; have GW253 := n4_; have GE253 := n5_; have NB242_253 := n6_; have NB253_242 := n7_; clear n0_ n1_ n2_ n3_ n4_ n5_ n6_ n7_; clear hb hbox hg; have hnb56 := NB253_242.out; have hnc56 := NB242_253.out; have hcz57_0 : w55.cell? ⟨gb253, 0, none⟩ = some (.bool false) := (blk_cell BK253.out 0).trans rfl; have hcz57_1 : w55.cell? ⟨gb253, 1, none⟩ = some (.slice none 0 0) := (blk_cell BK253.out 1).trans rfl; have hcz57_2 : w55.cell? ⟨gb253, 2, none⟩ = some (.slice none 0 0) := (blk_cell BK253.out 2).trans rfl; have hfz57_0 := blk_frozen BK253.out 0; have hfz57_1 := blk_frozen BK253.out 1; have hfz57_2 := blk_frozen BK253.out 2) | ((with_reducible refine gate_callee (f := 37) rfl ?_); refine goesL_ (some 39) rfl rfl Tryz.func37 (by kernel_rfl) rfl #[.string t245] rfl (by (try simp only [List.map_toArray, List.map_cons, List.map_nil]); first | done | rfl | (simp only [List.length_drop, List.length_take]; rfl)) ?_; (with_reducible refine (digits_read.calls t245 t254 t255 _ A18.out).mono ?_); rintro e w58 ⟨v256, rfl, ho0, hb⟩; refine ⟨_, rfl, ?_⟩; have n0_ := Aside0.mk (Kd.R_elder' (by exact (Kd.R_mono (Kd.R_far (p := ⟨gb253, 2, none⟩) (Kd.R_far (p := ⟨gb253, 1, none⟩) (Kd.R_far (p := ⟨gb253, 0, none⟩) (Kd.R_types HO252.out BK253.out (by decide)) (fun _ hk => hk.2) (.bool t244)) (fun _ hk => hk.2) (.slice none 0 0)) (fun _ hk => hk.2) (.slice Ao54 t250.length co54)) (fun _ h_ => h_.1))) (Kd.R_base ho0) hb); have n1_ := Aside0.mk (Kd.R_lower (Kd.R_new' ho0 (Kd.R_lt (by exact (Kd.R_mono (Kd.R_far (p := ⟨gb253, 2, none⟩) (Kd.R_far (p := ⟨gb253, 1, none⟩) (Kd.R_far (p := ⟨gb253, 0, none⟩) (Kd.R_types HO252.out BK253.out (by decide)) (fun _ hk => hk.2) (.bool t244)) (fun _ hk => hk.2) (.slice none 0 0)) (fun _ hk => hk.2) (.slice Ao54 t250.length co54)) (fun _ h_ => h_.1))))) (below_size (by repeat (first | (with_reducible first | exact HB.out | apply below_alloc | apply pw_below_drewN | apply below_drew1 | refine below_set ?_ GE242.out | refine below_set ?_ GE253.out) | exact HB.out)))); have n2_ := Aside0.mk (blk_below (g := gb242) (o := .cells #[.bool false, .slice none 0 0, .slice none 0 0] 25 (0, 0)) (by refine blk_far ?_ NB242_253.out _; refine blk_far ?_ NB242_253.out _; refine blk_far ?_ NB242_253.out _; exact BK242.out) hb); have n3_ := Aside0.mk (blk_below (g := gb253) (o := .cells #[.bool t244, .slice none 0 0, .slice Ao54 t250.length co54] 25 (0, 0)) (by refine blk_put (cs := #[.bool t244, .slice none 0 0, .slice none 0 0]) ?_ 2 _ rfl; refine blk_put (cs := #[.bool t244, .slice none 0 0, .slice none 0 0]) ?_ 1 _ rfl; refine blk_put (cs := #[.bool false, .slice none 0 0, .slice none 0 0]) ?_ 0 _ rfl; exact BK253.out) hb); have n4_ := Aside0.mk (below_step (by repeat (first | (with_reducible first | exact HB.out | apply below_alloc | apply pw_below_drewN | apply below_drew1 | refine below_set ?_ GE242.out | refine below_set ?_ GE253.out) | exact HB.out)) hb); clear HO252; clear BK242; clear BK253; clear HB; have HO252 := n0_; have HO257 := n1_; have BK242 := n2_; have BK253 := n3_; have HB := n4_; clear n0_ n1_ n2_ n3_ n4_; (try clear hb); (try clear hb2); (try clear hk); (try clear hi); (try clear ho0); obtain ⟨Ao59, co59, eo59⟩ := Kd.R_slice HO257.out; subst eo59; have hcz60_0 : w58.cell? ⟨gb253, 0, none⟩ = some (.bool t244) := (blk_cell BK253.out 0).trans rfl; have hcz60_1 : w58.cell? ⟨gb253, 1, none⟩ = some (.slice none 0 0) := (blk_cell BK253.out 1).trans rfl; have hcz60_2 : w58.cell? ⟨gb253, 2, none⟩ = some (.slice Ao54 t250.length co54) := (blk_cell BK253.out 2).trans rfl; have hfz60_0 := blk_frozen BK253.out 0; have hfz60_1 := blk_frozen BK253.out 1; have hfz60_2 := blk_frozen BK253.out 2) | ((with_reducible refine gate_callee (f := 37) rfl ?_); refine goesL_ (some 50) rfl rfl Tryz.func37 (by kernel_rfl) rfl #[.string t246] rfl (by (try simp only [List.map_toArray, List.map_cons, List.map_nil]); first | done | rfl | (simp only [List.length_drop, List.length_take]; rfl)) ?_; (with_reducible refine (digits_read.calls t246 t258 t259 _ A21.out).mono ?_); rintro e w61 ⟨v260, rfl, ho0, hb⟩; refine ⟨_, rfl, ?_⟩; have n0_ := Aside0.mk (Kd.R_elder' (by exact (Kd.R_mono (Kd.R_far (p := ⟨gb253, 1, none⟩) (Kd.R_types HO252.out BK253.out (by decide)) (fun _ hk => hk.2) (.slice Ao59 t254.length co59)) (fun _ h_ => h_.1))) (Kd.R_base ho0) hb); have n1_ := Aside0.mk (Kd.R_elder' (by exact (Kd.R_mono (Kd.R_far (p := ⟨gb253, 1, none⟩) (Kd.R_types HO257.out BK253.out (by decide)) (fun _ hk => hk.2) (.slice Ao59 t254.length co59)) (fun _ h_ => h_.1))) (Kd.R_base ho0) hb); have n2_ := Aside0.mk (Kd.R_lower (Kd.R_new' (Kd.R_new' ho0 (Kd.R_lt (by exact (Kd.R_mono (Kd.R_far (p := ⟨gb253, 1, none⟩) (Kd.R_types HO252.out BK253.out (by decide)) (fun _ hk => hk.2) (.slice Ao59 t254.length co59)) (fun _ h_ => h_.1))))) (Kd.R_lt (by exact (Kd.R_mono (Kd.R_far (p := ⟨gb253, 1, none⟩) (Kd.R_types HO257.out BK253.out (by decide)) (fun _ hk => hk.2) (.slice Ao59 t254.length co59)) (fun _ h_ => h_.1))))) (below_size (by repeat (first | (with_reducible first | exact HB.out | apply below_alloc | apply pw_below_drewN | apply below_drew1 | refine below_set ?_ GE242.out | refine below_set ?_ GE253.out) | exact HB.out)))); have n3_ := Aside0.mk (blk_below (g := gb242) (o := .cells #[.bool false, .slice none 0 0, .slice none 0 0] 25 (0, 0)) (by refine blk_far ?_ NB242_253.out _; exact BK242.out) hb); have n4_ := Aside0.mk (blk_below (g := gb253) (o := .cells #[.bool t244, .slice Ao59 t254.length co59, .slice Ao54 t250.length co54] 25 (0, 0)) (by refine blk_put (cs := #[.bool t244, .slice none 0 0, .slice Ao54 t250.length co54]) ?_ 1 _ rfl; exact BK253.out) hb); have n5_ := Aside0.mk (below_step (by repeat (first | (with_reducible first | exact HB.out | apply below_alloc | apply pw_below_drewN | apply below_drew1 | refine below_set ?_ GE242.out | refine below_set ?_ GE253.out) | exact HB.out)) hb); clear HO252; clear HO257; clear BK242; clear BK253; clear HB; have HO252 := n0_; have HO257 := n1_; have HO261 := n2_; have BK242 := n3_; have BK253 := n4_; have HB := n5_; clear n0_ n1_ n2_ n3_ n4_ n5_; (try clear hb); (try clear hb2); (try clear hk); (try clear hi); (try clear ho0); obtain ⟨Ao62, co62, eo62⟩ := Kd.R_slice HO261.out; subst eo62; have hcz63_0 : w61.cell? ⟨gb253, 0, none⟩ = some (.bool t244) := (blk_cell BK253.out 0).trans rfl; have hcz63_1 : w61.cell? ⟨gb253, 1, none⟩ = some (.slice Ao59 t254.length co59) := (blk_cell BK253.out 1).trans rfl; have hcz63_2 : w61.cell? ⟨gb253, 2, none⟩ = some (.slice Ao54 t250.length co54) := (blk_cell BK253.out 2).trans rfl; have hfz63_0 := blk_frozen BK253.out 0; have hfz63_1 := blk_frozen BK253.out 1; have hfz63_2 := blk_frozen BK253.out 2) | ((with_reducible refine gate_callee (f := 38) rfl ?_); refine goesL_ (some 59) rfl rfl Tryz.func38 (by kernel_rfl) rfl #[.agg #[.bool t244, .slice Ao59 t254.length co59, .slice Ao62 t258.length co62]] rfl (by (try simp only [List.map_toArray, List.map_cons, List.map_nil]); first | done | rfl | (simp only [List.length_drop, List.length_take]; rfl)) ?_; (with_reducible refine (rat_May.calls t244 _ _ t254 _ _ t258 t262 _ ?side1 ?side2 ?side3 ?side4 A23.out).mono ?_); (case side1 => refine (Kd.R_reads' (e := 56) (base := w.heap.size) (ok := fun k_ => ((True ∧ some k_ ≠ (.slice Ao54 t250.length co54 : Value).ownBlock) ∧ some k_ ≠ (.slice Ao62 t258.length co62 : Value).ownBlock)) (n := t254.length) (c := co59) ?_).2.2; exact (by exact (Kd.R_mono (Kd.R_far (p := ⟨gb253, 2, none⟩) (Kd.R_types HO257.out BK253.out (by decide)) (fun _ hk => hk.2) (.slice Ao62 t258.length co62)) (fun _ h_ => h_.1)))); (case side2 => exact (Kd.R_reads' HO257.out).2.1); (case side3 => refine (Kd.R_reads' (e := 56) (base := w.heap.size) (ok := fun k_ => ((True ∧ some k_ ≠ (.slice Ao54 t250.length co54 : Value).ownBlock) ∧ some k_ ≠ (.slice Ao59 t254.length co59 : Value).ownBlock)) (n := t258.length) (c := co62) ?_).2.2; exact (by exact (Kd.R_mono (Kd.R_far (p := ⟨gb253, 2, none⟩) (Kd.R_types HO261.out BK253.out (by decide)) (fun _ hk => hk.2) (.slice Ao62 t258.length co62)) (fun _ h_ => h_.1)))); (case side4 => exact (Kd.R_reads' HO261.out).2.1); rintro e w64 ⟨rfl, hb⟩; refine ⟨_, rfl, ?_⟩; have n0_ := Aside0.mk (Kd.R_below (by exact (Kd.R_mono (Kd.R_far (p := ⟨gb253, 2, none⟩) (Kd.R_types HO252.out BK253.out (by decide)) (fun _ hk => hk.2) (.slice Ao62 t258.length co62)) (fun _ h_ => h_.1))) hb); have n1_ := Aside0.mk (Kd.R_below (by exact (Kd.R_mono (Kd.R_far (p := ⟨gb253, 2, none⟩) (Kd.R_types HO257.out BK253.out (by decide)) (fun _ hk => hk.2) (.slice Ao62 t258.length co62)) (fun _ h_ => h_.1))) hb); have n2_ := Aside0.mk (Kd.R_below (by exact (Kd.R_mono (Kd.R_far (p := ⟨gb253, 2, none⟩) (Kd.R_types HO261.out BK253.out (by decide)) (fun _ hk => hk.2) (.slice Ao62 t258.length co62)) (fun _ h_ => h_.1))) hb); have n3_ := Aside0.mk (blk_below (g := gb242) (o := .cells #[.bool false, .slice none 0 0, .slice none 0 0] 25 (0, 0)) (by refine blk_far ?_ NB242_253.out _; exact BK242.out) hb); have n4_ := Aside0.mk (blk_below (g := gb253) (o := .cells #[.bool t244, .slice Ao59 t254.length co59, .slice Ao62 t258.length co62] 25 (0, 0)) (by refine blk_put (cs := #[.bool t244, .slice Ao59 t254.length co59, .slice Ao54 t250.length co54]) ?_ 2 _ rfl; exact BK253.out) hb); have n5_ := Aside0.mk (below_step (by repeat (first | (with_reducible first | exact HB.out | apply below_alloc | apply pw_below_drewN | apply below_drew1 | refine below_set ?_ GE242.out | refine below_set ?_ GE253.out) | exact HB.out)) hb); clear HO252; clear HO257; clear HO261; clear BK242; clear BK253; clear HB; have HO252 := n0_; have HO257 := n1_; have HO261 := n2_; have BK242 := n3_; have BK253 := n4_; have HB := n5_; clear n0_ n1_ n2_ n3_ n4_ n5_; (try clear hb); (try clear hb2); (try clear hk); (try clear hi); have hcz65_0 : w64.cell? ⟨gb242, 0, none⟩ = some (.bool false) := (blk_cell BK242.out 0).trans rfl; have hcz65_1 : w64.cell? ⟨gb242, 1, none⟩ = some (.slice none 0 0) := (blk_cell BK242.out 1).trans rfl; have hcz65_2 : w64.cell? ⟨gb242, 2, none⟩ = some (.slice none 0 0) := (blk_cell BK242.out 2).trans rfl; have hfz65_0 := blk_frozen BK242.out 0; have hfz65_1 := blk_frozen BK242.out 1; have hfz65_2 := blk_frozen BK242.out 2))
                refine bodyPost_ret (results_ct rfl _ _ gb242 25 #[.bool false, .slice none 0 0, .slice none 0 0] (0, 0) _ rfl (by refine blk_put (cs := #[.bool false, .slice none 0 0, .slice none 0 0]) ?_ 2 _ rfl; refine blk_put (cs := #[.bool false, .slice none 0 0, .slice none 0 0]) ?_ 1 _ rfl; refine blk_put (cs := #[.bool false, .slice none 0 0, .slice none 0 0]) ?_ 0 _ rfl; exact BK242.out) Tryz.underlying25 rfl (by kernel_rfl)) rfl ?_
                exact ⟨_, _, by first | rfl | (simp [errW_none, errW_some] <;> rfl) | (simp [*, errW_none, errW_some] <;> rfl), by first | exact Kd.R_nil _ _ _ _ _ | exact Kd.N_nil _ _ _ _ _ | exact Kd.V_nil _ _ _ _ _ | exact Kd.Q_nil _ _ _ _ _ | exact Kd.S_nil _ _ _ _ _, by first | exact Kd.R_nil _ _ _ _ _ | exact Kd.N_nil _ _ _ _ _ | exact Kd.V_nil _ _ _ _ _ | exact Kd.Q_nil _ _ _ _ _ | exact Kd.S_nil _ _ _ _ _, by repeat (first | (with_reducible first | exact HB.out | apply below_alloc | apply pw_below_drewN | apply below_drew1 | refine below_set ?_ GE242.out | refine below_set ?_ GE253.out) | exact HB.out)⟩
            · rw [if_neg c22] at H
              have c22b0 : (t259 == 0) = false := beq_eq_false_iff_ne.mpr c22
              have c22b1 : (t259 != 0) = true := bne_iff_ne.mpr c22
              simp only [Option.some.injEq, Prod.mk.injEq] at H
              obtain ⟨rfl, rfl, rfl, rfl⟩ := H
              go_wp2_with (first | ((with_reducible refine gate_callee (f := 31) rfl ?_); refine goesL_ (some 35) rfl rfl Tryz.func31 (by kernel_rfl) rfl #[.int .u64 1] rfl (by (try simp only [List.map_toArray, List.map_cons, List.map_nil]); first | done | rfl | (simp only [List.length_drop, List.length_take]; rfl)) ?_; (with_reducible refine (nat_Of.calls 1 t250 _ A17.out).mono ?_); rintro e w66 ⟨v251, rfl, ho0, hb⟩; refine ⟨_, rfl, ?_⟩; have n0_ := Aside0.mk (Kd.R_lower ho0 (below_size (by repeat (first | (with_reducible first | exact HB.out | apply below_alloc | apply pw_below_drewN | apply below_drew1 | refine below_set ?_ GE242.out) | exact HB.out)))); have n1_ := Aside0.mk (blk_below (g := gb242) (o := .cells #[.bool false, .slice none 0 0, .slice none 0 0] 25 (0, 0)) (by exact BK242.out) hb); have n2_ := Aside0.mk (below_step (by repeat (first | (with_reducible first | exact HB.out | apply below_alloc | apply pw_below_drewN | apply below_drew1 | refine below_set ?_ GE242.out) | exact HB.out)) hb); clear BK242; clear HB; have HO252 := n0_; have BK242 := n1_; have HB := n2_; clear n0_ n1_ n2_; (try clear hb); (try clear hb2); (try clear hk); (try clear hi); (try clear ho0); obtain ⟨Ao67, co67, eo67⟩ := Kd.R_slice HO252.out; subst eo67) | ((with_reducible refine gate_dst (N := 9) rfl ?_); refine box_event ?hg (N := 9) ?hd (cs := #[.bool false, .slice none 0 0, .slice none 0 0]) (t := 25) ?hr ?_; (case hd => rfl); (case hg => rfl); (case hr => first | (go_simp; done) | (go_simp; rfl)); intro gb253 hg w68 hbox hb; have n0_ := Aside0.mk (Kd.R_below (by exact HO252.out) hb); have n1_ := Aside0.mk (blk_below (g := gb242) (o := .cells #[.bool false, .slice none 0 0, .slice none 0 0] 25 (0, 0)) (by exact BK242.out) hb); have n2_ := Aside0.mk (below_step (by repeat (first | (with_reducible first | exact HB.out | apply below_alloc | apply pw_below_drewN | apply below_drew1 | refine below_set ?_ GE242.out) | exact HB.out)) hb); have n3_ := Aside0.mk (hbox); have n4_ := Aside0.mk ((by rw [hg]; exact (below_size (by repeat (first | (with_reducible first | exact HB.out | apply below_alloc | apply pw_below_drewN | apply below_drew1 | refine below_set ?_ GE242.out) | exact HB.out))) : w.heap.size ≤ gb253)); have n5_ := Aside0.mk ((by rw [hg]; exact (below_size (by repeat (first | (with_reducible first | exact HB.out | apply below_alloc | apply pw_below_drewN | apply below_drew1 | refine below_set ?_ GE242.out) | exact HB.out))) : w.heap.size ≤ gb253)); have n6_ := Aside0.mk ((by rw [hg]; exact Nat.ne_of_lt (blk_lt (g := gb242) (o := .cells #[.bool false, .slice none 0 0, .slice none 0 0] 25 (0, 0)) (by exact BK242.out)) : gb242 ≠ gb253)); have n7_ := Aside0.mk ((by rw [hg]; exact Nat.ne_of_gt (blk_lt (g := gb242) (o := .cells #[.bool false, .slice none 0 0, .slice none 0 0] 25 (0, 0)) (by exact BK242.out)) : gb253 ≠ gb242)); clear HO252; clear BK242; clear HB; have HO252 := n0_; have BK242 := n1_; have HB := n2_; have BK253 := n3_; have GW253 := n4_; have GE253 := n5_; have NB242_253 := n6_; have NB253_242 := n7_; clear n0_ n1_ n2_ n3_ n4_ n5_ n6_ n7_; clear hb hbox hg; have hnb69 := NB253_242.out; have hnc69 := NB242_253.out; have hcz70_0 : w68.cell? ⟨gb253, 0, none⟩ = some (.bool false) := (blk_cell BK253.out 0).trans rfl; have hcz70_1 : w68.cell? ⟨gb253, 1, none⟩ = some (.slice none 0 0) := (blk_cell BK253.out 1).trans rfl; have hcz70_2 : w68.cell? ⟨gb253, 2, none⟩ = some (.slice none 0 0) := (blk_cell BK253.out 2).trans rfl; have hfz70_0 := blk_frozen BK253.out 0; have hfz70_1 := blk_frozen BK253.out 1; have hfz70_2 := blk_frozen BK253.out 2) | ((with_reducible refine gate_callee (f := 37) rfl ?_); refine goesL_ (some 39) rfl rfl Tryz.func37 (by kernel_rfl) rfl #[.string t245] rfl (by (try simp only [List.map_toArray, List.map_cons, List.map_nil]); first | done | rfl | (simp only [List.length_drop, List.length_take]; rfl)) ?_; (with_reducible refine (digits_read.calls t245 t254 t255 _ A18.out).mono ?_); rintro e w71 ⟨v256, rfl, ho0, hb⟩; refine ⟨_, rfl, ?_⟩; have n0_ := Aside0.mk (Kd.R_elder' (by exact (Kd.R_mono (Kd.R_far (p := ⟨gb253, 2, none⟩) (Kd.R_far (p := ⟨gb253, 1, none⟩) (Kd.R_far (p := ⟨gb253, 0, none⟩) (Kd.R_types HO252.out BK253.out (by decide)) (fun _ hk => hk.2) (.bool t244)) (fun _ hk => hk.2) (.slice none 0 0)) (fun _ hk => hk.2) (.slice Ao67 t250.length co67)) (fun _ h_ => h_.1))) (Kd.R_base ho0) hb); have n1_ := Aside0.mk (Kd.R_lower (Kd.R_new' ho0 (Kd.R_lt (by exact (Kd.R_mono (Kd.R_far (p := ⟨gb253, 2, none⟩) (Kd.R_far (p := ⟨gb253, 1, none⟩) (Kd.R_far (p := ⟨gb253, 0, none⟩) (Kd.R_types HO252.out BK253.out (by decide)) (fun _ hk => hk.2) (.bool t244)) (fun _ hk => hk.2) (.slice none 0 0)) (fun _ hk => hk.2) (.slice Ao67 t250.length co67)) (fun _ h_ => h_.1))))) (below_size (by repeat (first | (with_reducible first | exact HB.out | apply below_alloc | apply pw_below_drewN | apply below_drew1 | refine below_set ?_ GE242.out | refine below_set ?_ GE253.out) | exact HB.out)))); have n2_ := Aside0.mk (blk_below (g := gb242) (o := .cells #[.bool false, .slice none 0 0, .slice none 0 0] 25 (0, 0)) (by refine blk_far ?_ NB242_253.out _; refine blk_far ?_ NB242_253.out _; refine blk_far ?_ NB242_253.out _; exact BK242.out) hb); have n3_ := Aside0.mk (blk_below (g := gb253) (o := .cells #[.bool t244, .slice none 0 0, .slice Ao67 t250.length co67] 25 (0, 0)) (by refine blk_put (cs := #[.bool t244, .slice none 0 0, .slice none 0 0]) ?_ 2 _ rfl; refine blk_put (cs := #[.bool t244, .slice none 0 0, .slice none 0 0]) ?_ 1 _ rfl; refine blk_put (cs := #[.bool false, .slice none 0 0, .slice none 0 0]) ?_ 0 _ rfl; exact BK253.out) hb); have n4_ := Aside0.mk (below_step (by repeat (first | (with_reducible first | exact HB.out | apply below_alloc | apply pw_below_drewN | apply below_drew1 | refine below_set ?_ GE242.out | refine below_set ?_ GE253.out) | exact HB.out)) hb); clear HO252; clear BK242; clear BK253; clear HB; have HO252 := n0_; have HO257 := n1_; have BK242 := n2_; have BK253 := n3_; have HB := n4_; clear n0_ n1_ n2_ n3_ n4_; (try clear hb); (try clear hb2); (try clear hk); (try clear hi); (try clear ho0); obtain ⟨Ao72, co72, eo72⟩ := Kd.R_slice HO257.out; subst eo72; have hcz73_0 : w71.cell? ⟨gb253, 0, none⟩ = some (.bool t244) := (blk_cell BK253.out 0).trans rfl; have hcz73_1 : w71.cell? ⟨gb253, 1, none⟩ = some (.slice none 0 0) := (blk_cell BK253.out 1).trans rfl; have hcz73_2 : w71.cell? ⟨gb253, 2, none⟩ = some (.slice Ao67 t250.length co67) := (blk_cell BK253.out 2).trans rfl; have hfz73_0 := blk_frozen BK253.out 0; have hfz73_1 := blk_frozen BK253.out 1; have hfz73_2 := blk_frozen BK253.out 2) | ((with_reducible refine gate_callee (f := 37) rfl ?_); refine goesL_ (some 50) rfl rfl Tryz.func37 (by kernel_rfl) rfl #[.string t246] rfl (by (try simp only [List.map_toArray, List.map_cons, List.map_nil]); first | done | rfl | (simp only [List.length_drop, List.length_take]; rfl)) ?_; (with_reducible refine (digits_read.calls t246 t258 t259 _ A21.out).mono ?_); rintro e w74 ⟨v260, rfl, ho0, hb⟩; refine ⟨_, rfl, ?_⟩; have n0_ := Aside0.mk (Kd.R_elder' (by exact (Kd.R_mono (Kd.R_far (p := ⟨gb253, 1, none⟩) (Kd.R_types HO252.out BK253.out (by decide)) (fun _ hk => hk.2) (.slice Ao72 t254.length co72)) (fun _ h_ => h_.1))) (Kd.R_base ho0) hb); have n1_ := Aside0.mk (Kd.R_elder' (by exact (Kd.R_mono (Kd.R_far (p := ⟨gb253, 1, none⟩) (Kd.R_types HO257.out BK253.out (by decide)) (fun _ hk => hk.2) (.slice Ao72 t254.length co72)) (fun _ h_ => h_.1))) (Kd.R_base ho0) hb); have n2_ := Aside0.mk (Kd.R_lower (Kd.R_new' (Kd.R_new' ho0 (Kd.R_lt (by exact (Kd.R_mono (Kd.R_far (p := ⟨gb253, 1, none⟩) (Kd.R_types HO252.out BK253.out (by decide)) (fun _ hk => hk.2) (.slice Ao72 t254.length co72)) (fun _ h_ => h_.1))))) (Kd.R_lt (by exact (Kd.R_mono (Kd.R_far (p := ⟨gb253, 1, none⟩) (Kd.R_types HO257.out BK253.out (by decide)) (fun _ hk => hk.2) (.slice Ao72 t254.length co72)) (fun _ h_ => h_.1))))) (below_size (by repeat (first | (with_reducible first | exact HB.out | apply below_alloc | apply pw_below_drewN | apply below_drew1 | refine below_set ?_ GE242.out | refine below_set ?_ GE253.out) | exact HB.out)))); have n3_ := Aside0.mk (blk_below (g := gb242) (o := .cells #[.bool false, .slice none 0 0, .slice none 0 0] 25 (0, 0)) (by refine blk_far ?_ NB242_253.out _; exact BK242.out) hb); have n4_ := Aside0.mk (blk_below (g := gb253) (o := .cells #[.bool t244, .slice Ao72 t254.length co72, .slice Ao67 t250.length co67] 25 (0, 0)) (by refine blk_put (cs := #[.bool t244, .slice none 0 0, .slice Ao67 t250.length co67]) ?_ 1 _ rfl; exact BK253.out) hb); have n5_ := Aside0.mk (below_step (by repeat (first | (with_reducible first | exact HB.out | apply below_alloc | apply pw_below_drewN | apply below_drew1 | refine below_set ?_ GE242.out | refine below_set ?_ GE253.out) | exact HB.out)) hb); clear HO252; clear HO257; clear BK242; clear BK253; clear HB; have HO252 := n0_; have HO257 := n1_; have HO261 := n2_; have BK242 := n3_; have BK253 := n4_; have HB := n5_; clear n0_ n1_ n2_ n3_ n4_ n5_; (try clear hb); (try clear hb2); (try clear hk); (try clear hi); (try clear ho0); obtain ⟨Ao75, co75, eo75⟩ := Kd.R_slice HO261.out; subst eo75; have hcz76_0 : w74.cell? ⟨gb253, 0, none⟩ = some (.bool t244) := (blk_cell BK253.out 0).trans rfl; have hcz76_1 : w74.cell? ⟨gb253, 1, none⟩ = some (.slice Ao72 t254.length co72) := (blk_cell BK253.out 1).trans rfl; have hcz76_2 : w74.cell? ⟨gb253, 2, none⟩ = some (.slice Ao67 t250.length co67) := (blk_cell BK253.out 2).trans rfl; have hfz76_0 := blk_frozen BK253.out 0; have hfz76_1 := blk_frozen BK253.out 1; have hfz76_2 := blk_frozen BK253.out 2; have hcz77_0 : w74.cell? ⟨gb242, 0, none⟩ = some (.bool false) := (blk_cell BK242.out 0).trans rfl; have hcz77_1 : w74.cell? ⟨gb242, 1, none⟩ = some (.slice none 0 0) := (blk_cell BK242.out 1).trans rfl; have hcz77_2 : w74.cell? ⟨gb242, 2, none⟩ = some (.slice none 0 0) := (blk_cell BK242.out 2).trans rfl; have hfz77_0 := blk_frozen BK242.out 0; have hfz77_1 := blk_frozen BK242.out 1; have hfz77_2 := blk_frozen BK242.out 2))
              refine bodyPost_ret (results_ct rfl _ _ gb242 25 #[.bool false, .slice none 0 0, .slice none 0 0] (0, 0) _ rfl (by refine blk_put (cs := #[.bool false, .slice none 0 0, .slice none 0 0]) ?_ 2 _ rfl; refine blk_put (cs := #[.bool false, .slice none 0 0, .slice none 0 0]) ?_ 1 _ rfl; refine blk_put (cs := #[.bool false, .slice none 0 0, .slice none 0 0]) ?_ 0 _ rfl; refine blk_far ?_ NB242_253.out _; exact BK242.out) Tryz.underlying25 rfl (by kernel_rfl)) rfl ?_
              exact ⟨_, _, by first | rfl | (simp [errW_none, errW_some] <;> rfl) | (simp [*, errW_none, errW_some] <;> rfl), by first | exact Kd.R_nil _ _ _ _ _ | exact Kd.N_nil _ _ _ _ _ | exact Kd.V_nil _ _ _ _ _ | exact Kd.Q_nil _ _ _ _ _ | exact Kd.S_nil _ _ _ _ _, by first | exact Kd.R_nil _ _ _ _ _ | exact Kd.N_nil _ _ _ _ _ | exact Kd.V_nil _ _ _ _ _ | exact Kd.Q_nil _ _ _ _ _ | exact Kd.S_nil _ _ _ _ _, by repeat (first | (with_reducible first | exact HB.out | apply below_alloc | apply pw_below_drewN | apply below_drew1 | refine below_set ?_ GE242.out | refine below_set ?_ GE253.out) | exact HB.out)⟩
          · replace c20 := Bool.eq_false_iff.mpr c20
            subst c20
            have H1 : ((rat_May.f t244 t254 t250).bind fun t263 => (if t263 = 0 then (some (t244, t254, t250, 0)) else (some (false, ([] : List Int), ([] : List Int), 6)))) = some (r1, r2, r3, r4) := by rw [if_neg (show ¬ (false = true) by decide)] at H; exact H
            clear H
            have H := H1
            clear H1
            replace H := Option.bind_eq_some_iff.mp H
            obtain ⟨t263, A780, H⟩ := H
            try dsimp only at H
            have A78 := Aside0.mk A780
            clear A780
            by_cases c79 : t263 = 0
            · rw [if_pos c79] at H
              have c79b0 : (t263 == 0) = true := beq_iff_eq.mpr c79
              have c79b1 : (t263 != 0) = false := bne_eq_false_iff_eq.mpr c79
              clear c79
              simp only [Option.some.injEq, Prod.mk.injEq] at H
              obtain ⟨rfl, rfl, rfl, rfl⟩ := H
              go_wp2_with (first | ((with_reducible refine gate_callee (f := 31) rfl ?_); refine goesL_ (some 35) rfl rfl Tryz.func31 (by kernel_rfl) rfl #[.int .u64 1] rfl (by (try simp only [List.map_toArray, List.map_cons, List.map_nil]); first | done | rfl | (simp only [List.length_drop, List.length_take]; rfl)) ?_; (with_reducible refine (nat_Of.calls 1 t250 _ A17.out).mono ?_); rintro e w80 ⟨v251, rfl, ho0, hb⟩; refine ⟨_, rfl, ?_⟩; have n0_ := Aside0.mk (Kd.R_lower ho0 (below_size (by repeat (first | (with_reducible first | exact HB.out | apply below_alloc | apply pw_below_drewN | apply below_drew1 | refine below_set ?_ GE242.out) | exact HB.out)))); have n1_ := Aside0.mk (blk_below (g := gb242) (o := .cells #[.bool false, .slice none 0 0, .slice none 0 0] 25 (0, 0)) (by exact BK242.out) hb); have n2_ := Aside0.mk (below_step (by repeat (first | (with_reducible first | exact HB.out | apply below_alloc | apply pw_below_drewN | apply below_drew1 | refine below_set ?_ GE242.out) | exact HB.out)) hb); clear BK242; clear HB; have HO252 := n0_; have BK242 := n1_; have HB := n2_; clear n0_ n1_ n2_; (try clear hb); (try clear hb2); (try clear hk); (try clear hi); (try clear ho0); obtain ⟨Ao81, co81, eo81⟩ := Kd.R_slice HO252.out; subst eo81) | ((with_reducible refine gate_dst (N := 9) rfl ?_); refine box_event ?hg (N := 9) ?hd (cs := #[.bool false, .slice none 0 0, .slice none 0 0]) (t := 25) ?hr ?_; (case hd => rfl); (case hg => rfl); (case hr => first | (go_simp; done) | (go_simp; rfl)); intro gb253 hg w82 hbox hb; have n0_ := Aside0.mk (Kd.R_below (by exact HO252.out) hb); have n1_ := Aside0.mk (blk_below (g := gb242) (o := .cells #[.bool false, .slice none 0 0, .slice none 0 0] 25 (0, 0)) (by exact BK242.out) hb); have n2_ := Aside0.mk (below_step (by repeat (first | (with_reducible first | exact HB.out | apply below_alloc | apply pw_below_drewN | apply below_drew1 | refine below_set ?_ GE242.out) | exact HB.out)) hb); have n3_ := Aside0.mk (hbox); have n4_ := Aside0.mk ((by rw [hg]; exact (below_size (by repeat (first | (with_reducible first | exact HB.out | apply below_alloc | apply pw_below_drewN | apply below_drew1 | refine below_set ?_ GE242.out) | exact HB.out))) : w.heap.size ≤ gb253)); have n5_ := Aside0.mk ((by rw [hg]; exact (below_size (by repeat (first | (with_reducible first | exact HB.out | apply below_alloc | apply pw_below_drewN | apply below_drew1 | refine below_set ?_ GE242.out) | exact HB.out))) : w.heap.size ≤ gb253)); have n6_ := Aside0.mk ((by rw [hg]; exact Nat.ne_of_lt (blk_lt (g := gb242) (o := .cells #[.bool false, .slice none 0 0, .slice none 0 0] 25 (0, 0)) (by exact BK242.out)) : gb242 ≠ gb253)); have n7_ := Aside0.mk ((by rw [hg]; exact Nat.ne_of_gt (blk_lt (g := gb242) (o := .cells #[.bool false, .slice none 0 0, .slice none 0 0] 25 (0, 0)) (by exact BK242.out)) : gb253 ≠ gb242)); clear HO252; clear BK242; clear HB; have HO252 := n0_; have BK242 := n1_; have HB := n2_; have BK253 := n3_; have GW253 := n4_; have GE253 := n5_; have NB242_253 := n6_; have NB253_242 := n7_; clear n0_ n1_ n2_ n3_ n4_ n5_ n6_ n7_; clear hb hbox hg; have hnb83 := NB253_242.out; have hnc83 := NB242_253.out; have hcz84_0 : w82.cell? ⟨gb253, 0, none⟩ = some (.bool false) := (blk_cell BK253.out 0).trans rfl; have hcz84_1 : w82.cell? ⟨gb253, 1, none⟩ = some (.slice none 0 0) := (blk_cell BK253.out 1).trans rfl; have hcz84_2 : w82.cell? ⟨gb253, 2, none⟩ = some (.slice none 0 0) := (blk_cell BK253.out 2).trans rfl; have hfz84_0 := blk_frozen BK253.out 0; have hfz84_1 := blk_frozen BK253.out 1; have hfz84_2 := blk_frozen BK253.out 2) | ((with_reducible refine gate_callee (f := 37) rfl ?_); refine goesL_ (some 39) rfl rfl Tryz.func37 (by kernel_rfl) rfl #[.string t245] rfl (by (try simp only [List.map_toArray, List.map_cons, List.map_nil]); first | done | rfl | (simp only [List.length_drop, List.length_take]; rfl)) ?_; (with_reducible refine (digits_read.calls t245 t254 t255 _ A18.out).mono ?_); rintro e w85 ⟨v256, rfl, ho0, hb⟩; refine ⟨_, rfl, ?_⟩; have n0_ := Aside0.mk (Kd.R_elder' (by exact (Kd.R_mono (Kd.R_far (p := ⟨gb253, 2, none⟩) (Kd.R_far (p := ⟨gb253, 1, none⟩) (Kd.R_far (p := ⟨gb253, 0, none⟩) (Kd.R_types HO252.out BK253.out (by decide)) (fun _ hk => hk.2) (.bool t244)) (fun _ hk => hk.2) (.slice none 0 0)) (fun _ hk => hk.2) (.slice Ao81 t250.length co81)) (fun _ h_ => h_.1))) (Kd.R_base ho0) hb); have n1_ := Aside0.mk (Kd.R_lower (Kd.R_new' ho0 (Kd.R_lt (by exact (Kd.R_mono (Kd.R_far (p := ⟨gb253, 2, none⟩) (Kd.R_far (p := ⟨gb253, 1, none⟩) (Kd.R_far (p := ⟨gb253, 0, none⟩) (Kd.R_types HO252.out BK253.out (by decide)) (fun _ hk => hk.2) (.bool t244)) (fun _ hk => hk.2) (.slice none 0 0)) (fun _ hk => hk.2) (.slice Ao81 t250.length co81)) (fun _ h_ => h_.1))))) (below_size (by repeat (first | (with_reducible first | exact HB.out | apply below_alloc | apply pw_below_drewN | apply below_drew1 | refine below_set ?_ GE242.out | refine below_set ?_ GE253.out) | exact HB.out)))); have n2_ := Aside0.mk (blk_below (g := gb242) (o := .cells #[.bool false, .slice none 0 0, .slice none 0 0] 25 (0, 0)) (by refine blk_far ?_ NB242_253.out _; refine blk_far ?_ NB242_253.out _; refine blk_far ?_ NB242_253.out _; exact BK242.out) hb); have n3_ := Aside0.mk (blk_below (g := gb253) (o := .cells #[.bool t244, .slice none 0 0, .slice Ao81 t250.length co81] 25 (0, 0)) (by refine blk_put (cs := #[.bool t244, .slice none 0 0, .slice none 0 0]) ?_ 2 _ rfl; refine blk_put (cs := #[.bool t244, .slice none 0 0, .slice none 0 0]) ?_ 1 _ rfl; refine blk_put (cs := #[.bool false, .slice none 0 0, .slice none 0 0]) ?_ 0 _ rfl; exact BK253.out) hb); have n4_ := Aside0.mk (below_step (by repeat (first | (with_reducible first | exact HB.out | apply below_alloc | apply pw_below_drewN | apply below_drew1 | refine below_set ?_ GE242.out | refine below_set ?_ GE253.out) | exact HB.out)) hb); clear HO252; clear BK242; clear BK253; clear HB; have HO252 := n0_; have HO257 := n1_; have BK242 := n2_; have BK253 := n3_; have HB := n4_; clear n0_ n1_ n2_ n3_ n4_; (try clear hb); (try clear hb2); (try clear hk); (try clear hi); (try clear ho0); obtain ⟨Ao86, co86, eo86⟩ := Kd.R_slice HO257.out; subst eo86; have hcz87_0 : w85.cell? ⟨gb253, 0, none⟩ = some (.bool t244) := (blk_cell BK253.out 0).trans rfl; have hcz87_1 : w85.cell? ⟨gb253, 1, none⟩ = some (.slice none 0 0) := (blk_cell BK253.out 1).trans rfl; have hcz87_2 : w85.cell? ⟨gb253, 2, none⟩ = some (.slice Ao81 t250.length co81) := (blk_cell BK253.out 2).trans rfl; have hfz87_0 := blk_frozen BK253.out 0; have hfz87_1 := blk_frozen BK253.out 1; have hfz87_2 := blk_frozen BK253.out 2) | ((with_reducible refine gate_callee (f := 38) rfl ?_); refine goesL_ (some 59) rfl rfl Tryz.func38 (by kernel_rfl) rfl #[.agg #[.bool t244, .slice Ao86 t254.length co86, .slice Ao81 t250.length co81]] rfl (by (try simp only [List.map_toArray, List.map_cons, List.map_nil]); first | done | rfl | (simp only [List.length_drop, List.length_take]; rfl)) ?_; (with_reducible refine (rat_May.calls t244 _ _ t254 _ _ t250 t263 _ ?side1 ?side2 ?side3 ?side4 A78.out).mono ?_); (case side1 => refine (Kd.R_reads' (e := 56) (base := w.heap.size) (ok := fun k_ => (True ∧ some k_ ≠ (.slice Ao81 t250.length co81 : Value).ownBlock)) (n := t254.length) (c := co86) ?_).2.2; exact (by exact (Kd.R_mono (Kd.R_far (p := ⟨gb253, 1, none⟩) (Kd.R_types HO257.out BK253.out (by decide)) (fun _ hk => hk.2) (.slice Ao86 t254.length co86)) (fun _ h_ => h_.1)))); (case side2 => exact (Kd.R_reads' HO257.out).2.1); (case side3 => refine (Kd.R_reads' (e := 56) (base := w.heap.size) (ok := fun k_ => (True ∧ some k_ ≠ (.slice Ao86 t254.length co86 : Value).ownBlock)) (n := t250.length) (c := co81) ?_).2.2; exact (by exact (Kd.R_mono (Kd.R_far (p := ⟨gb253, 1, none⟩) (Kd.R_types HO252.out BK253.out (by decide)) (fun _ hk => hk.2) (.slice Ao86 t254.length co86)) (fun _ h_ => h_.1)))); (case side4 => exact (Kd.R_reads' HO252.out).2.1); rintro e w88 ⟨rfl, hb⟩; refine ⟨_, rfl, ?_⟩; have n0_ := Aside0.mk (Kd.R_below (by exact (Kd.R_mono (Kd.R_far (p := ⟨gb253, 1, none⟩) (Kd.R_types HO252.out BK253.out (by decide)) (fun _ hk => hk.2) (.slice Ao86 t254.length co86)) (fun _ h_ => h_.1))) hb); have n1_ := Aside0.mk (Kd.R_below (by exact (Kd.R_mono (Kd.R_far (p := ⟨gb253, 1, none⟩) (Kd.R_types HO257.out BK253.out (by decide)) (fun _ hk => hk.2) (.slice Ao86 t254.length co86)) (fun _ h_ => h_.1))) hb); have n2_ := Aside0.mk (blk_below (g := gb242) (o := .cells #[.bool false, .slice none 0 0, .slice none 0 0] 25 (0, 0)) (by refine blk_far ?_ NB242_253.out _; exact BK242.out) hb); have n3_ := Aside0.mk (blk_below (g := gb253) (o := .cells #[.bool t244, .slice Ao86 t254.length co86, .slice Ao81 t250.length co81] 25 (0, 0)) (by refine blk_put (cs := #[.bool t244, .slice none 0 0, .slice Ao81 t250.length co81]) ?_ 1 _ rfl; exact BK253.out) hb); have n4_ := Aside0.mk (below_step (by repeat (first | (with_reducible first | exact HB.out | apply below_alloc | apply pw_below_drewN | apply below_drew1 | refine below_set ?_ GE242.out | refine below_set ?_ GE253.out) | exact HB.out)) hb); clear HO252; clear HO257; clear BK242; clear BK253; clear HB; have HO252 := n0_; have HO257 := n1_; have BK242 := n2_; have BK253 := n3_; have HB := n4_; clear n0_ n1_ n2_ n3_ n4_; (try clear hb); (try clear hb2); (try clear hk); (try clear hi); have hcz89_0 : w88.cell? ⟨gb253, 0, none⟩ = some (.bool t244) := (blk_cell BK253.out 0).trans rfl; have hcz89_1 : w88.cell? ⟨gb253, 1, none⟩ = some (.slice Ao86 t254.length co86) := (blk_cell BK253.out 1).trans rfl; have hcz89_2 : w88.cell? ⟨gb253, 2, none⟩ = some (.slice Ao81 t250.length co81) := (blk_cell BK253.out 2).trans rfl; have hfz89_0 := blk_frozen BK253.out 0; have hfz89_1 := blk_frozen BK253.out 1; have hfz89_2 := blk_frozen BK253.out 2; have hcz90_0 : w88.cell? ⟨gb242, 0, none⟩ = some (.bool false) := (blk_cell BK242.out 0).trans rfl; have hcz90_1 : w88.cell? ⟨gb242, 1, none⟩ = some (.slice none 0 0) := (blk_cell BK242.out 1).trans rfl; have hcz90_2 : w88.cell? ⟨gb242, 2, none⟩ = some (.slice none 0 0) := (blk_cell BK242.out 2).trans rfl; have hfz90_0 := blk_frozen BK242.out 0; have hfz90_1 := blk_frozen BK242.out 1; have hfz90_2 := blk_frozen BK242.out 2))
              refine bodyPost_ret (results_ct rfl _ _ gb242 25 #[.bool t244, .slice Ao86 t254.length co86, .slice Ao81 t250.length co81] (0, 0) _ rfl (by refine blk_put (cs := #[.bool t244, .slice Ao86 t254.length co86, .slice none 0 0]) ?_ 2 _ rfl; refine blk_put (cs := #[.bool t244, .slice none 0 0, .slice none 0 0]) ?_ 1 _ rfl; refine blk_put (cs := #[.bool false, .slice none 0 0, .slice none 0 0]) ?_ 0 _ rfl; exact BK242.out) Tryz.underlying25 rfl (by kernel_rfl)) rfl ?_
              exact ⟨_, _, by first | rfl | (simp [errW_none, errW_some] <;> rfl) | (simp [*, errW_none, errW_some] <;> rfl), by exact Kd.R_mono (Kd.R_far (p := ⟨gb242, 2, none⟩) (Kd.R_far (p := ⟨gb242, 1, none⟩) (Kd.R_far (p := ⟨gb242, 0, none⟩) (Kd.R_types HO257.out BK242.out (by decide)) (fun _ hk => hk.2) (.bool t244)) (fun _ hk => hk.2) (.slice Ao86 t254.length co86)) (fun _ hk => hk.2) (.slice Ao81 t250.length co81)) (fun _ hk => hk.1.2), by exact Kd.R_mono (Kd.R_far (p := ⟨gb242, 2, none⟩) (Kd.R_far (p := ⟨gb242, 1, none⟩) (Kd.R_far (p := ⟨gb242, 0, none⟩) (Kd.R_types HO252.out BK242.out (by decide)) (fun _ hk => hk.2) (.bool t244)) (fun _ hk => hk.2) (.slice Ao86 t254.length co86)) (fun _ hk => hk.2) (.slice Ao81 t250.length co81)) (fun _ hk => hk.1.2), by repeat (first | (with_reducible first | exact HB.out | apply below_alloc | apply pw_below_drewN | apply below_drew1 | refine below_set ?_ GE242.out | refine below_set ?_ GE253.out) | exact HB.out)⟩
            · rw [if_neg c79] at H
              have c79b0 : (t263 == 0) = false := beq_eq_false_iff_ne.mpr c79
              have c79b1 : (t263 != 0) = true := bne_iff_ne.mpr c79
              simp only [Option.some.injEq, Prod.mk.injEq] at H
              obtain ⟨rfl, rfl, rfl, rfl⟩ := H
              go_wp2_with (first | ((with_reducible refine gate_callee (f := 31) rfl ?_); refine goesL_ (some 35) rfl rfl Tryz.func31 (by kernel_rfl) rfl #[.int .u64 1] rfl (by (try simp only [List.map_toArray, List.map_cons, List.map_nil]); first | done | rfl | (simp only [List.length_drop, List.length_take]; rfl)) ?_; (with_reducible refine (nat_Of.calls 1 t250 _ A17.out).mono ?_); rintro e w91 ⟨v251, rfl, ho0, hb⟩; refine ⟨_, rfl, ?_⟩; have n0_ := Aside0.mk (Kd.R_lower ho0 (below_size (by repeat (first | (with_reducible first | exact HB.out | apply below_alloc | apply pw_below_drewN | apply below_drew1 | refine below_set ?_ GE242.out) | exact HB.out)))); have n1_ := Aside0.mk (blk_below (g := gb242) (o := .cells #[.bool false, .slice none 0 0, .slice none 0 0] 25 (0, 0)) (by exact BK242.out) hb); have n2_ := Aside0.mk (below_step (by repeat (first | (with_reducible first | exact HB.out | apply below_alloc | apply pw_below_drewN | apply below_drew1 | refine below_set ?_ GE242.out) | exact HB.out)) hb); clear BK242; clear HB; have HO252 := n0_; have BK242 := n1_; have HB := n2_; clear n0_ n1_ n2_; (try clear hb); (try clear hb2); (try clear hk); (try clear hi); (try clear ho0); obtain ⟨Ao92, co92, eo92⟩ := Kd.R_slice HO252.out; subst eo92) | ((with_reducible refine gate_dst (N := 9) rfl ?_); refine box_event ?hg (N := 9) ?hd (cs := #[.bool false, .slice none 0 0, .slice none 0 0]) (t := 25) ?hr ?_; (case hd => rfl); (case hg => rfl); (case hr => first | (go_simp; done) | (go_simp; rfl)); intro gb253 hg w93 hbox hb; have n0_ := Aside0.mk (Kd.R_below (by exact HO252.out) hb); have n1_ := Aside0.mk (blk_below (g := gb242) (o := .cells #[.bool false, .slice none 0 0, .slice none 0 0] 25 (0, 0)) (by exact BK242.out) hb); have n2_ := Aside0.mk (below_step (by repeat (first | (with_reducible first | exact HB.out | apply below_alloc | apply pw_below_drewN | apply below_drew1 | refine below_set ?_ GE242.out) | exact HB.out)) hb); have n3_ := Aside0.mk (hbox); have n4_ := Aside0.mk ((by rw [hg]; exact (below_size (by repeat (first | (with_reducible first | exact HB.out | apply below_alloc | apply pw_below_drewN | apply below_drew1 | refine below_set ?_ GE242.out) | exact HB.out))) : w.heap.size ≤ gb253)); have n5_ := Aside0.mk ((by rw [hg]; exact (below_size (by repeat (first | (with_reducible first | exact HB.out | apply below_alloc | apply pw_below_drewN | apply below_drew1 | refine below_set ?_ GE242.out) | exact HB.out))) : w.heap.size ≤ gb253)); have n6_ := Aside0.mk ((by rw [hg]; exact Nat.ne_of_lt (blk_lt (g := gb242) (o := .cells #[.bool false, .slice none 0 0, .slice none 0 0] 25 (0, 0)) (by exact BK242.out)) : gb242 ≠ gb253)); have n7_ := Aside0.mk ((by rw [hg]; exact Nat.ne_of_gt (blk_lt (g := gb242) (o := .cells #[.bool false, .slice none 0 0, .slice none 0 0] 25 (0, 0)) (by exact BK242.out)) : gb253 ≠ gb242)); clear HO252; clear BK242; clear HB; have HO252 := n0_; have BK242 := n1_; have HB := n2_; have BK253 := n3_; have GW253 := n4_; have GE253 := n5_; have NB242_253 := n6_; have NB253_242 := n7_; clear n0_ n1_ n2_ n3_ n4_ n5_ n6_ n7_; clear hb hbox hg; have hnb94 := NB253_242.out; have hnc94 := NB242_253.out; have hcz95_0 : w93.cell? ⟨gb253, 0, none⟩ = some (.bool false) := (blk_cell BK253.out 0).trans rfl; have hcz95_1 : w93.cell? ⟨gb253, 1, none⟩ = some (.slice none 0 0) := (blk_cell BK253.out 1).trans rfl; have hcz95_2 : w93.cell? ⟨gb253, 2, none⟩ = some (.slice none 0 0) := (blk_cell BK253.out 2).trans rfl; have hfz95_0 := blk_frozen BK253.out 0; have hfz95_1 := blk_frozen BK253.out 1; have hfz95_2 := blk_frozen BK253.out 2) | ((with_reducible refine gate_callee (f := 37) rfl ?_); refine goesL_ (some 39) rfl rfl Tryz.func37 (by kernel_rfl) rfl #[.string t245] rfl (by (try simp only [List.map_toArray, List.map_cons, List.map_nil]); first | done | rfl | (simp only [List.length_drop, List.length_take]; rfl)) ?_; (with_reducible refine (digits_read.calls t245 t254 t255 _ A18.out).mono ?_); rintro e w96 ⟨v256, rfl, ho0, hb⟩; refine ⟨_, rfl, ?_⟩; have n0_ := Aside0.mk (Kd.R_elder' (by exact (Kd.R_mono (Kd.R_far (p := ⟨gb253, 2, none⟩) (Kd.R_far (p := ⟨gb253, 1, none⟩) (Kd.R_far (p := ⟨gb253, 0, none⟩) (Kd.R_types HO252.out BK253.out (by decide)) (fun _ hk => hk.2) (.bool t244)) (fun _ hk => hk.2) (.slice none 0 0)) (fun _ hk => hk.2) (.slice Ao92 t250.length co92)) (fun _ h_ => h_.1))) (Kd.R_base ho0) hb); have n1_ := Aside0.mk (Kd.R_lower (Kd.R_new' ho0 (Kd.R_lt (by exact (Kd.R_mono (Kd.R_far (p := ⟨gb253, 2, none⟩) (Kd.R_far (p := ⟨gb253, 1, none⟩) (Kd.R_far (p := ⟨gb253, 0, none⟩) (Kd.R_types HO252.out BK253.out (by decide)) (fun _ hk => hk.2) (.bool t244)) (fun _ hk => hk.2) (.slice none 0 0)) (fun _ hk => hk.2) (.slice Ao92 t250.length co92)) (fun _ h_ => h_.1))))) (below_size (by repeat (first | (with_reducible first | exact HB.out | apply below_alloc | apply pw_below_drewN | apply below_drew1 | refine below_set ?_ GE242.out | refine below_set ?_ GE253.out) | exact HB.out)))); have n2_ := Aside0.mk (blk_below (g := gb242) (o := .cells #[.bool false, .slice none 0 0, .slice none 0 0] 25 (0, 0)) (by refine blk_far ?_ NB242_253.out _; refine blk_far ?_ NB242_253.out _; refine blk_far ?_ NB242_253.out _; exact BK242.out) hb); have n3_ := Aside0.mk (blk_below (g := gb253) (o := .cells #[.bool t244, .slice none 0 0, .slice Ao92 t250.length co92] 25 (0, 0)) (by refine blk_put (cs := #[.bool t244, .slice none 0 0, .slice none 0 0]) ?_ 2 _ rfl; refine blk_put (cs := #[.bool t244, .slice none 0 0, .slice none 0 0]) ?_ 1 _ rfl; refine blk_put (cs := #[.bool false, .slice none 0 0, .slice none 0 0]) ?_ 0 _ rfl; exact BK253.out) hb); have n4_ := Aside0.mk (below_step (by repeat (first | (with_reducible first | exact HB.out | apply below_alloc | apply pw_below_drewN | apply below_drew1 | refine below_set ?_ GE242.out | refine below_set ?_ GE253.out) | exact HB.out)) hb); clear HO252; clear BK242; clear BK253; clear HB; have HO252 := n0_; have HO257 := n1_; have BK242 := n2_; have BK253 := n3_; have HB := n4_; clear n0_ n1_ n2_ n3_ n4_; (try clear hb); (try clear hb2); (try clear hk); (try clear hi); (try clear ho0); obtain ⟨Ao97, co97, eo97⟩ := Kd.R_slice HO257.out; subst eo97; have hcz98_0 : w96.cell? ⟨gb253, 0, none⟩ = some (.bool t244) := (blk_cell BK253.out 0).trans rfl; have hcz98_1 : w96.cell? ⟨gb253, 1, none⟩ = some (.slice none 0 0) := (blk_cell BK253.out 1).trans rfl; have hcz98_2 : w96.cell? ⟨gb253, 2, none⟩ = some (.slice Ao92 t250.length co92) := (blk_cell BK253.out 2).trans rfl; have hfz98_0 := blk_frozen BK253.out 0; have hfz98_1 := blk_frozen BK253.out 1; have hfz98_2 := blk_frozen BK253.out 2) | ((with_reducible refine gate_callee (f := 38) rfl ?_); refine goesL_ (some 59) rfl rfl Tryz.func38 (by kernel_rfl) rfl #[.agg #[.bool t244, .slice Ao97 t254.length co97, .slice Ao92 t250.length co92]] rfl (by (try simp only [List.map_toArray, List.map_cons, List.map_nil]); first | done | rfl | (simp only [List.length_drop, List.length_take]; rfl)) ?_; (with_reducible refine (rat_May.calls t244 _ _ t254 _ _ t250 t263 _ ?side1 ?side2 ?side3 ?side4 A78.out).mono ?_); (case side1 => refine (Kd.R_reads' (e := 56) (base := w.heap.size) (ok := fun k_ => (True ∧ some k_ ≠ (.slice Ao92 t250.length co92 : Value).ownBlock)) (n := t254.length) (c := co97) ?_).2.2; exact (by exact (Kd.R_mono (Kd.R_far (p := ⟨gb253, 1, none⟩) (Kd.R_types HO257.out BK253.out (by decide)) (fun _ hk => hk.2) (.slice Ao97 t254.length co97)) (fun _ h_ => h_.1)))); (case side2 => exact (Kd.R_reads' HO257.out).2.1); (case side3 => refine (Kd.R_reads' (e := 56) (base := w.heap.size) (ok := fun k_ => (True ∧ some k_ ≠ (.slice Ao97 t254.length co97 : Value).ownBlock)) (n := t250.length) (c := co92) ?_).2.2; exact (by exact (Kd.R_mono (Kd.R_far (p := ⟨gb253, 1, none⟩) (Kd.R_types HO252.out BK253.out (by decide)) (fun _ hk => hk.2) (.slice Ao97 t254.length co97)) (fun _ h_ => h_.1)))); (case side4 => exact (Kd.R_reads' HO252.out).2.1); rintro e w99 ⟨rfl, hb⟩; refine ⟨_, rfl, ?_⟩; have n0_ := Aside0.mk (Kd.R_below (by exact (Kd.R_mono (Kd.R_far (p := ⟨gb253, 1, none⟩) (Kd.R_types HO252.out BK253.out (by decide)) (fun _ hk => hk.2) (.slice Ao97 t254.length co97)) (fun _ h_ => h_.1))) hb); have n1_ := Aside0.mk (Kd.R_below (by exact (Kd.R_mono (Kd.R_far (p := ⟨gb253, 1, none⟩) (Kd.R_types HO257.out BK253.out (by decide)) (fun _ hk => hk.2) (.slice Ao97 t254.length co97)) (fun _ h_ => h_.1))) hb); have n2_ := Aside0.mk (blk_below (g := gb242) (o := .cells #[.bool false, .slice none 0 0, .slice none 0 0] 25 (0, 0)) (by refine blk_far ?_ NB242_253.out _; exact BK242.out) hb); have n3_ := Aside0.mk (blk_below (g := gb253) (o := .cells #[.bool t244, .slice Ao97 t254.length co97, .slice Ao92 t250.length co92] 25 (0, 0)) (by refine blk_put (cs := #[.bool t244, .slice none 0 0, .slice Ao92 t250.length co92]) ?_ 1 _ rfl; exact BK253.out) hb); have n4_ := Aside0.mk (below_step (by repeat (first | (with_reducible first | exact HB.out | apply below_alloc | apply pw_below_drewN | apply below_drew1 | refine below_set ?_ GE242.out | refine below_set ?_ GE253.out) | exact HB.out)) hb); clear HO252; clear HO257; clear BK242; clear BK253; clear HB; have HO252 := n0_; have HO257 := n1_; have BK242 := n2_; have BK253 := n3_; have HB := n4_; clear n0_ n1_ n2_ n3_ n4_; (try clear hb); (try clear hb2); (try clear hk); (try clear hi); have hcz100_0 : w99.cell? ⟨gb242, 0, none⟩ = some (.bool false) := (blk_cell BK242.out 0).trans rfl; have hcz100_1 : w99.cell? ⟨gb242, 1, none⟩ = some (.slice none 0 0) := (blk_cell BK242.out 1).trans rfl; have hcz100_2 : w99.cell? ⟨gb242, 2, none⟩ = some (.slice none 0 0) := (blk_cell BK242.out 2).trans rfl; have hfz100_0 := blk_frozen BK242.out 0; have hfz100_1 := blk_frozen BK242.out 1; have hfz100_2 := blk_frozen BK242.out 2))
              refine bodyPost_ret (results_ct rfl _ _ gb242 25 #[.bool false, .slice none 0 0, .slice none 0 0] (0, 0) _ rfl (by refine blk_put (cs := #[.bool false, .slice none 0 0, .slice none 0 0]) ?_ 2 _ rfl; refine blk_put (cs := #[.bool false, .slice none 0 0, .slice none 0 0]) ?_ 1 _ rfl; refine blk_put (cs := #[.bool false, .slice none 0 0, .slice none 0 0]) ?_ 0 _ rfl; exact BK242.out) Tryz.underlying25 rfl (by kernel_rfl)) rfl ?_
              exact ⟨_, _, by first | rfl | (simp [errW_none, errW_some] <;> rfl) | (simp [*, errW_none, errW_some] <;> rfl), by first | exact Kd.R_nil _ _ _ _ _ | exact Kd.N_nil _ _ _ _ _ | exact Kd.V_nil _ _ _ _ _ | exact Kd.Q_nil _ _ _ _ _ | exact Kd.S_nil _ _ _ _ _, by first | exact Kd.R_nil _ _ _ _ _ | exact Kd.N_nil _ _ _ _ _ | exact Kd.V_nil _ _ _ _ _ | exact Kd.Q_nil _ _ _ _ _ | exact Kd.S_nil _ _ _ _ _, by repeat (first | (with_reducible first | exact HB.out | apply below_alloc | apply pw_below_drewN | apply below_drew1 | refine below_set ?_ GE242.out | refine below_set ?_ GE253.out) | exact HB.out)⟩
        · rw [if_neg c19] at H
          have c19b0 : (t255 == 0) = false := beq_eq_false_iff_ne.mpr c19
          have c19b1 : (t255 != 0) = true := bne_iff_ne.mpr c19
          simp only [Option.some.injEq, Prod.mk.injEq] at H
          obtain ⟨rfl, rfl, rfl, rfl⟩ := H
          go_wp2_with (first | ((with_reducible refine gate_callee (f := 31) rfl ?_); refine goesL_ (some 35) rfl rfl Tryz.func31 (by kernel_rfl) rfl #[.int .u64 1] rfl (by (try simp only [List.map_toArray, List.map_cons, List.map_nil]); first | done | rfl | (simp only [List.length_drop, List.length_take]; rfl)) ?_; (with_reducible refine (nat_Of.calls 1 t250 _ A17.out).mono ?_); rintro e w101 ⟨v251, rfl, ho0, hb⟩; refine ⟨_, rfl, ?_⟩; have n0_ := Aside0.mk (Kd.R_lower ho0 (below_size (by repeat (first | (with_reducible first | exact HB.out | apply below_alloc | apply pw_below_drewN | apply below_drew1 | refine below_set ?_ GE242.out) | exact HB.out)))); have n1_ := Aside0.mk (blk_below (g := gb242) (o := .cells #[.bool false, .slice none 0 0, .slice none 0 0] 25 (0, 0)) (by exact BK242.out) hb); have n2_ := Aside0.mk (below_step (by repeat (first | (with_reducible first | exact HB.out | apply below_alloc | apply pw_below_drewN | apply below_drew1 | refine below_set ?_ GE242.out) | exact HB.out)) hb); clear BK242; clear HB; have HO252 := n0_; have BK242 := n1_; have HB := n2_; clear n0_ n1_ n2_; (try clear hb); (try clear hb2); (try clear hk); (try clear hi); (try clear ho0); obtain ⟨Ao102, co102, eo102⟩ := Kd.R_slice HO252.out; subst eo102) | ((with_reducible refine gate_dst (N := 9) rfl ?_); refine box_event ?hg (N := 9) ?hd (cs := #[.bool false, .slice none 0 0, .slice none 0 0]) (t := 25) ?hr ?_; (case hd => rfl); (case hg => rfl); (case hr => first | (go_simp; done) | (go_simp; rfl)); intro gb253 hg w103 hbox hb; have n0_ := Aside0.mk (Kd.R_below (by exact HO252.out) hb); have n1_ := Aside0.mk (blk_below (g := gb242) (o := .cells #[.bool false, .slice none 0 0, .slice none 0 0] 25 (0, 0)) (by exact BK242.out) hb); have n2_ := Aside0.mk (below_step (by repeat (first | (with_reducible first | exact HB.out | apply below_alloc | apply pw_below_drewN | apply below_drew1 | refine below_set ?_ GE242.out) | exact HB.out)) hb); have n3_ := Aside0.mk (hbox); have n4_ := Aside0.mk ((by rw [hg]; exact (below_size (by repeat (first | (with_reducible first | exact HB.out | apply below_alloc | apply pw_below_drewN | apply below_drew1 | refine below_set ?_ GE242.out) | exact HB.out))) : w.heap.size ≤ gb253)); have n5_ := Aside0.mk ((by rw [hg]; exact (below_size (by repeat (first | (with_reducible first | exact HB.out | apply below_alloc | apply pw_below_drewN | apply below_drew1 | refine below_set ?_ GE242.out) | exact HB.out))) : w.heap.size ≤ gb253)); have n6_ := Aside0.mk ((by rw [hg]; exact Nat.ne_of_lt (blk_lt (g := gb242) (o := .cells #[.bool false, .slice none 0 0, .slice none 0 0] 25 (0, 0)) (by exact BK242.out)) : gb242 ≠ gb253)); have n7_ := Aside0.mk ((by rw [hg]; exact Nat.ne_of_gt (blk_lt (g := gb242) (o := .cells #[.bool false, .slice none 0 0, .slice none 0 0] 25 (0, 0)) (by exact BK242.out)) : gb253 ≠ gb242)); clear HO252; clear BK242; clear HB; have HO252 := n0_; have BK242 := n1_; have HB := n2_; have BK253 := n3_; have GW253 := n4_; have GE253 := n5_; have NB242_253 := n6_; have NB253_242 := n7_; clear n0_ n1_ n2_ n3_ n4_ n5_ n6_ n7_; clear hb hbox hg; have hnb104 := NB253_242.out; have hnc104 := NB242_253.out; have hcz105_0 : w103.cell? ⟨gb253, 0, none⟩ = some (.bool false) := (blk_cell BK253.out 0).trans rfl; have hcz105_1 : w103.cell? ⟨gb253, 1, none⟩ = some (.slice none 0 0) := (blk_cell BK253.out 1).trans rfl; have hcz105_2 : w103.cell? ⟨gb253, 2, none⟩ = some (.slice none 0 0) := (blk_cell BK253.out 2).trans rfl; have hfz105_0 := blk_frozen BK253.out 0; have hfz105_1 := blk_frozen BK253.out 1; have hfz105_2 := blk_frozen BK253.out 2) | ((with_reducible refine gate_callee (f := 37) rfl ?_); refine goesL_ (some 39) rfl rfl Tryz.func37 (by kernel_rfl) rfl #[.string t245] rfl (by (try simp only [List.map_toArray, List.map_cons, List.map_nil]); first | done | rfl | (simp only [List.length_drop, List.length_take]; rfl)) ?_; (with_reducible refine (digits_read.calls t245 t254 t255 _ A18.out).mono ?_); rintro e w106 ⟨v256, rfl, ho0, hb⟩; refine ⟨_, rfl, ?_⟩; have n0_ := Aside0.mk (Kd.R_elder' (by exact (Kd.R_mono (Kd.R_far (p := ⟨gb253, 2, none⟩) (Kd.R_far (p := ⟨gb253, 1, none⟩) (Kd.R_far (p := ⟨gb253, 0, none⟩) (Kd.R_types HO252.out BK253.out (by decide)) (fun _ hk => hk.2) (.bool t244)) (fun _ hk => hk.2) (.slice none 0 0)) (fun _ hk => hk.2) (.slice Ao102 t250.length co102)) (fun _ h_ => h_.1))) (Kd.R_base ho0) hb); have n1_ := Aside0.mk (Kd.R_lower (Kd.R_new' ho0 (Kd.R_lt (by exact (Kd.R_mono (Kd.R_far (p := ⟨gb253, 2, none⟩) (Kd.R_far (p := ⟨gb253, 1, none⟩) (Kd.R_far (p := ⟨gb253, 0, none⟩) (Kd.R_types HO252.out BK253.out (by decide)) (fun _ hk => hk.2) (.bool t244)) (fun _ hk => hk.2) (.slice none 0 0)) (fun _ hk => hk.2) (.slice Ao102 t250.length co102)) (fun _ h_ => h_.1))))) (below_size (by repeat (first | (with_reducible first | exact HB.out | apply below_alloc | apply pw_below_drewN | apply below_drew1 | refine below_set ?_ GE242.out | refine below_set ?_ GE253.out) | exact HB.out)))); have n2_ := Aside0.mk (blk_below (g := gb242) (o := .cells #[.bool false, .slice none 0 0, .slice none 0 0] 25 (0, 0)) (by refine blk_far ?_ NB242_253.out _; refine blk_far ?_ NB242_253.out _; refine blk_far ?_ NB242_253.out _; exact BK242.out) hb); have n3_ := Aside0.mk (blk_below (g := gb253) (o := .cells #[.bool t244, .slice none 0 0, .slice Ao102 t250.length co102] 25 (0, 0)) (by refine blk_put (cs := #[.bool t244, .slice none 0 0, .slice none 0 0]) ?_ 2 _ rfl; refine blk_put (cs := #[.bool t244, .slice none 0 0, .slice none 0 0]) ?_ 1 _ rfl; refine blk_put (cs := #[.bool false, .slice none 0 0, .slice none 0 0]) ?_ 0 _ rfl; exact BK253.out) hb); have n4_ := Aside0.mk (below_step (by repeat (first | (with_reducible first | exact HB.out | apply below_alloc | apply pw_below_drewN | apply below_drew1 | refine below_set ?_ GE242.out | refine below_set ?_ GE253.out) | exact HB.out)) hb); clear HO252; clear BK242; clear BK253; clear HB; have HO252 := n0_; have HO257 := n1_; have BK242 := n2_; have BK253 := n3_; have HB := n4_; clear n0_ n1_ n2_ n3_ n4_; (try clear hb); (try clear hb2); (try clear hk); (try clear hi); (try clear ho0); obtain ⟨Ao107, co107, eo107⟩ := Kd.R_slice HO257.out; subst eo107; have hcz108_0 : w106.cell? ⟨gb253, 0, none⟩ = some (.bool t244) := (blk_cell BK253.out 0).trans rfl; have hcz108_1 : w106.cell? ⟨gb253, 1, none⟩ = some (.slice none 0 0) := (blk_cell BK253.out 1).trans rfl; have hcz108_2 : w106.cell? ⟨gb253, 2, none⟩ = some (.slice Ao102 t250.length co102) := (blk_cell BK253.out 2).trans rfl; have hfz108_0 := blk_frozen BK253.out 0; have hfz108_1 := blk_frozen BK253.out 1; have hfz108_2 := blk_frozen BK253.out 2; have hcz109_0 : w106.cell? ⟨gb242, 0, none⟩ = some (.bool false) := (blk_cell BK242.out 0).trans rfl; have hcz109_1 : w106.cell? ⟨gb242, 1, none⟩ = some (.slice none 0 0) := (blk_cell BK242.out 1).trans rfl; have hcz109_2 : w106.cell? ⟨gb242, 2, none⟩ = some (.slice none 0 0) := (blk_cell BK242.out 2).trans rfl; have hfz109_0 := blk_frozen BK242.out 0; have hfz109_1 := blk_frozen BK242.out 1; have hfz109_2 := blk_frozen BK242.out 2))
          refine bodyPost_ret (results_ct rfl _ _ gb242 25 #[.bool false, .slice none 0 0, .slice none 0 0] (0, 0) _ rfl (by refine blk_put (cs := #[.bool false, .slice none 0 0, .slice none 0 0]) ?_ 2 _ rfl; refine blk_put (cs := #[.bool false, .slice none 0 0, .slice none 0 0]) ?_ 1 _ rfl; refine blk_put (cs := #[.bool false, .slice none 0 0, .slice none 0 0]) ?_ 0 _ rfl; refine blk_far ?_ NB242_253.out _; exact BK242.out) Tryz.underlying25 rfl (by kernel_rfl)) rfl ?_
          exact ⟨_, _, by first | rfl | (simp [errW_none, errW_some] <;> rfl) | (simp [*, errW_none, errW_some] <;> rfl), by first | exact Kd.R_nil _ _ _ _ _ | exact Kd.N_nil _ _ _ _ _ | exact Kd.V_nil _ _ _ _ _ | exact Kd.Q_nil _ _ _ _ _ | exact Kd.S_nil _ _ _ _ _, by first | exact Kd.R_nil _ _ _ _ _ | exact Kd.N_nil _ _ _ _ _ | exact Kd.V_nil _ _ _ _ _ | exact Kd.Q_nil _ _ _ _ _ | exact Kd.S_nil _ _ _ _ _, by repeat (first | (with_reducible first | exact HB.out | apply below_alloc | apply pw_below_drewN | apply below_drew1 | refine below_set ?_ GE242.out | refine below_set ?_ GE253.out) | exact HB.out)⟩

def digits_ParseNat.f (a0 : ByteArray) : Option (List Int × Int) := (digits_natural.f a0).bind fun t273 => (if t273 = true then ((digits_read.f a0).bind fun bt274 => (some (bt274.1, bt274.2))) else (some (([] : List Int), 19)))
set_option maxHeartbeats 8000000 in
set_option maxRecDepth 100000 in
theorem digits_ParseNat.calls (a0 : ByteArray) (r1 : List Int) (r2 : Int) (w : World) (h : digits_ParseNat.f a0 = some (r1, r2)) :
    Calls Tryz.prog 16 #[.string a0] w fun e w' => ∃ v0_ : Value, e = .returned (.tuple #[v0_, .int .i64 r2]) ∧ Kd.R (Kd.int .u32) 56 w' w.heap.size (fun _ => True) v0_ r1 ∧ Below w.heap.size w w' := by
  have HB := Aside0.mk (Below.refl w.heap.size w)
  have H : ((digits_natural.f a0).bind fun t273 => (if t273 = true then ((digits_read.f a0).bind fun bt274 => (some (bt274.1, bt274.2))) else (some (([] : List Int), 19)))) = some (r1, r2) := h
  clear h
  replace H := Option.bind_eq_some_iff.mp H
  obtain ⟨t273, A20, H⟩ := H
  try dsimp only at H
  have A2 := Aside0.mk A20
  clear A20
  by_cases c3 : t273 = true
  · subst c3
    have H1 : ((digits_read.f a0).bind fun bt274 => (some (bt274.1, bt274.2))) = some (r1, r2) := by rw [if_pos rfl] at H; exact H
    clear H
    have H := H1
    clear H1
    replace H := Option.bind_eq_some_iff.mp H
    obtain ⟨⟨t274, t275⟩, A40, H⟩ := H
    try dsimp only at H
    have A4 := Aside0.mk A40
    clear A40
    simp only [Option.some.injEq, Prod.mk.injEq] at H
    obtain ⟨rfl, rfl⟩ := H
    go_enter Tryz.func16, Tryz.ntmps16
    go_wp2_with (first | ((with_reducible refine gate_callee (f := 36) rfl ?_); refine goesL_ (some 5) rfl rfl Tryz.func36 (by kernel_rfl) rfl #[.string a0] rfl (by (try simp only [List.map_toArray, List.map_cons, List.map_nil]); first | done | rfl | (simp only [List.length_drop, List.length_take]; rfl)) ?_; (with_reducible refine (digits_natural.calls a0 true _ A2.out).mono ?_); rintro e w5 ⟨rfl, hb⟩; refine ⟨_, rfl, ?_⟩; have n0_ := Aside0.mk (below_step (by repeat (first | (with_reducible first | exact HB.out | apply below_alloc | apply pw_below_drewN | apply below_drew1) | exact HB.out)) hb); clear HB; have HB := n0_; clear n0_; (try clear hb); (try clear hb2); (try clear hk); (try clear hi)) | ((with_reducible refine gate_callee (f := 37) rfl ?_); refine goesL_ (some 8) rfl rfl Tryz.func37 (by kernel_rfl) rfl #[.string a0] rfl (by (try simp only [List.map_toArray, List.map_cons, List.map_nil]); first | done | rfl | (simp only [List.length_drop, List.length_take]; rfl)) ?_; (with_reducible refine (digits_read.calls a0 t274 t275 _ A4.out).mono ?_); rintro e w6 ⟨v276, rfl, ho0, hb⟩; refine ⟨_, rfl, ?_⟩; have n0_ := Aside0.mk (Kd.R_lower ho0 (below_size (by repeat (first | (with_reducible first | exact HB.out | apply below_alloc | apply pw_below_drewN | apply below_drew1) | exact HB.out)))); have n1_ := Aside0.mk (below_step (by repeat (first | (with_reducible first | exact HB.out | apply below_alloc | apply pw_below_drewN | apply below_drew1) | exact HB.out)) hb); clear HB; have HO277 := n0_; have HB := n1_; clear n0_ n1_; (try clear hb); (try clear hb2); (try clear hk); (try clear hi); (try clear ho0)))
    go_ret2
    exact ⟨_, by first | rfl | (simp [errW_none, errW_some] <;> rfl) | (simp [*, errW_none, errW_some] <;> rfl), by exact HO277.out, by repeat (first | (with_reducible first | exact HB.out | apply below_alloc | apply pw_below_drewN | apply below_drew1) | exact HB.out)⟩
  · replace c3 := Bool.eq_false_iff.mpr c3
    subst c3
    have H1 : (some (([] : List Int), 19)) = some (r1, r2) := by rw [if_neg (show ¬ (false = true) by decide)] at H; exact H
    clear H
    have H := H1
    clear H1
    simp only [Option.some.injEq, Prod.mk.injEq] at H
    obtain ⟨rfl, rfl⟩ := H
    go_enter Tryz.func16, Tryz.ntmps16
    go_wp2_with (first | ((with_reducible refine gate_callee (f := 36) rfl ?_); refine goesL_ (some 5) rfl rfl Tryz.func36 (by kernel_rfl) rfl #[.string a0] rfl (by (try simp only [List.map_toArray, List.map_cons, List.map_nil]); first | done | rfl | (simp only [List.length_drop, List.length_take]; rfl)) ?_; (with_reducible refine (digits_natural.calls a0 false _ A2.out).mono ?_); rintro e w7 ⟨rfl, hb⟩; refine ⟨_, rfl, ?_⟩; have n0_ := Aside0.mk (below_step (by repeat (first | (with_reducible first | exact HB.out | apply below_alloc | apply pw_below_drewN | apply below_drew1) | exact HB.out)) hb); clear HB; have HB := n0_; clear n0_; (try clear hb); (try clear hb2); (try clear hk); (try clear hi)))
    go_ret2
    exact ⟨_, by first | rfl | (simp [errW_none, errW_some] <;> rfl) | (simp [*, errW_none, errW_some] <;> rfl), by first | exact Kd.R_nil _ _ _ _ _ | exact Kd.N_nil _ _ _ _ _ | exact Kd.V_nil _ _ _ _ _ | exact Kd.Q_nil _ _ _ _ _ | exact Kd.S_nil _ _ _ _ _, by repeat (first | (with_reducible first | exact HB.out | apply below_alloc | apply pw_below_drewN | apply below_drew1) | exact HB.out)⟩

end Go.Proofs.YtpncflaoikeidaaGreatDoor.P
namespace Go.Proofs.YtpncflaoikeidaaGreatDoor.H
open Go.RowKit Go.Lib Go.Proofs.YtpncflaoikeidaaGreatDoorW.PrintWords Go.Proofs.YtpncflaoikeidaaGreatDoorW.PrintLast Go.Proofs.YtpncflaoikeidaaGreatDoorW.PrintMore Go.Proofs.YtpncflaoikeidaaGreatDoor.P
theorem bytes_append (l m : List UInt8) : (⟨l.toArray⟩ : ByteArray) ++ ⟨m.toArray⟩ = ⟨(l ++ m).toArray⟩ := by
  apply ByteArray.ext; rw [ByteArray.data_append]; simp
theorem bytes_size (l : List UInt8) : (⟨l.toArray⟩ : ByteArray).size = l.length := rfl
theorem bytes_list (l : List UInt8) : (⟨l.toArray⟩ : ByteArray).toList = l := by rw [toList_data]
theorem bytes_data (l : List UInt8) : (⟨l.toArray⟩ : ByteArray).data.toList = l := rfl
theorem bytes_of (s : ByteArray) : s = ⟨s.data.toList.toArray⟩ := by cases s; simp
theorem of_one : nat_Of.f 1 = some (limbs 1) := by unfold nat_Of.f; rw [if_pos (by decide)]; rfl
theorem cmp_limbs {a b : Nat} (ha : (limbs a).length < 1000000) (hb : (limbs b).length < 1000000) : nat_Cmp.f (limbs a) (limbs b) = some (if a < b then -1 else if b < a then 1 else 0) := by
  unfold nat_Cmp.f
  rw [if_pos ⟨okl_limbs a, okl_limbs b, ha, hb⟩, nval_limbs, nval_limbs]
theorem limbs_one_len : (limbs 1).length < 1000000 := Nat.lt_of_le_of_lt (limbs_length_le 1 1 (by decide)) (by decide)
theorem limbs_mono {a b : Nat} (h : a ≤ b) : (limbs a).length ≤ (limbs b).length := by
  refine limbs_length_le _ _ (Nat.lt_of_le_of_lt h ?_)
  have := nval_lt (okl_limbs b)
  rwa [nval_limbs] at this
theorem norm_f (neg : Bool) {l1 l2 : List Int} (o1 : okl l1) (o2 : okl l2) (n1 : l1.length < 900000) (n2 : l2.length < 900000) :
    rat_Norm.f neg l1 l2 = some ((redN neg (nval l1) (nval l2)).1, limbs (redN neg (nval l1) (nval l2)).2.1, limbs (redN neg (nval l1) (nval l2)).2.2) := by
  unfold rat_Norm.f rat_Make.f redN
  rw [if_pos ⟨o1, o2, n1, n2⟩, Option.bind_some]
  by_cases h2 : nval l2 = 0
  · rw [if_pos h2, if_pos (Or.inr h2)]
    simp only
    rw [if_neg (by decide)]
    unfold rat_one.f
    rw [of_one, Option.bind_some, Option.bind_some, limbs_zero]
  · rw [if_neg h2]
    by_cases h1 : nval l1 = 0
    · rw [if_pos h1, if_pos (Or.inl h1), limbs_zero]; rfl
    · rw [if_neg h1, if_neg (show ¬ (nval l1 = 0 ∨ nval l2 = 0) from fun hc => hc.elim h1 h2)]; rfl
theorem dec_size {l : List Int} (hl : okl l) (hn : l.length < 100000) : (decDigits (nval l)).length ≤ 1000010 := by
  have h1 := nval_lt hl
  have h2 : (4294967296 : Nat) ^ l.length ≤ (10 ^ 10) ^ l.length := Nat.pow_le_pow_left (by decide) _
  rw [← Nat.pow_mul] at h2
  have h3 : 10 ^ (10 * l.length) ≤ 10 ^ (10 * l.length + 1) := Nat.pow_le_pow_right (by decide) (by omega)
  have h4 := dec_len (j := 10 * l.length + 1) (by omega) (Nat.lt_of_lt_of_le h1 (Nat.le_trans h2 h3))
  omega
theorem red_len (neg : Bool) {l1 l2 : List Int} (o1 : okl l1) (o2 : okl l2) {m : Nat} (n1 : l1.length < m) (n2 : l2.length < m) (hm : 1 < m) : (limbs (redN neg (nval l1) (nval l2)).2.1).length < m ∧ (limbs (redN neg (nval l1) (nval l2)).2.2).length < m := by
  obtain ⟨h1, h2⟩ := redN_le neg (nval l1) (nval l2)
  have h3 := limbs_trim_le o1
  have h4 := limbs_trim_le o2
  have h5 := limbs_mono h1
  have h6 := limbs_mono h2
  refine ⟨by omega, ?_⟩
  rcases Nat.le_total (nval l2) 1 with h | h
  · rw [Nat.max_eq_right h] at h6
    have := limbs_length_le 1 1 (by decide)
    omega
  · rw [Nat.max_eq_left h] at h6; omega
theorem digN_f (n : Nat) (h : (limbs n).length < 100000) : digits_Nat.f (limbs n) = some ⟨(decDigits n).toArray⟩ := by
  unfold digits_Nat.f
  rw [if_pos ⟨okl_limbs n, h⟩, nval_limbs]
theorem decN_size {n : Nat} (h : (limbs n).length < 100000) : (decDigits n).length ≤ 1000010 := by
  have := dec_size (okl_limbs n) h
  rwa [nval_limbs] at this
theorem digRat_f (k : Nat) (neg : Bool) {l1 l2 : List Int} (o1 : okl l1) (o2 : okl l2) (n1 : l1.length < 100000) (n2 : l2.length < 100000) :
    digits_Rat.f (k + 1) neg l1 l2 = some ⟨(ratT (redN neg (nval l1) (nval l2))).toArray⟩ := by
  unfold digits_Rat.f
  rw [norm_f neg o1 o2 (by omega) (by omega), Option.bind_some]
  obtain ⟨q1, q2⟩ := red_len neg o1 o2 n1 n2 (by decide)
  have q3 := redN_den neg (nval l1) (nval l2)
  obtain ⟨x, hx⟩ : ∃ x, redN neg (nval l1) (nval l2) = x := ⟨_, rfl⟩
  rw [hx] at q1 q2 q3 ⊢
  obtain ⟨g, n, d⟩ := x
  simp only at q1 q2 q3 ⊢
  rw [digN_f n q1, Option.bind_some]
  have s1 := decN_size q1
  have s2 := decN_size q2
  have hj : ∀ (m : List UInt8), m.length ≤ 1000020 → digits_Rat.j0 (k + 1) ⟨m.toArray⟩ g (limbs n) (limbs d) = some ⟨(m ++ (if d = 1 then [] else 47 :: decDigits d)).toArray⟩ := by
    intro m hm
    have hc1 : nat_Cmp.f (limbs d) (limbs 1) = some (if d = 1 then 0 else 1) := by
      rw [cmp_limbs (by omega) limbs_one_len, if_neg (by omega)]
      by_cases hd : d = 1
      · rw [if_neg (by omega), if_pos hd]
      · rw [if_pos (by omega), if_neg hd]
    rw [digits_Rat.j0, of_one, Option.bind_some, hc1, Option.bind_some]
    by_cases hd : d = 1
    · rw [if_pos hd, if_pos hd, if_pos rfl, List.append_nil]
    · rw [if_neg hd, if_neg hd, if_neg (by decide), digN_f d q2, Option.bind_some, bytes_size, if_pos (by omega)]
      have e : (⟨#[47]⟩ : ByteArray) ++ ⟨(decDigits d).toArray⟩ = ⟨(47 :: decDigits d).toArray⟩ := bytes_append [47] _
      rw [e, bytes_size, bytes_size, List.length_cons, if_pos (by omega), bytes_append]
  unfold ratT
  simp only
  cases g with
  | true =>
    rw [if_pos rfl, if_pos rfl, bytes_size, if_pos (by omega)]
    have e : (⟨#[45]⟩ : ByteArray) ++ ⟨(decDigits n).toArray⟩ = ⟨(45 :: decDigits n).toArray⟩ := bytes_append [45] _
    rw [e, hj _ (by rw [List.length_cons]; omega)]
    rfl
  | false =>
    rw [if_neg (by decide), if_neg (by decide), hj _ (by omega)]
    rfl
theorem pw32 (m : Nat) : (4294967296 : Nat) ^ m = 2 ^ (32 * m) := by
  have : (4294967296 : Nat) = 2 ^ 32 := by decide
  rw [this, ← Nat.pow_mul]
theorem pwS (x a b : Nat) : (x ^ a) ^ b * x = x ^ (a * b + 1) := by rw [← Nat.pow_mul, ← Nat.pow_succ]
theorem big_len (n : Nat) : big n = true ↔ 32 < (limbs n).length := by
  unfold big
  rw [decide_eq_true_iff, nbits_gt]
  have e := pw32 32
  have e32 : 32 * 32 = 1024 := by decide
  rw [e32] at e
  rw [← e]
  constructor
  · exact fun h => le_limbs_length 32 n h
  · intro h
    refine Nat.le_of_not_lt fun hc => ?_
    have := limbs_length_le 32 n hc
    omega
theorem big_long {l : List UInt8} (h : natB l = true) (hn : 309 < l.length) : big (dv l) = true := by
  unfold big
  rw [decide_eq_true_iff, nbits_gt]
  refine Nat.le_of_not_lt fun hc => ?_
  have h1 : (2 : Nat) ^ 1024 ≤ 10 ^ 309 := by
    have h := Nat.mul_le_mul (Nat.pow_le_pow_left (show 2 ^ 93 ≤ 10 ^ 28 by decide) 11) (show 2 ≤ 10 by decide)
    have e1 : 93 * 11 + 1 = 1024 := by decide
    have e2 : 28 * 11 + 1 = 309 := by decide
    rw [pwS, pwS, e1, e2] at h
    exact h
  have h2 := dec_len (j := 309) (by decide) (Nat.lt_of_lt_of_le hc h1)
  rw [dec_dv h] at h2
  omega
theorem read_f {s : ByteArray} (h : natB s.data.toList = true) : digits_read.f s = some (limbs (PN s.data.toList).1, (PN s.data.toList).2) := by
  have hd := ((natB_iff _).1 h).1
  have hs := size_len s
  unfold digits_read.f PN
  rw [if_pos hd, if_pos h]
  congr 1
  by_cases hb : big (dv s.data.toList) = true
  · rw [if_pos hb, limbs_zero]
    by_cases h3 : 309 < s.size
    · rw [if_pos h3]
    · rw [if_neg h3, if_pos ((big_len _).1 hb)]
  · have h3 : ¬ 309 < s.size := fun h3 => hb (big_long h (by omega))
    rw [if_neg hb, if_neg h3, if_neg (fun hc => hb ((big_len _).2 hc))]
theorem parseNat_f (s : ByteArray) : digits_ParseNat.f s = some (limbs (PN s.data.toList).1, (PN s.data.toList).2) := by
  unfold digits_ParseNat.f digits_natural.f
  rw [Option.bind_some]
  by_cases h : natB s.data.toList = true
  · rw [if_pos h, read_f h, Option.bind_some]
  · rw [if_neg h]; unfold PN; rw [if_neg h, limbs_zero]
end Go.Proofs.YtpncflaoikeidaaGreatDoor.H
namespace Go.Proofs.YtpncflaoikeidaaGreatDoor.P
open Go.RowKit Go.Proofs.YtpncflaoikeidaaGreatDoorW.PrintWords Go.Proofs.YtpncflaoikeidaaGreatDoorW.PrintLast Go.Proofs.YtpncflaoikeidaaGreatDoorW.PrintMore
attribute [local go_sem] max2_int max_two
set_option linter.unusedVariables false
set_option linter.unusedSimpArgs false
def fluxionref04_four.f (a0 : Int) : Option (ByteArray) := if 0 ≤ (wrap64 (Int.tdiv a0 1000)) then (if (wrap64 (Int.tdiv a0 1000)) ≤ (wrap64 ((wrap64 (Int.tdiv a0 1000)) + 1)) then (if (wrap64 ((wrap64 (Int.tdiv a0 1000)) + 1)) ≤ 10 then (if 0 ≤ (Int.tmod (wrap64 (Int.tdiv a0 100)) 10) then (if (Int.tmod (wrap64 (Int.tdiv a0 100)) 10) ≤ (wrap64 ((Int.tmod (wrap64 (Int.tdiv a0 100)) 10) + 1)) then (if (wrap64 ((Int.tmod (wrap64 (Int.tdiv a0 100)) 10) + 1)) ≤ 10 then (if ((⟨#[48, 49, 50, 51, 52, 53, 54, 55, 56, 57]⟩ : ByteArray).extract ((wrap64 (Int.tdiv a0 1000)) : Int).toNat ((wrap64 ((wrap64 (Int.tdiv a0 1000)) + 1)) : Int).toNat).size + ((⟨#[48, 49, 50, 51, 52, 53, 54, 55, 56, 57]⟩ : ByteArray).extract ((Int.tmod (wrap64 (Int.tdiv a0 100)) 10) : Int).toNat ((wrap64 ((Int.tmod (wrap64 (Int.tdiv a0 100)) 10) + 1)) : Int).toNat).size ≤ 9223372036854775807 then (if 0 ≤ (Int.tmod (wrap64 (Int.tdiv a0 10)) 10) then (if (Int.tmod (wrap64 (Int.tdiv a0 10)) 10) ≤ (wrap64 ((Int.tmod (wrap64 (Int.tdiv a0 10)) 10) + 1)) then (if (wrap64 ((Int.tmod (wrap64 (Int.tdiv a0 10)) 10) + 1)) ≤ 10 then (if (((⟨#[48, 49, 50, 51, 52, 53, 54, 55, 56, 57]⟩ : ByteArray).extract ((wrap64 (Int.tdiv a0 1000)) : Int).toNat ((wrap64 ((wrap64 (Int.tdiv a0 1000)) + 1)) : Int).toNat) ++ ((⟨#[48, 49, 50, 51, 52, 53, 54, 55, 56, 57]⟩ : ByteArray).extract ((Int.tmod (wrap64 (Int.tdiv a0 100)) 10) : Int).toNat ((wrap64 ((Int.tmod (wrap64 (Int.tdiv a0 100)) 10) + 1)) : Int).toNat)).size + ((⟨#[48, 49, 50, 51, 52, 53, 54, 55, 56, 57]⟩ : ByteArray).extract ((Int.tmod (wrap64 (Int.tdiv a0 10)) 10) : Int).toNat ((wrap64 ((Int.tmod (wrap64 (Int.tdiv a0 10)) 10) + 1)) : Int).toNat).size ≤ 9223372036854775807 then (if 0 ≤ (Int.tmod a0 10) then (if (Int.tmod a0 10) ≤ (wrap64 ((Int.tmod a0 10) + 1)) then (if (wrap64 ((Int.tmod a0 10) + 1)) ≤ 10 then (if ((((⟨#[48, 49, 50, 51, 52, 53, 54, 55, 56, 57]⟩ : ByteArray).extract ((wrap64 (Int.tdiv a0 1000)) : Int).toNat ((wrap64 ((wrap64 (Int.tdiv a0 1000)) + 1)) : Int).toNat) ++ ((⟨#[48, 49, 50, 51, 52, 53, 54, 55, 56, 57]⟩ : ByteArray).extract ((Int.tmod (wrap64 (Int.tdiv a0 100)) 10) : Int).toNat ((wrap64 ((Int.tmod (wrap64 (Int.tdiv a0 100)) 10) + 1)) : Int).toNat)) ++ ((⟨#[48, 49, 50, 51, 52, 53, 54, 55, 56, 57]⟩ : ByteArray).extract ((Int.tmod (wrap64 (Int.tdiv a0 10)) 10) : Int).toNat ((wrap64 ((Int.tmod (wrap64 (Int.tdiv a0 10)) 10) + 1)) : Int).toNat)).size + ((⟨#[48, 49, 50, 51, 52, 53, 54, 55, 56, 57]⟩ : ByteArray).extract ((Int.tmod a0 10) : Int).toNat ((wrap64 ((Int.tmod a0 10) + 1)) : Int).toNat).size ≤ 9223372036854775807 then (some (((((⟨#[48, 49, 50, 51, 52, 53, 54, 55, 56, 57]⟩ : ByteArray).extract ((wrap64 (Int.tdiv a0 1000)) : Int).toNat ((wrap64 ((wrap64 (Int.tdiv a0 1000)) + 1)) : Int).toNat) ++ ((⟨#[48, 49, 50, 51, 52, 53, 54, 55, 56, 57]⟩ : ByteArray).extract ((Int.tmod (wrap64 (Int.tdiv a0 100)) 10) : Int).toNat ((wrap64 ((Int.tmod (wrap64 (Int.tdiv a0 100)) 10) + 1)) : Int).toNat)) ++ ((⟨#[48, 49, 50, 51, 52, 53, 54, 55, 56, 57]⟩ : ByteArray).extract ((Int.tmod (wrap64 (Int.tdiv a0 10)) 10) : Int).toNat ((wrap64 ((Int.tmod (wrap64 (Int.tdiv a0 10)) 10) + 1)) : Int).toNat)) ++ ((⟨#[48, 49, 50, 51, 52, 53, 54, 55, 56, 57]⟩ : ByteArray).extract ((Int.tmod a0 10) : Int).toNat ((wrap64 ((Int.tmod a0 10) + 1)) : Int).toNat))) else (none)) else (none)) else (none)) else (none)) else (none)) else (none)) else (none)) else (none)) else (none)) else (none)) else (none)) else (none)) else (none)) else (none)) else (none)
set_option maxHeartbeats 8000000 in
set_option maxRecDepth 100000 in
theorem fluxionref04_four.calls (a0 : Int) (r : ByteArray) (w : World) (h : fluxionref04_four.f a0 = some r) :
    Calls Tryz.prog 67 #[.int .i64 a0] w fun e w' => e = .returned (.string r) ∧ Drawn0 w w' := by
  have H : (if 0 ≤ (wrap64 (Int.tdiv a0 1000)) then (if (wrap64 (Int.tdiv a0 1000)) ≤ (wrap64 ((wrap64 (Int.tdiv a0 1000)) + 1)) then (if (wrap64 ((wrap64 (Int.tdiv a0 1000)) + 1)) ≤ 10 then (if 0 ≤ (Int.tmod (wrap64 (Int.tdiv a0 100)) 10) then (if (Int.tmod (wrap64 (Int.tdiv a0 100)) 10) ≤ (wrap64 ((Int.tmod (wrap64 (Int.tdiv a0 100)) 10) + 1)) then (if (wrap64 ((Int.tmod (wrap64 (Int.tdiv a0 100)) 10) + 1)) ≤ 10 then (if ((⟨#[48, 49, 50, 51, 52, 53, 54, 55, 56, 57]⟩ : ByteArray).extract ((wrap64 (Int.tdiv a0 1000)) : Int).toNat ((wrap64 ((wrap64 (Int.tdiv a0 1000)) + 1)) : Int).toNat).size + ((⟨#[48, 49, 50, 51, 52, 53, 54, 55, 56, 57]⟩ : ByteArray).extract ((Int.tmod (wrap64 (Int.tdiv a0 100)) 10) : Int).toNat ((wrap64 ((Int.tmod (wrap64 (Int.tdiv a0 100)) 10) + 1)) : Int).toNat).size ≤ 9223372036854775807 then (if 0 ≤ (Int.tmod (wrap64 (Int.tdiv a0 10)) 10) then (if (Int.tmod (wrap64 (Int.tdiv a0 10)) 10) ≤ (wrap64 ((Int.tmod (wrap64 (Int.tdiv a0 10)) 10) + 1)) then (if (wrap64 ((Int.tmod (wrap64 (Int.tdiv a0 10)) 10) + 1)) ≤ 10 then (if (((⟨#[48, 49, 50, 51, 52, 53, 54, 55, 56, 57]⟩ : ByteArray).extract ((wrap64 (Int.tdiv a0 1000)) : Int).toNat ((wrap64 ((wrap64 (Int.tdiv a0 1000)) + 1)) : Int).toNat) ++ ((⟨#[48, 49, 50, 51, 52, 53, 54, 55, 56, 57]⟩ : ByteArray).extract ((Int.tmod (wrap64 (Int.tdiv a0 100)) 10) : Int).toNat ((wrap64 ((Int.tmod (wrap64 (Int.tdiv a0 100)) 10) + 1)) : Int).toNat)).size + ((⟨#[48, 49, 50, 51, 52, 53, 54, 55, 56, 57]⟩ : ByteArray).extract ((Int.tmod (wrap64 (Int.tdiv a0 10)) 10) : Int).toNat ((wrap64 ((Int.tmod (wrap64 (Int.tdiv a0 10)) 10) + 1)) : Int).toNat).size ≤ 9223372036854775807 then (if 0 ≤ (Int.tmod a0 10) then (if (Int.tmod a0 10) ≤ (wrap64 ((Int.tmod a0 10) + 1)) then (if (wrap64 ((Int.tmod a0 10) + 1)) ≤ 10 then (if ((((⟨#[48, 49, 50, 51, 52, 53, 54, 55, 56, 57]⟩ : ByteArray).extract ((wrap64 (Int.tdiv a0 1000)) : Int).toNat ((wrap64 ((wrap64 (Int.tdiv a0 1000)) + 1)) : Int).toNat) ++ ((⟨#[48, 49, 50, 51, 52, 53, 54, 55, 56, 57]⟩ : ByteArray).extract ((Int.tmod (wrap64 (Int.tdiv a0 100)) 10) : Int).toNat ((wrap64 ((Int.tmod (wrap64 (Int.tdiv a0 100)) 10) + 1)) : Int).toNat)) ++ ((⟨#[48, 49, 50, 51, 52, 53, 54, 55, 56, 57]⟩ : ByteArray).extract ((Int.tmod (wrap64 (Int.tdiv a0 10)) 10) : Int).toNat ((wrap64 ((Int.tmod (wrap64 (Int.tdiv a0 10)) 10) + 1)) : Int).toNat)).size + ((⟨#[48, 49, 50, 51, 52, 53, 54, 55, 56, 57]⟩ : ByteArray).extract ((Int.tmod a0 10) : Int).toNat ((wrap64 ((Int.tmod a0 10) + 1)) : Int).toNat).size ≤ 9223372036854775807 then (some (((((⟨#[48, 49, 50, 51, 52, 53, 54, 55, 56, 57]⟩ : ByteArray).extract ((wrap64 (Int.tdiv a0 1000)) : Int).toNat ((wrap64 ((wrap64 (Int.tdiv a0 1000)) + 1)) : Int).toNat) ++ ((⟨#[48, 49, 50, 51, 52, 53, 54, 55, 56, 57]⟩ : ByteArray).extract ((Int.tmod (wrap64 (Int.tdiv a0 100)) 10) : Int).toNat ((wrap64 ((Int.tmod (wrap64 (Int.tdiv a0 100)) 10) + 1)) : Int).toNat)) ++ ((⟨#[48, 49, 50, 51, 52, 53, 54, 55, 56, 57]⟩ : ByteArray).extract ((Int.tmod (wrap64 (Int.tdiv a0 10)) 10) : Int).toNat ((wrap64 ((Int.tmod (wrap64 (Int.tdiv a0 10)) 10) + 1)) : Int).toNat)) ++ ((⟨#[48, 49, 50, 51, 52, 53, 54, 55, 56, 57]⟩ : ByteArray).extract ((Int.tmod a0 10) : Int).toNat ((wrap64 ((Int.tmod a0 10) + 1)) : Int).toNat))) else (none)) else (none)) else (none)) else (none)) else (none)) else (none)) else (none)) else (none)) else (none)) else (none)) else (none)) else (none)) else (none)) else (none)) else (none)) = some r := h
  clear h
  obtain ⟨ji2, hji2⟩ : ∃ j_ : Int, (wrap64 (Int.tdiv a0 1000)) = j_ := ⟨_, rfl⟩
  first | rewrite [hji2] at H | simp only [hji2] at H
  have hji2w : (IntKind.i64.wrap (Int.tdiv a0 1000)) = ji2 := (i64_w _).trans hji2
  by_cases c3 : 0 ≤ (ji2)
  · rw [if_pos c3] at H
    have c3b0 := eq_true c3
    have c3b1 : decide (0 ≤ (ji2)) = true := decide_eq_true c3
    clear c3
    by_cases c4 : (ji2) ≤ (wrap64 ((ji2) + 1))
    · rw [if_pos c4] at H
      have c4b0 := eq_true c4
      have c4b1 : decide ((ji2) ≤ (wrap64 ((ji2) + 1))) = true := decide_eq_true c4
      by_cases c5 : (wrap64 ((ji2) + 1)) ≤ 10
      · rw [if_pos c5] at H
        have c5b0 := eq_true c5
        have c5b1 : decide ((wrap64 ((ji2) + 1)) ≤ 10) = true := decide_eq_true c5
        obtain ⟨ji6, hji6⟩ : ∃ j_ : Int, (Int.tmod (wrap64 (Int.tdiv a0 100)) 10) = j_ := ⟨_, rfl⟩
        first | rewrite [hji6] at H | simp only [hji6] at H
        by_cases c7 : 0 ≤ (ji6)
        · rw [if_pos c7] at H
          have c7b0 := eq_true c7
          have c7b1 : decide (0 ≤ (ji6)) = true := decide_eq_true c7
          clear c7
          by_cases c8 : (ji6) ≤ (wrap64 ((ji6) + 1))
          · rw [if_pos c8] at H
            have c8b0 := eq_true c8
            have c8b1 : decide ((ji6) ≤ (wrap64 ((ji6) + 1))) = true := decide_eq_true c8
            by_cases c9 : (wrap64 ((ji6) + 1)) ≤ 10
            · rw [if_pos c9] at H
              have c9b0 := eq_true c9
              have c9b1 : decide ((wrap64 ((ji6) + 1)) ≤ 10) = true := decide_eq_true c9
              by_cases c10 : ((⟨#[48, 49, 50, 51, 52, 53, 54, 55, 56, 57]⟩ : ByteArray).extract ((ji2) : Int).toNat ((wrap64 ((ji2) + 1)) : Int).toNat).size + ((⟨#[48, 49, 50, 51, 52, 53, 54, 55, 56, 57]⟩ : ByteArray).extract ((ji6) : Int).toNat ((wrap64 ((ji6) + 1)) : Int).toNat).size ≤ 9223372036854775807
              · rw [if_pos c10] at H
                have c10b0 := eq_true c10
                have c10b1 : decide (((⟨#[48, 49, 50, 51, 52, 53, 54, 55, 56, 57]⟩ : ByteArray).extract ((ji2) : Int).toNat ((wrap64 ((ji2) + 1)) : Int).toNat).size + ((⟨#[48, 49, 50, 51, 52, 53, 54, 55, 56, 57]⟩ : ByteArray).extract ((ji6) : Int).toNat ((wrap64 ((ji6) + 1)) : Int).toNat).size ≤ 9223372036854775807) = true := decide_eq_true c10
                try have c10b2 : (9223372036854775807 < ((⟨#[48, 49, 50, 51, 52, 53, 54, 55, 56, 57]⟩ : ByteArray).extract ((ji2) : Int).toNat ((wrap64 ((ji2) + 1)) : Int).toNat).size + ((⟨#[48, 49, 50, 51, 52, 53, 54, 55, 56, 57]⟩ : ByteArray).extract ((ji6) : Int).toNat ((wrap64 ((ji6) + 1)) : Int).toNat).size) = False := eq_false (Nat.not_lt.2 c10)
                obtain ⟨ji11, hji11⟩ : ∃ j_ : Int, (Int.tmod (wrap64 (Int.tdiv a0 10)) 10) = j_ := ⟨_, rfl⟩
                first | rewrite [hji11] at H | simp only [hji11] at H
                by_cases c12 : 0 ≤ (ji11)
                · rw [if_pos c12] at H
                  have c12b0 := eq_true c12
                  have c12b1 : decide (0 ≤ (ji11)) = true := decide_eq_true c12
                  clear c12
                  by_cases c13 : (ji11) ≤ (wrap64 ((ji11) + 1))
                  · rw [if_pos c13] at H
                    have c13b0 := eq_true c13
                    have c13b1 : decide ((ji11) ≤ (wrap64 ((ji11) + 1))) = true := decide_eq_true c13
                    by_cases c14 : (wrap64 ((ji11) + 1)) ≤ 10
                    · rw [if_pos c14] at H
                      have c14b0 := eq_true c14
                      have c14b1 : decide ((wrap64 ((ji11) + 1)) ≤ 10) = true := decide_eq_true c14
                      by_cases c15 : (((⟨#[48, 49, 50, 51, 52, 53, 54, 55, 56, 57]⟩ : ByteArray).extract ((ji2) : Int).toNat ((wrap64 ((ji2) + 1)) : Int).toNat) ++ ((⟨#[48, 49, 50, 51, 52, 53, 54, 55, 56, 57]⟩ : ByteArray).extract ((ji6) : Int).toNat ((wrap64 ((ji6) + 1)) : Int).toNat)).size + ((⟨#[48, 49, 50, 51, 52, 53, 54, 55, 56, 57]⟩ : ByteArray).extract ((ji11) : Int).toNat ((wrap64 ((ji11) + 1)) : Int).toNat).size ≤ 9223372036854775807
                      · rw [if_pos c15] at H
                        have c15b0 := eq_true c15
                        have c15b1 : decide ((((⟨#[48, 49, 50, 51, 52, 53, 54, 55, 56, 57]⟩ : ByteArray).extract ((ji2) : Int).toNat ((wrap64 ((ji2) + 1)) : Int).toNat) ++ ((⟨#[48, 49, 50, 51, 52, 53, 54, 55, 56, 57]⟩ : ByteArray).extract ((ji6) : Int).toNat ((wrap64 ((ji6) + 1)) : Int).toNat)).size + ((⟨#[48, 49, 50, 51, 52, 53, 54, 55, 56, 57]⟩ : ByteArray).extract ((ji11) : Int).toNat ((wrap64 ((ji11) + 1)) : Int).toNat).size ≤ 9223372036854775807) = true := decide_eq_true c15
                        try have c15b2 : (9223372036854775807 < (((⟨#[48, 49, 50, 51, 52, 53, 54, 55, 56, 57]⟩ : ByteArray).extract ((ji2) : Int).toNat ((wrap64 ((ji2) + 1)) : Int).toNat) ++ ((⟨#[48, 49, 50, 51, 52, 53, 54, 55, 56, 57]⟩ : ByteArray).extract ((ji6) : Int).toNat ((wrap64 ((ji6) + 1)) : Int).toNat)).size + ((⟨#[48, 49, 50, 51, 52, 53, 54, 55, 56, 57]⟩ : ByteArray).extract ((ji11) : Int).toNat ((wrap64 ((ji11) + 1)) : Int).toNat).size) = False := eq_false (Nat.not_lt.2 c15)
                        obtain ⟨ji16, hji16⟩ : ∃ j_ : Int, (Int.tmod a0 10) = j_ := ⟨_, rfl⟩
                        first | rewrite [hji16] at H | simp only [hji16] at H
                        by_cases c17 : 0 ≤ (ji16)
                        · rw [if_pos c17] at H
                          have c17b0 := eq_true c17
                          have c17b1 : decide (0 ≤ (ji16)) = true := decide_eq_true c17
                          clear c17
                          by_cases c18 : (ji16) ≤ (wrap64 ((ji16) + 1))
                          · rw [if_pos c18] at H
                            have c18b0 := eq_true c18
                            have c18b1 : decide ((ji16) ≤ (wrap64 ((ji16) + 1))) = true := decide_eq_true c18
                            by_cases c19 : (wrap64 ((ji16) + 1)) ≤ 10
                            · rw [if_pos c19] at H
                              have c19b0 := eq_true c19
                              have c19b1 : decide ((wrap64 ((ji16) + 1)) ≤ 10) = true := decide_eq_true c19
                              by_cases c20 : ((((⟨#[48, 49, 50, 51, 52, 53, 54, 55, 56, 57]⟩ : ByteArray).extract ((ji2) : Int).toNat ((wrap64 ((ji2) + 1)) : Int).toNat) ++ ((⟨#[48, 49, 50, 51, 52, 53, 54, 55, 56, 57]⟩ : ByteArray).extract ((ji6) : Int).toNat ((wrap64 ((ji6) + 1)) : Int).toNat)) ++ ((⟨#[48, 49, 50, 51, 52, 53, 54, 55, 56, 57]⟩ : ByteArray).extract ((ji11) : Int).toNat ((wrap64 ((ji11) + 1)) : Int).toNat)).size + ((⟨#[48, 49, 50, 51, 52, 53, 54, 55, 56, 57]⟩ : ByteArray).extract ((ji16) : Int).toNat ((wrap64 ((ji16) + 1)) : Int).toNat).size ≤ 9223372036854775807
                              · rw [if_pos c20] at H
                                have c20b0 := eq_true c20
                                have c20b1 : decide (((((⟨#[48, 49, 50, 51, 52, 53, 54, 55, 56, 57]⟩ : ByteArray).extract ((ji2) : Int).toNat ((wrap64 ((ji2) + 1)) : Int).toNat) ++ ((⟨#[48, 49, 50, 51, 52, 53, 54, 55, 56, 57]⟩ : ByteArray).extract ((ji6) : Int).toNat ((wrap64 ((ji6) + 1)) : Int).toNat)) ++ ((⟨#[48, 49, 50, 51, 52, 53, 54, 55, 56, 57]⟩ : ByteArray).extract ((ji11) : Int).toNat ((wrap64 ((ji11) + 1)) : Int).toNat)).size + ((⟨#[48, 49, 50, 51, 52, 53, 54, 55, 56, 57]⟩ : ByteArray).extract ((ji16) : Int).toNat ((wrap64 ((ji16) + 1)) : Int).toNat).size ≤ 9223372036854775807) = true := decide_eq_true c20
                                try have c20b2 : (9223372036854775807 < ((((⟨#[48, 49, 50, 51, 52, 53, 54, 55, 56, 57]⟩ : ByteArray).extract ((ji2) : Int).toNat ((wrap64 ((ji2) + 1)) : Int).toNat) ++ ((⟨#[48, 49, 50, 51, 52, 53, 54, 55, 56, 57]⟩ : ByteArray).extract ((ji6) : Int).toNat ((wrap64 ((ji6) + 1)) : Int).toNat)) ++ ((⟨#[48, 49, 50, 51, 52, 53, 54, 55, 56, 57]⟩ : ByteArray).extract ((ji11) : Int).toNat ((wrap64 ((ji11) + 1)) : Int).toNat)).size + ((⟨#[48, 49, 50, 51, 52, 53, 54, 55, 56, 57]⟩ : ByteArray).extract ((ji16) : Int).toNat ((wrap64 ((ji16) + 1)) : Int).toNat).size) = False := eq_false (Nat.not_lt.2 c20)
                                obtain rfl := Option.some.inj H
                                go_enter Tryz.func67, Tryz.ntmps67
                                go_wp2
                                repeat (go_quiet (fail); try go_wp2)
                                go_ret
                                exact ⟨by first | rfl | (simp; done) | (simp only [← hji2, ← hji6, ← hji11, ← hji16] <;> (first | rfl | simp)) | (simp [*]; done), by repeat (first | exact Drawn0.refl _ | apply Drawn0.step)⟩
                              · rw [if_neg c20] at H
                                exact absurd H (by simp)
                            · rw [if_neg c19] at H
                              exact absurd H (by simp)
                          · rw [if_neg c18] at H
                            exact absurd H (by simp)
                        · rw [if_neg c17] at H
                          exact absurd H (by simp)
                      · rw [if_neg c15] at H
                        exact absurd H (by simp)
                    · rw [if_neg c14] at H
                      exact absurd H (by simp)
                  · rw [if_neg c13] at H
                    exact absurd H (by simp)
                · rw [if_neg c12] at H
                  exact absurd H (by simp)
              · rw [if_neg c10] at H
                exact absurd H (by simp)
            · rw [if_neg c9] at H
              exact absurd H (by simp)
          · rw [if_neg c8] at H
            exact absurd H (by simp)
        · rw [if_neg c7] at H
          exact absurd H (by simp)
      · rw [if_neg c5] at H
        exact absurd H (by simp)
    · rw [if_neg c4] at H
      exact absurd H (by simp)
  · rw [if_neg c3] at H
    exact absurd H (by simp)

mutual
def fluxionref04_Nat.l0 : Nat → List Int → ByteArray → Int → Option (ByteArray)
  | 0, _, _, _ => none
  | k + 1, x0, x3, x4 => if x4 ≥ 0 then (if 0 ≤ x4 then (if x4 < (x0.length : Int) then ((fluxionref04_four.f (rd x0 x4)).bind fun t319 => (if x3.size + t319.size ≤ 9223372036854775807 then (fluxionref04_Nat.l0 k x0 (x3 ++ t319) (wrap64 (x4 - 1))) else (none))) else (none)) else (none)) else (fluxionref04_Nat.l1 k x3 0)
def fluxionref04_Nat.l1 : Nat → ByteArray → Int → Option (ByteArray)
  | 0, _, _ => none
  | k + 1, x3, x5 => if 0 ≤ x5 then (if x5 < (x3.size : Int) then (if (bt x3 x5) = 48 then (fluxionref04_Nat.l1 k x3 (wrap64 (x5 + 1))) else (if x5 ≤ (x3.size : Int) then (some (x3.extract (x5 : Int).toNat x3.size)) else (none))) else (none)) else (none)
end
def fluxionref04_Nat.f (k : Nat) (l0 : List Int) : Option (ByteArray) := if (l0.length : Int) = 0 then (some (⟨#[48]⟩ : ByteArray)) else (fluxionref04_Nat.l0 k l0 (⟨#[]⟩ : ByteArray) (wrap64 ((l0.length : Int) - 1)))
set_option maxHeartbeats 8000000 in
set_option maxRecDepth 100000 in
theorem fluxionref04_Nat.calls (k : Nat) (A0 : Option Addr) (c0 : Nat) (l0 : List Int) (r : ByteArray) (w : World) (hr0 : Kd.C (Kd.int .i64) w A0 l0.length l0) (hc0 : l0.length ≤ c0) (h : fluxionref04_Nat.f k l0 = some r) :
    Calls Tryz.prog 32 #[.slice A0 l0.length c0] w fun e w' => e = .returned (.string r) ∧ Drawn0 w w' := by
  have HR0 := Aside0.mk hr0
  have HC0 := Aside0.mk hc0
  clear hr0 hc0
  have H : (if (l0.length : Int) = 0 then (some (⟨#[48]⟩ : ByteArray)) else (fluxionref04_Nat.l0 k l0 (⟨#[]⟩ : ByteArray) (wrap64 ((l0.length : Int) - 1)))) = some r := h
  clear h
  by_cases c2 : (l0.length : Int) = 0
  · rw [if_pos c2] at H
    have c2b0 : ((l0.length : Int) == 0) = true := beq_iff_eq.mpr c2
    have c2b1 : ((l0.length : Int) != 0) = false := bne_eq_false_iff_eq.mpr c2
    clear c2
    obtain rfl := Option.some.inj H
    go_enter Tryz.func32, Tryz.ntmps32
    go_wp2
    go_ret
    exact ⟨by first | rfl | (simp; done) | (simp [*]; done), by repeat (first | exact Drawn0.refl _ | apply Drawn0.step)⟩
  · rw [if_neg c2] at H
    have c2b0 : ((l0.length : Int) == 0) = false := beq_eq_false_iff_ne.mpr c2
    have c2b1 : ((l0.length : Int) != 0) = true := bne_iff_ne.mpr c2
    have c2b2 : ¬ (l0 = []) := fun h_ => c2 (by rw [h_]; rfl)
    have H' := Aside0.mk H
    clear H
    go_enter Tryz.func32, Tryz.ntmps32
    go_wp2
    go_loopg [3, 4] k (fun kq v3 v4 w' => ∃ (x3_1 : ByteArray) (x4_1 : Int), v3 = .string x3_1 ∧ v4 = .int .i64 x4_1 ∧ Aside0 (fluxionref04_Nat.l0 kq l0 x3_1 x4_1 = some r) ∧ Aside0 (kq ≤ k) ∧ Drawn0 w w')
    case atStart => exact ⟨((⟨#[]⟩ : ByteArray)), (wrap64 ((l0.length : Int) - 1)), (by first | rfl | (simp; done) | (simp [*]; done)), (by first | rfl | (simp; done) | (simp [*]; done)), H', ⟨Nat.le_refl _⟩, by repeat (first | exact Drawn0.refl _ | apply Drawn0.step)⟩
    case round =>
      clear H'
      try clear c2
      try clear c2b0
      try clear c2b1
      try clear c2b2
      try clear p2
      obtain ⟨x3_1, x4_1, rfl, rfl, HA, HK1, ⟨m1, rfl⟩⟩ := hrel
      cases gk with
      | zero => exact absurd HA.out (by simp [fluxionref04_Nat.l0])
      | succ k1 =>
        have H := HA.out
        clear HA
        simp only [fluxionref04_Nat.l0] at H
        by_cases c3 : x4_1 ≥ 0
        · rw [if_pos c3] at H
          have c3b0 : decide (0 ≤ x4_1) = true := decide_eq_true c3
          clear c3
          by_cases c4 : 0 ≤ x4_1
          · rw [if_pos c4] at H
            have c4b0 : decide (0 ≤ x4_1) = true := decide_eq_true c4
            clear c4
            by_cases c5 : x4_1 < (l0.length : Int)
            · rw [if_pos c5] at H
              have c5b0 : decide (x4_1 < (l0.length : Int)) = true := decide_eq_true c5
              clear c5
              replace H := Option.bind_eq_some_iff.mp H
              obtain ⟨t319, A60, H⟩ := H
              try dsimp only at H
              have A6 := Aside0.mk A60
              clear A60
              by_cases c7 : x3_1.size + t319.size ≤ 9223372036854775807
              · rw [if_pos c7] at H
                have c7b0 := eq_true c7
                have c7b1 : decide (x3_1.size + t319.size ≤ 9223372036854775807) = true := decide_eq_true c7
                try have c7b2 : (9223372036854775807 < x3_1.size + t319.size) = False := eq_false (Nat.not_lt.2 c7)
                have H' := Aside0.mk H
                clear H
                have p318 : 0 ≤ (x4_1 : Int) := of_decide_eq_true (by first | (with_reducible assumption) | assumption)
                have q318 : x4_1 < (l0.length : Int) := of_decide_eq_true (by first | (with_reducible assumption) | assumption)
                obtain ⟨ad318, e318, hx318_0⟩ := Kd.at_int HR0.out x4_1 p318 q318
                cases e318
                replace p318 := eq_true p318
                replace q318 := eq_true q318
                go_wp2_with (first | ((with_reducible refine gate_callee (f := 67) rfl ?_); refine goesL_ (some 21) rfl rfl Tryz.func67 (by kernel_rfl) rfl #[.int .i64 (rd l0 x4_1)] rfl (by (try simp only [List.map_toArray, List.map_cons, List.map_nil]); first | done | rfl | (simp only [List.length_drop, List.length_take]; rfl)) ?_; (with_reducible refine (fluxionref04_four.calls (rd l0 x4_1) t319 _ A6.out).mono ?_); rintro e w' ⟨rfl, ⟨nd, rfl⟩⟩; refine ⟨_, rfl, ?_⟩))
                go_roundg k1
                case measure => have := HK1.out; omega
                case rel => exact ⟨(x3_1 ++ t319), (wrap64 (x4_1 - 1)), (by first | rfl | (simp; done) | (simp [*]; done)), (by first | rfl | (simp; done) | (simp [*]; done)), H', ⟨by have := HK1.out; omega⟩, by repeat (first | exact Drawn0.refl _ | apply Drawn0.step)⟩
              · rw [if_neg c7] at H
                exact absurd H (by simp)
            · rw [if_neg c5] at H
              exact absurd H (by simp)
          · rw [if_neg c4] at H
            exact absurd H (by simp)
        · rw [if_neg c3] at H
          have c3b0 : decide (0 ≤ x4_1) = false := decide_eq_false c3
          clear c3
          have H' := Aside0.mk H
          clear H
          go_wp2
          go_loopg [5] k1 (fun kq v5 w' => ∃ (x5_2 : Int), v5 = .int .i64 x5_2 ∧ Aside0 (fluxionref04_Nat.l1 kq x3_1 x5_2 = some r) ∧ Aside0 (kq ≤ k1) ∧ Drawn0 w w')
          case atStart => exact ⟨(0), (by first | rfl | (simp; done) | (simp [*]; done)), H', ⟨Nat.le_refl _⟩, by repeat (first | exact Drawn0.refl _ | apply Drawn0.step)⟩
          case round =>
            clear H'
            try clear c2
            try clear c2b0
            try clear c2b1
            try clear c2b2
            try clear p2
            try clear c3
            try clear c3b0
            try clear p3
            try clear q3
            try clear hx3
            try clear c4
            try clear c4b0
            try clear c5
            try clear c5b0
            try clear c6
            try clear p6
            try clear c7
            try clear c7b0
            try clear c7b1
            try clear c7b2
            try clear hx318_0
            try clear p2
            try clear p318
            try clear q318
            obtain ⟨x5_2, rfl, HA, HK2, ⟨m2, rfl⟩⟩ := hrel
            cases gk with
            | zero => exact absurd HA.out (by simp [fluxionref04_Nat.l1])
            | succ k2 =>
              have H := HA.out
              clear HA
              simp only [fluxionref04_Nat.l1] at H
              by_cases c8 : 0 ≤ x5_2
              · rw [if_pos c8] at H
                have c8b0 : decide (0 ≤ x5_2) = true := decide_eq_true c8
                clear c8
                by_cases c9 : x5_2 < (x3_1.size : Int)
                · rw [if_pos c9] at H
                  have c9b0 : decide (x5_2 < (x3_1.size : Int)) = true := decide_eq_true c9
                  clear c9
                  by_cases c11 : (bt x3_1 x5_2) = 48
                  · rw [if_pos c11] at H
                    have c11b0 : ((bt x3_1 x5_2) == 48) = true := beq_iff_eq.mpr c11
                    have c11b1 : ((bt x3_1 x5_2) != 48) = false := bne_eq_false_iff_eq.mpr c11
                    clear c11
                    have H' := Aside0.mk H
                    clear H
                    have p10 : 0 ≤ (x5_2 : Int) := of_decide_eq_true (by first | (with_reducible assumption) | assumption)
                    have q10 : x5_2 < (x3_1.size : Int) := of_decide_eq_true (by first | (with_reducible assumption) | assumption)
                    have hx10 := bt_at x3_1 x5_2
                    replace p10 := eq_true p10
                    replace q10 := eq_true q10
                    go_wp2
                    go_roundg k2
                    case measure => have := HK1.out; have := HK2.out; omega
                    case rel => exact ⟨(wrap64 (x5_2 + 1)), (by first | rfl | (simp; done) | (simp [*]; done)), H', ⟨by have := HK1.out; have := HK2.out; omega⟩, by repeat (first | exact Drawn0.refl _ | apply Drawn0.step)⟩
                  · rw [if_neg c11] at H
                    have c11b0 : ((bt x3_1 x5_2) == 48) = false := beq_eq_false_iff_ne.mpr c11
                    have c11b1 : ((bt x3_1 x5_2) != 48) = true := bne_iff_ne.mpr c11
                    have c12b0 := eq_true (of_decide_eq_true (by first | (with_reducible assumption) | assumption) : 0 ≤ x5_2)
                    by_cases c13 : x5_2 ≤ (x3_1.size : Int)
                    · rw [if_pos c13] at H
                      have c13b0 := eq_true c13
                      have c13b1 : decide (x5_2 ≤ (x3_1.size : Int)) = true := decide_eq_true c13
                      clear c13
                      obtain rfl := Option.some.inj H
                      have p10 : 0 ≤ (x5_2 : Int) := of_decide_eq_true (by first | (with_reducible assumption) | assumption)
                      have q10 : x5_2 < (x3_1.size : Int) := of_decide_eq_true (by first | (with_reducible assumption) | assumption)
                      have hx10 := bt_at x3_1 x5_2
                      replace p10 := eq_true p10
                      replace q10 := eq_true q10
                      go_wp2
                      go_ret
                      exact ⟨by first | rfl | (simp; done) | (simp [*]; done), by repeat (first | exact Drawn0.refl _ | apply Drawn0.step)⟩
                    · rw [if_neg c13] at H
                      exact absurd H (by simp)
                · rw [if_neg c9] at H
                  exact absurd H (by simp)
              · rw [if_neg c8] at H
                exact absurd H (by simp)

def fluxionref04_Rat.j0 : Nat → ByteArray → Bool → List Int → List Int → Option (ByteArray)
  | 0, _, _, _, _ => none
  | k + 1, x3, x321000, x321001, x321002 => (fluxionref04_Nat.f k x321002).bind fun t322 => (if t322.toList = ([49] : List UInt8) then (some x3) else (if x3.size + 1 ≤ 9223372036854775807 then ((fluxionref04_Nat.f k x321002).bind fun t323 => (if (x3 ++ (⟨#[47]⟩ : ByteArray)).size + t323.size ≤ 9223372036854775807 then (some ((x3 ++ (⟨#[47]⟩ : ByteArray)) ++ t323)) else (none))) else (none)))
def fluxionref04_Rat.f (k : Nat) (a0_0 : Bool) (l0_1 : List Int) (l0_2 : List Int) : Option (ByteArray) := (fluxionref04_Nat.f k l0_1).bind fun t321 => (if a0_0 = true then (if 1 + t321.size ≤ 9223372036854775807 then (fluxionref04_Rat.j0 k ((⟨#[45]⟩ : ByteArray) ++ t321) a0_0 l0_1 l0_2) else (none)) else (fluxionref04_Rat.j0 k t321 a0_0 l0_1 l0_2))
set_option maxHeartbeats 8000000 in
set_option maxRecDepth 100000 in
theorem fluxionref04_Rat.calls (k : Nat) (a0_0 : Bool) (A0_1 : Option Addr) (c0_1 : Nat) (l0_1 : List Int) (A0_2 : Option Addr) (c0_2 : Nat) (l0_2 : List Int) (r : ByteArray) (w : World) (hr0_1 : Kd.C (Kd.int .i64) w A0_1 l0_1.length l0_1) (hc0_1 : l0_1.length ≤ c0_1) (hr0_2 : Kd.C (Kd.int .i64) w A0_2 l0_2.length l0_2) (hc0_2 : l0_2.length ≤ c0_2) (h : fluxionref04_Rat.f k a0_0 l0_1 l0_2 = some r) :
    Calls Tryz.prog 10 #[.agg #[.bool a0_0, .slice A0_1 l0_1.length c0_1, .slice A0_2 l0_2.length c0_2]] w fun e w' => e = .returned (.string r) ∧ Below w.heap.size w w' := by
  have hu32 := Tryz.underlying32
  have HR0_1 := Aside0.mk hr0_1
  have HC0_1 := Aside0.mk hc0_1
  clear hr0_1 hc0_1
  have HR0_2 := Aside0.mk hr0_2
  have HC0_2 := Aside0.mk hc0_2
  clear hr0_2 hc0_2
  have HB := Aside0.mk (Below.refl w.heap.size w)
  have H : ((fluxionref04_Nat.f k l0_1).bind fun t321 => (if a0_0 = true then (if 1 + t321.size ≤ 9223372036854775807 then (fluxionref04_Rat.j0 k ((⟨#[45]⟩ : ByteArray) ++ t321) a0_0 l0_1 l0_2) else (none)) else (fluxionref04_Rat.j0 k t321 a0_0 l0_1 l0_2))) = some r := h
  clear h
  replace H := Option.bind_eq_some_iff.mp H
  obtain ⟨t321, A20, H⟩ := H
  try dsimp only at H
  have A2 := Aside0.mk A20
  clear A20
  have HC3 := Aside0.mk H
  clear H
  go_enter Tryz.func10, Tryz.ntmps10
  go_upto_if 8 with (first | ((with_reducible refine gate_dst (N := 1) rfl ?_); refine box_event ?hg (N := 1) ?hd (cs := #[.bool a0_0, .slice A0_1 l0_1.length c0_1, .slice A0_2 l0_2.length c0_2]) (t := 32) ?hr ?_; (case hd => rfl); (case hg => rfl); (case hr => first | (go_simp; done) | (go_simp; rfl)); intro gb320 hg w4 hbox hb; have n0_ := Aside0.mk (below_step (by repeat (first | (with_reducible first | exact HB.out | apply below_alloc | apply pw_below_drewN | apply below_drew1) | exact HB.out)) hb); have n1_ := Aside0.mk (hbox); have n2_ := Aside0.mk ((by rw [hg]; exact (below_size (by repeat (first | (with_reducible first | exact HB.out | apply below_alloc | apply pw_below_drewN | apply below_drew1) | exact HB.out))) : w.heap.size ≤ gb320)); have n3_ := Aside0.mk ((by rw [hg]; exact (below_size (by repeat (first | (with_reducible first | exact HB.out | apply below_alloc | apply pw_below_drewN | apply below_drew1) | exact HB.out))) : w.heap.size ≤ gb320)); clear HB; have HB := n0_; have BK320 := n1_; have GW320 := n2_; have GE320 := n3_; clear n0_ n1_ n2_ n3_; clear hb hbox hg; have hcz5_0 : w4.cell? ⟨gb320, 0, none⟩ = some (.bool a0_0) := (blk_cell BK320.out 0).trans rfl; have hcz5_1 : w4.cell? ⟨gb320, 1, none⟩ = some (.slice A0_1 l0_1.length c0_1) := (blk_cell BK320.out 1).trans rfl; have hcz5_2 : w4.cell? ⟨gb320, 2, none⟩ = some (.slice A0_2 l0_2.length c0_2) := (blk_cell BK320.out 2).trans rfl; have hfz5_0 := blk_frozen BK320.out 0; have hfz5_1 := blk_frozen BK320.out 1; have hfz5_2 := blk_frozen BK320.out 2) | ((with_reducible refine gate_callee (f := 32) rfl ?_); refine goesL_ (some 6) rfl rfl Tryz.func32 (by kernel_rfl) rfl #[.slice A0_1 l0_1.length c0_1] rfl (by (try simp only [List.map_toArray, List.map_cons, List.map_nil]); first | done | rfl | (simp only [List.length_drop, List.length_take]; rfl)) ?_; (with_reducible refine (fluxionref04_Nat.calls k _ _ l0_1 t321 _ ?side1 ?side2 A2.out).mono ?_); (case side1 => repeat (first | exact (Kd.C_below HR0_1.out HB.out) | (with_reducible refine Kd.C_alloc ?_ _) | (with_reducible refine Kd.C_drewN ?_ _) | (with_reducible refine Kd.C_drew ?_))); (case side2 => exact HC0_1.out); rintro e w' ⟨rfl, ⟨nd, rfl⟩⟩; refine ⟨_, rfl, ?_⟩))
  (try simp only [Act.put, List.setIfInBounds_toArray, List.set_cons_zero, List.set_cons_succ])
  go_cut [3] (fun v3 wc => ∃ (kq : Nat) (x3_2 : ByteArray), v3 = .string x3_2 ∧ Aside0 (fluxionref04_Rat.j0 kq x3_2 a0_0 l0_1 l0_2 = some r) ∧ Aside0 (kq ≤ k) ∧ Aside0 (wc.heap[gb320]? = some (.cells #[.bool a0_0, (.slice A0_1 l0_1.length c0_1), (.slice A0_2 l0_2.length c0_2)] 32 (0, 0))) ∧ Aside0 (Below w.heap.size w wc))
  case first =>
    have H := HC3.out
    clear HC3
    by_cases c6 : a0_0 = true
    · subst c6
      have H1 : (if 1 + t321.size ≤ 9223372036854775807 then (fluxionref04_Rat.j0 k ((⟨#[45]⟩ : ByteArray) ++ t321) true l0_1 l0_2) else (none)) = some r := by rw [if_pos rfl] at H; exact H
      clear H
      have H := H1
      clear H1
      by_cases c7 : 1 + t321.size ≤ 9223372036854775807
      · rw [if_pos c7] at H
        have c7b0 := eq_true c7
        have c7b1 : decide (1 + t321.size ≤ 9223372036854775807) = true := decide_eq_true c7
        try have c7b2 : (9223372036854775807 < 1 + t321.size) = False := eq_false (Nat.not_lt.2 c7)
        have H' := Aside0.mk H
        clear H
        go_wp2
        go_meet
        case rel => exact ⟨_, ((⟨#[45]⟩ : ByteArray) ++ t321), (by first | rfl | (simp; done) | (simp [*]; done)), H', ⟨by first | omega | exact Nat.le_refl _⟩, ⟨by exact BK320.out⟩, ⟨by repeat (first | (with_reducible first | exact HB.out | apply below_alloc | apply pw_below_drewN | apply below_drew1 | refine below_set ?_ GE320.out) | exact HB.out)⟩⟩
      · rw [if_neg c7] at H
        exact absurd H (by simp)
    · replace c6 := Bool.eq_false_iff.mpr c6
      subst c6
      have H1 : (fluxionref04_Rat.j0 k t321 false l0_1 l0_2) = some r := by rw [if_neg (show ¬ (false = true) by decide)] at H; exact H
      clear H
      have H := H1
      clear H1
      have H' := Aside0.mk H
      clear H
      go_wp2
      go_meet
      case rel => exact ⟨_, (t321), (by first | rfl | (simp; done) | (simp [*]; done)), H', ⟨by first | omega | exact Nat.le_refl _⟩, ⟨by exact BK320.out⟩, ⟨by repeat (first | (with_reducible first | exact HB.out | apply below_alloc | apply pw_below_drewN | apply below_drew1 | refine below_set ?_ GE320.out) | exact HB.out)⟩⟩
  case rest =>
    clear HC3
    try clear c1
    try clear p2
    try clear c3
    try clear c6
    try clear c7
    try clear c7b0
    try clear c7b1
    try clear c7b2
    try clear hcz5_0
    try clear hcz5_1
    try clear hcz5_2
    try clear hfz5_0
    try clear hfz5_1
    try clear hfz5_2
    obtain ⟨kq, x3_2, rfl, HA, HJ2, BK320, HB⟩ := hcut
    cases kq with
    | zero => exact absurd HA.out (by simp [fluxionref04_Rat.j0])
    | succ kj2 =>
      have H := HA.out
      clear HA
      simp only [fluxionref04_Rat.j0] at H
      replace H := Option.bind_eq_some_iff.mp H
      obtain ⟨t322, A80, H⟩ := H
      try dsimp only at H
      have A8 := Aside0.mk A80
      clear A80
      by_cases c9 : t322.toList = ([49] : List UInt8)
      · rw [if_pos c9] at H
        have c9b0 : (t322.toList == ([49] : List UInt8)) = true := beq_iff_eq.mpr c9
        have c9b1 : (t322.toList != ([49] : List UInt8)) = false := bne_eq_false_iff_eq.mpr c9
        clear c9
        obtain rfl := Option.some.inj H
        have hcz10_0 : wc.cell? ⟨gb320, 0, none⟩ = some (.bool a0_0) := (blk_cell BK320.out 0).trans rfl
        have hcz10_1 : wc.cell? ⟨gb320, 1, none⟩ = some (.slice A0_1 l0_1.length c0_1) := (blk_cell BK320.out 1).trans rfl
        have hcz10_2 : wc.cell? ⟨gb320, 2, none⟩ = some (.slice A0_2 l0_2.length c0_2) := (blk_cell BK320.out 2).trans rfl
        have hfz10_0 := blk_frozen BK320.out 0
        have hfz10_1 := blk_frozen BK320.out 1
        have hfz10_2 := blk_frozen BK320.out 2
        go_wp2_with (first | ((with_reducible refine gate_callee (f := 32) rfl ?_); refine goesL_ (some 13) rfl rfl Tryz.func32 (by kernel_rfl) rfl #[.slice A0_2 l0_2.length c0_2] rfl (by (try simp only [List.map_toArray, List.map_cons, List.map_nil]); first | done | rfl | (simp only [List.length_drop, List.length_take]; rfl)) ?_; (with_reducible refine (fluxionref04_Nat.calls kj2 _ _ l0_2 t322 _ ?side1 ?side2 A8.out).mono ?_); (case side1 => repeat (first | exact (Kd.C_below HR0_2.out HB.out) | (with_reducible refine Kd.C_alloc ?_ _) | (with_reducible refine Kd.C_drewN ?_ _) | (with_reducible refine Kd.C_drew ?_))); (case side2 => exact HC0_2.out); rintro e w' ⟨rfl, ⟨nd, rfl⟩⟩; refine ⟨_, rfl, ?_⟩))
        go_ret
        exact ⟨by first | rfl | (simp [errW_none, errW_some] <;> rfl) | (simp [*, errW_none, errW_some] <;> rfl), by repeat (first | (with_reducible first | exact HB.out | apply below_alloc | apply pw_below_drewN | apply below_drew1 | refine below_set ?_ GE320.out) | exact HB.out)⟩
      · rw [if_neg c9] at H
        have c9b0 : (t322.toList == ([49] : List UInt8)) = false := beq_eq_false_iff_ne.mpr c9
        have c9b1 : (t322.toList != ([49] : List UInt8)) = true := bne_iff_ne.mpr c9
        by_cases c11 : x3_2.size + 1 ≤ 9223372036854775807
        · rw [if_pos c11] at H
          have c11b0 := eq_true c11
          have c11b1 : decide (x3_2.size + 1 ≤ 9223372036854775807) = true := decide_eq_true c11
          try have c11b2 : (9223372036854775807 < x3_2.size + 1) = False := eq_false (Nat.not_lt.2 c11)
          replace H := Option.bind_eq_some_iff.mp H
          obtain ⟨t323, A120, H⟩ := H
          try dsimp only at H
          have A12 := Aside0.mk A120
          clear A120
          by_cases c13 : (x3_2 ++ (⟨#[47]⟩ : ByteArray)).size + t323.size ≤ 9223372036854775807
          · rw [if_pos c13] at H
            have c13b0 := eq_true c13
            have c13b1 : decide ((x3_2 ++ (⟨#[47]⟩ : ByteArray)).size + t323.size ≤ 9223372036854775807) = true := decide_eq_true c13
            try have c13b2 : (9223372036854775807 < (x3_2 ++ (⟨#[47]⟩ : ByteArray)).size + t323.size) = False := eq_false (Nat.not_lt.2 c13)
            have c13b3 := c13
            simp only [ByteArray.size_append, show (⟨#[47]⟩ : ByteArray).size = 1 from rfl] at c13b3
            have c13b4 := eq_false (Nat.not_lt.2 c13b3)
            obtain rfl := Option.some.inj H
            have hcz14_0 : wc.cell? ⟨gb320, 0, none⟩ = some (.bool a0_0) := (blk_cell BK320.out 0).trans rfl
            have hcz14_1 : wc.cell? ⟨gb320, 1, none⟩ = some (.slice A0_1 l0_1.length c0_1) := (blk_cell BK320.out 1).trans rfl
            have hcz14_2 : wc.cell? ⟨gb320, 2, none⟩ = some (.slice A0_2 l0_2.length c0_2) := (blk_cell BK320.out 2).trans rfl
            have hfz14_0 := blk_frozen BK320.out 0
            have hfz14_1 := blk_frozen BK320.out 1
            have hfz14_2 := blk_frozen BK320.out 2
            go_wp2_with (first | ((with_reducible refine gate_callee (f := 32) rfl ?_); refine goesL_ (some 13) rfl rfl Tryz.func32 (by kernel_rfl) rfl #[.slice A0_2 l0_2.length c0_2] rfl (by (try simp only [List.map_toArray, List.map_cons, List.map_nil]); first | done | rfl | (simp only [List.length_drop, List.length_take]; rfl)) ?_; (with_reducible refine (fluxionref04_Nat.calls kj2 _ _ l0_2 t322 _ ?side1 ?side2 A8.out).mono ?_); (case side1 => repeat (first | exact (Kd.C_below HR0_2.out HB.out) | (with_reducible refine Kd.C_alloc ?_ _) | (with_reducible refine Kd.C_drewN ?_ _) | (with_reducible refine Kd.C_drew ?_))); (case side2 => exact HC0_2.out); rintro e w' ⟨rfl, ⟨nd, rfl⟩⟩; refine ⟨_, rfl, ?_⟩) | ((with_reducible refine gate_callee (f := 32) rfl ?_); refine goesL_ (some 19) rfl rfl Tryz.func32 (by kernel_rfl) rfl #[.slice A0_2 l0_2.length c0_2] rfl (by (try simp only [List.map_toArray, List.map_cons, List.map_nil]); first | done | rfl | (simp only [List.length_drop, List.length_take]; rfl)) ?_; (with_reducible refine (fluxionref04_Nat.calls kj2 _ _ l0_2 t323 _ ?side1 ?side2 A12.out).mono ?_); (case side1 => repeat (first | exact (Kd.C_below HR0_2.out (by repeat (first | (with_reducible first | exact HB.out | apply below_alloc | apply pw_below_drewN | apply below_drew1 | refine below_set ?_ GE320.out) | exact HB.out))) | (with_reducible refine Kd.C_alloc ?_ _) | (with_reducible refine Kd.C_drewN ?_ _) | (with_reducible refine Kd.C_drew ?_))); (case side2 => exact HC0_2.out); rintro e w' ⟨rfl, ⟨nd, rfl⟩⟩; refine ⟨_, rfl, ?_⟩))
            go_ret
            exact ⟨by first | rfl | (simp [errW_none, errW_some] <;> rfl) | (simp [*, errW_none, errW_some] <;> rfl), by repeat (first | (with_reducible first | exact HB.out | apply below_alloc | apply pw_below_drewN | apply below_drew1 | refine below_set ?_ GE320.out) | exact HB.out)⟩
          · rw [if_neg c13] at H
            exact absurd H (by simp)
        · rw [if_neg c11] at H
          exact absurd H (by simp)

def fluxionref04_cut.l0 : Nat → ByteArray → Int → Option (ByteArray × ByteArray × Bool)
  | 0, _, _ => none
  | k + 1, x0, x5 => if x5 < (x0.size : Int) then (if 0 ≤ x5 then (if (bt x0 x5) = 47 then (if x5 ≤ (x0.size : Int) then (if 0 ≤ (wrap64 (x5 + 1)) then (if (wrap64 (x5 + 1)) ≤ (x0.size : Int) then (some (x0.extract 0 (x5 : Int).toNat, x0.extract ((wrap64 (x5 + 1)) : Int).toNat x0.size, true)) else (none)) else (none)) else (none)) else (fluxionref04_cut.l0 k x0 (wrap64 (x5 + 1)))) else (none)) else (some (x0, (⟨#[]⟩ : ByteArray), false))
def fluxionref04_cut.f (k : Nat) (a0 : ByteArray) : Option (ByteArray × ByteArray × Bool) := fluxionref04_cut.l0 k a0 0
set_option maxHeartbeats 8000000 in
set_option maxRecDepth 100000 in
theorem fluxionref04_cut.calls (k : Nat) (a0 : ByteArray) (r1 : ByteArray) (r2 : ByteArray) (r3 : Bool) (w : World) (h : fluxionref04_cut.f k a0 = some (r1, r2, r3)) :
    Calls Tryz.prog 39 #[.string a0] w fun e w' => e = .returned (.tuple #[.string r1, .string r2, .bool r3]) ∧ Drawn0 w w' := by
  have H : (fluxionref04_cut.l0 k a0 0) = some (r1, r2, r3) := h
  clear h
  have H' := Aside0.mk H
  clear H
  go_enter Tryz.func39, Tryz.ntmps39
  go_wp2
  repeat (go_quiet (fail); try go_wp2)
  go_loopg [5] k (fun kq v5 w' => ∃ (x5_1 : Int), v5 = .int .i64 x5_1 ∧ Aside0 (fluxionref04_cut.l0 kq a0 x5_1 = some (r1, r2, r3)) ∧ Aside0 (kq ≤ k) ∧ Drawn0 w w')
  case atStart => exact ⟨(0), (by first | rfl | (simp; done) | (simp [*]; done)), H', ⟨Nat.le_refl _⟩, by repeat (first | exact Drawn0.refl _ | apply Drawn0.step)⟩
  case round =>
    clear H'
    obtain ⟨x5_1, rfl, HA, HK1, ⟨m1, rfl⟩⟩ := hrel
    cases gk with
    | zero => exact absurd HA.out (by simp [fluxionref04_cut.l0])
    | succ k1 =>
      have H := HA.out
      clear HA
      simp only [fluxionref04_cut.l0] at H
      by_cases c2 : x5_1 < (a0.size : Int)
      · rw [if_pos c2] at H
        have c2b0 : decide (x5_1 < (a0.size : Int)) = true := decide_eq_true c2
        clear c2
        by_cases c3 : 0 ≤ x5_1
        · rw [if_pos c3] at H
          have c3b0 : decide (0 ≤ x5_1) = true := decide_eq_true c3
          clear c3
          by_cases c5 : (bt a0 x5_1) = 47
          · rw [if_pos c5] at H
            have c5b0 : ((bt a0 x5_1) == 47) = true := beq_iff_eq.mpr c5
            have c5b1 : ((bt a0 x5_1) != 47) = false := bne_eq_false_iff_eq.mpr c5
            clear c5
            have c6b0 := eq_true (of_decide_eq_true (by first | (with_reducible assumption) | assumption) : 0 ≤ x5_1)
            by_cases c7 : x5_1 ≤ (a0.size : Int)
            · rw [if_pos c7] at H
              have c7b0 := eq_true c7
              have c7b1 : decide (x5_1 ≤ (a0.size : Int)) = true := decide_eq_true c7
              clear c7
              obtain ⟨ji8, hji8⟩ : ∃ j_ : Int, (wrap64 (x5_1 + 1)) = j_ := ⟨_, rfl⟩
              first | rewrite [hji8] at H | simp only [hji8] at H
              have hji8w : (IntKind.i64.wrap (x5_1 + 1)) = ji8 := (i64_w _).trans hji8
              by_cases c9 : 0 ≤ (ji8)
              · rw [if_pos c9] at H
                have c9b0 := eq_true c9
                have c9b1 : decide (0 ≤ (ji8)) = true := decide_eq_true c9
                clear c9
                by_cases c10 : (ji8) ≤ (a0.size : Int)
                · rw [if_pos c10] at H
                  have c10b0 := eq_true c10
                  have c10b1 : decide ((ji8) ≤ (a0.size : Int)) = true := decide_eq_true c10
                  clear c10
                  simp only [Option.some.injEq, Prod.mk.injEq] at H
                  obtain ⟨rfl, rfl, rfl⟩ := H
                  have p4 : 0 ≤ (x5_1 : Int) := of_decide_eq_true (by first | (with_reducible assumption) | assumption)
                  have q4 : x5_1 < (a0.size : Int) := of_decide_eq_true (by first | (with_reducible assumption) | assumption)
                  have hx4 := bt_at a0 x5_1
                  replace p4 := eq_true p4
                  replace q4 := eq_true q4
                  go_wp2
                  repeat (go_quiet (fail); try go_wp2)
                  go_ret3
                  exact ⟨by first | rfl | (simp; done) | (simp only [← hji8] <;> (first | rfl | simp)) | (simp [*]; done), by repeat (first | exact Drawn0.refl _ | apply Drawn0.step)⟩
                · rw [if_neg c10] at H
                  exact absurd H (by simp)
              · rw [if_neg c9] at H
                exact absurd H (by simp)
            · rw [if_neg c7] at H
              exact absurd H (by simp)
          · rw [if_neg c5] at H
            have c5b0 : ((bt a0 x5_1) == 47) = false := beq_eq_false_iff_ne.mpr c5
            have c5b1 : ((bt a0 x5_1) != 47) = true := bne_iff_ne.mpr c5
            have H' := Aside0.mk H
            clear H
            have p4 : 0 ≤ (x5_1 : Int) := of_decide_eq_true (by first | (with_reducible assumption) | assumption)
            have q4 : x5_1 < (a0.size : Int) := of_decide_eq_true (by first | (with_reducible assumption) | assumption)
            have hx4 := bt_at a0 x5_1
            replace p4 := eq_true p4
            replace q4 := eq_true q4
            go_wp2
            repeat (go_quiet (fail); try go_wp2)
            go_roundg k1
            case measure => have := HK1.out; omega
            case rel => exact ⟨(wrap64 (x5_1 + 1)), (by first | rfl | (simp; done) | (simp [*]; done)), H', ⟨by have := HK1.out; omega⟩, by repeat (first | exact Drawn0.refl _ | apply Drawn0.step)⟩
        · rw [if_neg c3] at H
          exact absurd H (by simp)
      · rw [if_neg c2] at H
        have c2b0 : decide (x5_1 < (a0.size : Int)) = false := decide_eq_false c2
        clear c2
        simp only [Option.some.injEq, Prod.mk.injEq] at H
        obtain ⟨rfl, rfl, rfl⟩ := H
        go_wp2
        repeat (go_quiet (fail); try go_wp2)
        go_ret3
        exact ⟨by first | rfl | (simp; done) | (simp [*]; done), by repeat (first | exact Drawn0.refl _ | apply Drawn0.step)⟩

def fluxionref04_natural.l0 : Nat → ByteArray → Int → Option (Bool)
  | 0, _, _ => none
  | k + 1, x0, x3 => if x3 < (x0.size : Int) then (if 0 ≤ x3 then (if (bt x0 x3) < 48 then (some false) else (if (bt x0 x3) > 57 then (some false) else (fluxionref04_natural.l0 k x0 (wrap64 (x3 + 1))))) else (none)) else (if (x0.size : Int) > 0 then (if 0 < (x0.size : Int) then (if (bt x0 0) = 48 then (some ((x0.size : Int) == 1)) else (some true)) else (none)) else (some false))
def fluxionref04_natural.f (k : Nat) (a0 : ByteArray) : Option (Bool) := fluxionref04_natural.l0 k a0 0
set_option maxHeartbeats 8000000 in
set_option maxRecDepth 100000 in
theorem fluxionref04_natural.calls (k : Nat) (a0 : ByteArray) (r : Bool) (w : World) (h : fluxionref04_natural.f k a0 = some r) :
    Calls Tryz.prog 40 #[.string a0] w fun e w' => e = .returned (.bool r) ∧ Drawn0 w w' := by
  have H : (fluxionref04_natural.l0 k a0 0) = some r := h
  clear h
  have H' := Aside0.mk H
  clear H
  go_enter Tryz.func40, Tryz.ntmps40
  go_wp2
  go_loopg [3] k (fun kq v3 w' => ∃ (x3_1 : Int), v3 = .int .i64 x3_1 ∧ Aside0 (fluxionref04_natural.l0 kq a0 x3_1 = some r) ∧ Aside0 (kq ≤ k) ∧ Drawn0 w w')
  case atStart => exact ⟨(0), (by first | rfl | (simp; done) | (simp [*]; done)), H', ⟨Nat.le_refl _⟩, by repeat (first | exact Drawn0.refl _ | apply Drawn0.step)⟩
  case round =>
    clear H'
    obtain ⟨x3_1, rfl, HA, HK1, ⟨m1, rfl⟩⟩ := hrel
    cases gk with
    | zero => exact absurd HA.out (by simp [fluxionref04_natural.l0])
    | succ k1 =>
      have H := HA.out
      clear HA
      simp only [fluxionref04_natural.l0] at H
      by_cases c2 : x3_1 < (a0.size : Int)
      · rw [if_pos c2] at H
        have c2b0 : decide (x3_1 < (a0.size : Int)) = true := decide_eq_true c2
        clear c2
        by_cases c3 : 0 ≤ x3_1
        · rw [if_pos c3] at H
          have c3b0 : decide (0 ≤ x3_1) = true := decide_eq_true c3
          clear c3
          by_cases c5 : (bt a0 x3_1) < 48
          · rw [if_pos c5] at H
            have c5b0 : decide ((bt a0 x3_1) < 48) = true := decide_eq_true c5
            clear c5
            obtain rfl := Option.some.inj H
            have p4 : 0 ≤ (x3_1 : Int) := of_decide_eq_true (by first | (with_reducible assumption) | assumption)
            have q4 : x3_1 < (a0.size : Int) := of_decide_eq_true (by first | (with_reducible assumption) | assumption)
            have hx4 := bt_at a0 x3_1
            replace p4 := eq_true p4
            replace q4 := eq_true q4
            go_wp2
            go_ret
            exact ⟨by first | rfl | (simp; done) | (simp [*]; done), by repeat (first | exact Drawn0.refl _ | apply Drawn0.step)⟩
          · rw [if_neg c5] at H
            have c5b0 : decide ((bt a0 x3_1) < 48) = false := decide_eq_false c5
            clear c5
            by_cases c7 : (bt a0 x3_1) > 57
            · rw [if_pos c7] at H
              have c7b0 : decide (57 < (bt a0 x3_1)) = true := decide_eq_true c7
              clear c7
              obtain rfl := Option.some.inj H
              have p4 : 0 ≤ (x3_1 : Int) := of_decide_eq_true (by first | (with_reducible assumption) | assumption)
              have q4 : x3_1 < (a0.size : Int) := of_decide_eq_true (by first | (with_reducible assumption) | assumption)
              have hx4 := bt_at a0 x3_1
              replace p4 := eq_true p4
              replace q4 := eq_true q4
              have p6 : 0 ≤ (x3_1 : Int) := of_decide_eq_true (by first | (with_reducible assumption) | assumption)
              have q6 : x3_1 < (a0.size : Int) := of_decide_eq_true (by first | (with_reducible assumption) | assumption)
              have hx6 := bt_at a0 x3_1
              replace p6 := eq_true p6
              replace q6 := eq_true q6
              go_wp2
              go_ret
              exact ⟨by first | rfl | (simp; done) | (simp [*]; done), by repeat (first | exact Drawn0.refl _ | apply Drawn0.step)⟩
            · rw [if_neg c7] at H
              have c7b0 : decide (57 < (bt a0 x3_1)) = false := decide_eq_false c7
              clear c7
              have H' := Aside0.mk H
              clear H
              have p4 : 0 ≤ (x3_1 : Int) := of_decide_eq_true (by first | (with_reducible assumption) | assumption)
              have q4 : x3_1 < (a0.size : Int) := of_decide_eq_true (by first | (with_reducible assumption) | assumption)
              have hx4 := bt_at a0 x3_1
              replace p4 := eq_true p4
              replace q4 := eq_true q4
              have p6 : 0 ≤ (x3_1 : Int) := of_decide_eq_true (by first | (with_reducible assumption) | assumption)
              have q6 : x3_1 < (a0.size : Int) := of_decide_eq_true (by first | (with_reducible assumption) | assumption)
              have hx6 := bt_at a0 x3_1
              replace p6 := eq_true p6
              replace q6 := eq_true q6
              go_wp2
              go_roundg k1
              case measure => have := HK1.out; omega
              case rel => exact ⟨(wrap64 (x3_1 + 1)), (by first | rfl | (simp; done) | (simp [*]; done)), H', ⟨by have := HK1.out; omega⟩, by repeat (first | exact Drawn0.refl _ | apply Drawn0.step)⟩
        · rw [if_neg c3] at H
          exact absurd H (by simp)
      · rw [if_neg c2] at H
        have c2b0 : decide (x3_1 < (a0.size : Int)) = false := decide_eq_false c2
        clear c2
        by_cases c8 : (a0.size : Int) > 0
        · rw [if_pos c8] at H
          have c8b0 : decide (0 < (a0.size : Int)) = true := decide_eq_true c8
          have c8b1 : decide (0 < a0.size) = true := decide_eq_true (by omega)
          clear c8
          by_cases c9 : 0 < (a0.size : Int)
          · rw [if_pos c9] at H
            have c9b0 : decide (0 < (a0.size : Int)) = true := decide_eq_true c9
            have c9b1 : decide (0 < a0.size) = true := decide_eq_true (by omega)
            clear c9
            by_cases c11 : (bt a0 0) = 48
            · rw [if_pos c11] at H
              have c11b0 : ((bt a0 0) == 48) = true := beq_iff_eq.mpr c11
              have c11b1 : ((bt a0 0) != 48) = false := bne_eq_false_iff_eq.mpr c11
              clear c11
              obtain rfl := Option.some.inj H
              have p10 : 0 ≤ (0 : Int) := (by omega)
              have q10 : 0 < a0.size := (by have : (0 : Int) < (a0.size : Int) := of_decide_eq_true (by first | (with_reducible assumption) | assumption); omega)
              have hx10 : ∀ h : 0 < a0.size, ((a0[0]'h).toNat : Int) = bt a0 0 := bt_at a0 0
              clear p10
              have qi10 : (0 < (a0.size : Int)) = True := eq_true (of_decide_eq_true (by first | (with_reducible assumption) | assumption))
              replace q10 := eq_true q10
              go_wp2
              go_ret
              exact ⟨by first | rfl | (simp; done) | (simp [*]; done), by repeat (first | exact Drawn0.refl _ | apply Drawn0.step)⟩
            · rw [if_neg c11] at H
              have c11b0 : ((bt a0 0) == 48) = false := beq_eq_false_iff_ne.mpr c11
              have c11b1 : ((bt a0 0) != 48) = true := bne_iff_ne.mpr c11
              obtain rfl := Option.some.inj H
              have p10 : 0 ≤ (0 : Int) := (by omega)
              have q10 : 0 < a0.size := (by have : (0 : Int) < (a0.size : Int) := of_decide_eq_true (by first | (with_reducible assumption) | assumption); omega)
              have hx10 : ∀ h : 0 < a0.size, ((a0[0]'h).toNat : Int) = bt a0 0 := bt_at a0 0
              clear p10
              have qi10 : (0 < (a0.size : Int)) = True := eq_true (of_decide_eq_true (by first | (with_reducible assumption) | assumption))
              replace q10 := eq_true q10
              go_wp2
              go_ret
              exact ⟨by first | rfl | (simp; done) | (simp [*]; done), by repeat (first | exact Drawn0.refl _ | apply Drawn0.step)⟩
          · rw [if_neg c9] at H
            exact absurd H (by simp)
        · rw [if_neg c8] at H
          have c8b0 : decide (0 < (a0.size : Int)) = false := decide_eq_false c8
          have c8b1 : decide (0 < a0.size) = false := decide_eq_false (by omega)
          clear c8
          obtain rfl := Option.some.inj H
          go_wp2
          go_ret
          exact ⟨by first | rfl | (simp; done) | (simp [*]; done), by repeat (first | exact Drawn0.refl _ | apply Drawn0.step)⟩

end Go.Proofs.YtpncflaoikeidaaGreatDoor.P
namespace Go.Proofs.YtpncflaoikeidaaGreatDoor.H
open Go.RowKit Go.Lib Go.Proofs.YtpncflaoikeidaaGreatDoorW.PrintWords Go.Proofs.YtpncflaoikeidaaGreatDoorW.PrintLast Go.Proofs.YtpncflaoikeidaaGreatDoorW.PrintMore Go.Proofs.YtpncflaoikeidaaGreatDoor.P
theorem dig10 : ∀ d, d < 10 → (⟨#[48, 49, 50, 51, 52, 53, 54, 55, 56, 57]⟩ : ByteArray).extract d (d + 1) = ⟨([UInt8.ofNat (48 + d)] : List UInt8).toArray⟩ := by decide
theorem padd4 (n : Nat) : padd 4 n = [UInt8.ofNat (48 + n / 1000 % 10), UInt8.ofNat (48 + n / 100 % 10), UInt8.ofNat (48 + n / 10 % 10), UInt8.ofNat (48 + n % 10)] := by
  have e1 : n / 10 / 10 = n / 100 := by omega
  have e2 : n / 100 / 10 = n / 1000 := by omega
  rw [padd, padd, padd, padd, padd, e1, e2]
  rfl
theorem four_f {n : Nat} (hn : n < 10000) : fluxionref04_four.f (n : Int) = some ⟨(padd 4 n).toArray⟩ := by
  have e1 : wrap64 (Int.tdiv (n : Int) 1000) = ((n / 1000 % 10 : Nat) : Int) := by rw [Int.tdiv_eq_ediv_of_nonneg (by omega)]; unfold wrap64; omega
  have e2 : Int.tmod (wrap64 (Int.tdiv (n : Int) 100)) 10 = ((n / 100 % 10 : Nat) : Int) := by
    rw [Int.tdiv_eq_ediv_of_nonneg (by omega), show wrap64 ((n : Int) / 100) = (n : Int) / 100 by unfold wrap64; omega, Int.tmod_eq_emod_of_nonneg (by omega)]; omega
  have e3 : Int.tmod (wrap64 (Int.tdiv (n : Int) 10)) 10 = ((n / 10 % 10 : Nat) : Int) := by
    rw [Int.tdiv_eq_ediv_of_nonneg (by omega), show wrap64 ((n : Int) / 10) = (n : Int) / 10 by unfold wrap64; omega, Int.tmod_eq_emod_of_nonneg (by omega)]; omega
  have e4 : Int.tmod (n : Int) 10 = ((n % 10 : Nat) : Int) := by rw [Int.tmod_eq_emod_of_nonneg (by omega)]; omega
  rw [padd4]
  unfold fluxionref04_four.f
  rw [e1, e2, e3, e4]
  clear e1 e2 e3 e4
  obtain ⟨a, ha⟩ : ∃ a, n / 1000 % 10 = a := ⟨_, rfl⟩
  obtain ⟨b, hb⟩ : ∃ b, n / 100 % 10 = b := ⟨_, rfl⟩
  obtain ⟨c, hc⟩ : ∃ c, n / 10 % 10 = c := ⟨_, rfl⟩
  obtain ⟨d, hd⟩ : ∃ d, n % 10 = d := ⟨_, rfl⟩
  have la : a < 10 := by omega
  have lb : b < 10 := by omega
  have lc : c < 10 := by omega
  have ld : d < 10 := by omega
  rw [ha, hb, hc, hd]
  clear ha hb hc hd hn n
  have w1 : ∀ x : Nat, x < 10 → wrap64 ((x : Int) + 1) = ((x + 1 : Nat) : Int) := fun x hx => by unfold wrap64; omega
  rw [w1 a la, w1 b lb, w1 c lc, w1 d ld]
  simp only [Int.toNat_natCast]
  rw [dig10 a la, dig10 b lb, dig10 c lc, dig10 d ld, bytes_append, bytes_append, bytes_append]
  simp only [bytes_size]
  rw [if_pos (by omega), if_pos (by omega), if_pos (by omega), if_pos (by omega), if_pos (by omega), if_pos (by omega), if_pos (by simp), if_pos (by omega), if_pos (by omega), if_pos (by omega), if_pos (by simp), if_pos (by omega), if_pos (by omega), if_pos (by omega), if_pos (by simp)]
  rfl
theorem padd_add4 (j r : Nat) : padd (j + 4) r = padd j (r / 10000) ++ padd 4 (r % 10000) := by
  have e1 : r % 10000 / 1000 % 10 = r / 1000 % 10 := by omega
  have e2 : r % 10000 / 100 % 10 = r / 100 % 10 := by omega
  have e3 : r % 10000 / 10 % 10 = r / 10 % 10 := by omega
  have e4 : r % 10000 % 10 = r % 10 := by omega
  have f1 : r / 10 / 10 = r / 100 := by omega
  have f2 : r / 100 / 10 = r / 1000 := by omega
  have f3 : r / 1000 / 10 = r / 10000 := by omega
  rw [padd4, e1, e2, e3, e4, padd, padd, padd, padd, f1, f2, f3]
  simp
theorem bt_list {l : List UInt8} {i : Nat} (h : i < l.length) : bt ⟨l.toArray⟩ (i : Int) = ((l[i]'h).toNat : Int) := by
  unfold bt
  have h2 : ((i : Nat) : Int).toNat < (⟨l.toArray⟩ : ByteArray).size := by rw [Int.toNat_natCast]; exact h
  rw [dif_pos h2]
  simp only [Int.toNat_natCast]
  rfl
theorem strip_l1 (z : Nat) (m : List UInt8) (hm : m ≠ []) (h48 : m.head? ≠ some 48) (hz : z + m.length < 150000000000000) : ∀ (j i k : Nat), i + j = z → j < k → fluxionref04_Nat.l1 k ⟨(List.replicate z 48 ++ m).toArray⟩ (i : Int) = some ⟨m.toArray⟩
  | _, _, 0, _, h => by omega
  | 0, i, k + 1, hi, _ => by
    have hlen : (List.replicate z (48 : UInt8) ++ m).length = z + m.length := by simp
    have hp : 0 < m.length := List.length_pos_iff.2 hm
    obtain rfl : i = z := by omega
    rw [fluxionref04_Nat.l1, bytes_size, hlen, if_pos (by omega), if_pos (by omega), bt_list (by omega)]
    have hg : (List.replicate i (48 : UInt8) ++ m)[i]'(by omega) = m[0] := by
      rw [List.getElem_append_right (by simp)]; simp
    rw [hg]
    have hne : ¬ ((m[0].toNat : Int) = 48) := by
      intro hc
      refine h48 ?_
      rw [List.head?_eq_getElem?, List.getElem?_eq_getElem hp]
      congr 1
      exact UInt8.toNat_inj.1 (by have : (48 : UInt8).toNat = 48 := rfl; omega)
    rw [if_neg hne, if_pos (by omega)]
    congr 1
    rw [bytes_of (ByteArray.extract _ _ _)]
    have e := ext_tail (⟨(List.replicate i (48 : UInt8) ++ m).toArray⟩ : ByteArray) i
    rw [bytes_size, hlen, bytes_data] at e
    rw [Int.toNat_natCast, e]
    simp
  | j + 1, i, k + 1, hi, hk => by
    have hlen : (List.replicate z (48 : UInt8) ++ m).length = z + m.length := by simp
    rw [fluxionref04_Nat.l1, bytes_size, hlen, if_pos (by omega), if_pos (by omega), bt_list (by omega)]
    have hg : (List.replicate z (48 : UInt8) ++ m)[i]'(by omega) = 48 := by
      rw [List.getElem_append_left (by simp; omega)]; simp
    rw [hg, if_pos (by rfl), show wrap64 ((i : Int) + 1) = ((i + 1 : Nat) : Int) by unfold wrap64; omega]
    exact strip_l1 z m hm h48 hz j (i + 1) k (by omega) (by omega)
theorem c4_top (n : Nat) : n / 10000 ^ (c4 n).length = 0 := by
  have := mt (len_iff n (c4 n).length).2 (Nat.lt_irrefl _)
  exact Classical.byContradiction this
theorem nat4_l0 (n L : Nat) (h0 : n ≠ 0) (hL : (c4 n).length = L) (hn : L < 100000) : ∀ (i j k : Nat) (s : List UInt8), i + j = L → s = padd (4 * j) (n / 10000 ^ i) → i + 400010 < k → fluxionref04_Nat.l0 k (c4 n) ⟨s.toArray⟩ ((i : Int) - 1) = some ⟨(decDigits n).toArray⟩
  | _, _, 0, _, _, _, h => by omega
  | 0, j, k + 1, s, hj, hs, hk => by
    rw [fluxionref04_Nat.l0, if_neg (by omega), hs, Nat.pow_zero, Nat.div_one]
    obtain ⟨_, _, d3, d4⟩ := dec_spec n
    have hlt : n < 10 ^ (4 * j) := by
      have := v4_lt (ok4_c4 n)
      rw [v4_c4, hL, show L = j by omega, show (10000 : Nat) = 10 ^ 4 by decide, ← Nat.pow_mul] at this
      exact this
    have hj0 : 0 < j := by
      rcases Nat.eq_zero_or_pos j with h | h
      · subst h; simp at hlt; omega
      · exact h
    rw [← dec_pad (4 * j) n (by omega) hlt]
    have hle := dec_len (show 0 < 4 * j by omega) hlt
    exact strip_l1 _ _ d3 (d4 h0) (by omega) _ 0 k (Nat.zero_add _) (by omega)
  | i + 1, j, k + 1, s, hj, hs, hk => by
    have hx : n / 10000 ^ i % 10000 < 10000 := Nat.mod_lt _ (by decide)
    rw [fluxionref04_Nat.l0, show ((i + 1 : Nat) : Int) - 1 = (i : Int) by omega, if_pos (by omega), if_pos (by omega), if_pos (by omega), rd_c4, four_f hx, Option.bind_some, bytes_size, bytes_size, hs, padd_length, padd_length, if_pos (by omega), bytes_append, div_pow_succ, ← padd_add4, show wrap64 ((i : Int) - 1) = (i : Int) - 1 by unfold wrap64; omega]
    exact nat4_l0 n L h0 hL hn i (j + 1) k _ (by omega) (by rw [Nat.mul_add]) (by omega)
theorem refNat_f (n k : Nat) (hn : (c4 n).length < 100000) (hk : 600000 ≤ k) : fluxionref04_Nat.f k (c4 n) = some ⟨(decDigits n).toArray⟩ := by
  unfold fluxionref04_Nat.f
  by_cases h0 : n = 0
  · subst h0; rw [c4_zero, decDigits_one (by decide)]; rfl
  · have := mt (c4_len0 n).1 h0
    rw [if_neg (by omega), show wrap64 (((c4 n).length : Int) - 1) = ((c4 n).length : Int) - 1 by unfold wrap64; omega]
    exact nat4_l0 n _ h0 rfl hn _ 0 k [] (by omega) (by rfl) (by omega)
theorem c4_dec_size {n : Nat} (hn : (c4 n).length < 100000) : (decDigits n).length ≤ 400001 := by
  have := v4_lt (ok4_c4 n)
  rw [v4_c4, show (10000 : Nat) = 10 ^ 4 by decide, ← Nat.pow_mul] at this
  have h3 : 10 ^ (4 * (c4 n).length) ≤ 10 ^ (4 * (c4 n).length + 1) := Nat.pow_le_pow_right (by decide) (by omega)
  have := dec_len (j := 4 * (c4 n).length + 1) (by omega) (Nat.lt_of_lt_of_le this h3)
  omega
theorem refRat_f (g : Bool) (n d k : Nat) (hn : (c4 n).length < 100000) (hd : (c4 d).length < 100000) (hk : 600001 ≤ k) : fluxionref04_Rat.f k g (c4 n) (c4 d) = some ⟨(ratT (g, n, d)).toArray⟩ := by
  have s1 := c4_dec_size hn
  have s2 := c4_dec_size hd
  obtain ⟨k, rfl⟩ : ∃ k2, k = k2 + 1 := ⟨k - 1, by omega⟩
  have hj : ∀ (m : List UInt8), m.length ≤ 500020 → fluxionref04_Rat.j0 (k + 1) ⟨m.toArray⟩ g (c4 n) (c4 d) = some ⟨(m ++ (if d = 1 then [] else 47 :: decDigits d)).toArray⟩ := by
    intro m hm
    rw [fluxionref04_Rat.j0, refNat_f d k hd (by omega), Option.bind_some, Option.bind_some, bytes_list]
    by_cases h1 : d = 1
    · rw [if_pos h1, if_pos (by rw [h1, dec_one]), List.append_nil]
    · rw [if_neg h1, if_neg (fun hc => h1 (dec_inj (hc.trans dec_one.symm))), bytes_size, if_pos (by omega)]
      have e : (⟨m.toArray⟩ : ByteArray) ++ ⟨#[47]⟩ = ⟨(m ++ [47]).toArray⟩ := bytes_append m [47]
      rw [e, bytes_size, bytes_size, List.length_append, List.length_singleton, if_pos (by omega), bytes_append]
      simp
  unfold fluxionref04_Rat.f ratT
  rw [refNat_f n (k + 1) hn (by omega), Option.bind_some]
  cases g with
  | true =>
    have e : (⟨#[45]⟩ : ByteArray) ++ ⟨(decDigits n).toArray⟩ = ⟨(45 :: decDigits n).toArray⟩ := bytes_append [45] _
    rw [if_pos rfl, bytes_size, if_pos (by omega), e, hj _ (by rw [List.length_cons]; omega)]
    rfl
  | false =>
    rw [if_neg (by decide), hj _ (by omega)]
    rfl
theorem cutr_l0 (s : ByteArray) (l : List UInt8) (hl : s.data.toList = l) (hz : l.length < 150000000000000) : ∀ (j i k : Nat), i + j = l.length → j < k →
    fluxionref04_cut.l0 k s (i : Int) = some (⟨(l.take i ++ (cutB (l.drop i)).1).toArray⟩, ⟨(cutB (l.drop i)).2.1.toArray⟩, (cutB (l.drop i)).2.2)
  | _, _, 0, _, h => by omega
  | 0, i, k + 1, hi, _ => by
    have hs := size_len s
    rw [hl] at hs
    rw [fluxionref04_cut.l0, if_neg (by omega), List.drop_of_length_le (by omega), List.take_of_length_le (by omega)]
    simp only [cutB, List.append_nil]
    rw [← hl, ← bytes_of s]
  | j + 1, i, k + 1, hi, hk => by
    have hs := size_len s
    rw [hl] at hs
    have hb : bt s (i : Int) = ((l[i]'(by omega)).toNat : Int) := by
      rw [bytes_of s, hl]; exact bt_list (by omega)
    have hd : l.drop i = l[i]'(by omega) :: l.drop (i + 1) := List.drop_eq_getElem_cons (by omega)
    have w1 : wrap64 ((i : Int) + 1) = ((i + 1 : Nat) : Int) := by unfold wrap64; omega
    rw [fluxionref04_cut.l0, if_pos (by omega), if_pos (by omega), hb, w1, hd, cutB]
    by_cases h : l[i]'(by omega) = 47
    · rw [if_pos (by rw [h]; rfl), if_pos (by omega), if_pos (by omega), if_pos (by omega), if_pos h]
      simp only [Int.toNat_natCast, List.append_nil]
      rw [bytes_of (s.extract 0 i), bytes_of (s.extract (i + 1) s.size), ext_head, ext_tail, hl]
    · have hne : ¬ (((l[i]'(by omega)).toNat : Int) = 47) := by
        intro hc; exact h (UInt8.toNat_inj.1 (by have : (47 : UInt8).toNat = 47 := rfl; omega))
      rw [if_neg hne, if_neg h, cutr_l0 s l hl hz j (i + 1) k (by omega) (by omega)]
      have ht : l.take (i + 1) = l.take i ++ [l[i]'(by omega)] := by rw [List.take_succ_eq_append_getElem (by omega)]
      rw [ht, List.append_assoc, List.singleton_append]
theorem refCut_f (s : ByteArray) (k : Nat) (hz : s.size < 150000000000000) (hk : s.size < k) : fluxionref04_cut.f k s = some (⟨(cutB s.data.toList).1.toArray⟩, ⟨(cutB s.data.toList).2.1.toArray⟩, (cutB s.data.toList).2.2) := by
  have hs := size_len s
  unfold fluxionref04_cut.f
  have := cutr_l0 s _ rfl (by omega) s.data.toList.length 0 k (by omega) (by omega)
  rw [List.drop_zero, List.take_zero, List.nil_append] at this
  exact this
theorem nat_l0 (s : ByteArray) (l : List UInt8) (hl : s.data.toList = l) (hz : l.length < 150000000000000) : ∀ (j i k : Nat), i + j = l.length → j < k →
    fluxionref04_natural.l0 k s (i : Int) = some ((l.drop i).all digB && (!l.isEmpty && (l.head? != some 48 || l.length == 1)))
  | _, _, 0, _, h => by omega
  | 0, i, k + 1, hi, _ => by
    have hs := size_len s
    rw [hl] at hs
    rw [fluxionref04_natural.l0, if_neg (by omega), List.drop_of_length_le (by omega), List.all_nil, Bool.true_and]
    cases hc : l with
    | nil => rw [hc] at hs; rw [if_neg (by rw [← hs]; simp)]; rfl
    | cons c m =>
      have hb : bt s 0 = (c.toNat : Int) := by
        have e : s = ⟨(c :: m).toArray⟩ := by rw [bytes_of s, hl, hc]
        rw [e]
        exact bt_list (l := c :: m) (i := 0) (by simp)
      rw [hc, List.length_cons] at hs
      rw [if_pos (by omega), if_pos (by omega), hb]
      by_cases h : c = 48
      · rw [if_pos (by rw [h]; rfl), ← hs, h]
        have : (((m.length + 1 : Nat) : Int) == 1) = (m.length + 1 == 1) := by
          rw [Bool.eq_iff_iff, beq_iff_eq, beq_iff_eq]; omega
        rw [this]; simp
      · have hne : ¬ ((c.toNat : Int) = 48) := by
          intro hc; exact h (UInt8.toNat_inj.1 (by have : (48 : UInt8).toNat = 48 := rfl; omega))
        rw [if_neg hne]
        simp [h]
  | j + 1, i, k + 1, hi, hk => by
    have hs := size_len s
    rw [hl] at hs
    have hb : bt s (i : Int) = ((l[i]'(by omega)).toNat : Int) := by
      rw [bytes_of s, hl]; exact bt_list (by omega)
    have hd : l.drop i = l[i]'(by omega) :: l.drop (i + 1) := List.drop_eq_getElem_cons (by omega)
    have w1 : wrap64 ((i : Int) + 1) = ((i + 1 : Nat) : Int) := by unfold wrap64; omega
    rw [fluxionref04_natural.l0, if_pos (by omega), if_pos (by omega), hb, w1, hd, List.all_cons, nat_l0 s l hl hz j (i + 1) k (by omega) (by omega)]
    by_cases h : digB (l[i]'(by omega)) = true
    · have := (digB_iff _).1 h
      rw [if_neg (by omega), if_neg (by omega), h, Bool.true_and]
    · have h1 : ¬ (48 ≤ (l[i]'(by omega)).toNat ∧ (l[i]'(by omega)).toNat ≤ 57) := fun hc => h ((digB_iff _).2 hc)
      have h2 : digB (l[i]'(by omega)) = false := by simpa using h
      rw [h2, Bool.false_and, Bool.false_and]
      by_cases h3 : (l[i]'(by omega)).toNat < 48
      · rw [if_pos (by omega)]
      · rw [if_neg (by omega), if_pos (by omega)]
theorem refNatural_f (s : ByteArray) (k : Nat) (hz : s.size < 150000000000000) (hk : s.size < k) : fluxionref04_natural.f k s = some (natB s.data.toList) := by
  have hs := size_len s
  unfold fluxionref04_natural.f
  have := nat_l0 s _ rfl (by omega) s.data.toList.length 0 k (by omega) (by omega)
  rw [List.drop_zero] at this
  rw [show (0 : Int) = ((0 : Nat) : Int) from rfl, this]
  unfold natB
  rw [Bool.and_assoc]
theorem cutPrefix_f (s : ByteArray) : strings_CutPrefix.f s ⟨#[45]⟩ = some (⟨(restB s.data.toList).toArray⟩, negB s.data.toList) := by
  have hz : ((⟨#[45]⟩ : ByteArray).size : Int) = 1 := rfl
  have hl := size_len s
  have ht : (⟨#[45]⟩ : ByteArray).toList = [45] := bytes_list [45]
  have e1 : ((1 : Int)).toNat = 1 := rfl
  unfold strings_CutPrefix.f stringslite_CutPrefix.f stringslite_HasPrefix.f
  rw [hz, ht, e1]
  by_cases h : 1 ≤ s.size
  · rw [if_pos (by omega), if_pos (by omega), if_pos (by omega), Option.bind_some, toList_data, ext_head]
    cases hs : s.data.toList with
    | nil => rw [hs] at hl; simp at hl; omega
    | cons c l =>
      have hn : (List.take 1 (c :: l) == ([45] : List UInt8)) = negB (c :: l) := by simp [negB]
      rw [hn]
      unfold restB
      cases negB (c :: l) with
      | true =>
        rw [if_pos rfl, if_pos (by omega), if_pos (by omega), Option.bind_some, if_pos rfl, bytes_of (s.extract 1 s.size), ext_tail, hs]
      | false =>
        rw [if_neg (by decide), Option.bind_some, if_neg (by decide), ← hs, ← bytes_of s]
  · rw [if_neg (by omega), Option.bind_some, if_neg (by decide), Option.bind_some]
    have h0 : s.data.toList = [] := List.eq_nil_of_length_eq_zero (by omega)
    have hn : negB s.data.toList = false := by rw [h0]; rfl
    unfold restB
    rw [hn, if_neg (by decide), ← bytes_of s]
theorem restB_len (l : List UInt8) : (restB l).length ≤ l.length := by
  unfold restB; split
  · rw [List.length_drop]; omega
  · exact Nat.le_refl _
theorem cut_f {l : List UInt8} (h : l.length ≤ 140737488351232) : strings_Cut.f ⟨l.toArray⟩ ⟨#[47]⟩ = some (⟨(cutB l).1.toArray⟩, ⟨(cutB l).2.1.toArray⟩, (cutB l).2.2) := by
  unfold strings_Cut.f
  rw [bytes_size, if_pos (.inr ⟨rfl, h⟩)]
  have e : Lib.cut (⟨l.toArray⟩ : ByteArray).data.toList (⟨#[47]⟩ : ByteArray).data.toList = cutB l := cut47 l
  rw [e]
theorem same_f {a b : Nat} (ha : (limbs a).length < 1000000) (hb : (limbs b).length < 1000000) : rat_limbs.f (limbs a) (limbs b) = some (decide (a = b)) := by
  unfold rat_limbs.f
  rw [cmp_limbs ha hb]
  by_cases h : a = b
  · subst h; rw [if_pos rfl, Option.bind_some, if_neg (Nat.lt_irrefl _), if_neg (Nat.lt_irrefl _), decide_eq_true rfl]; rfl
  · rw [decide_eq_false h]
    by_cases hl : ((limbs a).length : Int) = ((limbs b).length : Int)
    · rw [if_pos hl, Option.bind_some]
      rcases Nat.lt_or_gt_of_ne h with h1 | h1
      · rw [if_pos h1]; rfl
      · rw [if_neg (by omega), if_pos h1]; rfl
    · rw [if_neg hl]
theorem may_f (neg : Bool) {a b : Nat} (ha : (limbs a).length < 100000) (hb : (limbs b).length < 100000) : rat_May.f neg (limbs a) (limbs b) = some (if redN neg a b = (neg, a, b) then 0 else 6) := by
  unfold rat_May.f
  rw [norm_f neg (okl_limbs a) (okl_limbs b) (by omega) (by omega), Option.bind_some, nval_limbs, nval_limbs]
  obtain ⟨q1, q2⟩ := red_len neg (okl_limbs a) (okl_limbs b) ha hb (by decide)
  rw [nval_limbs, nval_limbs] at q1 q2
  obtain ⟨x, hx⟩ : ∃ x, redN neg a b = x := ⟨_, rfl⟩
  rw [hx] at q1 q2 ⊢
  obtain ⟨g, n, d⟩ := x
  simp only at q1 q2 ⊢
  rw [same_f (by omega) (by omega), same_f (by omega) (by omega)]
  simp only [Prod.mk.injEq, Option.bind_some]
  by_cases h1 : g = neg
  · subst h1
    by_cases h2 : n = a
    · by_cases h3 : d = b
      · simp [h2, h3]
      · simp [h2, h3]
    · simp [h2]
  · rw [if_pos (by simpa using h1), if_neg (fun hc => h1 hc.1)]
theorem notbig {n : Nat} (h : ¬ big n = true) : (limbs n).length < 100000 := by
  exact Nat.lt_of_not_le fun hc => h ((big_len n).2 (by omega))
theorem parseRat_f (k : Nat) (s : ByteArray) (hs : s.size ≤ 140737488351232) :
    digits_ParseRat.f (k + 1) s = some ((PR s.data.toList).1.1, limbs (PR s.data.toList).1.2.1, limbs (PR s.data.toList).1.2.2, (PR s.data.toList).2) := by
  unfold digits_ParseRat.f digits_natural.f
  have hl := size_len s
  have hr := restB_len s.data.toList
  rw [cutPrefix_f, Option.bind_some]
  simp only
  rw [cut_f (by omega), Option.bind_some]
  simp only
  rw [bytes_data, bytes_data, Option.bind_some, Option.bind_some]
  obtain ⟨l, hll⟩ : ∃ l, s.data.toList = l := ⟨_, rfl⟩
  rw [hll]
  have hm := @may_iff l
  unfold PR
  obtain ⟨c, hc⟩ : ∃ c, cutB (restB l) = c := ⟨_, rfl⟩
  rw [hc] at hm ⊢
  obtain ⟨neg, hneg⟩ : ∃ neg, negB l = neg := ⟨_, rfl⟩
  rw [hneg] at hm ⊢
  clear hc hneg hll hr hl hs
  have bad : digits_ParseRat.j0 (k + 1) neg ⟨c.1.toArray⟩ ⟨c.2.1.toArray⟩ c.2.2 true = some (false, limbs 0, limbs 0, 19) := by
    rw [digits_ParseRat.j0, if_pos rfl, limbs_zero]
  by_cases n1 : natB c.1 = true
  case neg =>
    have e : (natB c.1 && natB (denB c)) = false := by rw [Bool.and_eq_false_iff]; left; simpa using n1
    rw [if_neg n1, bad, e]; rfl
  rw [if_pos n1, n1, Bool.true_and]
  have rd1 := read_f (s := ⟨c.1.toArray⟩) n1
  rw [bytes_data] at rd1
  by_cases ht : c.2.2 = true
  · have hden : denB c = c.2.1 := by unfold denB; rw [if_pos ht]
    rw [hden] at hm ⊢
    rw [if_pos ht]
    by_cases n2 : natB c.2.1 = true
    case neg =>
      have e : natB c.2.1 = false := by simpa using n2
      rw [e, Bool.not_false, bad]; rfl
    have rd2 := read_f (s := ⟨c.2.1.toArray⟩) n2
    rw [bytes_data] at rd2
    have hm := hm n1 n2
    rw [n2, Bool.not_true, if_pos rfl, digits_ParseRat.j0, if_neg (by decide), of_one, Option.bind_some, rd1, Option.bind_some]
    unfold PN
    rw [if_pos n1]
    by_cases b1 : big (dv c.1) = true
    · rw [if_pos b1, b1, Bool.true_or, if_pos rfl, limbs_zero]; rfl
    · have b1' : big (dv c.1) = false := by simpa using b1
      rw [if_neg b1, b1', Bool.false_or, if_pos ht, rd2, Option.bind_some]
      simp only
      rw [if_pos trivial]
      unfold PN
      rw [if_pos n2]
      by_cases b2 : big (dv c.2.1) = true
      · rw [if_pos b2, if_pos b2, limbs_zero]; rfl
      · rw [if_neg b2, if_neg b2]
        simp only
        rw [if_pos trivial, may_f neg (notbig b1) (notbig b2), Option.bind_some, bytes_list]
        by_cases h1 : redN neg (dv c.1) (dv c.2.1) = (neg, dv c.1, dv c.2.1)
        · rw [if_pos h1, if_pos rfl]
          by_cases h2 : c.2.1 = [49]
          · rw [if_pos h2, if_neg (fun h => (hm.1 h).2 ⟨ht, h2⟩), limbs_zero]
          · rw [if_neg h2, if_pos (hm.2 ⟨h1, fun h => h2 h.2⟩), h1]
        · rw [if_neg h1, if_neg (by decide), if_neg (fun h => h1 (hm.1 h).1), limbs_zero]
  · have hden : denB c = [49] := by unfold denB; rw [if_neg ht]
    have hd1 : dv [49] = 1 := by rw [dv_one]; rfl
    have hb1 : big 1 = false := by
      have h := mt (big_len 1).1 (by have := limbs_length_le 1 1 (by decide); omega)
      simpa using h
    rw [hden] at hm ⊢
    rw [hd1] at hm ⊢
    rw [if_neg ht, show natB [49] = true by decide, if_pos rfl, digits_ParseRat.j0, if_neg (by decide), of_one, Option.bind_some, rd1, Option.bind_some]
    have hm := hm n1 (by decide)
    unfold PN
    rw [if_pos n1]
    by_cases b1 : big (dv c.1) = true
    · rw [if_pos b1, b1, Bool.true_or, if_pos rfl, limbs_zero]; rfl
    · have b1' : big (dv c.1) = false := by simpa using b1
      rw [if_neg b1, b1', Bool.false_or, hb1]
      simp only
      rw [if_pos trivial, if_neg ht, may_f neg (notbig b1) (notbig (by rw [hb1]; decide)), Option.bind_some]
      by_cases h1 : redN neg (dv c.1) 1 = (neg, dv c.1, 1)
      · rw [if_pos h1, if_pos rfl, if_neg (by decide), if_pos (hm.2 ⟨h1, fun h => ht h.1⟩), h1]
      · rw [if_neg h1, if_neg (by decide), if_neg (by decide), if_neg (fun h => h1 (hm.1 h).1), limbs_zero]
end Go.Proofs.YtpncflaoikeidaaGreatDoor.H
namespace Go.Proofs.YtpncflaoikeidaaGreatDoor.P
open Go.RowKit Go.Proofs.YtpncflaoikeidaaGreatDoorW.PrintWords Go.Proofs.YtpncflaoikeidaaGreatDoorW.PrintLast Go.Proofs.YtpncflaoikeidaaGreatDoorW.PrintMore
attribute [local go_sem] max2_int max_two
set_option linter.unusedVariables false
set_option linter.unusedSimpArgs false
def fluxionlaw04_falls.f (k : Nat) (a0 : ByteArray) (a1 : Int) : Option (Bool) := (digits_ParseRat.f k a0).bind fun bt264 => (if bt264.2.2.2 = a1 then (if bt264.1 = true then (some false) else (if (bt264.2.1.length : Int) = 0 then (some ((bt264.2.2.1.length : Int) == 0)) else (some false))) else (some false))
set_option maxHeartbeats 8000000 in
set_option maxRecDepth 100000 in
theorem fluxionlaw04_falls.calls (k : Nat) (a0 : ByteArray) (a1 : Int) (r : Bool) (w : World) (h : fluxionlaw04_falls.f k a0 a1 = some r) (hL : LaidT w) :
    Calls Tryz.prog 14 #[.string a0, .int .i64 a1] w fun e w' => e = .returned (.bool r) ∧ Below w.heap.size w w' := by
  have hu25 := Tryz.underlying25
  have HB := Aside0.mk (Below.refl w.heap.size w)
  have H : ((digits_ParseRat.f k a0).bind fun bt264 => (if bt264.2.2.2 = a1 then (if bt264.1 = true then (some false) else (if (bt264.2.1.length : Int) = 0 then (some ((bt264.2.2.1.length : Int) == 0)) else (some false))) else (some false))) = some r := h
  clear h
  replace H := Option.bind_eq_some_iff.mp H
  obtain ⟨⟨t264, t265, t268, t271⟩, A30, H⟩ := H
  try dsimp only at H
  have A3 := Aside0.mk A30
  clear A30
  by_cases c4 : t271 = a1
  · rw [if_pos c4] at H
    have c4b0 : (t271 == a1) = true := beq_iff_eq.mpr c4
    have c4b1 : (t271 != a1) = false := bne_eq_false_iff_eq.mpr c4
    clear c4
    by_cases c5 : t264 = true
    · subst c5
      have H1 : (some false) = some r := by rw [if_pos rfl] at H; exact H
      clear H
      have H := H1
      clear H1
      obtain rfl := Option.some.inj H
      go_enter Tryz.func14, Tryz.ntmps14
      go_wp2_with (first | ((with_reducible refine gate_callee (f := 12) rfl ?_); refine goesL_ (some 9) rfl rfl Tryz.func12 (by kernel_rfl) rfl #[.string a0] rfl (by (try simp only [List.map_toArray, List.map_cons, List.map_nil]); first | done | rfl | (simp only [List.length_drop, List.length_take]; rfl)) ?_; (with_reducible refine (digits_ParseRat.calls k a0 true t265 t268 t271 _ A3.out ?side1).mono ?_); (case side1 => exact LaidT.below hL (by repeat (first | (with_reducible first | exact HB.out | apply below_alloc | apply pw_below_drewN | apply below_drew1) | exact HB.out))); rintro e w6 ⟨v266, v269, rfl, ho0, ho1, hb⟩; refine ⟨_, rfl, ?_⟩; have n0_ := Aside0.mk (Kd.R_lower ho0 (below_size (by repeat (first | (with_reducible first | exact HB.out | apply below_alloc | apply pw_below_drewN | apply below_drew1) | exact HB.out)))); have n1_ := Aside0.mk (Kd.R_lower ho1 (below_size (by repeat (first | (with_reducible first | exact HB.out | apply below_alloc | apply pw_below_drewN | apply below_drew1) | exact HB.out)))); have n2_ := Aside0.mk (below_step (by repeat (first | (with_reducible first | exact HB.out | apply below_alloc | apply pw_below_drewN | apply below_drew1) | exact HB.out)) hb); clear HB; have HO267 := n0_; have HO270 := n1_; have HB := n2_; clear n0_ n1_ n2_; (try clear hb); (try clear hb2); (try clear hk); (try clear hi); (try clear ho0); (try clear ho1)) | ((with_reducible refine gate_dst (N := 5) rfl ?_); (try (refine gate_guard (by rfl) ?_; dsimp only)); refine box_event ?hg (N := 5) ?hd (cs := #[.bool false, .slice none 0 0, .slice none 0 0]) (t := 25) ?hr ?_; (case hd => rfl); (case hg => rfl); (case hr => first | (go_simp; done) | (go_simp; rfl)); intro gb272 hg w7 hbox hb; have n0_ := Aside0.mk (Kd.R_below (by exact HO267.out) hb); have n1_ := Aside0.mk (Kd.R_below (by exact HO270.out) hb); have n2_ := Aside0.mk (below_step (by repeat (first | (with_reducible first | exact HB.out | apply below_alloc | apply pw_below_drewN | apply below_drew1) | exact HB.out)) hb); have n3_ := Aside0.mk (hbox); have n4_ := Aside0.mk ((by rw [hg]; exact (below_size (by repeat (first | (with_reducible first | exact HB.out | apply below_alloc | apply pw_below_drewN | apply below_drew1) | exact HB.out))) : w.heap.size ≤ gb272)); have n5_ := Aside0.mk ((by rw [hg]; exact (below_size (by repeat (first | (with_reducible first | exact HB.out | apply below_alloc | apply pw_below_drewN | apply below_drew1) | exact HB.out))) : w.heap.size ≤ gb272)); clear HO267; clear HO270; clear HB; have HO267 := n0_; have HO270 := n1_; have HB := n2_; have BK272 := n3_; have GW272 := n4_; have GE272 := n5_; clear n0_ n1_ n2_ n3_ n4_ n5_; clear hb hbox hg; have hcz8_0 : w7.cell? ⟨gb272, 0, none⟩ = some (.bool false) := (blk_cell BK272.out 0).trans rfl; have hcz8_1 : w7.cell? ⟨gb272, 1, none⟩ = some (.slice none 0 0) := (blk_cell BK272.out 1).trans rfl; have hcz8_2 : w7.cell? ⟨gb272, 2, none⟩ = some (.slice none 0 0) := (blk_cell BK272.out 2).trans rfl; have hfz8_0 := blk_frozen BK272.out 0; have hfz8_1 := blk_frozen BK272.out 1; have hfz8_2 := blk_frozen BK272.out 2; obtain ⟨Ao9, co9, eo9⟩ := Kd.R_slice HO267.out; subst eo9; obtain ⟨Ao10, co10, eo10⟩ := Kd.R_slice HO270.out; subst eo10))
      go_ret
      exact ⟨by first | rfl | (simp [errW_none, errW_some] <;> rfl) | (simp [*, errW_none, errW_some] <;> rfl), by repeat (first | (with_reducible first | exact HB.out | apply below_alloc | apply pw_below_drewN | apply below_drew1 | refine below_set ?_ GE272.out) | exact HB.out)⟩
    · replace c5 := Bool.eq_false_iff.mpr c5
      subst c5
      have H1 : (if (t265.length : Int) = 0 then (some ((t268.length : Int) == 0)) else (some false)) = some r := by rw [if_neg (show ¬ (false = true) by decide)] at H; exact H
      clear H
      have H := H1
      clear H1
      by_cases c11 : (t265.length : Int) = 0
      · rw [if_pos c11] at H
        have c11b0 : ((t265.length : Int) == 0) = true := beq_iff_eq.mpr c11
        have c11b1 : ((t265.length : Int) != 0) = false := bne_eq_false_iff_eq.mpr c11
        clear c11
        obtain rfl := Option.some.inj H
        go_enter Tryz.func14, Tryz.ntmps14
        go_wp2_with (first | ((with_reducible refine gate_callee (f := 12) rfl ?_); refine goesL_ (some 9) rfl rfl Tryz.func12 (by kernel_rfl) rfl #[.string a0] rfl (by (try simp only [List.map_toArray, List.map_cons, List.map_nil]); first | done | rfl | (simp only [List.length_drop, List.length_take]; rfl)) ?_; (with_reducible refine (digits_ParseRat.calls k a0 false t265 t268 t271 _ A3.out ?side1).mono ?_); (case side1 => exact LaidT.below hL (by repeat (first | (with_reducible first | exact HB.out | apply below_alloc | apply pw_below_drewN | apply below_drew1) | exact HB.out))); rintro e w12 ⟨v266, v269, rfl, ho0, ho1, hb⟩; refine ⟨_, rfl, ?_⟩; have n0_ := Aside0.mk (Kd.R_lower ho0 (below_size (by repeat (first | (with_reducible first | exact HB.out | apply below_alloc | apply pw_below_drewN | apply below_drew1) | exact HB.out)))); have n1_ := Aside0.mk (Kd.R_lower ho1 (below_size (by repeat (first | (with_reducible first | exact HB.out | apply below_alloc | apply pw_below_drewN | apply below_drew1) | exact HB.out)))); have n2_ := Aside0.mk (below_step (by repeat (first | (with_reducible first | exact HB.out | apply below_alloc | apply pw_below_drewN | apply below_drew1) | exact HB.out)) hb); clear HB; have HO267 := n0_; have HO270 := n1_; have HB := n2_; clear n0_ n1_ n2_; (try clear hb); (try clear hb2); (try clear hk); (try clear hi); (try clear ho0); (try clear ho1)) | ((with_reducible refine gate_dst (N := 5) rfl ?_); (try (refine gate_guard (by rfl) ?_; dsimp only)); refine box_event ?hg (N := 5) ?hd (cs := #[.bool false, .slice none 0 0, .slice none 0 0]) (t := 25) ?hr ?_; (case hd => rfl); (case hg => rfl); (case hr => first | (go_simp; done) | (go_simp; rfl)); intro gb272 hg w13 hbox hb; have n0_ := Aside0.mk (Kd.R_below (by exact HO267.out) hb); have n1_ := Aside0.mk (Kd.R_below (by exact HO270.out) hb); have n2_ := Aside0.mk (below_step (by repeat (first | (with_reducible first | exact HB.out | apply below_alloc | apply pw_below_drewN | apply below_drew1) | exact HB.out)) hb); have n3_ := Aside0.mk (hbox); have n4_ := Aside0.mk ((by rw [hg]; exact (below_size (by repeat (first | (with_reducible first | exact HB.out | apply below_alloc | apply pw_below_drewN | apply below_drew1) | exact HB.out))) : w.heap.size ≤ gb272)); have n5_ := Aside0.mk ((by rw [hg]; exact (below_size (by repeat (first | (with_reducible first | exact HB.out | apply below_alloc | apply pw_below_drewN | apply below_drew1) | exact HB.out))) : w.heap.size ≤ gb272)); clear HO267; clear HO270; clear HB; have HO267 := n0_; have HO270 := n1_; have HB := n2_; have BK272 := n3_; have GW272 := n4_; have GE272 := n5_; clear n0_ n1_ n2_ n3_ n4_ n5_; clear hb hbox hg; have hcz14_0 : w13.cell? ⟨gb272, 0, none⟩ = some (.bool false) := (blk_cell BK272.out 0).trans rfl; have hcz14_1 : w13.cell? ⟨gb272, 1, none⟩ = some (.slice none 0 0) := (blk_cell BK272.out 1).trans rfl; have hcz14_2 : w13.cell? ⟨gb272, 2, none⟩ = some (.slice none 0 0) := (blk_cell BK272.out 2).trans rfl; have hfz14_0 := blk_frozen BK272.out 0; have hfz14_1 := blk_frozen BK272.out 1; have hfz14_2 := blk_frozen BK272.out 2; obtain ⟨Ao15, co15, eo15⟩ := Kd.R_slice HO267.out; subst eo15; obtain ⟨Ao16, co16, eo16⟩ := Kd.R_slice HO270.out; subst eo16))
        go_ret
        exact ⟨by first | rfl | (simp [errW_none, errW_some] <;> rfl) | (simp [*, errW_none, errW_some] <;> rfl), by repeat (first | (with_reducible first | exact HB.out | apply below_alloc | apply pw_below_drewN | apply below_drew1 | refine below_set ?_ GE272.out) | exact HB.out)⟩
      · rw [if_neg c11] at H
        have c11b0 : ((t265.length : Int) == 0) = false := beq_eq_false_iff_ne.mpr c11
        have c11b1 : ((t265.length : Int) != 0) = true := bne_iff_ne.mpr c11
        have c11b2 : ¬ (t265 = []) := fun h_ => c11 (by rw [h_]; rfl)
        obtain rfl := Option.some.inj H
        go_enter Tryz.func14, Tryz.ntmps14
        go_wp2_with (first | ((with_reducible refine gate_callee (f := 12) rfl ?_); refine goesL_ (some 9) rfl rfl Tryz.func12 (by kernel_rfl) rfl #[.string a0] rfl (by (try simp only [List.map_toArray, List.map_cons, List.map_nil]); first | done | rfl | (simp only [List.length_drop, List.length_take]; rfl)) ?_; (with_reducible refine (digits_ParseRat.calls k a0 false t265 t268 t271 _ A3.out ?side1).mono ?_); (case side1 => exact LaidT.below hL (by repeat (first | (with_reducible first | exact HB.out | apply below_alloc | apply pw_below_drewN | apply below_drew1) | exact HB.out))); rintro e w17 ⟨v266, v269, rfl, ho0, ho1, hb⟩; refine ⟨_, rfl, ?_⟩; have n0_ := Aside0.mk (Kd.R_lower ho0 (below_size (by repeat (first | (with_reducible first | exact HB.out | apply below_alloc | apply pw_below_drewN | apply below_drew1) | exact HB.out)))); have n1_ := Aside0.mk (Kd.R_lower ho1 (below_size (by repeat (first | (with_reducible first | exact HB.out | apply below_alloc | apply pw_below_drewN | apply below_drew1) | exact HB.out)))); have n2_ := Aside0.mk (below_step (by repeat (first | (with_reducible first | exact HB.out | apply below_alloc | apply pw_below_drewN | apply below_drew1) | exact HB.out)) hb); clear HB; have HO267 := n0_; have HO270 := n1_; have HB := n2_; clear n0_ n1_ n2_; (try clear hb); (try clear hb2); (try clear hk); (try clear hi); (try clear ho0); (try clear ho1)) | ((with_reducible refine gate_dst (N := 5) rfl ?_); (try (refine gate_guard (by rfl) ?_; dsimp only)); refine box_event ?hg (N := 5) ?hd (cs := #[.bool false, .slice none 0 0, .slice none 0 0]) (t := 25) ?hr ?_; (case hd => rfl); (case hg => rfl); (case hr => first | (go_simp; done) | (go_simp; rfl)); intro gb272 hg w18 hbox hb; have n0_ := Aside0.mk (Kd.R_below (by exact HO267.out) hb); have n1_ := Aside0.mk (Kd.R_below (by exact HO270.out) hb); have n2_ := Aside0.mk (below_step (by repeat (first | (with_reducible first | exact HB.out | apply below_alloc | apply pw_below_drewN | apply below_drew1) | exact HB.out)) hb); have n3_ := Aside0.mk (hbox); have n4_ := Aside0.mk ((by rw [hg]; exact (below_size (by repeat (first | (with_reducible first | exact HB.out | apply below_alloc | apply pw_below_drewN | apply below_drew1) | exact HB.out))) : w.heap.size ≤ gb272)); have n5_ := Aside0.mk ((by rw [hg]; exact (below_size (by repeat (first | (with_reducible first | exact HB.out | apply below_alloc | apply pw_below_drewN | apply below_drew1) | exact HB.out))) : w.heap.size ≤ gb272)); clear HO267; clear HO270; clear HB; have HO267 := n0_; have HO270 := n1_; have HB := n2_; have BK272 := n3_; have GW272 := n4_; have GE272 := n5_; clear n0_ n1_ n2_ n3_ n4_ n5_; clear hb hbox hg; have hcz19_0 : w18.cell? ⟨gb272, 0, none⟩ = some (.bool false) := (blk_cell BK272.out 0).trans rfl; have hcz19_1 : w18.cell? ⟨gb272, 1, none⟩ = some (.slice none 0 0) := (blk_cell BK272.out 1).trans rfl; have hcz19_2 : w18.cell? ⟨gb272, 2, none⟩ = some (.slice none 0 0) := (blk_cell BK272.out 2).trans rfl; have hfz19_0 := blk_frozen BK272.out 0; have hfz19_1 := blk_frozen BK272.out 1; have hfz19_2 := blk_frozen BK272.out 2; obtain ⟨Ao20, co20, eo20⟩ := Kd.R_slice HO267.out; subst eo20; obtain ⟨Ao21, co21, eo21⟩ := Kd.R_slice HO270.out; subst eo21))
        go_ret
        exact ⟨by first | rfl | (simp [errW_none, errW_some] <;> rfl) | (simp [*, errW_none, errW_some] <;> rfl), by repeat (first | (with_reducible first | exact HB.out | apply below_alloc | apply pw_below_drewN | apply below_drew1 | refine below_set ?_ GE272.out) | exact HB.out)⟩
  · rw [if_neg c4] at H
    have c4b0 : (t271 == a1) = false := beq_eq_false_iff_ne.mpr c4
    have c4b1 : (t271 != a1) = true := bne_iff_ne.mpr c4
    obtain rfl := Option.some.inj H
    go_enter Tryz.func14, Tryz.ntmps14
    go_wp2_with (first | ((with_reducible refine gate_callee (f := 12) rfl ?_); refine goesL_ (some 9) rfl rfl Tryz.func12 (by kernel_rfl) rfl #[.string a0] rfl (by (try simp only [List.map_toArray, List.map_cons, List.map_nil]); first | done | rfl | (simp only [List.length_drop, List.length_take]; rfl)) ?_; (with_reducible refine (digits_ParseRat.calls k a0 t264 t265 t268 t271 _ A3.out ?side1).mono ?_); (case side1 => exact LaidT.below hL (by repeat (first | (with_reducible first | exact HB.out | apply below_alloc | apply pw_below_drewN | apply below_drew1) | exact HB.out))); rintro e w22 ⟨v266, v269, rfl, ho0, ho1, hb⟩; refine ⟨_, rfl, ?_⟩; have n0_ := Aside0.mk (Kd.R_lower ho0 (below_size (by repeat (first | (with_reducible first | exact HB.out | apply below_alloc | apply pw_below_drewN | apply below_drew1) | exact HB.out)))); have n1_ := Aside0.mk (Kd.R_lower ho1 (below_size (by repeat (first | (with_reducible first | exact HB.out | apply below_alloc | apply pw_below_drewN | apply below_drew1) | exact HB.out)))); have n2_ := Aside0.mk (below_step (by repeat (first | (with_reducible first | exact HB.out | apply below_alloc | apply pw_below_drewN | apply below_drew1) | exact HB.out)) hb); clear HB; have HO267 := n0_; have HO270 := n1_; have HB := n2_; clear n0_ n1_ n2_; (try clear hb); (try clear hb2); (try clear hk); (try clear hi); (try clear ho0); (try clear ho1)) | ((with_reducible refine gate_dst (N := 5) rfl ?_); (try (refine gate_guard (by rfl) ?_; dsimp only)); refine box_event ?hg (N := 5) ?hd (cs := #[.bool false, .slice none 0 0, .slice none 0 0]) (t := 25) ?hr ?_; (case hd => rfl); (case hg => rfl); (case hr => first | (go_simp; done) | (go_simp; rfl)); intro gb272 hg w23 hbox hb; have n0_ := Aside0.mk (Kd.R_below (by exact HO267.out) hb); have n1_ := Aside0.mk (Kd.R_below (by exact HO270.out) hb); have n2_ := Aside0.mk (below_step (by repeat (first | (with_reducible first | exact HB.out | apply below_alloc | apply pw_below_drewN | apply below_drew1) | exact HB.out)) hb); have n3_ := Aside0.mk (hbox); have n4_ := Aside0.mk ((by rw [hg]; exact (below_size (by repeat (first | (with_reducible first | exact HB.out | apply below_alloc | apply pw_below_drewN | apply below_drew1) | exact HB.out))) : w.heap.size ≤ gb272)); have n5_ := Aside0.mk ((by rw [hg]; exact (below_size (by repeat (first | (with_reducible first | exact HB.out | apply below_alloc | apply pw_below_drewN | apply below_drew1) | exact HB.out))) : w.heap.size ≤ gb272)); clear HO267; clear HO270; clear HB; have HO267 := n0_; have HO270 := n1_; have HB := n2_; have BK272 := n3_; have GW272 := n4_; have GE272 := n5_; clear n0_ n1_ n2_ n3_ n4_ n5_; clear hb hbox hg; have hcz24_0 : w23.cell? ⟨gb272, 0, none⟩ = some (.bool false) := (blk_cell BK272.out 0).trans rfl; have hcz24_1 : w23.cell? ⟨gb272, 1, none⟩ = some (.slice none 0 0) := (blk_cell BK272.out 1).trans rfl; have hcz24_2 : w23.cell? ⟨gb272, 2, none⟩ = some (.slice none 0 0) := (blk_cell BK272.out 2).trans rfl; have hfz24_0 := blk_frozen BK272.out 0; have hfz24_1 := blk_frozen BK272.out 1; have hfz24_2 := blk_frozen BK272.out 2; obtain ⟨Ao25, co25, eo25⟩ := Kd.R_slice HO267.out; subst eo25; obtain ⟨Ao26, co26, eo26⟩ := Kd.R_slice HO270.out; subst eo26))
    go_ret
    exact ⟨by first | rfl | (simp [errW_none, errW_some] <;> rfl) | (simp [*, errW_none, errW_some] <;> rfl), by repeat (first | (with_reducible first | exact HB.out | apply below_alloc | apply pw_below_drewN | apply below_drew1 | refine below_set ?_ GE272.out) | exact HB.out)⟩

def fluxionlaw04_known.f (k : Nat)  : Option (Bool) := (digits_ParseNat.f (⟨#[48, 48, 55]⟩ : ByteArray)).bind fun bt278 => ((digits_ParseNat.f (⟨#[49, 120]⟩ : ByteArray)).bind fun bt282 => ((digits_ParseNat.f (⟨#[]⟩ : ByteArray)).bind fun bt286 => ((digits_Nat.f (([0, 1] : List Int))).bind fun t293 => (if t293.toList = ([52, 50, 57, 52, 57, 54, 55, 50, 57, 54] : List UInt8) then ((digits_Rat.f k true (([3] : List Int)) (([4] : List Int))).bind fun t300 => (if t300.toList = ([45, 51, 47, 52] : List UInt8) then ((digits_Rat.f k false (([7] : List Int)) (([1] : List Int))).bind fun t307 => (if t307.toList = ([55] : List UInt8) then (if bt278.2 = 19 then (if bt282.2 = 19 then (if bt286.2 = 19 then ((fluxionlaw04_falls.f k (⟨#[50, 47, 52]⟩ : ByteArray) 6).bind fun t308 => (if t308 = true then ((fluxionlaw04_falls.f k (⟨#[51, 47, 49]⟩ : ByteArray) 6).bind fun t309 => (if t309 = true then ((fluxionlaw04_falls.f k (⟨#[45, 48]⟩ : ByteArray) 6).bind fun t310 => (if t310 = true then ((fluxionlaw04_falls.f k (⟨#[48, 47, 51]⟩ : ByteArray) 6).bind fun t311 => (if t311 = true then ((fluxionlaw04_falls.f k (⟨#[49, 47, 48]⟩ : ByteArray) 6).bind fun t312 => (if t312 = true then ((fluxionlaw04_falls.f k (⟨#[48, 49, 47, 50]⟩ : ByteArray) 19).bind fun t313 => (if t313 = true then ((fluxionlaw04_falls.f k (⟨#[49, 47]⟩ : ByteArray) 19).bind fun t314 => (if t314 = true then ((fluxionlaw04_falls.f k (⟨#[45, 47, 50]⟩ : ByteArray) 19).bind fun t315 => (if t315 = true then ((fluxionlaw04_falls.f k (⟨#[49, 47, 45, 50]⟩ : ByteArray) 19).bind fun t316 => (if t316 = true then ((fluxionlaw04_falls.f k (⟨#[43, 49]⟩ : ByteArray) 19).bind fun t317 => (some t317)) else (none))) else (none))) else (none))) else (none))) else (none))) else (none))) else (none))) else (none))) else (none))) else (none)) else (none)) else (none)) else (none))) else (none))) else (none)))))
set_option maxHeartbeats 8000000 in
set_option maxRecDepth 100000 in
theorem fluxionlaw04_known.calls (k : Nat)  (r : Bool) (w : World) (h : fluxionlaw04_known.f k  = some r) (hL : LaidT w) :
    Calls Tryz.prog 8 #[] w fun e w' => e = .returned (.bool r) ∧ Below w.heap.size w w' := by
  have hu25 := Tryz.underlying25
  have HB := Aside0.mk (Below.refl w.heap.size w)
  have H : ((digits_ParseNat.f (⟨#[48, 48, 55]⟩ : ByteArray)).bind fun bt278 => ((digits_ParseNat.f (⟨#[49, 120]⟩ : ByteArray)).bind fun bt282 => ((digits_ParseNat.f (⟨#[]⟩ : ByteArray)).bind fun bt286 => ((digits_Nat.f (([0, 1] : List Int))).bind fun t293 => (if t293.toList = ([52, 50, 57, 52, 57, 54, 55, 50, 57, 54] : List UInt8) then ((digits_Rat.f k true (([3] : List Int)) (([4] : List Int))).bind fun t300 => (if t300.toList = ([45, 51, 47, 52] : List UInt8) then ((digits_Rat.f k false (([7] : List Int)) (([1] : List Int))).bind fun t307 => (if t307.toList = ([55] : List UInt8) then (if bt278.2 = 19 then (if bt282.2 = 19 then (if bt286.2 = 19 then ((fluxionlaw04_falls.f k (⟨#[50, 47, 52]⟩ : ByteArray) 6).bind fun t308 => (if t308 = true then ((fluxionlaw04_falls.f k (⟨#[51, 47, 49]⟩ : ByteArray) 6).bind fun t309 => (if t309 = true then ((fluxionlaw04_falls.f k (⟨#[45, 48]⟩ : ByteArray) 6).bind fun t310 => (if t310 = true then ((fluxionlaw04_falls.f k (⟨#[48, 47, 51]⟩ : ByteArray) 6).bind fun t311 => (if t311 = true then ((fluxionlaw04_falls.f k (⟨#[49, 47, 48]⟩ : ByteArray) 6).bind fun t312 => (if t312 = true then ((fluxionlaw04_falls.f k (⟨#[48, 49, 47, 50]⟩ : ByteArray) 19).bind fun t313 => (if t313 = true then ((fluxionlaw04_falls.f k (⟨#[49, 47]⟩ : ByteArray) 19).bind fun t314 => (if t314 = true then ((fluxionlaw04_falls.f k (⟨#[45, 47, 50]⟩ : ByteArray) 19).bind fun t315 => (if t315 = true then ((fluxionlaw04_falls.f k (⟨#[49, 47, 45, 50]⟩ : ByteArray) 19).bind fun t316 => (if t316 = true then ((fluxionlaw04_falls.f k (⟨#[43, 49]⟩ : ByteArray) 19).bind fun t317 => (some t317)) else (none))) else (none))) else (none))) else (none))) else (none))) else (none))) else (none))) else (none))) else (none))) else (none)) else (none)) else (none)) else (none))) else (none))) else (none)))))) = some r := h
  clear h
  replace H := Option.bind_eq_some_iff.mp H
  obtain ⟨⟨t278, t279⟩, A10, H⟩ := H
  try dsimp only at H
  have A1 := Aside0.mk A10
  clear A10
  replace H := Option.bind_eq_some_iff.mp H
  obtain ⟨⟨t282, t283⟩, A20, H⟩ := H
  try dsimp only at H
  have A2 := Aside0.mk A20
  clear A20
  replace H := Option.bind_eq_some_iff.mp H
  obtain ⟨⟨t286, t287⟩, A30, H⟩ := H
  try dsimp only at H
  have A3 := Aside0.mk A30
  clear A30
  obtain ⟨y290, hy290⟩ : ∃ y_ : List Int, y_ = (([0, 1] : List Int)) := ⟨_, rfl⟩
  replace H : ((digits_Nat.f y290).bind fun t293 => (if t293.toList = ([52, 50, 57, 52, 57, 54, 55, 50, 57, 54] : List UInt8) then ((digits_Rat.f k true (([3] : List Int)) (([4] : List Int))).bind fun t300 => (if t300.toList = ([45, 51, 47, 52] : List UInt8) then ((digits_Rat.f k false (([7] : List Int)) (([1] : List Int))).bind fun t307 => (if t307.toList = ([55] : List UInt8) then (if t279 = 19 then (if t283 = 19 then (if t287 = 19 then ((fluxionlaw04_falls.f k (⟨#[50, 47, 52]⟩ : ByteArray) 6).bind fun t308 => (if t308 = true then ((fluxionlaw04_falls.f k (⟨#[51, 47, 49]⟩ : ByteArray) 6).bind fun t309 => (if t309 = true then ((fluxionlaw04_falls.f k (⟨#[45, 48]⟩ : ByteArray) 6).bind fun t310 => (if t310 = true then ((fluxionlaw04_falls.f k (⟨#[48, 47, 51]⟩ : ByteArray) 6).bind fun t311 => (if t311 = true then ((fluxionlaw04_falls.f k (⟨#[49, 47, 48]⟩ : ByteArray) 6).bind fun t312 => (if t312 = true then ((fluxionlaw04_falls.f k (⟨#[48, 49, 47, 50]⟩ : ByteArray) 19).bind fun t313 => (if t313 = true then ((fluxionlaw04_falls.f k (⟨#[49, 47]⟩ : ByteArray) 19).bind fun t314 => (if t314 = true then ((fluxionlaw04_falls.f k (⟨#[45, 47, 50]⟩ : ByteArray) 19).bind fun t315 => (if t315 = true then ((fluxionlaw04_falls.f k (⟨#[49, 47, 45, 50]⟩ : ByteArray) 19).bind fun t316 => (if t316 = true then ((fluxionlaw04_falls.f k (⟨#[43, 49]⟩ : ByteArray) 19).bind fun t317 => (some t317)) else (none))) else (none))) else (none))) else (none))) else (none))) else (none))) else (none))) else (none))) else (none))) else (none)) else (none)) else (none)) else (none))) else (none))) else (none))) = some r := by first | (rw [hy290]; with_reducible exact H) | (have H2_ := (Option.bind_some _ _).symm.trans H; rw [hy290]; with_reducible exact H2_) | (have H2_ := (Option.bind_some _ _).symm.trans H; with_reducible exact H2_) | with_reducible exact H | (rw [hy290]; exact H) | exact H
  have Ny290 := Aside0.mk hy290
  clear hy290
  replace H := Option.bind_eq_some_iff.mp H
  obtain ⟨t293, A40, H⟩ := H
  try dsimp only at H
  have A4 := Aside0.mk A40
  clear A40
  by_cases c5 : t293.toList = ([52, 50, 57, 52, 57, 54, 55, 50, 57, 54] : List UInt8)
  · rw [if_pos c5] at H
    have c5b0 : (t293.toList == ([52, 50, 57, 52, 57, 54, 55, 50, 57, 54] : List UInt8)) = true := beq_iff_eq.mpr c5
    have c5b1 : (t293.toList != ([52, 50, 57, 52, 57, 54, 55, 50, 57, 54] : List UInt8)) = false := bne_eq_false_iff_eq.mpr c5
    clear c5
    obtain ⟨y294, hy294⟩ : ∃ y_ : List Int, y_ = (([3] : List Int)) := ⟨_, rfl⟩
    replace H : ((digits_Rat.f k true y294 (([4] : List Int))).bind fun t300 => (if t300.toList = ([45, 51, 47, 52] : List UInt8) then ((digits_Rat.f k false (([7] : List Int)) (([1] : List Int))).bind fun t307 => (if t307.toList = ([55] : List UInt8) then (if t279 = 19 then (if t283 = 19 then (if t287 = 19 then ((fluxionlaw04_falls.f k (⟨#[50, 47, 52]⟩ : ByteArray) 6).bind fun t308 => (if t308 = true then ((fluxionlaw04_falls.f k (⟨#[51, 47, 49]⟩ : ByteArray) 6).bind fun t309 => (if t309 = true then ((fluxionlaw04_falls.f k (⟨#[45, 48]⟩ : ByteArray) 6).bind fun t310 => (if t310 = true then ((fluxionlaw04_falls.f k (⟨#[48, 47, 51]⟩ : ByteArray) 6).bind fun t311 => (if t311 = true then ((fluxionlaw04_falls.f k (⟨#[49, 47, 48]⟩ : ByteArray) 6).bind fun t312 => (if t312 = true then ((fluxionlaw04_falls.f k (⟨#[48, 49, 47, 50]⟩ : ByteArray) 19).bind fun t313 => (if t313 = true then ((fluxionlaw04_falls.f k (⟨#[49, 47]⟩ : ByteArray) 19).bind fun t314 => (if t314 = true then ((fluxionlaw04_falls.f k (⟨#[45, 47, 50]⟩ : ByteArray) 19).bind fun t315 => (if t315 = true then ((fluxionlaw04_falls.f k (⟨#[49, 47, 45, 50]⟩ : ByteArray) 19).bind fun t316 => (if t316 = true then ((fluxionlaw04_falls.f k (⟨#[43, 49]⟩ : ByteArray) 19).bind fun t317 => (some t317)) else (none))) else (none))) else (none))) else (none))) else (none))) else (none))) else (none))) else (none))) else (none))) else (none)) else (none)) else (none)) else (none))) else (none))) = some r := by first | (rw [hy294]; with_reducible exact H) | (have H2_ := (Option.bind_some _ _).symm.trans H; rw [hy294]; with_reducible exact H2_) | (have H2_ := (Option.bind_some _ _).symm.trans H; with_reducible exact H2_) | with_reducible exact H | (rw [hy294]; exact H) | exact H
    have Ny294 := Aside0.mk hy294
    clear hy294
    obtain ⟨y297, hy297⟩ : ∃ y_ : List Int, y_ = (([4] : List Int)) := ⟨_, rfl⟩
    replace H : ((digits_Rat.f k true y294 y297).bind fun t300 => (if t300.toList = ([45, 51, 47, 52] : List UInt8) then ((digits_Rat.f k false (([7] : List Int)) (([1] : List Int))).bind fun t307 => (if t307.toList = ([55] : List UInt8) then (if t279 = 19 then (if t283 = 19 then (if t287 = 19 then ((fluxionlaw04_falls.f k (⟨#[50, 47, 52]⟩ : ByteArray) 6).bind fun t308 => (if t308 = true then ((fluxionlaw04_falls.f k (⟨#[51, 47, 49]⟩ : ByteArray) 6).bind fun t309 => (if t309 = true then ((fluxionlaw04_falls.f k (⟨#[45, 48]⟩ : ByteArray) 6).bind fun t310 => (if t310 = true then ((fluxionlaw04_falls.f k (⟨#[48, 47, 51]⟩ : ByteArray) 6).bind fun t311 => (if t311 = true then ((fluxionlaw04_falls.f k (⟨#[49, 47, 48]⟩ : ByteArray) 6).bind fun t312 => (if t312 = true then ((fluxionlaw04_falls.f k (⟨#[48, 49, 47, 50]⟩ : ByteArray) 19).bind fun t313 => (if t313 = true then ((fluxionlaw04_falls.f k (⟨#[49, 47]⟩ : ByteArray) 19).bind fun t314 => (if t314 = true then ((fluxionlaw04_falls.f k (⟨#[45, 47, 50]⟩ : ByteArray) 19).bind fun t315 => (if t315 = true then ((fluxionlaw04_falls.f k (⟨#[49, 47, 45, 50]⟩ : ByteArray) 19).bind fun t316 => (if t316 = true then ((fluxionlaw04_falls.f k (⟨#[43, 49]⟩ : ByteArray) 19).bind fun t317 => (some t317)) else (none))) else (none))) else (none))) else (none))) else (none))) else (none))) else (none))) else (none))) else (none))) else (none)) else (none)) else (none)) else (none))) else (none))) = some r := by first | (rw [hy297]; with_reducible exact H) | (have H2_ := (Option.bind_some _ _).symm.trans H; rw [hy297]; with_reducible exact H2_) | (have H2_ := (Option.bind_some _ _).symm.trans H; with_reducible exact H2_) | with_reducible exact H | (rw [hy297]; exact H) | exact H
    have Ny297 := Aside0.mk hy297
    clear hy297
    replace H := Option.bind_eq_some_iff.mp H
    obtain ⟨t300, A60, H⟩ := H
    try dsimp only at H
    have A6 := Aside0.mk A60
    clear A60
    by_cases c7 : t300.toList = ([45, 51, 47, 52] : List UInt8)
    · rw [if_pos c7] at H
      have c7b0 : (t300.toList == ([45, 51, 47, 52] : List UInt8)) = true := beq_iff_eq.mpr c7
      have c7b1 : (t300.toList != ([45, 51, 47, 52] : List UInt8)) = false := bne_eq_false_iff_eq.mpr c7
      clear c7
      obtain ⟨y301, hy301⟩ : ∃ y_ : List Int, y_ = (([7] : List Int)) := ⟨_, rfl⟩
      replace H : ((digits_Rat.f k false y301 (([1] : List Int))).bind fun t307 => (if t307.toList = ([55] : List UInt8) then (if t279 = 19 then (if t283 = 19 then (if t287 = 19 then ((fluxionlaw04_falls.f k (⟨#[50, 47, 52]⟩ : ByteArray) 6).bind fun t308 => (if t308 = true then ((fluxionlaw04_falls.f k (⟨#[51, 47, 49]⟩ : ByteArray) 6).bind fun t309 => (if t309 = true then ((fluxionlaw04_falls.f k (⟨#[45, 48]⟩ : ByteArray) 6).bind fun t310 => (if t310 = true then ((fluxionlaw04_falls.f k (⟨#[48, 47, 51]⟩ : ByteArray) 6).bind fun t311 => (if t311 = true then ((fluxionlaw04_falls.f k (⟨#[49, 47, 48]⟩ : ByteArray) 6).bind fun t312 => (if t312 = true then ((fluxionlaw04_falls.f k (⟨#[48, 49, 47, 50]⟩ : ByteArray) 19).bind fun t313 => (if t313 = true then ((fluxionlaw04_falls.f k (⟨#[49, 47]⟩ : ByteArray) 19).bind fun t314 => (if t314 = true then ((fluxionlaw04_falls.f k (⟨#[45, 47, 50]⟩ : ByteArray) 19).bind fun t315 => (if t315 = true then ((fluxionlaw04_falls.f k (⟨#[49, 47, 45, 50]⟩ : ByteArray) 19).bind fun t316 => (if t316 = true then ((fluxionlaw04_falls.f k (⟨#[43, 49]⟩ : ByteArray) 19).bind fun t317 => (some t317)) else (none))) else (none))) else (none))) else (none))) else (none))) else (none))) else (none))) else (none))) else (none))) else (none)) else (none)) else (none)) else (none))) = some r := by first | (rw [hy301]; with_reducible exact H) | (have H2_ := (Option.bind_some _ _).symm.trans H; rw [hy301]; with_reducible exact H2_) | (have H2_ := (Option.bind_some _ _).symm.trans H; with_reducible exact H2_) | with_reducible exact H | (rw [hy301]; exact H) | exact H
      have Ny301 := Aside0.mk hy301
      clear hy301
      obtain ⟨y304, hy304⟩ : ∃ y_ : List Int, y_ = (([1] : List Int)) := ⟨_, rfl⟩
      replace H : ((digits_Rat.f k false y301 y304).bind fun t307 => (if t307.toList = ([55] : List UInt8) then (if t279 = 19 then (if t283 = 19 then (if t287 = 19 then ((fluxionlaw04_falls.f k (⟨#[50, 47, 52]⟩ : ByteArray) 6).bind fun t308 => (if t308 = true then ((fluxionlaw04_falls.f k (⟨#[51, 47, 49]⟩ : ByteArray) 6).bind fun t309 => (if t309 = true then ((fluxionlaw04_falls.f k (⟨#[45, 48]⟩ : ByteArray) 6).bind fun t310 => (if t310 = true then ((fluxionlaw04_falls.f k (⟨#[48, 47, 51]⟩ : ByteArray) 6).bind fun t311 => (if t311 = true then ((fluxionlaw04_falls.f k (⟨#[49, 47, 48]⟩ : ByteArray) 6).bind fun t312 => (if t312 = true then ((fluxionlaw04_falls.f k (⟨#[48, 49, 47, 50]⟩ : ByteArray) 19).bind fun t313 => (if t313 = true then ((fluxionlaw04_falls.f k (⟨#[49, 47]⟩ : ByteArray) 19).bind fun t314 => (if t314 = true then ((fluxionlaw04_falls.f k (⟨#[45, 47, 50]⟩ : ByteArray) 19).bind fun t315 => (if t315 = true then ((fluxionlaw04_falls.f k (⟨#[49, 47, 45, 50]⟩ : ByteArray) 19).bind fun t316 => (if t316 = true then ((fluxionlaw04_falls.f k (⟨#[43, 49]⟩ : ByteArray) 19).bind fun t317 => (some t317)) else (none))) else (none))) else (none))) else (none))) else (none))) else (none))) else (none))) else (none))) else (none))) else (none)) else (none)) else (none)) else (none))) = some r := by first | (rw [hy304]; with_reducible exact H) | (have H2_ := (Option.bind_some _ _).symm.trans H; rw [hy304]; with_reducible exact H2_) | (have H2_ := (Option.bind_some _ _).symm.trans H; with_reducible exact H2_) | with_reducible exact H | (rw [hy304]; exact H) | exact H
      have Ny304 := Aside0.mk hy304
      clear hy304
      replace H := Option.bind_eq_some_iff.mp H
      obtain ⟨t307, A80, H⟩ := H
      try dsimp only at H
      have A8 := Aside0.mk A80
      clear A80
      by_cases c9 : t307.toList = ([55] : List UInt8)
      · rw [if_pos c9] at H
        have c9b0 : (t307.toList == ([55] : List UInt8)) = true := beq_iff_eq.mpr c9
        have c9b1 : (t307.toList != ([55] : List UInt8)) = false := bne_eq_false_iff_eq.mpr c9
        clear c9
        by_cases c10 : t279 = 19
        · rw [if_pos c10] at H
          have c10b0 : (t279 == 19) = true := beq_iff_eq.mpr c10
          have c10b1 : (t279 != 19) = false := bne_eq_false_iff_eq.mpr c10
          clear c10
          by_cases c11 : t283 = 19
          · rw [if_pos c11] at H
            have c11b0 : (t283 == 19) = true := beq_iff_eq.mpr c11
            have c11b1 : (t283 != 19) = false := bne_eq_false_iff_eq.mpr c11
            clear c11
            by_cases c12 : t287 = 19
            · rw [if_pos c12] at H
              have c12b0 : (t287 == 19) = true := beq_iff_eq.mpr c12
              have c12b1 : (t287 != 19) = false := bne_eq_false_iff_eq.mpr c12
              clear c12
              replace H := Option.bind_eq_some_iff.mp H
              obtain ⟨t308, A130, H⟩ := H
              try dsimp only at H
              have A13 := Aside0.mk A130
              clear A130
              by_cases c14 : t308 = true
              · subst c14
                have H1 : ((fluxionlaw04_falls.f k (⟨#[51, 47, 49]⟩ : ByteArray) 6).bind fun t309 => (if t309 = true then ((fluxionlaw04_falls.f k (⟨#[45, 48]⟩ : ByteArray) 6).bind fun t310 => (if t310 = true then ((fluxionlaw04_falls.f k (⟨#[48, 47, 51]⟩ : ByteArray) 6).bind fun t311 => (if t311 = true then ((fluxionlaw04_falls.f k (⟨#[49, 47, 48]⟩ : ByteArray) 6).bind fun t312 => (if t312 = true then ((fluxionlaw04_falls.f k (⟨#[48, 49, 47, 50]⟩ : ByteArray) 19).bind fun t313 => (if t313 = true then ((fluxionlaw04_falls.f k (⟨#[49, 47]⟩ : ByteArray) 19).bind fun t314 => (if t314 = true then ((fluxionlaw04_falls.f k (⟨#[45, 47, 50]⟩ : ByteArray) 19).bind fun t315 => (if t315 = true then ((fluxionlaw04_falls.f k (⟨#[49, 47, 45, 50]⟩ : ByteArray) 19).bind fun t316 => (if t316 = true then ((fluxionlaw04_falls.f k (⟨#[43, 49]⟩ : ByteArray) 19).bind fun t317 => (some t317)) else (none))) else (none))) else (none))) else (none))) else (none))) else (none))) else (none))) else (none))) = some r := by rw [if_pos rfl] at H; exact H
                clear H
                have H := H1
                clear H1
                replace H := Option.bind_eq_some_iff.mp H
                obtain ⟨t309, A150, H⟩ := H
                try dsimp only at H
                have A15 := Aside0.mk A150
                clear A150
                by_cases c16 : t309 = true
                · subst c16
                  have H1 : ((fluxionlaw04_falls.f k (⟨#[45, 48]⟩ : ByteArray) 6).bind fun t310 => (if t310 = true then ((fluxionlaw04_falls.f k (⟨#[48, 47, 51]⟩ : ByteArray) 6).bind fun t311 => (if t311 = true then ((fluxionlaw04_falls.f k (⟨#[49, 47, 48]⟩ : ByteArray) 6).bind fun t312 => (if t312 = true then ((fluxionlaw04_falls.f k (⟨#[48, 49, 47, 50]⟩ : ByteArray) 19).bind fun t313 => (if t313 = true then ((fluxionlaw04_falls.f k (⟨#[49, 47]⟩ : ByteArray) 19).bind fun t314 => (if t314 = true then ((fluxionlaw04_falls.f k (⟨#[45, 47, 50]⟩ : ByteArray) 19).bind fun t315 => (if t315 = true then ((fluxionlaw04_falls.f k (⟨#[49, 47, 45, 50]⟩ : ByteArray) 19).bind fun t316 => (if t316 = true then ((fluxionlaw04_falls.f k (⟨#[43, 49]⟩ : ByteArray) 19).bind fun t317 => (some t317)) else (none))) else (none))) else (none))) else (none))) else (none))) else (none))) else (none))) = some r := by rw [if_pos rfl] at H; exact H
                  clear H
                  have H := H1
                  clear H1
                  replace H := Option.bind_eq_some_iff.mp H
                  obtain ⟨t310, A170, H⟩ := H
                  try dsimp only at H
                  have A17 := Aside0.mk A170
                  clear A170
                  by_cases c18 : t310 = true
                  · subst c18
                    have H1 : ((fluxionlaw04_falls.f k (⟨#[48, 47, 51]⟩ : ByteArray) 6).bind fun t311 => (if t311 = true then ((fluxionlaw04_falls.f k (⟨#[49, 47, 48]⟩ : ByteArray) 6).bind fun t312 => (if t312 = true then ((fluxionlaw04_falls.f k (⟨#[48, 49, 47, 50]⟩ : ByteArray) 19).bind fun t313 => (if t313 = true then ((fluxionlaw04_falls.f k (⟨#[49, 47]⟩ : ByteArray) 19).bind fun t314 => (if t314 = true then ((fluxionlaw04_falls.f k (⟨#[45, 47, 50]⟩ : ByteArray) 19).bind fun t315 => (if t315 = true then ((fluxionlaw04_falls.f k (⟨#[49, 47, 45, 50]⟩ : ByteArray) 19).bind fun t316 => (if t316 = true then ((fluxionlaw04_falls.f k (⟨#[43, 49]⟩ : ByteArray) 19).bind fun t317 => (some t317)) else (none))) else (none))) else (none))) else (none))) else (none))) else (none))) = some r := by rw [if_pos rfl] at H; exact H
                    clear H
                    have H := H1
                    clear H1
                    replace H := Option.bind_eq_some_iff.mp H
                    obtain ⟨t311, A190, H⟩ := H
                    try dsimp only at H
                    have A19 := Aside0.mk A190
                    clear A190
                    by_cases c20 : t311 = true
                    · subst c20
                      have H1 : ((fluxionlaw04_falls.f k (⟨#[49, 47, 48]⟩ : ByteArray) 6).bind fun t312 => (if t312 = true then ((fluxionlaw04_falls.f k (⟨#[48, 49, 47, 50]⟩ : ByteArray) 19).bind fun t313 => (if t313 = true then ((fluxionlaw04_falls.f k (⟨#[49, 47]⟩ : ByteArray) 19).bind fun t314 => (if t314 = true then ((fluxionlaw04_falls.f k (⟨#[45, 47, 50]⟩ : ByteArray) 19).bind fun t315 => (if t315 = true then ((fluxionlaw04_falls.f k (⟨#[49, 47, 45, 50]⟩ : ByteArray) 19).bind fun t316 => (if t316 = true then ((fluxionlaw04_falls.f k (⟨#[43, 49]⟩ : ByteArray) 19).bind fun t317 => (some t317)) else (none))) else (none))) else (none))) else (none))) else (none))) = some r := by rw [if_pos rfl] at H; exact H
                      clear H
                      have H := H1
                      clear H1
                      replace H := Option.bind_eq_some_iff.mp H
                      obtain ⟨t312, A210, H⟩ := H
                      try dsimp only at H
                      have A21 := Aside0.mk A210
                      clear A210
                      by_cases c22 : t312 = true
                      · subst c22
                        have H1 : ((fluxionlaw04_falls.f k (⟨#[48, 49, 47, 50]⟩ : ByteArray) 19).bind fun t313 => (if t313 = true then ((fluxionlaw04_falls.f k (⟨#[49, 47]⟩ : ByteArray) 19).bind fun t314 => (if t314 = true then ((fluxionlaw04_falls.f k (⟨#[45, 47, 50]⟩ : ByteArray) 19).bind fun t315 => (if t315 = true then ((fluxionlaw04_falls.f k (⟨#[49, 47, 45, 50]⟩ : ByteArray) 19).bind fun t316 => (if t316 = true then ((fluxionlaw04_falls.f k (⟨#[43, 49]⟩ : ByteArray) 19).bind fun t317 => (some t317)) else (none))) else (none))) else (none))) else (none))) = some r := by rw [if_pos rfl] at H; exact H
                        clear H
                        have H := H1
                        clear H1
                        replace H := Option.bind_eq_some_iff.mp H
                        obtain ⟨t313, A230, H⟩ := H
                        try dsimp only at H
                        have A23 := Aside0.mk A230
                        clear A230
                        by_cases c24 : t313 = true
                        · subst c24
                          have H1 : ((fluxionlaw04_falls.f k (⟨#[49, 47]⟩ : ByteArray) 19).bind fun t314 => (if t314 = true then ((fluxionlaw04_falls.f k (⟨#[45, 47, 50]⟩ : ByteArray) 19).bind fun t315 => (if t315 = true then ((fluxionlaw04_falls.f k (⟨#[49, 47, 45, 50]⟩ : ByteArray) 19).bind fun t316 => (if t316 = true then ((fluxionlaw04_falls.f k (⟨#[43, 49]⟩ : ByteArray) 19).bind fun t317 => (some t317)) else (none))) else (none))) else (none))) = some r := by rw [if_pos rfl] at H; exact H
                          clear H
                          have H := H1
                          clear H1
                          replace H := Option.bind_eq_some_iff.mp H
                          obtain ⟨t314, A250, H⟩ := H
                          try dsimp only at H
                          have A25 := Aside0.mk A250
                          clear A250
                          by_cases c26 : t314 = true
                          · subst c26
                            have H1 : ((fluxionlaw04_falls.f k (⟨#[45, 47, 50]⟩ : ByteArray) 19).bind fun t315 => (if t315 = true then ((fluxionlaw04_falls.f k (⟨#[49, 47, 45, 50]⟩ : ByteArray) 19).bind fun t316 => (if t316 = true then ((fluxionlaw04_falls.f k (⟨#[43, 49]⟩ : ByteArray) 19).bind fun t317 => (some t317)) else (none))) else (none))) = some r := by rw [if_pos rfl] at H; exact H
                            clear H
                            have H := H1
                            clear H1
                            replace H := Option.bind_eq_some_iff.mp H
                            obtain ⟨t315, A270, H⟩ := H
                            try dsimp only at H
                            have A27 := Aside0.mk A270
                            clear A270
                            by_cases c28 : t315 = true
                            · subst c28
                              have H1 : ((fluxionlaw04_falls.f k (⟨#[49, 47, 45, 50]⟩ : ByteArray) 19).bind fun t316 => (if t316 = true then ((fluxionlaw04_falls.f k (⟨#[43, 49]⟩ : ByteArray) 19).bind fun t317 => (some t317)) else (none))) = some r := by rw [if_pos rfl] at H; exact H
                              clear H
                              have H := H1
                              clear H1
                              replace H := Option.bind_eq_some_iff.mp H
                              obtain ⟨t316, A290, H⟩ := H
                              try dsimp only at H
                              have A29 := Aside0.mk A290
                              clear A290
                              by_cases c30 : t316 = true
                              · subst c30
                                have H1 : ((fluxionlaw04_falls.f k (⟨#[43, 49]⟩ : ByteArray) 19).bind fun t317 => (some t317)) = some r := by rw [if_pos rfl] at H; exact H
                                clear H
                                have H := H1
                                clear H1
                                replace H := Option.bind_eq_some_iff.mp H
                                obtain ⟨t317, A310, H⟩ := H
                                try dsimp only at H
                                have A31 := Aside0.mk A310
                                clear A310
                                obtain rfl := Option.some.inj H
                                go_enter Tryz.func8, Tryz.ntmps8
                                go_wp2_with (first | ((with_reducible refine gate_callee (f := 16) rfl ?_); refine goesL_ (some 8) rfl rfl Tryz.func16 (by kernel_rfl) rfl #[.string (⟨#[48, 48, 55]⟩ : ByteArray)] rfl (by (try simp only [List.map_toArray, List.map_cons, List.map_nil]); first | done | rfl | (simp only [List.length_drop, List.length_take]; rfl)) ?_; (with_reducible refine (digits_ParseNat.calls (⟨#[48, 48, 55]⟩ : ByteArray) t278 t279 _ A1.out).mono ?_); rintro e w32 ⟨v280, rfl, ho0, hb⟩; refine ⟨_, rfl, ?_⟩; have n0_ := Aside0.mk (Kd.R_lower ho0 (below_size (by repeat (first | (with_reducible first | exact HB.out | apply below_alloc | apply pw_below_drewN | apply below_drew1) | exact HB.out)))); have n1_ := Aside0.mk (below_step (by repeat (first | (with_reducible first | exact HB.out | apply below_alloc | apply pw_below_drewN | apply below_drew1) | exact HB.out)) hb); clear HB; have HO281 := n0_; have HB := n1_; clear n0_ n1_; (try clear hb); (try clear hb2); (try clear hk); (try clear hi); (try clear ho0)) | ((with_reducible refine gate_callee (f := 16) rfl ?_); refine goesL_ (some 12) rfl rfl Tryz.func16 (by kernel_rfl) rfl #[.string (⟨#[49, 120]⟩ : ByteArray)] rfl (by (try simp only [List.map_toArray, List.map_cons, List.map_nil]); first | done | rfl | (simp only [List.length_drop, List.length_take]; rfl)) ?_; (with_reducible refine (digits_ParseNat.calls (⟨#[49, 120]⟩ : ByteArray) t282 t283 _ A2.out).mono ?_); rintro e w33 ⟨v284, rfl, ho0, hb⟩; refine ⟨_, rfl, ?_⟩; have n0_ := Aside0.mk (Kd.R_elder' (by exact HO281.out) (Kd.R_base ho0) hb); have n1_ := Aside0.mk (Kd.R_lower (Kd.R_new' ho0 (Kd.R_lt (by exact HO281.out))) (below_size (by repeat (first | (with_reducible first | exact HB.out | apply below_alloc | apply pw_below_drewN | apply below_drew1) | exact HB.out)))); have n2_ := Aside0.mk (below_step (by repeat (first | (with_reducible first | exact HB.out | apply below_alloc | apply pw_below_drewN | apply below_drew1) | exact HB.out)) hb); clear HO281; clear HB; have HO281 := n0_; have HO285 := n1_; have HB := n2_; clear n0_ n1_ n2_; (try clear hb); (try clear hb2); (try clear hk); (try clear hi); (try clear ho0)) | ((with_reducible refine gate_callee (f := 16) rfl ?_); refine goesL_ (some 16) rfl rfl Tryz.func16 (by kernel_rfl) rfl #[.string (⟨#[]⟩ : ByteArray)] rfl (by (try simp only [List.map_toArray, List.map_cons, List.map_nil]); first | done | rfl | (simp only [List.length_drop, List.length_take]; rfl)) ?_; (with_reducible refine (digits_ParseNat.calls (⟨#[]⟩ : ByteArray) t286 t287 _ A3.out).mono ?_); rintro e w34 ⟨v288, rfl, ho0, hb⟩; refine ⟨_, rfl, ?_⟩; have n0_ := Aside0.mk (Kd.R_elder' (by exact HO281.out) (Kd.R_base ho0) hb); have n1_ := Aside0.mk (Kd.R_elder' (by exact HO285.out) (Kd.R_base ho0) hb); have n2_ := Aside0.mk (Kd.R_lower (Kd.R_new' (Kd.R_new' ho0 (Kd.R_lt (by exact HO281.out))) (Kd.R_lt (by exact HO285.out))) (below_size (by repeat (first | (with_reducible first | exact HB.out | apply below_alloc | apply pw_below_drewN | apply below_drew1) | exact HB.out)))); have n3_ := Aside0.mk (below_step (by repeat (first | (with_reducible first | exact HB.out | apply below_alloc | apply pw_below_drewN | apply below_drew1) | exact HB.out)) hb); clear HO281; clear HO285; clear HB; have HO281 := n0_; have HO285 := n1_; have HO289 := n2_; have HB := n3_; clear n0_ n1_ n2_ n3_; (try clear hb); (try clear hb2); (try clear hk); (try clear hi); (try clear ho0)) | ((with_reducible refine gate_dst (N := 19) rfl ?_); (try (refine gate_guard (by rfl) ?_; dsimp only)); refine Kd.R_lit (Kd.int .u32) _ 56 ?hg (N := 19) ?hd (xs := ([0, 1] : List Int)) (inner := [.int .u32 0, .int .u32 1]) (ok := fun _ => True) (okp := fun _ => True) ?hr ?hp (fun _ hk => hk) trivial (Below.refl _ _) (Nat.le_refl _) (by simp) ?_; (case hd => rfl); (case hg => rfl); (case hr => first | (go_simp; done) | (go_simp; rfl)); (case hp => exact (Reps.one (show Kd.M (Kd.int .u32) _ _ _ 0 [.int .u32 0] from rfl) (Reps.one (show Kd.M (Kd.int .u32) _ _ _ 1 [.int .u32 1] from rfl) (Reps.none _ _)))); intro v291 w35 ho36 hb hg_ hnew_; clear hg_ hnew_; (first | rw [← Ny290.out] at ho36 | (simp only [Int.reduceToNat] at ho36; rw [← Ny290.out] at ho36)); have n0_ := Aside0.mk (Kd.R_elder' (by exact HO281.out) (Kd.R_base ho36) hb); have n1_ := Aside0.mk (Kd.R_elder' (by exact HO285.out) (Kd.R_base ho36) hb); have n2_ := Aside0.mk (Kd.R_elder' (by exact HO289.out) (Kd.R_base ho36) hb); have n3_ := Aside0.mk (Kd.R_lower (Kd.R_new' (Kd.R_new' (Kd.R_new' ho36 (Kd.R_lt (by exact HO281.out))) (Kd.R_lt (by exact HO285.out))) (Kd.R_lt (by exact HO289.out))) (below_size (by repeat (first | (with_reducible first | exact HB.out | apply below_alloc | apply pw_below_drewN | apply below_drew1) | exact HB.out)))); have n4_ := Aside0.mk (below_step (by repeat (first | (with_reducible first | exact HB.out | apply below_alloc | apply pw_below_drewN | apply below_drew1) | exact HB.out)) hb); clear HO281; clear HO285; clear HO289; clear HB; have HO281 := n0_; have HO285 := n1_; have HO289 := n2_; have HO292 := n3_; have HB := n4_; clear n0_ n1_ n2_ n3_ n4_; clear hb ho36; obtain ⟨Ao37, co37, eo37⟩ := Kd.R_slice HO292.out; subst eo37) | ((with_reducible refine gate_callee (f := 17) rfl ?_); refine goesL_ (some 20) rfl rfl Tryz.func17 (by kernel_rfl) rfl #[.slice Ao37 y290.length co37] rfl (by (try simp only [List.map_toArray, List.map_cons, List.map_nil]); first | done | rfl | (simp only [List.length_drop, List.length_take]; rfl)) ?_; (with_reducible refine (digits_Nat.calls _ _ y290 t293 _ ?side1 ?side2 A4.out ?side3).mono ?_); (case side1 => repeat (first | exact (Kd.R_reads' HO292.out).2.2 | (with_reducible refine Kd.C_alloc ?_ _) | (with_reducible refine Kd.C_drewN ?_ _) | (with_reducible refine Kd.C_drew ?_))); (case side2 => exact (Kd.R_reads' HO292.out).2.1); (case side3 => exact LaidT.below hL (by repeat (first | (with_reducible first | exact HB.out | apply below_alloc | apply pw_below_drewN | apply below_drew1) | exact HB.out))); rintro e w38 ⟨rfl, hb⟩; refine ⟨_, rfl, ?_⟩; have n0_ := Aside0.mk (Kd.R_below (by exact HO281.out) hb); have n1_ := Aside0.mk (Kd.R_below (by exact HO285.out) hb); have n2_ := Aside0.mk (Kd.R_below (by exact HO289.out) hb); have n3_ := Aside0.mk (Kd.R_below (by exact HO292.out) hb); have n4_ := Aside0.mk (below_step (by repeat (first | (with_reducible first | exact HB.out | apply below_alloc | apply pw_below_drewN | apply below_drew1) | exact HB.out)) hb); clear HO281; clear HO285; clear HO289; clear HO292; clear HB; have HO281 := n0_; have HO285 := n1_; have HO289 := n2_; have HO292 := n3_; have HB := n4_; clear n0_ n1_ n2_ n3_ n4_; (try clear hb); (try clear hb2); (try clear hk); (try clear hi)) | ((with_reducible refine gate_dst (N := 23) rfl ?_); (try (refine gate_guard (by rfl) ?_; dsimp only)); refine Kd.R_lit (Kd.int .u32) _ 56 ?hg (N := 23) ?hd (xs := ([3] : List Int)) (inner := [.int .u32 3]) (ok := fun _ => True) (okp := fun _ => True) ?hr ?hp (fun _ hk => hk) trivial (Below.refl _ _) (Nat.le_refl _) (by simp) ?_; (case hd => rfl); (case hg => rfl); (case hr => first | (go_simp; done) | (go_simp; rfl)); (case hp => exact (Reps.one (show Kd.M (Kd.int .u32) _ _ _ 3 [.int .u32 3] from rfl) (Reps.none _ _))); intro v295 w39 ho40 hb hg_ hnew_; clear hg_ hnew_; (first | rw [← Ny294.out] at ho40 | (simp only [Int.reduceToNat] at ho40; rw [← Ny294.out] at ho40)); have n0_ := Aside0.mk (Kd.R_elder' (by exact HO281.out) (Kd.R_base ho40) hb); have n1_ := Aside0.mk (Kd.R_elder' (by exact HO285.out) (Kd.R_base ho40) hb); have n2_ := Aside0.mk (Kd.R_elder' (by exact HO289.out) (Kd.R_base ho40) hb); have n3_ := Aside0.mk (Kd.R_elder' (by exact HO292.out) (Kd.R_base ho40) hb); have n4_ := Aside0.mk (Kd.R_lower (Kd.R_new' (Kd.R_new' (Kd.R_new' (Kd.R_new' ho40 (Kd.R_lt (by exact HO281.out))) (Kd.R_lt (by exact HO285.out))) (Kd.R_lt (by exact HO289.out))) (Kd.R_lt (by exact HO292.out))) (below_size (by repeat (first | (with_reducible first | exact HB.out | apply below_alloc | apply pw_below_drewN | apply below_drew1) | exact HB.out)))); have n5_ := Aside0.mk (below_step (by repeat (first | (with_reducible first | exact HB.out | apply below_alloc | apply pw_below_drewN | apply below_drew1) | exact HB.out)) hb); clear HO281; clear HO285; clear HO289; clear HO292; clear HB; have HO281 := n0_; have HO285 := n1_; have HO289 := n2_; have HO292 := n3_; have HO296 := n4_; have HB := n5_; clear n0_ n1_ n2_ n3_ n4_ n5_; clear hb ho40) | ((with_reducible refine gate_dst (N := 24) rfl ?_); (try (refine gate_guard (by rfl) ?_; dsimp only)); refine Kd.R_lit (Kd.int .u32) _ 56 ?hg (N := 24) ?hd (xs := ([4] : List Int)) (inner := [.int .u32 4]) (ok := fun _ => True) (okp := fun _ => True) ?hr ?hp (fun _ hk => hk) trivial (Below.refl _ _) (Nat.le_refl _) (by simp) ?_; (case hd => rfl); (case hg => rfl); (case hr => first | (go_simp; done) | (go_simp; rfl)); (case hp => exact (Reps.one (show Kd.M (Kd.int .u32) _ _ _ 4 [.int .u32 4] from rfl) (Reps.none _ _))); intro v298 w41 ho42 hb hg_ hnew_; clear hg_ hnew_; (first | rw [← Ny297.out] at ho42 | (simp only [Int.reduceToNat] at ho42; rw [← Ny297.out] at ho42)); have n0_ := Aside0.mk (Kd.R_elder' (by exact HO281.out) (Kd.R_base ho42) hb); have n1_ := Aside0.mk (Kd.R_elder' (by exact HO285.out) (Kd.R_base ho42) hb); have n2_ := Aside0.mk (Kd.R_elder' (by exact HO289.out) (Kd.R_base ho42) hb); have n3_ := Aside0.mk (Kd.R_elder' (by exact HO292.out) (Kd.R_base ho42) hb); have n4_ := Aside0.mk (Kd.R_elder' (by exact HO296.out) (Kd.R_base ho42) hb); have n5_ := Aside0.mk (Kd.R_lower (Kd.R_new' (Kd.R_new' (Kd.R_new' (Kd.R_new' (Kd.R_new' ho42 (Kd.R_lt (by exact HO281.out))) (Kd.R_lt (by exact HO285.out))) (Kd.R_lt (by exact HO289.out))) (Kd.R_lt (by exact HO292.out))) (Kd.R_lt (by exact HO296.out))) (below_size (by repeat (first | (with_reducible first | exact HB.out | apply below_alloc | apply pw_below_drewN | apply below_drew1) | exact HB.out)))); have n6_ := Aside0.mk (below_step (by repeat (first | (with_reducible first | exact HB.out | apply below_alloc | apply pw_below_drewN | apply below_drew1) | exact HB.out)) hb); clear HO281; clear HO285; clear HO289; clear HO292; clear HO296; clear HB; have HO281 := n0_; have HO285 := n1_; have HO289 := n2_; have HO292 := n3_; have HO296 := n4_; have HO299 := n5_; have HB := n6_; clear n0_ n1_ n2_ n3_ n4_ n5_ n6_; clear hb ho42; obtain ⟨Ao43, co43, eo43⟩ := Kd.R_slice HO299.out; subst eo43; obtain ⟨Ao44, co44, eo44⟩ := Kd.R_slice HO296.out; subst eo44) | (go_at_call 9; (with_reducible refine (digits_Rat.calls k true _ _ y294 _ _ y297 t300 _ ?side1 ?side2 ?side3 ?side4 A6.out ?side5).mono ?_); (case side1 => repeat (first | exact (Kd.R_reads' HO296.out).2.2 | (with_reducible refine Kd.C_alloc ?_ _) | (with_reducible refine Kd.C_drewN ?_ _) | (with_reducible refine Kd.C_drew ?_))); (case side2 => exact (Kd.R_reads' HO296.out).2.1); (case side3 => repeat (first | exact (Kd.R_reads' HO299.out).2.2 | (with_reducible refine Kd.C_alloc ?_ _) | (with_reducible refine Kd.C_drewN ?_ _) | (with_reducible refine Kd.C_drew ?_))); (case side4 => exact (Kd.R_reads' HO299.out).2.1); (case side5 => exact LaidT.below hL (by repeat (first | (with_reducible first | exact HB.out | apply below_alloc | apply pw_below_drewN | apply below_drew1) | exact HB.out))); rintro e w45 ⟨rfl, hb⟩; have n0_ := Aside0.mk (Kd.R_below (by exact HO281.out) hb); have n1_ := Aside0.mk (Kd.R_below (by exact HO285.out) hb); have n2_ := Aside0.mk (Kd.R_below (by exact HO289.out) hb); have n3_ := Aside0.mk (Kd.R_below (by exact HO292.out) hb); have n4_ := Aside0.mk (Kd.R_below (by exact HO296.out) hb); have n5_ := Aside0.mk (Kd.R_below (by exact HO299.out) hb); have n6_ := Aside0.mk (below_step (by repeat (first | (with_reducible first | exact HB.out | apply below_alloc | apply pw_below_drewN | apply below_drew1) | exact HB.out)) hb); clear HO281; clear HO285; clear HO289; clear HO292; clear HO296; clear HO299; clear HB; have HO281 := n0_; have HO285 := n1_; have HO289 := n2_; have HO292 := n3_; have HO296 := n4_; have HO299 := n5_; have HB := n6_; clear n0_ n1_ n2_ n3_ n4_ n5_ n6_; (try clear hb); (try clear hb2); (try clear hk); (try clear hi)) | ((with_reducible refine gate_dst (N := 30) rfl ?_); (try (refine gate_guard (by rfl) ?_; dsimp only)); refine Kd.R_lit (Kd.int .u32) _ 56 ?hg (N := 30) ?hd (xs := ([7] : List Int)) (inner := [.int .u32 7]) (ok := fun _ => True) (okp := fun _ => True) ?hr ?hp (fun _ hk => hk) trivial (Below.refl _ _) (Nat.le_refl _) (by simp) ?_; (case hd => rfl); (case hg => rfl); (case hr => first | (go_simp; done) | (go_simp; rfl)); (case hp => exact (Reps.one (show Kd.M (Kd.int .u32) _ _ _ 7 [.int .u32 7] from rfl) (Reps.none _ _))); intro v302 w46 ho47 hb hg_ hnew_; clear hg_ hnew_; (first | rw [← Ny301.out] at ho47 | (simp only [Int.reduceToNat] at ho47; rw [← Ny301.out] at ho47)); have n0_ := Aside0.mk (Kd.R_elder' (by exact HO281.out) (Kd.R_base ho47) hb); have n1_ := Aside0.mk (Kd.R_elder' (by exact HO285.out) (Kd.R_base ho47) hb); have n2_ := Aside0.mk (Kd.R_elder' (by exact HO289.out) (Kd.R_base ho47) hb); have n3_ := Aside0.mk (Kd.R_elder' (by exact HO292.out) (Kd.R_base ho47) hb); have n4_ := Aside0.mk (Kd.R_elder' (by exact HO296.out) (Kd.R_base ho47) hb); have n5_ := Aside0.mk (Kd.R_elder' (by exact HO299.out) (Kd.R_base ho47) hb); have n6_ := Aside0.mk (Kd.R_lower (Kd.R_new' (Kd.R_new' (Kd.R_new' (Kd.R_new' (Kd.R_new' (Kd.R_new' ho47 (Kd.R_lt (by exact HO281.out))) (Kd.R_lt (by exact HO285.out))) (Kd.R_lt (by exact HO289.out))) (Kd.R_lt (by exact HO292.out))) (Kd.R_lt (by exact HO296.out))) (Kd.R_lt (by exact HO299.out))) (below_size (by repeat (first | (with_reducible first | exact HB.out | apply below_alloc | apply pw_below_drewN | apply below_drew1) | exact HB.out)))); have n7_ := Aside0.mk (below_step (by repeat (first | (with_reducible first | exact HB.out | apply below_alloc | apply pw_below_drewN | apply below_drew1) | exact HB.out)) hb); clear HO281; clear HO285; clear HO289; clear HO292; clear HO296; clear HO299; clear HB; have HO281 := n0_; have HO285 := n1_; have HO289 := n2_; have HO292 := n3_; have HO296 := n4_; have HO299 := n5_; have HO303 := n6_; have HB := n7_; clear n0_ n1_ n2_ n3_ n4_ n5_ n6_ n7_; clear hb ho47) | ((with_reducible refine gate_dst (N := 31) rfl ?_); (try (refine gate_guard (by rfl) ?_; dsimp only)); refine Kd.R_lit (Kd.int .u32) _ 56 ?hg (N := 31) ?hd (xs := ([1] : List Int)) (inner := [.int .u32 1]) (ok := fun _ => True) (okp := fun _ => True) ?hr ?hp (fun _ hk => hk) trivial (Below.refl _ _) (Nat.le_refl _) (by simp) ?_; (case hd => rfl); (case hg => rfl); (case hr => first | (go_simp; done) | (go_simp; rfl)); (case hp => exact (Reps.one (show Kd.M (Kd.int .u32) _ _ _ 1 [.int .u32 1] from rfl) (Reps.none _ _))); intro v305 w48 ho49 hb hg_ hnew_; clear hg_ hnew_; (first | rw [← Ny304.out] at ho49 | (simp only [Int.reduceToNat] at ho49; rw [← Ny304.out] at ho49)); have n0_ := Aside0.mk (Kd.R_elder' (by exact HO281.out) (Kd.R_base ho49) hb); have n1_ := Aside0.mk (Kd.R_elder' (by exact HO285.out) (Kd.R_base ho49) hb); have n2_ := Aside0.mk (Kd.R_elder' (by exact HO289.out) (Kd.R_base ho49) hb); have n3_ := Aside0.mk (Kd.R_elder' (by exact HO292.out) (Kd.R_base ho49) hb); have n4_ := Aside0.mk (Kd.R_elder' (by exact HO296.out) (Kd.R_base ho49) hb); have n5_ := Aside0.mk (Kd.R_elder' (by exact HO299.out) (Kd.R_base ho49) hb); have n6_ := Aside0.mk (Kd.R_elder' (by exact HO303.out) (Kd.R_base ho49) hb); have n7_ := Aside0.mk (Kd.R_lower (Kd.R_new' (Kd.R_new' (Kd.R_new' (Kd.R_new' (Kd.R_new' (Kd.R_new' (Kd.R_new' ho49 (Kd.R_lt (by exact HO281.out))) (Kd.R_lt (by exact HO285.out))) (Kd.R_lt (by exact HO289.out))) (Kd.R_lt (by exact HO292.out))) (Kd.R_lt (by exact HO296.out))) (Kd.R_lt (by exact HO299.out))) (Kd.R_lt (by exact HO303.out))) (below_size (by repeat (first | (with_reducible first | exact HB.out | apply below_alloc | apply pw_below_drewN | apply below_drew1) | exact HB.out)))); have n8_ := Aside0.mk (below_step (by repeat (first | (with_reducible first | exact HB.out | apply below_alloc | apply pw_below_drewN | apply below_drew1) | exact HB.out)) hb); clear HO281; clear HO285; clear HO289; clear HO292; clear HO296; clear HO299; clear HO303; clear HB; have HO281 := n0_; have HO285 := n1_; have HO289 := n2_; have HO292 := n3_; have HO296 := n4_; have HO299 := n5_; have HO303 := n6_; have HO306 := n7_; have HB := n8_; clear n0_ n1_ n2_ n3_ n4_ n5_ n6_ n7_ n8_; clear hb ho49; obtain ⟨Ao50, co50, eo50⟩ := Kd.R_slice HO306.out; subst eo50; obtain ⟨Ao51, co51, eo51⟩ := Kd.R_slice HO303.out; subst eo51) | (go_at_call 9; (with_reducible refine (digits_Rat.calls k false _ _ y301 _ _ y304 t307 _ ?side1 ?side2 ?side3 ?side4 A8.out ?side5).mono ?_); (case side1 => repeat (first | exact (Kd.R_reads' HO303.out).2.2 | (with_reducible refine Kd.C_alloc ?_ _) | (with_reducible refine Kd.C_drewN ?_ _) | (with_reducible refine Kd.C_drew ?_))); (case side2 => exact (Kd.R_reads' HO303.out).2.1); (case side3 => repeat (first | exact (Kd.R_reads' HO306.out).2.2 | (with_reducible refine Kd.C_alloc ?_ _) | (with_reducible refine Kd.C_drewN ?_ _) | (with_reducible refine Kd.C_drew ?_))); (case side4 => exact (Kd.R_reads' HO306.out).2.1); (case side5 => exact LaidT.below hL (by repeat (first | (with_reducible first | exact HB.out | apply below_alloc | apply pw_below_drewN | apply below_drew1) | exact HB.out))); rintro e w52 ⟨rfl, hb⟩; have n0_ := Aside0.mk (Kd.R_below (by exact HO281.out) hb); have n1_ := Aside0.mk (Kd.R_below (by exact HO285.out) hb); have n2_ := Aside0.mk (Kd.R_below (by exact HO289.out) hb); have n3_ := Aside0.mk (Kd.R_below (by exact HO292.out) hb); have n4_ := Aside0.mk (Kd.R_below (by exact HO296.out) hb); have n5_ := Aside0.mk (Kd.R_below (by exact HO299.out) hb); have n6_ := Aside0.mk (Kd.R_below (by exact HO303.out) hb); have n7_ := Aside0.mk (Kd.R_below (by exact HO306.out) hb); have n8_ := Aside0.mk (below_step (by repeat (first | (with_reducible first | exact HB.out | apply below_alloc | apply pw_below_drewN | apply below_drew1) | exact HB.out)) hb); clear HO281; clear HO285; clear HO289; clear HO292; clear HO296; clear HO299; clear HO303; clear HO306; clear HB; have HO281 := n0_; have HO285 := n1_; have HO289 := n2_; have HO292 := n3_; have HO296 := n4_; have HO299 := n5_; have HO303 := n6_; have HO306 := n7_; have HB := n8_; clear n0_ n1_ n2_ n3_ n4_ n5_ n6_ n7_ n8_; (try clear hb); (try clear hb2); (try clear hk); (try clear hi)) | (go_at_call 14; (with_reducible refine (fluxionlaw04_falls.calls k (⟨#[50, 47, 52]⟩ : ByteArray) 6 true _ A13.out ?side1).mono ?_); (case side1 => exact LaidT.below hL (by repeat (first | (with_reducible first | exact HB.out | apply below_alloc | apply pw_below_drewN | apply below_drew1) | exact HB.out))); rintro e w53 ⟨rfl, hb⟩; have n0_ := Aside0.mk (Kd.R_below (by exact HO281.out) hb); have n1_ := Aside0.mk (Kd.R_below (by exact HO285.out) hb); have n2_ := Aside0.mk (Kd.R_below (by exact HO289.out) hb); have n3_ := Aside0.mk (Kd.R_below (by exact HO292.out) hb); have n4_ := Aside0.mk (Kd.R_below (by exact HO296.out) hb); have n5_ := Aside0.mk (Kd.R_below (by exact HO299.out) hb); have n6_ := Aside0.mk (Kd.R_below (by exact HO303.out) hb); have n7_ := Aside0.mk (Kd.R_below (by exact HO306.out) hb); have n8_ := Aside0.mk (below_step (by repeat (first | (with_reducible first | exact HB.out | apply below_alloc | apply pw_below_drewN | apply below_drew1) | exact HB.out)) hb); clear HO281; clear HO285; clear HO289; clear HO292; clear HO296; clear HO299; clear HO303; clear HO306; clear HB; have HO281 := n0_; have HO285 := n1_; have HO289 := n2_; have HO292 := n3_; have HO296 := n4_; have HO299 := n5_; have HO303 := n6_; have HO306 := n7_; have HB := n8_; clear n0_ n1_ n2_ n3_ n4_ n5_ n6_ n7_ n8_; (try clear hb); (try clear hb2); (try clear hk); (try clear hi)) | (go_at_call 14; (with_reducible refine (fluxionlaw04_falls.calls k (⟨#[51, 47, 49]⟩ : ByteArray) 6 true _ A15.out ?side1).mono ?_); (case side1 => exact LaidT.below hL (by repeat (first | (with_reducible first | exact HB.out | apply below_alloc | apply pw_below_drewN | apply below_drew1) | exact HB.out))); rintro e w54 ⟨rfl, hb⟩; have n0_ := Aside0.mk (Kd.R_below (by exact HO281.out) hb); have n1_ := Aside0.mk (Kd.R_below (by exact HO285.out) hb); have n2_ := Aside0.mk (Kd.R_below (by exact HO289.out) hb); have n3_ := Aside0.mk (Kd.R_below (by exact HO292.out) hb); have n4_ := Aside0.mk (Kd.R_below (by exact HO296.out) hb); have n5_ := Aside0.mk (Kd.R_below (by exact HO299.out) hb); have n6_ := Aside0.mk (Kd.R_below (by exact HO303.out) hb); have n7_ := Aside0.mk (Kd.R_below (by exact HO306.out) hb); have n8_ := Aside0.mk (below_step (by repeat (first | (with_reducible first | exact HB.out | apply below_alloc | apply pw_below_drewN | apply below_drew1) | exact HB.out)) hb); clear HO281; clear HO285; clear HO289; clear HO292; clear HO296; clear HO299; clear HO303; clear HO306; clear HB; have HO281 := n0_; have HO285 := n1_; have HO289 := n2_; have HO292 := n3_; have HO296 := n4_; have HO299 := n5_; have HO303 := n6_; have HO306 := n7_; have HB := n8_; clear n0_ n1_ n2_ n3_ n4_ n5_ n6_ n7_ n8_; (try clear hb); (try clear hb2); (try clear hk); (try clear hi)) | (go_at_call 14; (with_reducible refine (fluxionlaw04_falls.calls k (⟨#[45, 48]⟩ : ByteArray) 6 true _ A17.out ?side1).mono ?_); (case side1 => exact LaidT.below hL (by repeat (first | (with_reducible first | exact HB.out | apply below_alloc | apply pw_below_drewN | apply below_drew1) | exact HB.out))); rintro e w55 ⟨rfl, hb⟩; have n0_ := Aside0.mk (Kd.R_below (by exact HO281.out) hb); have n1_ := Aside0.mk (Kd.R_below (by exact HO285.out) hb); have n2_ := Aside0.mk (Kd.R_below (by exact HO289.out) hb); have n3_ := Aside0.mk (Kd.R_below (by exact HO292.out) hb); have n4_ := Aside0.mk (Kd.R_below (by exact HO296.out) hb); have n5_ := Aside0.mk (Kd.R_below (by exact HO299.out) hb); have n6_ := Aside0.mk (Kd.R_below (by exact HO303.out) hb); have n7_ := Aside0.mk (Kd.R_below (by exact HO306.out) hb); have n8_ := Aside0.mk (below_step (by repeat (first | (with_reducible first | exact HB.out | apply below_alloc | apply pw_below_drewN | apply below_drew1) | exact HB.out)) hb); clear HO281; clear HO285; clear HO289; clear HO292; clear HO296; clear HO299; clear HO303; clear HO306; clear HB; have HO281 := n0_; have HO285 := n1_; have HO289 := n2_; have HO292 := n3_; have HO296 := n4_; have HO299 := n5_; have HO303 := n6_; have HO306 := n7_; have HB := n8_; clear n0_ n1_ n2_ n3_ n4_ n5_ n6_ n7_ n8_; (try clear hb); (try clear hb2); (try clear hk); (try clear hi)) | (go_at_call 14; (with_reducible refine (fluxionlaw04_falls.calls k (⟨#[48, 47, 51]⟩ : ByteArray) 6 true _ A19.out ?side1).mono ?_); (case side1 => exact LaidT.below hL (by repeat (first | (with_reducible first | exact HB.out | apply below_alloc | apply pw_below_drewN | apply below_drew1) | exact HB.out))); rintro e w56 ⟨rfl, hb⟩; have n0_ := Aside0.mk (Kd.R_below (by exact HO281.out) hb); have n1_ := Aside0.mk (Kd.R_below (by exact HO285.out) hb); have n2_ := Aside0.mk (Kd.R_below (by exact HO289.out) hb); have n3_ := Aside0.mk (Kd.R_below (by exact HO292.out) hb); have n4_ := Aside0.mk (Kd.R_below (by exact HO296.out) hb); have n5_ := Aside0.mk (Kd.R_below (by exact HO299.out) hb); have n6_ := Aside0.mk (Kd.R_below (by exact HO303.out) hb); have n7_ := Aside0.mk (Kd.R_below (by exact HO306.out) hb); have n8_ := Aside0.mk (below_step (by repeat (first | (with_reducible first | exact HB.out | apply below_alloc | apply pw_below_drewN | apply below_drew1) | exact HB.out)) hb); clear HO281; clear HO285; clear HO289; clear HO292; clear HO296; clear HO299; clear HO303; clear HO306; clear HB; have HO281 := n0_; have HO285 := n1_; have HO289 := n2_; have HO292 := n3_; have HO296 := n4_; have HO299 := n5_; have HO303 := n6_; have HO306 := n7_; have HB := n8_; clear n0_ n1_ n2_ n3_ n4_ n5_ n6_ n7_ n8_; (try clear hb); (try clear hb2); (try clear hk); (try clear hi)) | (go_at_call 14; (with_reducible refine (fluxionlaw04_falls.calls k (⟨#[49, 47, 48]⟩ : ByteArray) 6 true _ A21.out ?side1).mono ?_); (case side1 => exact LaidT.below hL (by repeat (first | (with_reducible first | exact HB.out | apply below_alloc | apply pw_below_drewN | apply below_drew1) | exact HB.out))); rintro e w57 ⟨rfl, hb⟩; have n0_ := Aside0.mk (Kd.R_below (by exact HO281.out) hb); have n1_ := Aside0.mk (Kd.R_below (by exact HO285.out) hb); have n2_ := Aside0.mk (Kd.R_below (by exact HO289.out) hb); have n3_ := Aside0.mk (Kd.R_below (by exact HO292.out) hb); have n4_ := Aside0.mk (Kd.R_below (by exact HO296.out) hb); have n5_ := Aside0.mk (Kd.R_below (by exact HO299.out) hb); have n6_ := Aside0.mk (Kd.R_below (by exact HO303.out) hb); have n7_ := Aside0.mk (Kd.R_below (by exact HO306.out) hb); have n8_ := Aside0.mk (below_step (by repeat (first | (with_reducible first | exact HB.out | apply below_alloc | apply pw_below_drewN | apply below_drew1) | exact HB.out)) hb); clear HO281; clear HO285; clear HO289; clear HO292; clear HO296; clear HO299; clear HO303; clear HO306; clear HB; have HO281 := n0_; have HO285 := n1_; have HO289 := n2_; have HO292 := n3_; have HO296 := n4_; have HO299 := n5_; have HO303 := n6_; have HO306 := n7_; have HB := n8_; clear n0_ n1_ n2_ n3_ n4_ n5_ n6_ n7_ n8_; (try clear hb); (try clear hb2); (try clear hk); (try clear hi)) | (go_at_call 14; (with_reducible refine (fluxionlaw04_falls.calls k (⟨#[48, 49, 47, 50]⟩ : ByteArray) 19 true _ A23.out ?side1).mono ?_); (case side1 => exact LaidT.below hL (by repeat (first | (with_reducible first | exact HB.out | apply below_alloc | apply pw_below_drewN | apply below_drew1) | exact HB.out))); rintro e w58 ⟨rfl, hb⟩; have n0_ := Aside0.mk (Kd.R_below (by exact HO281.out) hb); have n1_ := Aside0.mk (Kd.R_below (by exact HO285.out) hb); have n2_ := Aside0.mk (Kd.R_below (by exact HO289.out) hb); have n3_ := Aside0.mk (Kd.R_below (by exact HO292.out) hb); have n4_ := Aside0.mk (Kd.R_below (by exact HO296.out) hb); have n5_ := Aside0.mk (Kd.R_below (by exact HO299.out) hb); have n6_ := Aside0.mk (Kd.R_below (by exact HO303.out) hb); have n7_ := Aside0.mk (Kd.R_below (by exact HO306.out) hb); have n8_ := Aside0.mk (below_step (by repeat (first | (with_reducible first | exact HB.out | apply below_alloc | apply pw_below_drewN | apply below_drew1) | exact HB.out)) hb); clear HO281; clear HO285; clear HO289; clear HO292; clear HO296; clear HO299; clear HO303; clear HO306; clear HB; have HO281 := n0_; have HO285 := n1_; have HO289 := n2_; have HO292 := n3_; have HO296 := n4_; have HO299 := n5_; have HO303 := n6_; have HO306 := n7_; have HB := n8_; clear n0_ n1_ n2_ n3_ n4_ n5_ n6_ n7_ n8_; (try clear hb); (try clear hb2); (try clear hk); (try clear hi)) | (go_at_call 14; (with_reducible refine (fluxionlaw04_falls.calls k (⟨#[49, 47]⟩ : ByteArray) 19 true _ A25.out ?side1).mono ?_); (case side1 => exact LaidT.below hL (by repeat (first | (with_reducible first | exact HB.out | apply below_alloc | apply pw_below_drewN | apply below_drew1) | exact HB.out))); rintro e w59 ⟨rfl, hb⟩; have n0_ := Aside0.mk (Kd.R_below (by exact HO281.out) hb); have n1_ := Aside0.mk (Kd.R_below (by exact HO285.out) hb); have n2_ := Aside0.mk (Kd.R_below (by exact HO289.out) hb); have n3_ := Aside0.mk (Kd.R_below (by exact HO292.out) hb); have n4_ := Aside0.mk (Kd.R_below (by exact HO296.out) hb); have n5_ := Aside0.mk (Kd.R_below (by exact HO299.out) hb); have n6_ := Aside0.mk (Kd.R_below (by exact HO303.out) hb); have n7_ := Aside0.mk (Kd.R_below (by exact HO306.out) hb); have n8_ := Aside0.mk (below_step (by repeat (first | (with_reducible first | exact HB.out | apply below_alloc | apply pw_below_drewN | apply below_drew1) | exact HB.out)) hb); clear HO281; clear HO285; clear HO289; clear HO292; clear HO296; clear HO299; clear HO303; clear HO306; clear HB; have HO281 := n0_; have HO285 := n1_; have HO289 := n2_; have HO292 := n3_; have HO296 := n4_; have HO299 := n5_; have HO303 := n6_; have HO306 := n7_; have HB := n8_; clear n0_ n1_ n2_ n3_ n4_ n5_ n6_ n7_ n8_; (try clear hb); (try clear hb2); (try clear hk); (try clear hi)) | (go_at_call 14; (with_reducible refine (fluxionlaw04_falls.calls k (⟨#[45, 47, 50]⟩ : ByteArray) 19 true _ A27.out ?side1).mono ?_); (case side1 => exact LaidT.below hL (by repeat (first | (with_reducible first | exact HB.out | apply below_alloc | apply pw_below_drewN | apply below_drew1) | exact HB.out))); rintro e w60 ⟨rfl, hb⟩; have n0_ := Aside0.mk (Kd.R_below (by exact HO281.out) hb); have n1_ := Aside0.mk (Kd.R_below (by exact HO285.out) hb); have n2_ := Aside0.mk (Kd.R_below (by exact HO289.out) hb); have n3_ := Aside0.mk (Kd.R_below (by exact HO292.out) hb); have n4_ := Aside0.mk (Kd.R_below (by exact HO296.out) hb); have n5_ := Aside0.mk (Kd.R_below (by exact HO299.out) hb); have n6_ := Aside0.mk (Kd.R_below (by exact HO303.out) hb); have n7_ := Aside0.mk (Kd.R_below (by exact HO306.out) hb); have n8_ := Aside0.mk (below_step (by repeat (first | (with_reducible first | exact HB.out | apply below_alloc | apply pw_below_drewN | apply below_drew1) | exact HB.out)) hb); clear HO281; clear HO285; clear HO289; clear HO292; clear HO296; clear HO299; clear HO303; clear HO306; clear HB; have HO281 := n0_; have HO285 := n1_; have HO289 := n2_; have HO292 := n3_; have HO296 := n4_; have HO299 := n5_; have HO303 := n6_; have HO306 := n7_; have HB := n8_; clear n0_ n1_ n2_ n3_ n4_ n5_ n6_ n7_ n8_; (try clear hb); (try clear hb2); (try clear hk); (try clear hi)) | (go_at_call 14; (with_reducible refine (fluxionlaw04_falls.calls k (⟨#[49, 47, 45, 50]⟩ : ByteArray) 19 true _ A29.out ?side1).mono ?_); (case side1 => exact LaidT.below hL (by repeat (first | (with_reducible first | exact HB.out | apply below_alloc | apply pw_below_drewN | apply below_drew1) | exact HB.out))); rintro e w61 ⟨rfl, hb⟩; have n0_ := Aside0.mk (Kd.R_below (by exact HO281.out) hb); have n1_ := Aside0.mk (Kd.R_below (by exact HO285.out) hb); have n2_ := Aside0.mk (Kd.R_below (by exact HO289.out) hb); have n3_ := Aside0.mk (Kd.R_below (by exact HO292.out) hb); have n4_ := Aside0.mk (Kd.R_below (by exact HO296.out) hb); have n5_ := Aside0.mk (Kd.R_below (by exact HO299.out) hb); have n6_ := Aside0.mk (Kd.R_below (by exact HO303.out) hb); have n7_ := Aside0.mk (Kd.R_below (by exact HO306.out) hb); have n8_ := Aside0.mk (below_step (by repeat (first | (with_reducible first | exact HB.out | apply below_alloc | apply pw_below_drewN | apply below_drew1) | exact HB.out)) hb); clear HO281; clear HO285; clear HO289; clear HO292; clear HO296; clear HO299; clear HO303; clear HO306; clear HB; have HO281 := n0_; have HO285 := n1_; have HO289 := n2_; have HO292 := n3_; have HO296 := n4_; have HO299 := n5_; have HO303 := n6_; have HO306 := n7_; have HB := n8_; clear n0_ n1_ n2_ n3_ n4_ n5_ n6_ n7_ n8_; (try clear hb); (try clear hb2); (try clear hk); (try clear hi)) | (go_at_call 14; (with_reducible refine (fluxionlaw04_falls.calls k (⟨#[43, 49]⟩ : ByteArray) 19 t317 _ A31.out ?side1).mono ?_); (case side1 => exact LaidT.below hL (by repeat (first | (with_reducible first | exact HB.out | apply below_alloc | apply pw_below_drewN | apply below_drew1) | exact HB.out))); rintro e w62 ⟨rfl, hb⟩; have n0_ := Aside0.mk (Kd.R_below (by exact HO281.out) hb); have n1_ := Aside0.mk (Kd.R_below (by exact HO285.out) hb); have n2_ := Aside0.mk (Kd.R_below (by exact HO289.out) hb); have n3_ := Aside0.mk (Kd.R_below (by exact HO292.out) hb); have n4_ := Aside0.mk (Kd.R_below (by exact HO296.out) hb); have n5_ := Aside0.mk (Kd.R_below (by exact HO299.out) hb); have n6_ := Aside0.mk (Kd.R_below (by exact HO303.out) hb); have n7_ := Aside0.mk (Kd.R_below (by exact HO306.out) hb); have n8_ := Aside0.mk (below_step (by repeat (first | (with_reducible first | exact HB.out | apply below_alloc | apply pw_below_drewN | apply below_drew1) | exact HB.out)) hb); clear HO281; clear HO285; clear HO289; clear HO292; clear HO296; clear HO299; clear HO303; clear HO306; clear HB; have HO281 := n0_; have HO285 := n1_; have HO289 := n2_; have HO292 := n3_; have HO296 := n4_; have HO299 := n5_; have HO303 := n6_; have HO306 := n7_; have HB := n8_; clear n0_ n1_ n2_ n3_ n4_ n5_ n6_ n7_ n8_; (try clear hb); (try clear hb2); (try clear hk); (try clear hi)))
                                go_ret
                                exact ⟨by first | rfl | (simp [errW_none, errW_some] <;> rfl) | (simp [*, errW_none, errW_some] <;> rfl), by repeat (first | (with_reducible first | exact HB.out | apply below_alloc | apply pw_below_drewN | apply below_drew1) | exact HB.out)⟩
                              · replace c30 := Bool.eq_false_iff.mpr c30
                                subst c30
                                have H1 : (none) = some r := by rw [if_neg (show ¬ (false = true) by decide)] at H; exact H
                                clear H
                                have H := H1
                                clear H1
                                exact absurd H (by simp)
                            · replace c28 := Bool.eq_false_iff.mpr c28
                              subst c28
                              have H1 : (none) = some r := by rw [if_neg (show ¬ (false = true) by decide)] at H; exact H
                              clear H
                              have H := H1
                              clear H1
                              exact absurd H (by simp)
                          · replace c26 := Bool.eq_false_iff.mpr c26
                            subst c26
                            have H1 : (none) = some r := by rw [if_neg (show ¬ (false = true) by decide)] at H; exact H
                            clear H
                            have H := H1
                            clear H1
                            exact absurd H (by simp)
                        · replace c24 := Bool.eq_false_iff.mpr c24
                          subst c24
                          have H1 : (none) = some r := by rw [if_neg (show ¬ (false = true) by decide)] at H; exact H
                          clear H
                          have H := H1
                          clear H1
                          exact absurd H (by simp)
                      · replace c22 := Bool.eq_false_iff.mpr c22
                        subst c22
                        have H1 : (none) = some r := by rw [if_neg (show ¬ (false = true) by decide)] at H; exact H
                        clear H
                        have H := H1
                        clear H1
                        exact absurd H (by simp)
                    · replace c20 := Bool.eq_false_iff.mpr c20
                      subst c20
                      have H1 : (none) = some r := by rw [if_neg (show ¬ (false = true) by decide)] at H; exact H
                      clear H
                      have H := H1
                      clear H1
                      exact absurd H (by simp)
                  · replace c18 := Bool.eq_false_iff.mpr c18
                    subst c18
                    have H1 : (none) = some r := by rw [if_neg (show ¬ (false = true) by decide)] at H; exact H
                    clear H
                    have H := H1
                    clear H1
                    exact absurd H (by simp)
                · replace c16 := Bool.eq_false_iff.mpr c16
                  subst c16
                  have H1 : (none) = some r := by rw [if_neg (show ¬ (false = true) by decide)] at H; exact H
                  clear H
                  have H := H1
                  clear H1
                  exact absurd H (by simp)
              · replace c14 := Bool.eq_false_iff.mpr c14
                subst c14
                have H1 : (none) = some r := by rw [if_neg (show ¬ (false = true) by decide)] at H; exact H
                clear H
                have H := H1
                clear H1
                exact absurd H (by simp)
            · rw [if_neg c12] at H
              exact absurd H (by simp)
          · rw [if_neg c11] at H
            exact absurd H (by simp)
        · rw [if_neg c10] at H
          exact absurd H (by simp)
      · rw [if_neg c9] at H
        exact absurd H (by simp)
    · rw [if_neg c7] at H
      exact absurd H (by simp)
  · rw [if_neg c5] at H
    exact absurd H (by simp)

end Go.Proofs.YtpncflaoikeidaaGreatDoor.P
