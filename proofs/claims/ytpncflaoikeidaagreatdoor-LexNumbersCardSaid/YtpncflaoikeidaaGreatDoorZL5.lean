/- TEXTS OF THIS CLAIM, GATHERED: words printed by the kit, functions printed over the translation, contracts and plain laws by hand. -/
import Derived.Laws.OwnMore
import Derived.Test.YtpncflaoikeidaaGreatDoorZL4
namespace Go.Proofs.YtpncflaoikeidaaGreatDoor.P
open Go.RowKit Go.Proofs.YtpncflaoikeidaaGreatDoorW.PrintWords Go.Proofs.YtpncflaoikeidaaGreatDoorW.PrintLast Go.Proofs.YtpncflaoikeidaaGreatDoorW.PrintMore
attribute [local go_sem] max2_int max_two
set_option linter.unusedVariables false
set_option linter.unusedSimpArgs false
mutual
def fluxionref04_Nat.l0 : Nat → List Int → ByteArray → Int → Option (ByteArray)
  | 0, _, _, _ => none
  | k + 1, x0, x3, x4 => if x4 ≥ 0 then (if 0 ≤ x4 then (if x4 < (x0.length : Int) then ((fluxionref04_four.f (rd x0 x4)).bind fun t319 => (if x3.size + t319.size ≤ 9223372036854775807 then (fluxionref04_Nat.l0 k x0 (x3 ++ t319) (wrap64 (x4 - 1))) else (none))) else (none)) else (none)) else (fluxionref04_Nat.l1 k x3 0)
def fluxionref04_Nat.l1 : Nat → ByteArray → Int → Option (ByteArray)
  | 0, _, _ => none
  | k + 1, x3, x5 => if 0 ≤ x5 then (if x5 < (x3.size : Int) then (if (bt x3 x5) = 48 then (fluxionref04_Nat.l1 k x3 (wrap64 (x5 + 1))) else (if x5 ≤ (x3.size : Int) then (some (x3.extract (x5 : Int).toNat x3.size)) else (none))) else (none)) else (none)
end
def fluxionref04_Nat.f (k : Nat) (l0 : List Int) : Option (ByteArray) := if (l0.length : Int) = 0 then (some (⟨#[48]⟩ : ByteArray)) else (fluxionref04_Nat.l0 k l0 (⟨#[]⟩ : ByteArray) (wrap64 ((l0.length : Int) - 1)))
set_option maxHeartbeats 8000000 in
set_option maxRecDepth 100000 in
theorem fluxionref04_Nat.calls (k : Nat) (A0 : Option Addr) (c0 : Nat) (l0 : List Int) (r : ByteArray) (w : World) (hr0 : Kd.C (Kd.int .i64) w A0 l0.length l0) (hc0 : l0.length ≤ c0) (h : fluxionref04_Nat.f k l0 = some r) :
    Calls Tryz.prog 32 #[.slice A0 l0.length c0] w fun e w' => e = .returned (.string r) ∧ Drawn0 w w' := by
  have HR0 := Aside0.mk hr0
  have HC0 := Aside0.mk hc0
  clear hr0 hc0
  have H : (if (l0.length : Int) = 0 then (some (⟨#[48]⟩ : ByteArray)) else (fluxionref04_Nat.l0 k l0 (⟨#[]⟩ : ByteArray) (wrap64 ((l0.length : Int) - 1)))) = some r := h
  clear h
  by_cases c2 : (l0.length : Int) = 0
  · rw [if_pos c2] at H
    have c2b0 : ((l0.length : Int) == 0) = true := beq_iff_eq.mpr c2
    have c2b1 : ((l0.length : Int) != 0) = false := bne_eq_false_iff_eq.mpr c2
    clear c2
    obtain rfl := Option.some.inj H
    go_enter Tryz.func32, Tryz.ntmps32
    go_wp2
    go_ret
    exact ⟨by first | rfl | (simp; done) | (simp [*]; done), by repeat (first | exact Drawn0.refl _ | apply Drawn0.step)⟩
  · rw [if_neg c2] at H
    have c2b0 : ((l0.length : Int) == 0) = false := beq_eq_false_iff_ne.mpr c2
    have c2b1 : ((l0.length : Int) != 0) = true := bne_iff_ne.mpr c2
    have c2b2 : ¬ (l0 = []) := fun h_ => c2 (by rw [h_]; rfl)
    have H' := Aside0.mk H
    clear H
    go_enter Tryz.func32, Tryz.ntmps32
    go_wp2
    go_loopg [3, 4] k (fun kq v3 v4 w' => ∃ (x3_1 : ByteArray) (x4_1 : Int), v3 = .string x3_1 ∧ v4 = .int .i64 x4_1 ∧ Aside0 (fluxionref04_Nat.l0 kq l0 x3_1 x4_1 = some r) ∧ Aside0 (kq ≤ k) ∧ Drawn0 w w')
    case atStart => exact ⟨((⟨#[]⟩ : ByteArray)), (wrap64 ((l0.length : Int) - 1)), (by first | rfl | (simp; done) | (simp [*]; done)), (by first | rfl | (simp; done) | (simp [*]; done)), H', ⟨Nat.le_refl _⟩, by repeat (first | exact Drawn0.refl _ | apply Drawn0.step)⟩
    case round =>
      clear H'
      try clear c2
      try clear c2b0
      try clear c2b1
      try clear c2b2
      try clear p2
      obtain ⟨x3_1, x4_1, rfl, rfl, HA, HK1, ⟨m1, rfl⟩⟩ := hrel
      cases gk with
      | zero => exact absurd HA.out (by simp [fluxionref04_Nat.l0])
      | succ k1 =>
        have H := HA.out
        clear HA
        simp only [fluxionref04_Nat.l0] at H
        by_cases c3 : x4_1 ≥ 0
        · rw [if_pos c3] at H
          have c3b0 : decide (0 ≤ x4_1) = true := decide_eq_true c3
          clear c3
          by_cases c4 : 0 ≤ x4_1
          · rw [if_pos c4] at H
            have c4b0 : decide (0 ≤ x4_1) = true := decide_eq_true c4
            clear c4
            by_cases c5 : x4_1 < (l0.length : Int)
            · rw [if_pos c5] at H
              have c5b0 : decide (x4_1 < (l0.length : Int)) = true := decide_eq_true c5
              clear c5
              replace H := Option.bind_eq_some_iff.mp H
              obtain ⟨t319, A60, H⟩ := H
              try dsimp only at H
              have A6 := Aside0.mk A60
              clear A60
              by_cases c7 : x3_1.size + t319.size ≤ 9223372036854775807
              · rw [if_pos c7] at H
                have c7b0 := eq_true c7
                have c7b1 : decide (x3_1.size + t319.size ≤ 9223372036854775807) = true := decide_eq_true c7
                try have c7b2 : (9223372036854775807 < x3_1.size + t319.size) = False := eq_false (Nat.not_lt.2 c7)
                have H' := Aside0.mk H
                clear H
                have p318 : 0 ≤ (x4_1 : Int) := of_decide_eq_true (by first | (with_reducible assumption) | assumption)
                have q318 : x4_1 < (l0.length : Int) := of_decide_eq_true (by first | (with_reducible assumption) | assumption)
                obtain ⟨ad318, e318, hx318_0⟩ := Kd.at_int HR0.out x4_1 p318 q318
                cases e318
                replace p318 := eq_true p318
                replace q318 := eq_true q318
                go_wp2_with (first | ((with_reducible refine gate_callee (f := 67) rfl ?_); refine goesL_ (some 21) rfl rfl Tryz.func67 (by kernel_rfl) rfl #[.int .i64 (rd l0 x4_1)] rfl (by (try simp only [List.map_toArray, List.map_cons, List.map_nil]); first | done | rfl | (simp only [List.length_drop, List.length_take]; rfl)) ?_; (with_reducible refine (fluxionref04_four.calls (rd l0 x4_1) t319 _ A6.out).mono ?_); rintro e w' ⟨rfl, ⟨nd, rfl⟩⟩; refine ⟨_, rfl, ?_⟩))
                go_roundg k1
                case measure => have := HK1.out; omega
                case rel => exact ⟨(x3_1 ++ t319), (wrap64 (x4_1 - 1)), (by first | rfl | (simp; done) | (simp [*]; done)), (by first | rfl | (simp; done) | (simp [*]; done)), H', ⟨by have := HK1.out; omega⟩, by repeat (first | exact Drawn0.refl _ | apply Drawn0.step)⟩
              · rw [if_neg c7] at H
                exact absurd H (by simp)
            · rw [if_neg c5] at H
              exact absurd H (by simp)
          · rw [if_neg c4] at H
            exact absurd H (by simp)
        · rw [if_neg c3] at H
          have c3b0 : decide (0 ≤ x4_1) = false := decide_eq_false c3
          clear c3
          have H' := Aside0.mk H
          clear H
          go_wp2
          go_loopg [5] k1 (fun kq v5 w' => ∃ (x5_2 : Int), v5 = .int .i64 x5_2 ∧ Aside0 (fluxionref04_Nat.l1 kq x3_1 x5_2 = some r) ∧ Aside0 (kq ≤ k1) ∧ Drawn0 w w')
          case atStart => exact ⟨(0), (by first | rfl | (simp; done) | (simp [*]; done)), H', ⟨Nat.le_refl _⟩, by repeat (first | exact Drawn0.refl _ | apply Drawn0.step)⟩
          case round =>
            clear H'
            try clear c2
            try clear c2b0
            try clear c2b1
            try clear c2b2
            try clear p2
            try clear c3
            try clear c3b0
            try clear p3
            try clear q3
            try clear hx3
            try clear c4
            try clear c4b0
            try clear c5
            try clear c5b0
            try clear c6
            try clear p6
            try clear c7
            try clear c7b0
            try clear c7b1
            try clear c7b2
            try clear hx318_0
            try clear p2
            try clear p318
            try clear q318
            obtain ⟨x5_2, rfl, HA, HK2, ⟨m2, rfl⟩⟩ := hrel
            cases gk with
            | zero => exact absurd HA.out (by simp [fluxionref04_Nat.l1])
            | succ k2 =>
              have H := HA.out
              clear HA
              simp only [fluxionref04_Nat.l1] at H
              by_cases c8 : 0 ≤ x5_2
              · rw [if_pos c8] at H
                have c8b0 : decide (0 ≤ x5_2) = true := decide_eq_true c8
                clear c8
                by_cases c9 : x5_2 < (x3_1.size : Int)
                · rw [if_pos c9] at H
                  have c9b0 : decide (x5_2 < (x3_1.size : Int)) = true := decide_eq_true c9
                  clear c9
                  by_cases c11 : (bt x3_1 x5_2) = 48
                  · rw [if_pos c11] at H
                    have c11b0 : ((bt x3_1 x5_2) == 48) = true := beq_iff_eq.mpr c11
                    have c11b1 : ((bt x3_1 x5_2) != 48) = false := bne_eq_false_iff_eq.mpr c11
                    clear c11
                    have H' := Aside0.mk H
                    clear H
                    have p10 : 0 ≤ (x5_2 : Int) := of_decide_eq_true (by first | (with_reducible assumption) | assumption)
                    have q10 : x5_2 < (x3_1.size : Int) := of_decide_eq_true (by first | (with_reducible assumption) | assumption)
                    have hx10 := bt_at x3_1 x5_2
                    replace p10 := eq_true p10
                    replace q10 := eq_true q10
                    go_wp2
                    go_roundg k2
                    case measure => have := HK1.out; have := HK2.out; omega
                    case rel => exact ⟨(wrap64 (x5_2 + 1)), (by first | rfl | (simp; done) | (simp [*]; done)), H', ⟨by have := HK1.out; have := HK2.out; omega⟩, by repeat (first | exact Drawn0.refl _ | apply Drawn0.step)⟩
                  · rw [if_neg c11] at H
                    have c11b0 : ((bt x3_1 x5_2) == 48) = false := beq_eq_false_iff_ne.mpr c11
                    have c11b1 : ((bt x3_1 x5_2) != 48) = true := bne_iff_ne.mpr c11
                    have c12b0 := eq_true (of_decide_eq_true (by first | (with_reducible assumption) | assumption) : 0 ≤ x5_2)
                    by_cases c13 : x5_2 ≤ (x3_1.size : Int)
                    · rw [if_pos c13] at H
                      have c13b0 := eq_true c13
                      have c13b1 : decide (x5_2 ≤ (x3_1.size : Int)) = true := decide_eq_true c13
                      clear c13
                      obtain rfl := Option.some.inj H
                      have p10 : 0 ≤ (x5_2 : Int) := of_decide_eq_true (by first | (with_reducible assumption) | assumption)
                      have q10 : x5_2 < (x3_1.size : Int) := of_decide_eq_true (by first | (with_reducible assumption) | assumption)
                      have hx10 := bt_at x3_1 x5_2
                      replace p10 := eq_true p10
                      replace q10 := eq_true q10
                      go_wp2
                      go_ret
                      exact ⟨by first | rfl | (simp; done) | (simp [*]; done), by repeat (first | exact Drawn0.refl _ | apply Drawn0.step)⟩
                    · rw [if_neg c13] at H
                      exact absurd H (by simp)
                · rw [if_neg c9] at H
                  exact absurd H (by simp)
              · rw [if_neg c8] at H
                exact absurd H (by simp)

def fluxionref04_Rat.j0 : Nat → ByteArray → Bool → List Int → List Int → Option (ByteArray)
  | 0, _, _, _, _ => none
  | k + 1, x3, x321000, x321001, x321002 => (fluxionref04_Nat.f k x321002).bind fun t322 => (if t322.toList = ([49] : List UInt8) then (some x3) else (if x3.size + 1 ≤ 9223372036854775807 then ((fluxionref04_Nat.f k x321002).bind fun t323 => (if (x3 ++ (⟨#[47]⟩ : ByteArray)).size + t323.size ≤ 9223372036854775807 then (some ((x3 ++ (⟨#[47]⟩ : ByteArray)) ++ t323)) else (none))) else (none)))
def fluxionref04_Rat.f (k : Nat) (a0_0 : Bool) (l0_1 : List Int) (l0_2 : List Int) : Option (ByteArray) := (fluxionref04_Nat.f k l0_1).bind fun t321 => (if a0_0 = true then (if 1 + t321.size ≤ 9223372036854775807 then (fluxionref04_Rat.j0 k ((⟨#[45]⟩ : ByteArray) ++ t321) a0_0 l0_1 l0_2) else (none)) else (fluxionref04_Rat.j0 k t321 a0_0 l0_1 l0_2))
set_option maxHeartbeats 8000000 in
set_option maxRecDepth 100000 in
theorem fluxionref04_Rat.calls (k : Nat) (a0_0 : Bool) (A0_1 : Option Addr) (c0_1 : Nat) (l0_1 : List Int) (A0_2 : Option Addr) (c0_2 : Nat) (l0_2 : List Int) (r : ByteArray) (w : World) (hr0_1 : Kd.C (Kd.int .i64) w A0_1 l0_1.length l0_1) (hc0_1 : l0_1.length ≤ c0_1) (hr0_2 : Kd.C (Kd.int .i64) w A0_2 l0_2.length l0_2) (hc0_2 : l0_2.length ≤ c0_2) (h : fluxionref04_Rat.f k a0_0 l0_1 l0_2 = some r) :
    Calls Tryz.prog 10 #[.agg #[.bool a0_0, .slice A0_1 l0_1.length c0_1, .slice A0_2 l0_2.length c0_2]] w fun e w' => e = .returned (.string r) ∧ Below w.heap.size w w' := by
  have hu32 := Tryz.underlying32
  have HR0_1 := Aside0.mk hr0_1
  have HC0_1 := Aside0.mk hc0_1
  clear hr0_1 hc0_1
  have HR0_2 := Aside0.mk hr0_2
  have HC0_2 := Aside0.mk hc0_2
  clear hr0_2 hc0_2
  have HB := Aside0.mk (Below.refl w.heap.size w)
  have H : ((fluxionref04_Nat.f k l0_1).bind fun t321 => (if a0_0 = true then (if 1 + t321.size ≤ 9223372036854775807 then (fluxionref04_Rat.j0 k ((⟨#[45]⟩ : ByteArray) ++ t321) a0_0 l0_1 l0_2) else (none)) else (fluxionref04_Rat.j0 k t321 a0_0 l0_1 l0_2))) = some r := h
  clear h
  replace H := Option.bind_eq_some_iff.mp H
  obtain ⟨t321, A20, H⟩ := H
  try dsimp only at H
  have A2 := Aside0.mk A20
  clear A20
  have HC3 := Aside0.mk H
  clear H
  go_enter Tryz.func10, Tryz.ntmps10
  go_upto_if 8 with (first | ((with_reducible refine gate_dst (N := 1) rfl ?_); refine box_event ?hg (N := 1) ?hd (cs := #[.bool a0_0, .slice A0_1 l0_1.length c0_1, .slice A0_2 l0_2.length c0_2]) (t := 32) ?hr ?_; (case hd => rfl); (case hg => rfl); (case hr => first | (go_simp; done) | (go_simp; rfl)); intro gb320 hg w4 hbox hb; have n0_ := Aside0.mk (below_step (by repeat (first | (with_reducible first | exact HB.out | apply below_alloc | apply pw_below_drewN | apply below_drew1) | exact HB.out)) hb); have n1_ := Aside0.mk (hbox); have n2_ := Aside0.mk ((by rw [hg]; exact (below_size (by repeat (first | (with_reducible first | exact HB.out | apply below_alloc | apply pw_below_drewN | apply below_drew1) | exact HB.out))) : w.heap.size ≤ gb320)); have n3_ := Aside0.mk ((by rw [hg]; exact (below_size (by repeat (first | (with_reducible first | exact HB.out | apply below_alloc | apply pw_below_drewN | apply below_drew1) | exact HB.out))) : w.heap.size ≤ gb320)); clear HB; have HB := n0_; have BK320 := n1_; have GW320 := n2_; have GE320 := n3_; clear n0_ n1_ n2_ n3_; clear hb hbox hg; have hcz5_0 : w4.cell? ⟨gb320, 0, none⟩ = some (.bool a0_0) := (blk_cell BK320.out 0).trans rfl; have hcz5_1 : w4.cell? ⟨gb320, 1, none⟩ = some (.slice A0_1 l0_1.length c0_1) := (blk_cell BK320.out 1).trans rfl; have hcz5_2 : w4.cell? ⟨gb320, 2, none⟩ = some (.slice A0_2 l0_2.length c0_2) := (blk_cell BK320.out 2).trans rfl; have hfz5_0 := blk_frozen BK320.out 0; have hfz5_1 := blk_frozen BK320.out 1; have hfz5_2 := blk_frozen BK320.out 2) | ((with_reducible refine gate_callee (f := 32) rfl ?_); refine goesL_ (some 6) rfl rfl Tryz.func32 (by kernel_rfl) rfl #[.slice A0_1 l0_1.length c0_1] rfl (by (try simp only [List.map_toArray, List.map_cons, List.map_nil]); first | done | rfl | (simp only [List.length_drop, List.length_take]; rfl)) ?_; (with_reducible refine (fluxionref04_Nat.calls k _ _ l0_1 t321 _ ?side1 ?side2 A2.out).mono ?_); (case side1 => repeat (first | exact (Kd.C_below HR0_1.out HB.out) | (with_reducible refine Kd.C_alloc ?_ _) | (with_reducible refine Kd.C_drewN ?_ _) | (with_reducible refine Kd.C_drew ?_))); (case side2 => exact HC0_1.out); rintro e w' ⟨rfl, ⟨nd, rfl⟩⟩; refine ⟨_, rfl, ?_⟩))
  (try simp only [Act.put, List.setIfInBounds_toArray, List.set_cons_zero, List.set_cons_succ])
  go_cut [3] (fun v3 wc => ∃ (kq : Nat) (x3_2 : ByteArray), v3 = .string x3_2 ∧ Aside0 (fluxionref04_Rat.j0 kq x3_2 a0_0 l0_1 l0_2 = some r) ∧ Aside0 (kq ≤ k) ∧ Aside0 (wc.heap[gb320]? = some (.cells #[.bool a0_0, (.slice A0_1 l0_1.length c0_1), (.slice A0_2 l0_2.length c0_2)] 32 (0, 0))) ∧ Aside0 (Below w.heap.size w wc))
  case first =>
    have H := HC3.out
    clear HC3
    by_cases c6 : a0_0 = true
    · subst c6
      have H1 : (if 1 + t321.size ≤ 9223372036854775807 then (fluxionref04_Rat.j0 k ((⟨#[45]⟩ : ByteArray) ++ t321) true l0_1 l0_2) else (none)) = some r := by rw [if_pos rfl] at H; exact H
      clear H
      have H := H1
      clear H1
      by_cases c7 : 1 + t321.size ≤ 9223372036854775807
      · rw [if_pos c7] at H
        have c7b0 := eq_true c7
        have c7b1 : decide (1 + t321.size ≤ 9223372036854775807) = true := decide_eq_true c7
        try have c7b2 : (9223372036854775807 < 1 + t321.size) = False := eq_false (Nat.not_lt.2 c7)
        have H' := Aside0.mk H
        clear H
        go_wp2
        go_meet
        case rel => exact ⟨_, ((⟨#[45]⟩ : ByteArray) ++ t321), (by first | rfl | (simp; done) | (simp [*]; done)), H', ⟨by first | omega | exact Nat.le_refl _⟩, ⟨by exact BK320.out⟩, ⟨by repeat (first | (with_reducible first | exact HB.out | apply below_alloc | apply pw_below_drewN | apply below_drew1 | refine below_set ?_ GE320.out) | exact HB.out)⟩⟩
      · rw [if_neg c7] at H
        exact absurd H (by simp)
    · replace c6 := Bool.eq_false_iff.mpr c6
      subst c6
      have H1 : (fluxionref04_Rat.j0 k t321 false l0_1 l0_2) = some r := by rw [if_neg (show ¬ (false = true) by decide)] at H; exact H
      clear H
      have H := H1
      clear H1
      have H' := Aside0.mk H
      clear H
      go_wp2
      go_meet
      case rel => exact ⟨_, (t321), (by first | rfl | (simp; done) | (simp [*]; done)), H', ⟨by first | omega | exact Nat.le_refl _⟩, ⟨by exact BK320.out⟩, ⟨by repeat (first | (with_reducible first | exact HB.out | apply below_alloc | apply pw_below_drewN | apply below_drew1 | refine below_set ?_ GE320.out) | exact HB.out)⟩⟩
  case rest =>
    clear HC3
    try clear c1
    try clear p2
    try clear c3
    try clear c6
    try clear c7
    try clear c7b0
    try clear c7b1
    try clear c7b2
    try clear hcz5_0
    try clear hcz5_1
    try clear hcz5_2
    try clear hfz5_0
    try clear hfz5_1
    try clear hfz5_2
    obtain ⟨kq, x3_2, rfl, HA, HJ2, BK320, HB⟩ := hcut
    cases kq with
    | zero => exact absurd HA.out (by simp [fluxionref04_Rat.j0])
    | succ kj2 =>
      have H := HA.out
      clear HA
      simp only [fluxionref04_Rat.j0] at H
      replace H := Option.bind_eq_some_iff.mp H
      obtain ⟨t322, A80, H⟩ := H
      try dsimp only at H
      have A8 := Aside0.mk A80
      clear A80
      by_cases c9 : t322.toList = ([49] : List UInt8)
      · rw [if_pos c9] at H
        have c9b0 : (t322.toList == ([49] : List UInt8)) = true := beq_iff_eq.mpr c9
        have c9b1 : (t322.toList != ([49] : List UInt8)) = false := bne_eq_false_iff_eq.mpr c9
        clear c9
        obtain rfl := Option.some.inj H
        have hcz10_0 : wc.cell? ⟨gb320, 0, none⟩ = some (.bool a0_0) := (blk_cell BK320.out 0).trans rfl
        have hcz10_1 : wc.cell? ⟨gb320, 1, none⟩ = some (.slice A0_1 l0_1.length c0_1) := (blk_cell BK320.out 1).trans rfl
        have hcz10_2 : wc.cell? ⟨gb320, 2, none⟩ = some (.slice A0_2 l0_2.length c0_2) := (blk_cell BK320.out 2).trans rfl
        have hfz10_0 := blk_frozen BK320.out 0
        have hfz10_1 := blk_frozen BK320.out 1
        have hfz10_2 := blk_frozen BK320.out 2
        go_wp2_with (first | ((with_reducible refine gate_callee (f := 32) rfl ?_); refine goesL_ (some 13) rfl rfl Tryz.func32 (by kernel_rfl) rfl #[.slice A0_2 l0_2.length c0_2] rfl (by (try simp only [List.map_toArray, List.map_cons, List.map_nil]); first | done | rfl | (simp only [List.length_drop, List.length_take]; rfl)) ?_; (with_reducible refine (fluxionref04_Nat.calls kj2 _ _ l0_2 t322 _ ?side1 ?side2 A8.out).mono ?_); (case side1 => repeat (first | exact (Kd.C_below HR0_2.out HB.out) | (with_reducible refine Kd.C_alloc ?_ _) | (with_reducible refine Kd.C_drewN ?_ _) | (with_reducible refine Kd.C_drew ?_))); (case side2 => exact HC0_2.out); rintro e w' ⟨rfl, ⟨nd, rfl⟩⟩; refine ⟨_, rfl, ?_⟩))
        go_ret
        exact ⟨by first | rfl | (simp [errW_none, errW_some] <;> rfl) | (simp [*, errW_none, errW_some] <;> rfl), by repeat (first | (with_reducible first | exact HB.out | apply below_alloc | apply pw_below_drewN | apply below_drew1 | refine below_set ?_ GE320.out) | exact HB.out)⟩
      · rw [if_neg c9] at H
        have c9b0 : (t322.toList == ([49] : List UInt8)) = false := beq_eq_false_iff_ne.mpr c9
        have c9b1 : (t322.toList != ([49] : List UInt8)) = true := bne_iff_ne.mpr c9
        by_cases c11 : x3_2.size + 1 ≤ 9223372036854775807
        · rw [if_pos c11] at H
          have c11b0 := eq_true c11
          have c11b1 : decide (x3_2.size + 1 ≤ 9223372036854775807) = true := decide_eq_true c11
          try have c11b2 : (9223372036854775807 < x3_2.size + 1) = False := eq_false (Nat.not_lt.2 c11)
          replace H := Option.bind_eq_some_iff.mp H
          obtain ⟨t323, A120, H⟩ := H
          try dsimp only at H
          have A12 := Aside0.mk A120
          clear A120
          by_cases c13 : (x3_2 ++ (⟨#[47]⟩ : ByteArray)).size + t323.size ≤ 9223372036854775807
          · rw [if_pos c13] at H
            have c13b0 := eq_true c13
            have c13b1 : decide ((x3_2 ++ (⟨#[47]⟩ : ByteArray)).size + t323.size ≤ 9223372036854775807) = true := decide_eq_true c13
            try have c13b2 : (9223372036854775807 < (x3_2 ++ (⟨#[47]⟩ : ByteArray)).size + t323.size) = False := eq_false (Nat.not_lt.2 c13)
            have c13b3 := c13
            simp only [ByteArray.size_append, show (⟨#[47]⟩ : ByteArray).size = 1 from rfl] at c13b3
            have c13b4 := eq_false (Nat.not_lt.2 c13b3)
            obtain rfl := Option.some.inj H
            have hcz14_0 : wc.cell? ⟨gb320, 0, none⟩ = some (.bool a0_0) := (blk_cell BK320.out 0).trans rfl
            have hcz14_1 : wc.cell? ⟨gb320, 1, none⟩ = some (.slice A0_1 l0_1.length c0_1) := (blk_cell BK320.out 1).trans rfl
            have hcz14_2 : wc.cell? ⟨gb320, 2, none⟩ = some (.slice A0_2 l0_2.length c0_2) := (blk_cell BK320.out 2).trans rfl
            have hfz14_0 := blk_frozen BK320.out 0
            have hfz14_1 := blk_frozen BK320.out 1
            have hfz14_2 := blk_frozen BK320.out 2
            go_wp2_with (first | ((with_reducible refine gate_callee (f := 32) rfl ?_); refine goesL_ (some 13) rfl rfl Tryz.func32 (by kernel_rfl) rfl #[.slice A0_2 l0_2.length c0_2] rfl (by (try simp only [List.map_toArray, List.map_cons, List.map_nil]); first | done | rfl | (simp only [List.length_drop, List.length_take]; rfl)) ?_; (with_reducible refine (fluxionref04_Nat.calls kj2 _ _ l0_2 t322 _ ?side1 ?side2 A8.out).mono ?_); (case side1 => repeat (first | exact (Kd.C_below HR0_2.out HB.out) | (with_reducible refine Kd.C_alloc ?_ _) | (with_reducible refine Kd.C_drewN ?_ _) | (with_reducible refine Kd.C_drew ?_))); (case side2 => exact HC0_2.out); rintro e w' ⟨rfl, ⟨nd, rfl⟩⟩; refine ⟨_, rfl, ?_⟩) | ((with_reducible refine gate_callee (f := 32) rfl ?_); refine goesL_ (some 19) rfl rfl Tryz.func32 (by kernel_rfl) rfl #[.slice A0_2 l0_2.length c0_2] rfl (by (try simp only [List.map_toArray, List.map_cons, List.map_nil]); first | done | rfl | (simp only [List.length_drop, List.length_take]; rfl)) ?_; (with_reducible refine (fluxionref04_Nat.calls kj2 _ _ l0_2 t323 _ ?side1 ?side2 A12.out).mono ?_); (case side1 => repeat (first | exact (Kd.C_below HR0_2.out (by repeat (first | (with_reducible first | exact HB.out | apply below_alloc | apply pw_below_drewN | apply below_drew1 | refine below_set ?_ GE320.out) | exact HB.out))) | (with_reducible refine Kd.C_alloc ?_ _) | (with_reducible refine Kd.C_drewN ?_ _) | (with_reducible refine Kd.C_drew ?_))); (case side2 => exact HC0_2.out); rintro e w' ⟨rfl, ⟨nd, rfl⟩⟩; refine ⟨_, rfl, ?_⟩))
            go_ret
            exact ⟨by first | rfl | (simp [errW_none, errW_some] <;> rfl) | (simp [*, errW_none, errW_some] <;> rfl), by repeat (first | (with_reducible first | exact HB.out | apply below_alloc | apply pw_below_drewN | apply below_drew1 | refine below_set ?_ GE320.out) | exact HB.out)⟩
          · rw [if_neg c13] at H
            exact absurd H (by simp)
        · rw [if_neg c11] at H
          exact absurd H (by simp)

def fluxionref04_cut.l0 : Nat → ByteArray → Int → Option (ByteArray × ByteArray × Bool)
  | 0, _, _ => none
  | k + 1, x0, x5 => if x5 < (x0.size : Int) then (if 0 ≤ x5 then (if (bt x0 x5) = 47 then (if x5 ≤ (x0.size : Int) then (if 0 ≤ (wrap64 (x5 + 1)) then (if (wrap64 (x5 + 1)) ≤ (x0.size : Int) then (some (x0.extract 0 (x5 : Int).toNat, x0.extract ((wrap64 (x5 + 1)) : Int).toNat x0.size, true)) else (none)) else (none)) else (none)) else (fluxionref04_cut.l0 k x0 (wrap64 (x5 + 1)))) else (none)) else (some (x0, (⟨#[]⟩ : ByteArray), false))
def fluxionref04_cut.f (k : Nat) (a0 : ByteArray) : Option (ByteArray × ByteArray × Bool) := fluxionref04_cut.l0 k a0 0
set_option maxHeartbeats 8000000 in
set_option maxRecDepth 100000 in
theorem fluxionref04_cut.calls (k : Nat) (a0 : ByteArray) (r1 : ByteArray) (r2 : ByteArray) (r3 : Bool) (w : World) (h : fluxionref04_cut.f k a0 = some (r1, r2, r3)) :
    Calls Tryz.prog 39 #[.string a0] w fun e w' => e = .returned (.tuple #[.string r1, .string r2, .bool r3]) ∧ Drawn0 w w' := by
  have H : (fluxionref04_cut.l0 k a0 0) = some (r1, r2, r3) := h
  clear h
  have H' := Aside0.mk H
  clear H
  go_enter Tryz.func39, Tryz.ntmps39
  go_wp2
  repeat (go_quiet (fail); try go_wp2)
  go_loopg [5] k (fun kq v5 w' => ∃ (x5_1 : Int), v5 = .int .i64 x5_1 ∧ Aside0 (fluxionref04_cut.l0 kq a0 x5_1 = some (r1, r2, r3)) ∧ Aside0 (kq ≤ k) ∧ Drawn0 w w')
  case atStart => exact ⟨(0), (by first | rfl | (simp; done) | (simp [*]; done)), H', ⟨Nat.le_refl _⟩, by repeat (first | exact Drawn0.refl _ | apply Drawn0.step)⟩
  case round =>
    clear H'
    obtain ⟨x5_1, rfl, HA, HK1, ⟨m1, rfl⟩⟩ := hrel
    cases gk with
    | zero => exact absurd HA.out (by simp [fluxionref04_cut.l0])
    | succ k1 =>
      have H := HA.out
      clear HA
      simp only [fluxionref04_cut.l0] at H
      by_cases c2 : x5_1 < (a0.size : Int)
      · rw [if_pos c2] at H
        have c2b0 : decide (x5_1 < (a0.size : Int)) = true := decide_eq_true c2
        clear c2
        by_cases c3 : 0 ≤ x5_1
        · rw [if_pos c3] at H
          have c3b0 : decide (0 ≤ x5_1) = true := decide_eq_true c3
          clear c3
          by_cases c5 : (bt a0 x5_1) = 47
          · rw [if_pos c5] at H
            have c5b0 : ((bt a0 x5_1) == 47) = true := beq_iff_eq.mpr c5
            have c5b1 : ((bt a0 x5_1) != 47) = false := bne_eq_false_iff_eq.mpr c5
            clear c5
            have c6b0 := eq_true (of_decide_eq_true (by first | (with_reducible assumption) | assumption) : 0 ≤ x5_1)
            by_cases c7 : x5_1 ≤ (a0.size : Int)
            · rw [if_pos c7] at H
              have c7b0 := eq_true c7
              have c7b1 : decide (x5_1 ≤ (a0.size : Int)) = true := decide_eq_true c7
              clear c7
              obtain ⟨ji8, hji8⟩ : ∃ j_ : Int, (wrap64 (x5_1 + 1)) = j_ := ⟨_, rfl⟩
              first | rewrite [hji8] at H | simp only [hji8] at H
              have hji8w : (IntKind.i64.wrap (x5_1 + 1)) = ji8 := (i64_w _).trans hji8
              by_cases c9 : 0 ≤ (ji8)
              · rw [if_pos c9] at H
                have c9b0 := eq_true c9
                have c9b1 : decide (0 ≤ (ji8)) = true := decide_eq_true c9
                clear c9
                by_cases c10 : (ji8) ≤ (a0.size : Int)
                · rw [if_pos c10] at H
                  have c10b0 := eq_true c10
                  have c10b1 : decide ((ji8) ≤ (a0.size : Int)) = true := decide_eq_true c10
                  clear c10
                  simp only [Option.some.injEq, Prod.mk.injEq] at H
                  obtain ⟨rfl, rfl, rfl⟩ := H
                  have p4 : 0 ≤ (x5_1 : Int) := of_decide_eq_true (by first | (with_reducible assumption) | assumption)
                  have q4 : x5_1 < (a0.size : Int) := of_decide_eq_true (by first | (with_reducible assumption) | assumption)
                  have hx4 := bt_at a0 x5_1
                  replace p4 := eq_true p4
                  replace q4 := eq_true q4
                  go_wp2
                  repeat (go_quiet (fail); try go_wp2)
                  go_ret3
                  exact ⟨by first | rfl | (simp; done) | (simp only [← hji8] <;> (first | rfl | simp)) | (simp [*]; done), by repeat (first | exact Drawn0.refl _ | apply Drawn0.step)⟩
                · rw [if_neg c10] at H
                  exact absurd H (by simp)
              · rw [if_neg c9] at H
                exact absurd H (by simp)
            · rw [if_neg c7] at H
              exact absurd H (by simp)
          · rw [if_neg c5] at H
            have c5b0 : ((bt a0 x5_1) == 47) = false := beq_eq_false_iff_ne.mpr c5
            have c5b1 : ((bt a0 x5_1) != 47) = true := bne_iff_ne.mpr c5
            have H' := Aside0.mk H
            clear H
            have p4 : 0 ≤ (x5_1 : Int) := of_decide_eq_true (by first | (with_reducible assumption) | assumption)
            have q4 : x5_1 < (a0.size : Int) := of_decide_eq_true (by first | (with_reducible assumption) | assumption)
            have hx4 := bt_at a0 x5_1
            replace p4 := eq_true p4
            replace q4 := eq_true q4
            go_wp2
            repeat (go_quiet (fail); try go_wp2)
            go_roundg k1
            case measure => have := HK1.out; omega
            case rel => exact ⟨(wrap64 (x5_1 + 1)), (by first | rfl | (simp; done) | (simp [*]; done)), H', ⟨by have := HK1.out; omega⟩, by repeat (first | exact Drawn0.refl _ | apply Drawn0.step)⟩
        · rw [if_neg c3] at H
          exact absurd H (by simp)
      · rw [if_neg c2] at H
        have c2b0 : decide (x5_1 < (a0.size : Int)) = false := decide_eq_false c2
        clear c2
        simp only [Option.some.injEq, Prod.mk.injEq] at H
        obtain ⟨rfl, rfl, rfl⟩ := H
        go_wp2
        repeat (go_quiet (fail); try go_wp2)
        go_ret3
        exact ⟨by first | rfl | (simp; done) | (simp [*]; done), by repeat (first | exact Drawn0.refl _ | apply Drawn0.step)⟩

def fluxionref04_natural.l0 : Nat → ByteArray → Int → Option (Bool)
  | 0, _, _ => none
  | k + 1, x0, x3 => if x3 < (x0.size : Int) then (if 0 ≤ x3 then (if (bt x0 x3) < 48 then (some false) else (if (bt x0 x3) > 57 then (some false) else (fluxionref04_natural.l0 k x0 (wrap64 (x3 + 1))))) else (none)) else (if (x0.size : Int) > 0 then (if 0 < (x0.size : Int) then (if (bt x0 0) = 48 then (some ((x0.size : Int) == 1)) else (some true)) else (none)) else (some false))
def fluxionref04_natural.f (k : Nat) (a0 : ByteArray) : Option (Bool) := fluxionref04_natural.l0 k a0 0
set_option maxHeartbeats 8000000 in
set_option maxRecDepth 100000 in
theorem fluxionref04_natural.calls (k : Nat) (a0 : ByteArray) (r : Bool) (w : World) (h : fluxionref04_natural.f k a0 = some r) :
    Calls Tryz.prog 40 #[.string a0] w fun e w' => e = .returned (.bool r) ∧ Drawn0 w w' := by
  have H : (fluxionref04_natural.l0 k a0 0) = some r := h
  clear h
  have H' := Aside0.mk H
  clear H
  go_enter Tryz.func40, Tryz.ntmps40
  go_wp2
  go_loopg [3] k (fun kq v3 w' => ∃ (x3_1 : Int), v3 = .int .i64 x3_1 ∧ Aside0 (fluxionref04_natural.l0 kq a0 x3_1 = some r) ∧ Aside0 (kq ≤ k) ∧ Drawn0 w w')
  case atStart => exact ⟨(0), (by first | rfl | (simp; done) | (simp [*]; done)), H', ⟨Nat.le_refl _⟩, by repeat (first | exact Drawn0.refl _ | apply Drawn0.step)⟩
  case round =>
    clear H'
    obtain ⟨x3_1, rfl, HA, HK1, ⟨m1, rfl⟩⟩ := hrel
    cases gk with
    | zero => exact absurd HA.out (by simp [fluxionref04_natural.l0])
    | succ k1 =>
      have H := HA.out
      clear HA
      simp only [fluxionref04_natural.l0] at H
      by_cases c2 : x3_1 < (a0.size : Int)
      · rw [if_pos c2] at H
        have c2b0 : decide (x3_1 < (a0.size : Int)) = true := decide_eq_true c2
        clear c2
        by_cases c3 : 0 ≤ x3_1
        · rw [if_pos c3] at H
          have c3b0 : decide (0 ≤ x3_1) = true := decide_eq_true c3
          clear c3
          by_cases c5 : (bt a0 x3_1) < 48
          · rw [if_pos c5] at H
            have c5b0 : decide ((bt a0 x3_1) < 48) = true := decide_eq_true c5
            clear c5
            obtain rfl := Option.some.inj H
            have p4 : 0 ≤ (x3_1 : Int) := of_decide_eq_true (by first | (with_reducible assumption) | assumption)
            have q4 : x3_1 < (a0.size : Int) := of_decide_eq_true (by first | (with_reducible assumption) | assumption)
            have hx4 := bt_at a0 x3_1
            replace p4 := eq_true p4
            replace q4 := eq_true q4
            go_wp2
            go_ret
            exact ⟨by first | rfl | (simp; done) | (simp [*]; done), by repeat (first | exact Drawn0.refl _ | apply Drawn0.step)⟩
          · rw [if_neg c5] at H
            have c5b0 : decide ((bt a0 x3_1) < 48) = false := decide_eq_false c5
            clear c5
            by_cases c7 : (bt a0 x3_1) > 57
            · rw [if_pos c7] at H
              have c7b0 : decide (57 < (bt a0 x3_1)) = true := decide_eq_true c7
              clear c7
              obtain rfl := Option.some.inj H
              have p4 : 0 ≤ (x3_1 : Int) := of_decide_eq_true (by first | (with_reducible assumption) | assumption)
              have q4 : x3_1 < (a0.size : Int) := of_decide_eq_true (by first | (with_reducible assumption) | assumption)
              have hx4 := bt_at a0 x3_1
              replace p4 := eq_true p4
              replace q4 := eq_true q4
              have p6 : 0 ≤ (x3_1 : Int) := of_decide_eq_true (by first | (with_reducible assumption) | assumption)
              have q6 : x3_1 < (a0.size : Int) := of_decide_eq_true (by first | (with_reducible assumption) | assumption)
              have hx6 := bt_at a0 x3_1
              replace p6 := eq_true p6
              replace q6 := eq_true q6
              go_wp2
              go_ret
              exact ⟨by first | rfl | (simp; done) | (simp [*]; done), by repeat (first | exact Drawn0.refl _ | apply Drawn0.step)⟩
            · rw [if_neg c7] at H
              have c7b0 : decide (57 < (bt a0 x3_1)) = false := decide_eq_false c7
              clear c7
              have H' := Aside0.mk H
              clear H
              have p4 : 0 ≤ (x3_1 : Int) := of_decide_eq_true (by first | (with_reducible assumption) | assumption)
              have q4 : x3_1 < (a0.size : Int) := of_decide_eq_true (by first | (with_reducible assumption) | assumption)
              have hx4 := bt_at a0 x3_1
              replace p4 := eq_true p4
              replace q4 := eq_true q4
              have p6 : 0 ≤ (x3_1 : Int) := of_decide_eq_true (by first | (with_reducible assumption) | assumption)
              have q6 : x3_1 < (a0.size : Int) := of_decide_eq_true (by first | (with_reducible assumption) | assumption)
              have hx6 := bt_at a0 x3_1
              replace p6 := eq_true p6
              replace q6 := eq_true q6
              go_wp2
              go_roundg k1
              case measure => have := HK1.out; omega
              case rel => exact ⟨(wrap64 (x3_1 + 1)), (by first | rfl | (simp; done) | (simp [*]; done)), H', ⟨by have := HK1.out; omega⟩, by repeat (first | exact Drawn0.refl _ | apply Drawn0.step)⟩
        · rw [if_neg c3] at H
          exact absurd H (by simp)
      · rw [if_neg c2] at H
        have c2b0 : decide (x3_1 < (a0.size : Int)) = false := decide_eq_false c2
        clear c2
        by_cases c8 : (a0.size : Int) > 0
        · rw [if_pos c8] at H
          have c8b0 : decide (0 < (a0.size : Int)) = true := decide_eq_true c8
          have c8b1 : decide (0 < a0.size) = true := decide_eq_true (by omega)
          clear c8
          by_cases c9 : 0 < (a0.size : Int)
          · rw [if_pos c9] at H
            have c9b0 : decide (0 < (a0.size : Int)) = true := decide_eq_true c9
            have c9b1 : decide (0 < a0.size) = true := decide_eq_true (by omega)
            clear c9
            by_cases c11 : (bt a0 0) = 48
            · rw [if_pos c11] at H
              have c11b0 : ((bt a0 0) == 48) = true := beq_iff_eq.mpr c11
              have c11b1 : ((bt a0 0) != 48) = false := bne_eq_false_iff_eq.mpr c11
              clear c11
              obtain rfl := Option.some.inj H
              have p10 : 0 ≤ (0 : Int) := (by omega)
              have q10 : 0 < a0.size := (by have : (0 : Int) < (a0.size : Int) := of_decide_eq_true (by first | (with_reducible assumption) | assumption); omega)
              have hx10 : ∀ h : 0 < a0.size, ((a0[0]'h).toNat : Int) = bt a0 0 := bt_at a0 0
              clear p10
              have qi10 : (0 < (a0.size : Int)) = True := eq_true (of_decide_eq_true (by first | (with_reducible assumption) | assumption))
              replace q10 := eq_true q10
              go_wp2
              go_ret
              exact ⟨by first | rfl | (simp; done) | (simp [*]; done), by repeat (first | exact Drawn0.refl _ | apply Drawn0.step)⟩
            · rw [if_neg c11] at H
              have c11b0 : ((bt a0 0) == 48) = false := beq_eq_false_iff_ne.mpr c11
              have c11b1 : ((bt a0 0) != 48) = true := bne_iff_ne.mpr c11
              obtain rfl := Option.some.inj H
              have p10 : 0 ≤ (0 : Int) := (by omega)
              have q10 : 0 < a0.size := (by have : (0 : Int) < (a0.size : Int) := of_decide_eq_true (by first | (with_reducible assumption) | assumption); omega)
              have hx10 : ∀ h : 0 < a0.size, ((a0[0]'h).toNat : Int) = bt a0 0 := bt_at a0 0
              clear p10
              have qi10 : (0 < (a0.size : Int)) = True := eq_true (of_decide_eq_true (by first | (with_reducible assumption) | assumption))
              replace q10 := eq_true q10
              go_wp2
              go_ret
              exact ⟨by first | rfl | (simp; done) | (simp [*]; done), by repeat (first | exact Drawn0.refl _ | apply Drawn0.step)⟩
          · rw [if_neg c9] at H
            exact absurd H (by simp)
        · rw [if_neg c8] at H
          have c8b0 : decide (0 < (a0.size : Int)) = false := decide_eq_false c8
          have c8b1 : decide (0 < a0.size) = false := decide_eq_false (by omega)
          clear c8
          obtain rfl := Option.some.inj H
          go_wp2
          go_ret
          exact ⟨by first | rfl | (simp; done) | (simp [*]; done), by repeat (first | exact Drawn0.refl _ | apply Drawn0.step)⟩

end Go.Proofs.YtpncflaoikeidaaGreatDoor.P
namespace Go.Proofs.YtpncflaoikeidaaGreatDoor.H
open Go.RowKit Go.Lib Go.Proofs.YtpncflaoikeidaaGreatDoorW.PrintWords Go.Proofs.YtpncflaoikeidaaGreatDoorW.PrintLast Go.Proofs.YtpncflaoikeidaaGreatDoorW.PrintMore Go.Proofs.YtpncflaoikeidaaGreatDoor.P
theorem dig10 : ∀ d, d < 10 → (⟨#[48, 49, 50, 51, 52, 53, 54, 55, 56, 57]⟩ : ByteArray).extract d (d + 1) = ⟨([UInt8.ofNat (48 + d)] : List UInt8).toArray⟩ := by decide
theorem padd4 (n : Nat) : padd 4 n = [UInt8.ofNat (48 + n / 1000 % 10), UInt8.ofNat (48 + n / 100 % 10), UInt8.ofNat (48 + n / 10 % 10), UInt8.ofNat (48 + n % 10)] := by
  have e1 : n / 10 / 10 = n / 100 := by omega
  have e2 : n / 100 / 10 = n / 1000 := by omega
  rw [padd, padd, padd, padd, padd, e1, e2]
  rfl
theorem four_f {n : Nat} (hn : n < 10000) : fluxionref04_four.f (n : Int) = some ⟨(padd 4 n).toArray⟩ := by
  have e1 : wrap64 (Int.tdiv (n : Int) 1000) = ((n / 1000 % 10 : Nat) : Int) := by rw [Int.tdiv_eq_ediv_of_nonneg (by omega)]; unfold wrap64; omega
  have e2 : Int.tmod (wrap64 (Int.tdiv (n : Int) 100)) 10 = ((n / 100 % 10 : Nat) : Int) := by
    rw [Int.tdiv_eq_ediv_of_nonneg (by omega), show wrap64 ((n : Int) / 100) = (n : Int) / 100 by unfold wrap64; omega, Int.tmod_eq_emod_of_nonneg (by omega)]; omega
  have e3 : Int.tmod (wrap64 (Int.tdiv (n : Int) 10)) 10 = ((n / 10 % 10 : Nat) : Int) := by
    rw [Int.tdiv_eq_ediv_of_nonneg (by omega), show wrap64 ((n : Int) / 10) = (n : Int) / 10 by unfold wrap64; omega, Int.tmod_eq_emod_of_nonneg (by omega)]; omega
  have e4 : Int.tmod (n : Int) 10 = ((n % 10 : Nat) : Int) := by rw [Int.tmod_eq_emod_of_nonneg (by omega)]; omega
  rw [padd4]
  unfold fluxionref04_four.f
  rw [e1, e2, e3, e4]
  clear e1 e2 e3 e4
  obtain ⟨a, ha⟩ : ∃ a, n / 1000 % 10 = a := ⟨_, rfl⟩
  obtain ⟨b, hb⟩ : ∃ b, n / 100 % 10 = b := ⟨_, rfl⟩
  obtain ⟨c, hc⟩ : ∃ c, n / 10 % 10 = c := ⟨_, rfl⟩
  obtain ⟨d, hd⟩ : ∃ d, n % 10 = d := ⟨_, rfl⟩
  have la : a < 10 := by omega
  have lb : b < 10 := by omega
  have lc : c < 10 := by omega
  have ld : d < 10 := by omega
  rw [ha, hb, hc, hd]
  clear ha hb hc hd hn n
  have w1 : ∀ x : Nat, x < 10 → wrap64 ((x : Int) + 1) = ((x + 1 : Nat) : Int) := fun x hx => by unfold wrap64; omega
  rw [w1 a la, w1 b lb, w1 c lc, w1 d ld]
  simp only [Int.toNat_natCast]
  rw [dig10 a la, dig10 b lb, dig10 c lc, dig10 d ld, bytes_append, bytes_append, bytes_append]
  simp only [bytes_size]
  rw [if_pos (by omega), if_pos (by omega), if_pos (by omega), if_pos (by omega), if_pos (by omega), if_pos (by omega), if_pos (by simp), if_pos (by omega), if_pos (by omega), if_pos (by omega), if_pos (by simp), if_pos (by omega), if_pos (by omega), if_pos (by omega), if_pos (by simp)]
  rfl
theorem padd_add4 (j r : Nat) : padd (j + 4) r = padd j (r / 10000) ++ padd 4 (r % 10000) := by
  have e1 : r % 10000 / 1000 % 10 = r / 1000 % 10 := by omega
  have e2 : r % 10000 / 100 % 10 = r / 100 % 10 := by omega
  have e3 : r % 10000 / 10 % 10 = r / 10 % 10 := by omega
  have e4 : r % 10000 % 10 = r % 10 := by omega
  have f1 : r / 10 / 10 = r / 100 := by omega
  have f2 : r / 100 / 10 = r / 1000 := by omega
  have f3 : r / 1000 / 10 = r / 10000 := by omega
  rw [padd4, e1, e2, e3, e4, padd, padd, padd, padd, f1, f2, f3]
  simp
theorem bt_list {l : List UInt8} {i : Nat} (h : i < l.length) : bt ⟨l.toArray⟩ (i : Int) = ((l[i]'h).toNat : Int) := by
  unfold bt
  have h2 : ((i : Nat) : Int).toNat < (⟨l.toArray⟩ : ByteArray).size := by rw [Int.toNat_natCast]; exact h
  rw [dif_pos h2]
  simp only [Int.toNat_natCast]
  rfl
theorem strip_l1 (z : Nat) (m : List UInt8) (hm : m ≠ []) (h48 : m.head? ≠ some 48) (hz : z + m.length < 9000000000) : ∀ (j i k : Nat), i + j = z → j < k → fluxionref04_Nat.l1 k ⟨(List.replicate z 48 ++ m).toArray⟩ (i : Int) = some ⟨m.toArray⟩
  | _, _, 0, _, h => by omega
  | 0, i, k + 1, hi, _ => by
    have hlen : (List.replicate z (48 : UInt8) ++ m).length = z + m.length := by simp
    have hp : 0 < m.length := List.length_pos_iff.2 hm
    obtain rfl : i = z := by omega
    rw [fluxionref04_Nat.l1, bytes_size, hlen, if_pos (by omega), if_pos (by omega), bt_list (by omega)]
    have hg : (List.replicate i (48 : UInt8) ++ m)[i]'(by omega) = m[0] := by
      rw [List.getElem_append_right (by simp)]; simp
    rw [hg]
    have hne : ¬ ((m[0].toNat : Int) = 48) := by
      intro hc
      refine h48 ?_
      rw [List.head?_eq_getElem?, List.getElem?_eq_getElem hp]
      congr 1
      exact UInt8.toNat_inj.1 (by have : (48 : UInt8).toNat = 48 := rfl; omega)
    rw [if_neg hne, if_pos (by omega)]
    congr 1
    rw [bytes_of (ByteArray.extract _ _ _)]
    have e := ext_tail (⟨(List.replicate i (48 : UInt8) ++ m).toArray⟩ : ByteArray) i
    rw [bytes_size, hlen, bytes_data] at e
    rw [Int.toNat_natCast, e]
    simp
  | j + 1, i, k + 1, hi, hk => by
    have hlen : (List.replicate z (48 : UInt8) ++ m).length = z + m.length := by simp
    rw [fluxionref04_Nat.l1, bytes_size, hlen, if_pos (by omega), if_pos (by omega), bt_list (by omega)]
    have hg : (List.replicate z (48 : UInt8) ++ m)[i]'(by omega) = 48 := by
      rw [List.getElem_append_left (by simp; omega)]; simp
    rw [hg, if_pos (by rfl), show wrap64 ((i : Int) + 1) = ((i + 1 : Nat) : Int) by unfold wrap64; omega]
    exact strip_l1 z m hm h48 hz j (i + 1) k (by omega) (by omega)
theorem c4_top (n : Nat) : n / 10000 ^ (c4 n).length = 0 := by
  have := mt (len_iff n (c4 n).length).2 (Nat.lt_irrefl _)
  exact Classical.byContradiction this
theorem nat4_l0 (n L : Nat) (h0 : n ≠ 0) (hL : (c4 n).length = L) (hn : L < 100000) : ∀ (i j k : Nat) (s : List UInt8), i + j = L → s = padd (4 * j) (n / 10000 ^ i) → i + 400010 < k → fluxionref04_Nat.l0 k (c4 n) ⟨s.toArray⟩ ((i : Int) - 1) = some ⟨(decDigits n).toArray⟩
  | _, _, 0, _, _, _, h => by omega
  | 0, j, k + 1, s, hj, hs, hk => by
    rw [fluxionref04_Nat.l0, if_neg (by omega), hs, Nat.pow_zero, Nat.div_one]
    obtain ⟨_, _, d3, d4⟩ := dec_spec n
    have hlt : n < 10 ^ (4 * j) := by
      have := v4_lt (ok4_c4 n)
      rw [v4_c4, hL, show L = j by omega, show (10000 : Nat) = 10 ^ 4 by decide, ← Nat.pow_mul] at this
      exact this
    have hj0 : 0 < j := by
      rcases Nat.eq_zero_or_pos j with h | h
      · subst h; simp at hlt; omega
      · exact h
    rw [← dec_pad (4 * j) n (by omega) hlt]
    have hle := dec_len (show 0 < 4 * j by omega) hlt
    exact strip_l1 _ _ d3 (d4 h0) (by omega) _ 0 k (Nat.zero_add _) (by omega)
  | i + 1, j, k + 1, s, hj, hs, hk => by
    have hx : n / 10000 ^ i % 10000 < 10000 := Nat.mod_lt _ (by decide)
    rw [fluxionref04_Nat.l0, show ((i + 1 : Nat) : Int) - 1 = (i : Int) by omega, if_pos (by omega), if_pos (by omega), if_pos (by omega), rd_c4, four_f hx, Option.bind_some, bytes_size, bytes_size, hs, padd_length, padd_length, if_pos (by omega), bytes_append, div_pow_succ, ← padd_add4, show wrap64 ((i : Int) - 1) = (i : Int) - 1 by unfold wrap64; omega]
    exact nat4_l0 n L h0 hL hn i (j + 1) k _ (by omega) (by rw [Nat.mul_add]) (by omega)
theorem refNat_f (n k : Nat) (hn : (c4 n).length < 100000) (hk : 600000 ≤ k) : fluxionref04_Nat.f k (c4 n) = some ⟨(decDigits n).toArray⟩ := by
  unfold fluxionref04_Nat.f
  by_cases h0 : n = 0
  · subst h0; rw [c4_zero, decDigits_one (by decide)]; rfl
  · have := mt (c4_len0 n).1 h0
    rw [if_neg (by omega), show wrap64 (((c4 n).length : Int) - 1) = ((c4 n).length : Int) - 1 by unfold wrap64; omega]
    exact nat4_l0 n _ h0 rfl hn _ 0 k [] (by omega) (by rfl) (by omega)
theorem c4_dec_size {n : Nat} (hn : (c4 n).length < 100000) : (decDigits n).length ≤ 400001 := by
  have := v4_lt (ok4_c4 n)
  rw [v4_c4, show (10000 : Nat) = 10 ^ 4 by decide, ← Nat.pow_mul] at this
  have h3 : 10 ^ (4 * (c4 n).length) ≤ 10 ^ (4 * (c4 n).length + 1) := Nat.pow_le_pow_right (by decide) (by omega)
  have := dec_len (j := 4 * (c4 n).length + 1) (by omega) (Nat.lt_of_lt_of_le this h3)
  omega
theorem refRat_f (g : Bool) (n d k : Nat) (hn : (c4 n).length < 100000) (hd : (c4 d).length < 100000) (hk : 600001 ≤ k) : fluxionref04_Rat.f k g (c4 n) (c4 d) = some ⟨(ratT (g, n, d)).toArray⟩ := by
  have s1 := c4_dec_size hn
  have s2 := c4_dec_size hd
  obtain ⟨k, rfl⟩ : ∃ k2, k = k2 + 1 := ⟨k - 1, by omega⟩
  have hj : ∀ (m : List UInt8), m.length ≤ 500020 → fluxionref04_Rat.j0 (k + 1) ⟨m.toArray⟩ g (c4 n) (c4 d) = some ⟨(m ++ (if d = 1 then [] else 47 :: decDigits d)).toArray⟩ := by
    intro m hm
    rw [fluxionref04_Rat.j0, refNat_f d k hd (by omega), Option.bind_some, Option.bind_some, bytes_list]
    by_cases h1 : d = 1
    · rw [if_pos h1, if_pos (by rw [h1, dec_one]), List.append_nil]
    · rw [if_neg h1, if_neg (fun hc => h1 (dec_inj (hc.trans dec_one.symm))), bytes_size, if_pos (by omega)]
      have e : (⟨m.toArray⟩ : ByteArray) ++ ⟨#[47]⟩ = ⟨(m ++ [47]).toArray⟩ := bytes_append m [47]
      rw [e, bytes_size, bytes_size, List.length_append, List.length_singleton, if_pos (by omega), bytes_append]
      simp
  unfold fluxionref04_Rat.f ratT
  rw [refNat_f n (k + 1) hn (by omega), Option.bind_some]
  cases g with
  | true =>
    have e : (⟨#[45]⟩ : ByteArray) ++ ⟨(decDigits n).toArray⟩ = ⟨(45 :: decDigits n).toArray⟩ := bytes_append [45] _
    rw [if_pos rfl, bytes_size, if_pos (by omega), e, hj _ (by rw [List.length_cons]; omega)]
    rfl
  | false =>
    rw [if_neg (by decide), hj _ (by omega)]
    rfl
theorem cutr_l0 (s : ByteArray) (l : List UInt8) (hl : s.data.toList = l) (hz : l.length < 9000000000) : ∀ (j i k : Nat), i + j = l.length → j < k →
    fluxionref04_cut.l0 k s (i : Int) = some (⟨(l.take i ++ (cutB (l.drop i)).1).toArray⟩, ⟨(cutB (l.drop i)).2.1.toArray⟩, (cutB (l.drop i)).2.2)
  | _, _, 0, _, h => by omega
  | 0, i, k + 1, hi, _ => by
    have hs := size_len s
    rw [hl] at hs
    rw [fluxionref04_cut.l0, if_neg (by omega), List.drop_of_length_le (by omega), List.take_of_length_le (by omega)]
    simp only [cutB, List.append_nil]
    rw [← hl, ← bytes_of s]
  | j + 1, i, k + 1, hi, hk => by
    have hs := size_len s
    rw [hl] at hs
    have hb : bt s (i : Int) = ((l[i]'(by omega)).toNat : Int) := by
      rw [bytes_of s, hl]; exact bt_list (by omega)
    have hd : l.drop i = l[i]'(by omega) :: l.drop (i + 1) := List.drop_eq_getElem_cons (by omega)
    have w1 : wrap64 ((i : Int) + 1) = ((i + 1 : Nat) : Int) := by unfold wrap64; omega
    rw [fluxionref04_cut.l0, if_pos (by omega), if_pos (by omega), hb, w1, hd, cutB]
    by_cases h : l[i]'(by omega) = 47
    · rw [if_pos (by rw [h]; rfl), if_pos (by omega), if_pos (by omega), if_pos (by omega), if_pos h]
      simp only [Int.toNat_natCast, List.append_nil]
      rw [bytes_of (s.extract 0 i), bytes_of (s.extract (i + 1) s.size), ext_head, ext_tail, hl]
    · have hne : ¬ (((l[i]'(by omega)).toNat : Int) = 47) := by
        intro hc; exact h (UInt8.toNat_inj.1 (by have : (47 : UInt8).toNat = 47 := rfl; omega))
      rw [if_neg hne, if_neg h, cutr_l0 s l hl hz j (i + 1) k (by omega) (by omega)]
      have ht : l.take (i + 1) = l.take i ++ [l[i]'(by omega)] := by rw [List.take_succ_eq_append_getElem (by omega)]
      rw [ht, List.append_assoc, List.singleton_append]
theorem refCut_f (s : ByteArray) (k : Nat) (hz : s.size < 9000000000) (hk : s.size < k) : fluxionref04_cut.f k s = some (⟨(cutB s.data.toList).1.toArray⟩, ⟨(cutB s.data.toList).2.1.toArray⟩, (cutB s.data.toList).2.2) := by
  have hs := size_len s
  unfold fluxionref04_cut.f
  have := cutr_l0 s _ rfl (by omega) s.data.toList.length 0 k (by omega) (by omega)
  rw [List.drop_zero, List.take_zero, List.nil_append] at this
  exact this
theorem nat_l0 (s : ByteArray) (l : List UInt8) (hl : s.data.toList = l) (hz : l.length < 9000000000) : ∀ (j i k : Nat), i + j = l.length → j < k →
    fluxionref04_natural.l0 k s (i : Int) = some ((l.drop i).all digB && (!l.isEmpty && (l.head? != some 48 || l.length == 1)))
  | _, _, 0, _, h => by omega
  | 0, i, k + 1, hi, _ => by
    have hs := size_len s
    rw [hl] at hs
    rw [fluxionref04_natural.l0, if_neg (by omega), List.drop_of_length_le (by omega), List.all_nil, Bool.true_and]
    cases hc : l with
    | nil => rw [hc] at hs; rw [if_neg (by rw [← hs]; simp)]; rfl
    | cons c m =>
      have hb : bt s 0 = (c.toNat : Int) := by
        have e : s = ⟨(c :: m).toArray⟩ := by rw [bytes_of s, hl, hc]
        rw [e]
        exact bt_list (l := c :: m) (i := 0) (by simp)
      rw [hc, List.length_cons] at hs
      rw [if_pos (by omega), if_pos (by omega), hb]
      by_cases h : c = 48
      · rw [if_pos (by rw [h]; rfl), ← hs, h]
        have : (((m.length + 1 : Nat) : Int) == 1) = (m.length + 1 == 1) := by
          rw [Bool.eq_iff_iff, beq_iff_eq, beq_iff_eq]; omega
        rw [this]; simp
      · have hne : ¬ ((c.toNat : Int) = 48) := by
          intro hc; exact h (UInt8.toNat_inj.1 (by have : (48 : UInt8).toNat = 48 := rfl; omega))
        rw [if_neg hne]
        simp [h]
  | j + 1, i, k + 1, hi, hk => by
    have hs := size_len s
    rw [hl] at hs
    have hb : bt s (i : Int) = ((l[i]'(by omega)).toNat : Int) := by
      rw [bytes_of s, hl]; exact bt_list (by omega)
    have hd : l.drop i = l[i]'(by omega) :: l.drop (i + 1) := List.drop_eq_getElem_cons (by omega)
    have w1 : wrap64 ((i : Int) + 1) = ((i + 1 : Nat) : Int) := by unfold wrap64; omega
    rw [fluxionref04_natural.l0, if_pos (by omega), if_pos (by omega), hb, w1, hd, List.all_cons, nat_l0 s l hl hz j (i + 1) k (by omega) (by omega)]
    by_cases h : digB (l[i]'(by omega)) = true
    · have := (digB_iff _).1 h
      rw [if_neg (by omega), if_neg (by omega), h, Bool.true_and]
    · have h1 : ¬ (48 ≤ (l[i]'(by omega)).toNat ∧ (l[i]'(by omega)).toNat ≤ 57) := fun hc => h ((digB_iff _).2 hc)
      have h2 : digB (l[i]'(by omega)) = false := by simpa using h
      rw [h2, Bool.false_and, Bool.false_and]
      by_cases h3 : (l[i]'(by omega)).toNat < 48
      · rw [if_pos (by omega)]
      · rw [if_neg (by omega), if_pos (by omega)]
theorem refNatural_f (s : ByteArray) (k : Nat) (hz : s.size < 9000000000) (hk : s.size < k) : fluxionref04_natural.f k s = some (natB s.data.toList) := by
  have hs := size_len s
  unfold fluxionref04_natural.f
  have := nat_l0 s _ rfl (by omega) s.data.toList.length 0 k (by omega) (by omega)
  rw [List.drop_zero] at this
  rw [show (0 : Int) = ((0 : Nat) : Int) from rfl, this]
  unfold natB
  rw [Bool.and_assoc]
theorem cutPrefix_f (s : ByteArray) : strings_CutPrefix.f s ⟨#[45]⟩ = some (⟨(restB s.data.toList).toArray⟩, negB s.data.toList) := by
  have hz : ((⟨#[45]⟩ : ByteArray).size : Int) = 1 := rfl
  have hl := size_len s
  have ht : (⟨#[45]⟩ : ByteArray).toList = [45] := bytes_list [45]
  have e1 : ((1 : Int)).toNat = 1 := rfl
  unfold strings_CutPrefix.f stringslite_CutPrefix.f stringslite_HasPrefix.f
  rw [hz, ht, e1]
  by_cases h : 1 ≤ s.size
  · rw [if_pos (by omega), if_pos (by omega), if_pos (by omega), Option.bind_some, toList_data, ext_head]
    cases hs : s.data.toList with
    | nil => rw [hs] at hl; simp at hl; omega
    | cons c l =>
      have hn : (List.take 1 (c :: l) == ([45] : List UInt8)) = negB (c :: l) := by simp [negB]
      rw [hn]
      unfold restB
      cases negB (c :: l) with
      | true =>
        rw [if_pos rfl, if_pos (by omega), if_pos (by omega), Option.bind_some, if_pos rfl, bytes_of (s.extract 1 s.size), ext_tail, hs]
      | false =>
        rw [if_neg (by decide), Option.bind_some, if_neg (by decide), ← hs, ← bytes_of s]
  · rw [if_neg (by omega), Option.bind_some, if_neg (by decide), Option.bind_some]
    have h0 : s.data.toList = [] := List.eq_nil_of_length_eq_zero (by omega)
    have hn : negB s.data.toList = false := by rw [h0]; rfl
    unfold restB
    rw [hn, if_neg (by decide), ← bytes_of s]
theorem restB_len (l : List UInt8) : (restB l).length ≤ l.length := by
  unfold restB; split
  · rw [List.length_drop]; omega
  · exact Nat.le_refl _
theorem cut_f {l : List UInt8} (h : l.length < 4294967281) : strings_Cut.f ⟨l.toArray⟩ ⟨#[47]⟩ = some (⟨(cutB l).1.toArray⟩, ⟨(cutB l).2.1.toArray⟩, (cutB l).2.2) := by
  unfold strings_Cut.f
  rw [bytes_size, if_pos h]
  have e : Lib.cut (⟨l.toArray⟩ : ByteArray).data.toList (⟨#[47]⟩ : ByteArray).data.toList = cutB l := cut47 l
  rw [e]
theorem same_f {a b : Nat} (ha : (limbs a).length < 1000000) (hb : (limbs b).length < 1000000) : rat_limbs.f (limbs a) (limbs b) = some (decide (a = b)) := by
  unfold rat_limbs.f
  rw [cmp_limbs ha hb]
  by_cases h : a = b
  · subst h; rw [if_pos rfl, Option.bind_some, if_neg (Nat.lt_irrefl _), if_neg (Nat.lt_irrefl _), decide_eq_true rfl]; rfl
  · rw [decide_eq_false h]
    by_cases hl : ((limbs a).length : Int) = ((limbs b).length : Int)
    · rw [if_pos hl, Option.bind_some]
      rcases Nat.lt_or_gt_of_ne h with h1 | h1
      · rw [if_pos h1]; rfl
      · rw [if_neg (by omega), if_pos h1]; rfl
    · rw [if_neg hl]
theorem may_f (neg : Bool) {a b : Nat} (ha : (limbs a).length < 100000) (hb : (limbs b).length < 100000) : rat_May.f neg (limbs a) (limbs b) = some (if redN neg a b = (neg, a, b) then 0 else 6) := by
  unfold rat_May.f
  rw [norm_f neg (okl_limbs a) (okl_limbs b) (by omega) (by omega), Option.bind_some, nval_limbs, nval_limbs]
  obtain ⟨q1, q2⟩ := red_len neg (okl_limbs a) (okl_limbs b) ha hb (by decide)
  rw [nval_limbs, nval_limbs] at q1 q2
  obtain ⟨x, hx⟩ : ∃ x, redN neg a b = x := ⟨_, rfl⟩
  rw [hx] at q1 q2 ⊢
  obtain ⟨g, n, d⟩ := x
  simp only at q1 q2 ⊢
  rw [same_f (by omega) (by omega), same_f (by omega) (by omega)]
  simp only [Prod.mk.injEq, Option.bind_some]
  by_cases h1 : g = neg
  · subst h1
    by_cases h2 : n = a
    · by_cases h3 : d = b
      · simp [h2, h3]
      · simp [h2, h3]
    · simp [h2]
  · rw [if_pos (by simpa using h1), if_neg (fun hc => h1 hc.1)]
theorem notbig {n : Nat} (h : ¬ big n = true) : (limbs n).length < 100000 := by
  exact Nat.lt_of_not_le fun hc => h ((big_len n).2 (by omega))
theorem parseRat_f (k : Nat) (s : ByteArray) (hs : s.size < 4294967281) :
    digits_ParseRat.f (k + 1) s = some ((PR s.data.toList).1.1, limbs (PR s.data.toList).1.2.1, limbs (PR s.data.toList).1.2.2, (PR s.data.toList).2) := by
  unfold digits_ParseRat.f digits_natural.f
  have hl := size_len s
  have hr := restB_len s.data.toList
  rw [cutPrefix_f, Option.bind_some]
  simp only
  rw [cut_f (by omega), Option.bind_some]
  simp only
  rw [bytes_data, bytes_data, Option.bind_some, Option.bind_some]
  obtain ⟨l, hll⟩ : ∃ l, s.data.toList = l := ⟨_, rfl⟩
  rw [hll]
  have hm := @may_iff l
  unfold PR
  obtain ⟨c, hc⟩ : ∃ c, cutB (restB l) = c := ⟨_, rfl⟩
  rw [hc] at hm ⊢
  obtain ⟨neg, hneg⟩ : ∃ neg, negB l = neg := ⟨_, rfl⟩
  rw [hneg] at hm ⊢
  clear hc hneg hll hr hl hs
  have bad : digits_ParseRat.j0 (k + 1) neg ⟨c.1.toArray⟩ ⟨c.2.1.toArray⟩ c.2.2 true = some (false, limbs 0, limbs 0, 19) := by
    rw [digits_ParseRat.j0, if_pos rfl, limbs_zero]
  by_cases n1 : natB c.1 = true
  case neg =>
    have e : (natB c.1 && natB (denB c)) = false := by rw [Bool.and_eq_false_iff]; left; simpa using n1
    rw [if_neg n1, bad, e]; rfl
  rw [if_pos n1, n1, Bool.true_and]
  have rd1 := read_f (s := ⟨c.1.toArray⟩) n1
  rw [bytes_data] at rd1
  by_cases ht : c.2.2 = true
  · have hden : denB c = c.2.1 := by unfold denB; rw [if_pos ht]
    rw [hden] at hm ⊢
    rw [if_pos ht]
    by_cases n2 : natB c.2.1 = true
    case neg =>
      have e : natB c.2.1 = false := by simpa using n2
      rw [e, Bool.not_false, bad]; rfl
    have rd2 := read_f (s := ⟨c.2.1.toArray⟩) n2
    rw [bytes_data] at rd2
    have hm := hm n1 n2
    rw [n2, Bool.not_true, if_pos rfl, digits_ParseRat.j0, if_neg (by decide), of_one, Option.bind_some, rd1, Option.bind_some]
    unfold PN
    rw [if_pos n1]
    by_cases b1 : big (dv c.1) = true
    · rw [if_pos b1, b1, Bool.true_or, if_pos rfl, limbs_zero]; rfl
    · have b1' : big (dv c.1) = false := by simpa using b1
      rw [if_neg b1, b1', Bool.false_or, if_pos ht, rd2, Option.bind_some]
      simp only
      rw [if_pos trivial]
      unfold PN
      rw [if_pos n2]
      by_cases b2 : big (dv c.2.1) = true
      · rw [if_pos b2, if_pos b2, limbs_zero]; rfl
      · rw [if_neg b2, if_neg b2]
        simp only
        rw [if_pos trivial, may_f neg (notbig b1) (notbig b2), Option.bind_some, bytes_list]
        by_cases h1 : redN neg (dv c.1) (dv c.2.1) = (neg, dv c.1, dv c.2.1)
        · rw [if_pos h1, if_pos rfl]
          by_cases h2 : c.2.1 = [49]
          · rw [if_pos h2, if_neg (fun h => (hm.1 h).2 ⟨ht, h2⟩), limbs_zero]
          · rw [if_neg h2, if_pos (hm.2 ⟨h1, fun h => h2 h.2⟩), h1]
        · rw [if_neg h1, if_neg (by decide), if_neg (fun h => h1 (hm.1 h).1), limbs_zero]
  · have hden : denB c = [49] := by unfold denB; rw [if_neg ht]
    have hd1 : dv [49] = 1 := by rw [dv_one]; rfl
    have hb1 : big 1 = false := by
      have h := mt (big_len 1).1 (by have := limbs_length_le 1 1 (by decide); omega)
      simpa using h
    rw [hden] at hm ⊢
    rw [hd1] at hm ⊢
    rw [if_neg ht, show natB [49] = true by decide, if_pos rfl, digits_ParseRat.j0, if_neg (by decide), of_one, Option.bind_some, rd1, Option.bind_some]
    have hm := hm n1 (by decide)
    unfold PN
    rw [if_pos n1]
    by_cases b1 : big (dv c.1) = true
    · rw [if_pos b1, b1, Bool.true_or, if_pos rfl, limbs_zero]; rfl
    · have b1' : big (dv c.1) = false := by simpa using b1
      rw [if_neg b1, b1', Bool.false_or, hb1]
      simp only
      rw [if_pos trivial, if_neg ht, may_f neg (notbig b1) (notbig (by rw [hb1]; decide)), Option.bind_some]
      by_cases h1 : redN neg (dv c.1) 1 = (neg, dv c.1, 1)
      · rw [if_pos h1, if_pos rfl, if_neg (by decide), if_pos (hm.2 ⟨h1, fun h => ht h.1⟩), h1]
      · rw [if_neg h1, if_neg (by decide), if_neg (by decide), if_neg (fun h => h1 (hm.1 h).1), limbs_zero]
end Go.Proofs.YtpncflaoikeidaaGreatDoor.H
namespace Go.Proofs.YtpncflaoikeidaaGreatDoor.P
open Go.RowKit Go.Proofs.YtpncflaoikeidaaGreatDoorW.PrintWords Go.Proofs.YtpncflaoikeidaaGreatDoorW.PrintLast Go.Proofs.YtpncflaoikeidaaGreatDoorW.PrintMore
attribute [local go_sem] max2_int max_two
set_option linter.unusedVariables false
set_option linter.unusedSimpArgs false
def fluxionlaw04_falls.f (k : Nat) (a0 : ByteArray) (a1 : Int) : Option (Bool) := (digits_ParseRat.f k a0).bind fun bt264 => (if bt264.2.2.2 = a1 then (if bt264.1 = true then (some false) else (if (bt264.2.1.length : Int) = 0 then (some ((bt264.2.2.1.length : Int) == 0)) else (some false))) else (some false))
def fluxionlaw04_known.f (k : Nat)  : Option (Bool) := (digits_ParseNat.f (⟨#[48, 48, 55]⟩ : ByteArray)).bind fun bt278 => ((digits_ParseNat.f (⟨#[49, 120]⟩ : ByteArray)).bind fun bt282 => ((digits_ParseNat.f (⟨#[]⟩ : ByteArray)).bind fun bt286 => ((digits_Nat.f (([0, 1] : List Int))).bind fun t293 => (if t293.toList = ([52, 50, 57, 52, 57, 54, 55, 50, 57, 54] : List UInt8) then ((digits_Rat.f k true (([3] : List Int)) (([4] : List Int))).bind fun t300 => (if t300.toList = ([45, 51, 47, 52] : List UInt8) then ((digits_Rat.f k false (([7] : List Int)) (([1] : List Int))).bind fun t307 => (if t307.toList = ([55] : List UInt8) then (if bt278.2 = 19 then (if bt282.2 = 19 then (if bt286.2 = 19 then ((fluxionlaw04_falls.f k (⟨#[50, 47, 52]⟩ : ByteArray) 6).bind fun t308 => (if t308 = true then ((fluxionlaw04_falls.f k (⟨#[51, 47, 49]⟩ : ByteArray) 6).bind fun t309 => (if t309 = true then ((fluxionlaw04_falls.f k (⟨#[45, 48]⟩ : ByteArray) 6).bind fun t310 => (if t310 = true then ((fluxionlaw04_falls.f k (⟨#[48, 47, 51]⟩ : ByteArray) 6).bind fun t311 => (if t311 = true then ((fluxionlaw04_falls.f k (⟨#[49, 47, 48]⟩ : ByteArray) 6).bind fun t312 => (if t312 = true then ((fluxionlaw04_falls.f k (⟨#[48, 49, 47, 50]⟩ : ByteArray) 19).bind fun t313 => (if t313 = true then ((fluxionlaw04_falls.f k (⟨#[49, 47]⟩ : ByteArray) 19).bind fun t314 => (if t314 = true then ((fluxionlaw04_falls.f k (⟨#[45, 47, 50]⟩ : ByteArray) 19).bind fun t315 => (if t315 = true then ((fluxionlaw04_falls.f k (⟨#[49, 47, 45, 50]⟩ : ByteArray) 19).bind fun t316 => (if t316 = true then ((fluxionlaw04_falls.f k (⟨#[43, 49]⟩ : ByteArray) 19).bind fun t317 => (some t317)) else (none))) else (none))) else (none))) else (none))) else (none))) else (none))) else (none))) else (none))) else (none))) else (none)) else (none)) else (none)) else (none))) else (none))) else (none)))))
end Go.Proofs.YtpncflaoikeidaaGreatDoor.P
namespace Go.Proofs.YtpncflaoikeidaaGreatDoor.H
open Go.RowKit Go.Lib Go.Proofs.YtpncflaoikeidaaGreatDoorW.PrintWords Go.Proofs.YtpncflaoikeidaaGreatDoorW.PrintLast Go.Proofs.YtpncflaoikeidaaGreatDoorW.PrintMore Go.Proofs.YtpncflaoikeidaaGreatDoor.P
theorem c4_nval_len {l : List Int} (hl : okl l) : (c4 (nval l)).length ≤ 3 * l.length := c4_limbs (nval_lt hl)
theorem c4_red_len (g : Bool) (n d : Nat) {m : Nat} (h1 : (c4 n).length < m) (h2 : (c4 d).length < m) (hm : 1 < m) : (c4 (redN g n d).2.1).length < m ∧ (c4 (redN g n d).2.2).length < m := by
  obtain ⟨q1, q2⟩ := redN_le g n d
  have p1 := c4_le_len q1
  have p2 := c4_le_len q2
  refine ⟨by omega, ?_⟩
  rcases Nat.le_total d 1 with h | h
  · rw [Nat.max_eq_right h, c4_one, List.length_singleton] at p2; omega
  · rw [Nat.max_eq_left h] at p2; omega
end Go.Proofs.YtpncflaoikeidaaGreatDoor.H
namespace Go.Proofs.YtpncflaoikeidaaGreatDoor.P
open Go.RowKit Go.Proofs.YtpncflaoikeidaaGreatDoorW.PrintWords Go.Proofs.YtpncflaoikeidaaGreatDoorW.PrintLast Go.Proofs.YtpncflaoikeidaaGreatDoorW.PrintMore
attribute [local go_sem] max2_int max_two
set_option linter.unusedVariables false
set_option linter.unusedSimpArgs false
def fluxionref01_Short.l0 : Nat → List Int → Int → List Int → Int → Int → Option (List Int × Int)
  | 0, _, _, _, _, _ => none
  | k + 1, x0, x1, x6, x7, x8 => if x8 ≥ 0 then (if 0 ≤ x8 then (if x8 < (x0.length : Int) then (if x1 = 0 then (none) else (if x8 < (x6.length : Int) then (fluxionref01_Short.l0 k x0 x1 (x6.set (x8 : Int).toNat (wrap64 (Int.tdiv (wrap64 ((wrap64 (x7 * 10000)) + (rd x0 x8))) x1))) (Int.tmod (wrap64 ((wrap64 (x7 * 10000)) + (rd x0 x8))) x1) (wrap64 (x8 - 1))) else (none))) else (none)) else (none)) else ((fluxionref01_trim.f k x6).bind fun t480 => (some (t480, x7)))
def fluxionref01_Short.f (k : Nat) (l0 : List Int) (a1 : Int) : Option (List Int × Int) := if 0 ≤ (l0.length : Int) then (if ((l0.length : Int) : Int).toNat ≤ 35184372088832 then (fluxionref01_Short.l0 k l0 a1 (List.replicate ((l0.length : Int) : Int).toNat 0) 0 (wrap64 ((l0.length : Int) - 1))) else (none)) else (none)
set_option maxHeartbeats 8000000 in
set_option maxRecDepth 100000 in
theorem fluxionref01_Short.calls (k : Nat) (A0 : Option Addr) (c0 : Nat) (l0 : List Int) (a1 : Int) (r1 : List Int) (r2 : Int) (w : World) (hr0 : Kd.C (Kd.int .i64) w A0 l0.length l0) (hc0 : l0.length ≤ c0) (h : fluxionref01_Short.f k l0 a1 = some (r1, r2)) :
    Calls Tryz.prog 49 #[.slice A0 l0.length c0, .int .i64 a1] w fun e w' => ∃ v0_ : Value, e = .returned (.tuple #[v0_, .int .i64 r2]) ∧ Kd.R (Kd.int .i64) 3 w' w.heap.size (fun _ => True) v0_ r1 ∧ Below w.heap.size w w' := by
  have HR0 := Aside0.mk hr0
  have HC0 := Aside0.mk hc0
  clear hr0 hc0
  have HB := Aside0.mk (Below.refl w.heap.size w)
  have H : (if 0 ≤ (l0.length : Int) then (if ((l0.length : Int) : Int).toNat ≤ 35184372088832 then (fluxionref01_Short.l0 k l0 a1 (List.replicate ((l0.length : Int) : Int).toNat 0) 0 (wrap64 ((l0.length : Int) - 1))) else (none)) else (none)) = some (r1, r2) := h
  clear h
  by_cases c3 : 0 ≤ (l0.length : Int)
  · rw [if_pos c3] at H
    have c3b0 := eq_true c3
    have c3b1 : decide (0 ≤ (l0.length : Int)) = true := decide_eq_true c3
    clear c3
    by_cases c4 : ((l0.length : Int) : Int).toNat ≤ 35184372088832
    · rw [if_pos c4] at H
      have c4b0 := eq_true c4
      have c4b1 : decide (((l0.length : Int) : Int).toNat ≤ 35184372088832) = true := decide_eq_true c4
      clear c4
      obtain ⟨y475, hy475⟩ : ∃ y_ : List Int, y_ = (List.replicate ((l0.length : Int) : Int).toNat 0) := ⟨_, rfl⟩
      replace H : (fluxionref01_Short.l0 k l0 a1 y475 0 (wrap64 ((l0.length : Int) - 1))) = some (r1, r2) := by first | (rw [hy475]; with_reducible exact H) | (have H2_ := (Option.bind_some _ _).symm.trans H; rw [hy475]; with_reducible exact H2_) | (have H2_ := (Option.bind_some _ _).symm.trans H; with_reducible exact H2_) | with_reducible exact H | (rw [hy475]; exact H) | exact H
      have Ny475 := Aside0.mk hy475
      clear hy475
      have H' := Aside0.mk H
      clear H
      go_enter Tryz.func49, Tryz.ntmps49
      go_wp2_with (first | ((with_reducible refine gate_dst (N := 12) rfl ?_); refine Kd.R_make (Kd.int .i64) _ 3 rfl (N := 12) rfl 30 _ _ rfl (l0.length : Int) rfl rfl Tryz.underlying30 (.int .i64 0) 8 info3 rfl (by decide) (by omega) 0 (ok := fun _ => True) (okp := fun _ => True) rfl (fun _ hk => hk) trivial (of_decide_eq_true (by first | (with_reducible assumption) | assumption)) (Nat.le_trans (Nat.mul_le_mul_right _ (of_decide_eq_true (by first | (with_reducible assumption) | assumption) : (l0.length : Int).toNat ≤ 35184372088832)) (by omega)) (Below.refl _ _) (Nat.le_refl _) ?_; intro v476 w5 ho6 hb hg_ hnew_; clear hg_ hnew_; (first | rw [← Ny475.out] at ho6 | (simp only [Int.reduceToNat] at ho6; rw [← Ny475.out] at ho6)); have n0_ := Aside0.mk (Kd.R_lower ho6 (below_size (by repeat (first | (with_reducible first | exact HB.out | apply below_alloc | apply pw_below_drewN | apply below_drew1) | exact HB.out)))); have n1_ := Aside0.mk (below_step (by repeat (first | (with_reducible first | exact HB.out | apply below_alloc | apply pw_below_drewN | apply below_drew1) | exact HB.out)) hb); clear HB; have HO477 := n0_; have HB := n1_; clear n0_ n1_; clear hb ho6))
      go_loopg [7, 8] k (fun kq v7 v8 w' => ∃ (x6_1 : List Int) (x7_1 : Int) (x8_1 : Int), v7 = .int .i64 x7_1 ∧ v8 = .int .i64 x8_1 ∧ Aside0 (fluxionref01_Short.l0 kq l0 a1 x6_1 x7_1 x8_1 = some (r1, r2)) ∧ Aside0 (kq ≤ k) ∧ Aside0 (Kd.R (Kd.int .i64) 3 w' w.heap.size (fun _ => True) v476 x6_1) ∧ Aside0 (Below w.heap.size w w'))
      case atStart => exact ⟨(y475), (0), (wrap64 ((l0.length : Int) - 1)), (by first | rfl | (simp; done) | (simp [*]; done)), (by first | rfl | (simp; done) | (simp [*]; done)), H', ⟨Nat.le_refl _⟩, ⟨by exact HO477.out⟩, ⟨by repeat (first | (with_reducible first | exact HB.out | apply below_alloc | apply pw_below_drewN | apply below_drew1) | exact HB.out)⟩⟩
      case round =>
        clear H'
        try clear p2
        try clear c3
        try clear c3b0
        try clear c3b1
        try clear c4
        try clear c4b0
        try clear c4b1
        try clear p6
        obtain ⟨x6_1, x7_1, x8_1, rfl, rfl, HA, HK1, HO_6, HB⟩ := hrel
        cases gk with
        | zero => exact absurd HA.out (by simp [fluxionref01_Short.l0])
        | succ k1 =>
          have H := HA.out
          clear HA
          simp only [fluxionref01_Short.l0] at H
          by_cases c7 : x8_1 ≥ 0
          · rw [if_pos c7] at H
            have c7b0 : decide (0 ≤ x8_1) = true := decide_eq_true c7
            clear c7
            by_cases c8 : 0 ≤ x8_1
            · rw [if_pos c8] at H
              have c8b0 : decide (0 ≤ x8_1) = true := decide_eq_true c8
              clear c8
              by_cases c9 : x8_1 < (l0.length : Int)
              · rw [if_pos c9] at H
                have c9b0 : decide (x8_1 < (l0.length : Int)) = true := decide_eq_true c9
                clear c9
                by_cases c10 : a1 = 0
                · rw [if_pos c10] at H
                  exact absurd H (by simp)
                · rw [if_neg c10] at H
                  have c10b0 : (a1 == 0) = false := beq_eq_false_iff_ne.mpr c10
                  have c10b1 : (a1 != 0) = true := bne_iff_ne.mpr c10
                  by_cases c11 : x8_1 < (x6_1.length : Int)
                  · rw [if_pos c11] at H
                    have c11b0 : decide (x8_1 < (x6_1.length : Int)) = true := decide_eq_true c11
                    clear c11
                    obtain ⟨y479, hy479⟩ : ∃ y_ : List Int, y_ = (x6_1.set (x8_1 : Int).toNat (wrap64 (Int.tdiv (wrap64 ((wrap64 (x7_1 * 10000)) + (rd l0 x8_1))) a1))) := ⟨_, rfl⟩
                    replace H : (fluxionref01_Short.l0 k1 l0 a1 y479 (Int.tmod (wrap64 ((wrap64 (x7_1 * 10000)) + (rd l0 x8_1))) a1) (wrap64 (x8_1 - 1))) = some (r1, r2) := by first | (rw [hy479]; with_reducible exact H) | (have H2_ := (Option.bind_some _ _).symm.trans H; rw [hy479]; with_reducible exact H2_) | (have H2_ := (Option.bind_some _ _).symm.trans H; with_reducible exact H2_) | with_reducible exact H | (rw [hy479]; exact H) | exact H
                    have Ny479 := Aside0.mk hy479
                    clear hy479
                    have H' := Aside0.mk H
                    clear H
                    have p478 : 0 ≤ (x8_1 : Int) := of_decide_eq_true (by first | (with_reducible assumption) | assumption)
                    have q478 : x8_1 < (l0.length : Int) := of_decide_eq_true (by first | (with_reducible assumption) | assumption)
                    obtain ⟨ad478, e478, hx478_0⟩ := Kd.at_int HR0.out x8_1 p478 q478
                    cases e478
                    replace hx478_0 := (HB.out.cell (World.block_lt_of_cell? w _ hx478_0)).trans hx478_0
                    replace p478 := eq_true p478
                    replace q478 := eq_true q478
                    have p12 : 0 ≤ (x8_1 : Int) := of_decide_eq_true (by first | (with_reducible assumption) | assumption)
                    have q12 : (x8_1 : Int) < ((x6_1.length : Int) : Int) := of_decide_eq_true (by first | (with_reducible assumption) | assumption)
                    obtain ⟨go12, co12, eo12, gb12, gl12, cl12, HG12⟩ := Kd.R_form HO_6.out (by omega)
                    (first | cases eo12 | (injection eo12 with ea_ en_ ec_; (first | subst ea_ | (injection ea_ with ea_; subst ea_)); subst ec_; clear en_))
                    have GB12 := Aside0.mk gb12
                    have GG12 := Aside0.mk HG12
                    clear gb12 gl12 HG12
                    obtain ⟨hx12_0, hf12_0⟩ := Kd.R_celln 0 HO_6.out (x8_1 : Int) p12 q12
                    replace p12 := eq_true p12
                    replace q12 := eq_true q12
                    have HP13 := Kd.R_putg HO_6.out (x8_1 : Int) (wrap64 (Int.tdiv (wrap64 ((wrap64 (x7_1 * 10000)) + (rd l0 x8_1))) a1))
                    go_wp2_with (first | ((with_reducible refine gate_store (t := 3) (p := 32) rfl ?_); refine store_event (t := 3) (p := 32) (v := ?vo_w14) (w1 := (wr.setCell ⟨go12, (x8_1 : Int).toNat, none⟩ (.int .i64 (wrap64 (Int.tdiv (wrap64 ((wrap64 (x7_1 * 10000)) + (rd l0 x8_1))) a1))))) ?hg ?ho ?hn ?hr ?_; (case ho => rfl); (case hg => rfl); (case hn => rfl); (case hr => first | (go_simp; done) | (go_simp; rfl)); intro w14 hw; have hg : wr.grownBy w14 (some go12) := (by rw [hw]; exact HP13.2); have hp_ : Kd.R (Kd.int .i64) 3 w14 w.heap.size (fun _ => True) (.slice (some ⟨go12, 0, none⟩) x6_1.length co12) y479 := (by rw [hw, Ny479.out]; exact HP13.1); clear HP13; have n0_ := Aside0.mk (hp_); have n1_ := Aside0.mk ((by rw [hw]; exact below_set (HB.out) GB12.out : Below w.heap.size w w14)); clear HO_6; clear HB; have HO_6 := n0_; have HB := n1_; clear n0_ n1_; clear hg hw hp_))
                    go_roundg k1
                    case measure => have := HK1.out; omega
                    case rel => exact ⟨(y479), (Int.tmod (wrap64 ((wrap64 (x7_1 * 10000)) + (rd l0 x8_1))) a1), (wrap64 (x8_1 - 1)), (by first | rfl | (simp; done) | (simp [*]; done)), (by first | rfl | (simp; done) | (simp [*]; done)), H', ⟨by have := HK1.out; omega⟩, ⟨by exact HO_6.out⟩, ⟨by repeat (first | (with_reducible first | exact HB.out | apply below_alloc | apply pw_below_drewN | apply below_drew1) | exact HB.out)⟩⟩
                  · rw [if_neg c11] at H
                    exact absurd H (by simp)
              · rw [if_neg c9] at H
                exact absurd H (by simp)
            · rw [if_neg c8] at H
              exact absurd H (by simp)
          · rw [if_neg c7] at H
            have c7b0 : decide (0 ≤ x8_1) = false := decide_eq_false c7
            clear c7
            replace H := Option.bind_eq_some_iff.mp H
            obtain ⟨t480, A150, H⟩ := H
            replace H : (some (t480, x7_1)) = some (r1, r2) := H
            have A15 := Aside0.mk A150
            clear A150
            simp only [Option.some.injEq, Prod.mk.injEq] at H
            obtain ⟨rfl, rfl⟩ := H
            obtain ⟨Ao16, co16, eo16⟩ := Kd.R_slice HO_6.out
            subst eo16
            go_wp2_with (first | ((with_reducible refine gate_callee (f := 88) rfl ?_); refine goesL_ (some 37) rfl rfl Tryz.func88 (by kernel_rfl) rfl #[.slice Ao16 x6_1.length co16] rfl (by (try simp only [List.map_toArray, List.map_cons, List.map_nil]); first | done | rfl | (simp only [List.length_drop, List.length_take]; rfl)) ?_; (with_reducible refine (fluxionref01_trim.calls k1 (fun k_ => some k_ = (.slice Ao16 x6_1.length co16 : Value).ownBlock) (.slice Ao16 x6_1.length co16) x6_1 t480 w _ ?side1 ?side2 A15.out).mono ?_); (case side1 => repeat (first | (with_reducible first | exact HB.out | apply below_alloc | apply pw_below_drewN | apply below_drew1) | exact HB.out)); (case side2 => exact Kd.R_tight rfl HO_6.out); rintro e w17 ⟨v481, rfl, ho0, hb, hkp⟩; refine ⟨_, rfl, ?_⟩; have n0_ := Aside0.mk (Kd.R_mono (ok' := fun k_ => True) ho0 (fun k_ hk_ => trivial)); have n1_ := Aside0.mk (hb); clear HB; clear HO_6; have HO482 := n0_; have HB := n1_; clear n0_ n1_; (try clear hb); (try clear hkp); (try clear ho0)))
            go_ret2
            exact ⟨_, by first | rfl | (simp [errW_none, errW_some] <;> rfl) | (simp [*, errW_none, errW_some] <;> rfl), by exact HO482.out, by repeat (first | (with_reducible first | exact HB.out | apply below_alloc | apply pw_below_drewN | apply below_drew1) | exact HB.out)⟩
    · rw [if_neg c4] at H
      exact absurd H (by simp)
  · rw [if_neg c3] at H
    exact absurd H (by simp)

def fluxionref01_Bits.l0 : Nat → List Int → Int → Option (Int)
  | 0, _, _ => none
  | k + 1, x0, x3 => if (x0.length : Int) > 0 then ((fluxionref01_Short.f k x0 2).bind fun bt483 => (fluxionref01_Bits.l0 k bt483.1 (wrap64 (x3 + 1)))) else (some x3)
def fluxionref01_Bits.f (k : Nat) (l0 : List Int) : Option (Int) := fluxionref01_Bits.l0 k l0 0
set_option maxHeartbeats 8000000 in
set_option maxRecDepth 100000 in
theorem fluxionref01_Bits.calls (k : Nat) (P0_ : Nat → Prop) (A0 : Option Addr) (c0 : Nat) (l0 : List Int) (r : Int) (w : World) (hs0 : Kd.V (Kd.int .i64) 3 w w.heap.size (fun k_ => P0_ k_) (.slice A0 l0.length c0) l0) (h : fluxionref01_Bits.f k l0 = some r) :
    Calls Tryz.prog 18 #[.slice A0 l0.length c0] w fun e w' => e = .returned (.int .i64 r) ∧ Below w.heap.size w w' := by
  have HO0 := Aside0.mk (show Kd.V (Kd.int .i64) 3 w w.heap.size (fun k_ => (P0_ k_ ∨ w.heap.size ≤ k_)) (.slice A0 l0.length c0) l0 from Kd.V_mono hs0 (fun k_ hk => .inl hk))
  have HB := Aside0.mk (Below.refl w.heap.size w)
  have H : (fluxionref01_Bits.l0 k l0 0) = some r := h
  clear h
  have H' := Aside0.mk H
  clear H
  go_enter Tryz.func18, Tryz.ntmps18
  go_wp2
  go_loopg [0, 3] k (fun kq v0 v3 w' => ∃ (x0_1 : List Int) (x3_1 : Int), v3 = .int .i64 x3_1 ∧ Aside0 (fluxionref01_Bits.l0 kq x0_1 x3_1 = some r) ∧ Aside0 (kq ≤ k) ∧ Aside0 (Kd.V (Kd.int .i64) 3 w' w.heap.size (fun k_ => (P0_ k_ ∨ w.heap.size ≤ k_)) v0 x0_1) ∧ Aside0 (Below w.heap.size w w'))
  case atStart => exact ⟨(l0), (0), (by first | rfl | (simp; done) | (simp [*]; done)), H', ⟨Nat.le_refl _⟩, ⟨by (with_reducible repeat (first | apply Kd.V_alloc | apply Kd.V_drewN | apply Kd.V_drew)); exact HO0.out⟩, ⟨by repeat (first | (with_reducible first | exact HB.out | apply below_alloc | apply pw_below_drewN | apply below_drew1) | exact HB.out)⟩⟩
  case round =>
    clear H'
    try clear c1
    obtain ⟨x0_1, x3_1, rfl, HA, HK1, HO_0, HB⟩ := hrel
    cases gk with
    | zero => exact absurd HA.out (by simp [fluxionref01_Bits.l0])
    | succ k1 =>
      have H := HA.out
      clear HA
      simp only [fluxionref01_Bits.l0] at H
      by_cases c2 : (x0_1.length : Int) > 0
      · rw [if_pos c2] at H
        have c2b0 : decide (0 < (x0_1.length : Int)) = true := decide_eq_true c2
        have c2b1 : decide (0 < x0_1.length) = true := decide_eq_true (by omega)
        clear c2
        replace H := Option.bind_eq_some_iff.mp H
        obtain ⟨⟨t483, t484⟩, A30, H⟩ := H
        replace H : (fluxionref01_Bits.l0 k1 t483 (wrap64 (x3_1 + 1))) = some r := H
        have A3 := Aside0.mk A30
        clear A30
        have H' := Aside0.mk H
        clear H
        obtain ⟨Ao4, co4, eo4⟩ := Kd.V_slice HO_0.out
        subst eo4
        go_wp2_with (first | ((with_reducible refine gate_callee (f := 49) rfl ?_); refine goesL_ (some 11) rfl rfl Tryz.func49 (by kernel_rfl) rfl #[.slice Ao4 x0_1.length co4, .int .i64 2] rfl (by (try simp only [List.map_toArray, List.map_cons, List.map_nil]); first | done | rfl | (simp only [List.length_drop, List.length_take]; rfl)) ?_; (with_reducible refine (fluxionref01_Short.calls k1 _ _ x0_1 2 t483 t484 _ ?side1 ?side2 A3.out).mono ?_); (case side1 => repeat (first | exact (Kd.V_reads' HO_0.out).2.2 | (with_reducible refine Kd.C_alloc ?_ _) | (with_reducible refine Kd.C_drewN ?_ _) | (with_reducible refine Kd.C_drew ?_))); (case side2 => exact (Kd.V_reads' HO_0.out).2.1); rintro e w5 ⟨v485, rfl, ho0, hb⟩; refine ⟨_, rfl, ?_⟩; have n0_ := Aside0.mk (Kd.V_elder' (by (with_reducible repeat (first | apply Kd.V_alloc | apply Kd.V_drewN | apply Kd.V_drew)); exact HO_0.out) (Kd.R_base ho0) hb); have n1_ := Aside0.mk (Kd.R_lower (Kd.R_newM (M := fun k_ => (w.heap.size ≤ k_)) ho0 (below_size (by repeat (first | (with_reducible first | exact HB.out | apply below_alloc | apply pw_below_drewN | apply below_drew1) | exact HB.out))) (fun k_ h_ => h_)) (below_size (by repeat (first | (with_reducible first | exact HB.out | apply below_alloc | apply pw_below_drewN | apply below_drew1) | exact HB.out)))); have n2_ := Aside0.mk (below_step (by repeat (first | (with_reducible first | exact HB.out | apply below_alloc | apply pw_below_drewN | apply below_drew1) | exact HB.out)) hb); clear HO_0; clear HB; have HO_0 := n0_; have HO486 := n1_; have HB := n2_; clear n0_ n1_ n2_; (try clear hb); (try clear hb2); (try clear hk); (try clear hi); (try clear ho0)))
        go_roundg k1
        case measure => have := HK1.out; omega
        case rel => exact ⟨(t483), (wrap64 (x3_1 + 1)), (by first | rfl | (simp; done) | (simp [*]; done)), H', ⟨by have := HK1.out; omega⟩, ⟨Kd.V_mono (Kd.R_V (by exact Kd.R_mono HO486.out (fun _ hk => hk.1))) (fun k_ hk => by first | exact ⟨(.inr (hk.1)), hk.2⟩ | exact (.inr (hk)))⟩, ⟨by repeat (first | (with_reducible first | exact HB.out | apply below_alloc | apply pw_below_drewN | apply below_drew1) | exact HB.out)⟩⟩
      · rw [if_neg c2] at H
        have c2b0 : decide (0 < (x0_1.length : Int)) = false := decide_eq_false c2
        have c2b1 : decide (0 < x0_1.length) = false := decide_eq_false (by omega)
        clear c2
        obtain rfl := Option.some.inj H
        obtain ⟨Ao6, co6, eo6⟩ := Kd.V_slice HO_0.out
        subst eo6
        go_wp2
        go_ret
        exact ⟨by first | rfl | (simp [errW_none, errW_some] <;> rfl) | (simp [*, errW_none, errW_some] <;> rfl), by repeat (first | (with_reducible first | exact HB.out | apply below_alloc | apply pw_below_drewN | apply below_drew1) | exact HB.out)⟩

def fluxionref04_number.l0 : Nat → ByteArray → List Int → Int → Option (List Int)
  | 0, _, _, _ => none
  | k + 1, x0, x3, x4 => if x4 < (x0.size : Int) then ((fluxionref01_Times.f k x3 10).bind fun t487 => (if 0 ≤ x4 then ((fluxionref01_Small.f k (wrap64 ((wrap64 (bt x0 x4)) - 48))).bind fun t490 => ((fluxionref01_Add.f k t487 t490).bind fun t493 => (fluxionref04_number.l0 k x0 t493 (wrap64 (x4 + 1))))) else (none))) else (some x3)
def fluxionref04_number.f (k : Nat) (a0 : ByteArray) : Option (List Int) := fluxionref04_number.l0 k a0 ([] : List Int) 0
def fluxionref04_number.T5 : Bool × List (List Nat × List Nat) := (true, [([], []), ([0], [0]), ([], []), ([], []), ([2, 3], [2, 3]), ([4], [4]), ([5], [5]), ([6, 1], [6]), ([1, 7, 7], [1, 7]), ([8, 8, 0, 1, 2, 3, 4, 5, 6, 7, 8], [0, 8])])
def fluxionref04_number.B5 : List Nat := [0, 1, 0, 0, 12, 28, 60, 127, 255, 511]
theorem fluxionref04_number.tab5 : rtab .any (opsOf Tryz.f78 5) = fluxionref04_number.T5 := by kernel_rfl
theorem fluxionref04_number.bits5 : waitsOk fluxionref04_number.T5.2 fluxionref04_number.B5 = true := by kernel_rfl
set_option maxHeartbeats 8000000 in
set_option maxRecDepth 100000 in
theorem fluxionref04_number.calls (k : Nat) (a0 : ByteArray) (r : List Int) (w : World) (h : fluxionref04_number.f k a0 = some r) :
    Calls Tryz.prog 78 #[.string a0] w fun e w' => ∃ v0_ : Value, e = .returned (v0_) ∧ Kd.R (Kd.int .i64) 3 w' w.heap.size (fun _ => True) v0_ r ∧ Below w.heap.size w w' := by
  have HB := Aside0.mk (Below.refl w.heap.size w)
  have H : (fluxionref04_number.l0 k a0 ([] : List Int) 0) = some r := h
  clear h
  have H' := Aside0.mk H
  clear H
  go_enter Tryz.func78, Tryz.ntmps78
  go_wp2
  go_loopg [3, 4] k (fun kq v3 v4 w' => ∃ (x3_1 : List Int) (x4_1 : Int), v4 = .int .i64 x4_1 ∧ Aside0 (fluxionref04_number.l0 kq a0 x3_1 x4_1 = some r) ∧ Aside0 (kq ≤ k) ∧ Aside0 (Kd.R (Kd.int .i64) 3 w' w.heap.size (fun _ => True) v3 x3_1) ∧ Aside0 (Below w.heap.size w w'))
  case atStart => exact ⟨(([] : List Int)), (0), (by first | rfl | (simp; done) | (simp [*]; done)), H', ⟨Nat.le_refl _⟩, ⟨by first | exact Kd.R_nil _ _ _ _ _ | exact Kd.N_nil _ _ _ _ _ | exact Kd.V_nil _ _ _ _ _ | exact Kd.Q_nil _ _ _ _ _ | exact Kd.S_nil _ _ _ _ _⟩, ⟨by repeat (first | (with_reducible first | exact HB.out | apply below_alloc | apply pw_below_drewN | apply below_drew1) | exact HB.out)⟩⟩
  case round =>
    clear H'
    obtain ⟨x3_1, x4_1, rfl, HA, HK1, HO_3, HB⟩ := hrel
    cases gk with
    | zero => exact absurd HA.out (by simp [fluxionref04_number.l0])
    | succ k1 =>
      have H := HA.out
      clear HA
      simp only [fluxionref04_number.l0] at H
      by_cases c2 : x4_1 < (a0.size : Int)
      · rw [if_pos c2] at H
        have c2b0 : decide (x4_1 < (a0.size : Int)) = true := decide_eq_true c2
        clear c2
        replace H := Option.bind_eq_some_iff.mp H
        obtain ⟨t487, A30, H⟩ := H
        replace H : (if 0 ≤ x4_1 then ((fluxionref01_Small.f k1 (wrap64 ((wrap64 (bt a0 x4_1)) - 48))).bind fun t490 => ((fluxionref01_Add.f k1 t487 t490).bind fun t493 => (fluxionref04_number.l0 k1 a0 t493 (wrap64 (x4_1 + 1))))) else (none)) = some r := H
        have A3 := Aside0.mk A30
        clear A30
        by_cases c4 : 0 ≤ x4_1
        · rw [if_pos c4] at H
          have c4b0 : decide (0 ≤ x4_1) = true := decide_eq_true c4
          clear c4
          replace H := Option.bind_eq_some_iff.mp H
          obtain ⟨t490, A60, H⟩ := H
          replace H : ((fluxionref01_Add.f k1 t487 t490).bind fun t493 => (fluxionref04_number.l0 k1 a0 t493 (wrap64 (x4_1 + 1)))) = some r := H
          have A6 := Aside0.mk A60
          clear A60
          replace H := Option.bind_eq_some_iff.mp H
          obtain ⟨t493, A70, H⟩ := H
          replace H : (fluxionref04_number.l0 k1 a0 t493 (wrap64 (x4_1 + 1))) = some r := H
          have A7 := Aside0.mk A70
          clear A70
          have H' := Aside0.mk H
          clear H
          try go_wp2
          have n0_ := Aside0.mk (Kd.R_drew HO_3.out)
          have n1_ := Aside0.mk (below_drew1 HB.out)
          clear HO_3
          clear HB
          have HO_3 := n0_
          have HB := n1_
          clear n0_ n1_
          have p5 : 0 ≤ (x4_1 : Int) := of_decide_eq_true (by first | (with_reducible assumption) | assumption)
          have q5 : x4_1 < (a0.size : Int) := of_decide_eq_true (by first | (with_reducible assumption) | assumption)
          have hx5 := bt_at a0 x4_1
          replace p5 := eq_true p5
          replace q5 := eq_true q5
          obtain ⟨Ao9, co9, eo9⟩ := Kd.R_slice HO_3.out
          (first | subst eo9 | (injection eo9 with f1_ f2_ f3_; have f4_ := f1_.symm; have f5_ := f3_.symm; clear f1_ f2_ f3_; subst f4_; subst f5_))
          refine start_ (n := 10) (S := fun w' => True) (ds := []) #[false, false, false, false, false, false, false, false, false, false] (by kernel_rfl) rfl rfl trivial (fun hHeld => ?_); refine with_tabW fluxionref04_number.tab5 fluxionref04_number.bits5 (fun HT_ HW_ => ?_)
          generalize wr.drew = w8 at HO_3 HB hHeld ⊢
          refine pure_ (i := 0) (N := some 11) (v := ?_) (a' := ?_) #[true, false, false, false, false, false, false, false, false, false] rfl rfl (any_of HT_.out (by kernel_rfl)) (fun _ _ _ h => h) (Or.inl ⟨by rfl, ?_⟩) ?_ ?_
          rotate_left
          · intro w'
            go_simp
            with_reducible rfl
          rotate_left
          · simp only [Act.put, List.setIfInBounds_toArray, List.set_cons_zero, List.set_cons_succ, i64_w, i32_w]
            rfl
          refine pure_ (i := 2) (N := some 13) (v := ?_) (a' := ?_) #[true, false, true, false, false, false, false, false, false, false] rfl rfl (any_of HT_.out (by kernel_rfl)) (fun _ _ _ h => h) (Or.inl ⟨by rfl, ?_⟩) ?_ ?_
          rotate_left
          · intro w'
            go_simp
            with_reducible rfl
          rotate_left
          · simp only [Act.put, List.setIfInBounds_toArray, List.set_cons_zero, List.set_cons_succ, i64_w, i32_w]
            rfl
          refine pure_ (i := 3) (N := some 14) (v := ?_) (a' := ?_) #[true, false, true, true, false, false, false, false, false, false] rfl rfl (any_of HT_.out (by kernel_rfl)) (fun _ _ _ h => h) (Or.inl ⟨by rfl, ?_⟩) ?_ ?_
          rotate_left
          · intro w'
            go_simp
            with_reducible rfl
          rotate_left
          · simp only [Act.put, List.setIfInBounds_toArray, List.set_cons_zero, List.set_cons_succ, i64_w, i32_w]
            rfl
          refine take_ (i := 4) (N := some 15) (v := ?_) (a' := ?_) #[true, false, true, true, true, false, false, false, false, false] rfl rfl (take_ofW HT_.out HW_.out (by kernel_rfl)) (fun _ _ _ h => h) (Or.inl ⟨by rfl, ?_⟩) hHeld ?_ ?_
          rotate_left
          · intro w' _
            go_simp
            with_reducible rfl
          rotate_left
          · simp only [Act.put, List.setIfInBounds_toArray, List.set_cons_zero, List.set_cons_succ, i64_w, i32_w]
            rfl
          refine pure_ (i := 5) (N := some 16) (v := ?_) (a' := ?_) #[true, false, true, true, true, true, false, false, false, false] rfl rfl (any_of HT_.out (by kernel_rfl)) (fun _ _ _ h => h) (Or.inl ⟨by rfl, ?_⟩) ?_ ?_
          rotate_left
          · intro w'
            go_simp
            with_reducible rfl
          rotate_left
          · simp only [Act.put, List.setIfInBounds_toArray, List.set_cons_zero, List.set_cons_succ, i64_w, i32_w]
            rfl
          refine pure_ (i := 6) (N := some 17) (v := ?_) (a' := ?_) #[true, false, true, true, true, true, true, false, false, false] rfl rfl (any_of HT_.out (by kernel_rfl)) (fun _ _ _ h => h) (Or.inl ⟨by rfl, ?_⟩) ?_ ?_
          rotate_left
          · intro w'
            go_simp
            with_reducible rfl
          rotate_left
          · simp only [Act.put, List.setIfInBounds_toArray, List.set_cons_zero, List.set_cons_succ, i64_w, i32_w]
            rfl
          refine one_ (i := 1) (N := some 12) #[true, true, true, true, true, true, true, false, false, false] rfl rfl (one_of HT_.out (by kernel_rfl)) (by decide) (fun K hK => ?_)
          refine goes_ Tryz.func51 (by kernel_rfl) rfl #[.slice Ao9 x3_1.length co9, .int .i64 10] (by rfl) rfl rfl (by (try simp only [List.map_toArray, List.map_cons, List.map_nil]); first | done | rfl | (simp only [List.length_drop, List.length_take]; rfl)) ?_
          with_reducible refine (fluxionref01_Times.calls k1 _ _ x3_1 10 t487 _ ?side1 ?side2 A3.out).mono ?_
          (case side1 => repeat (first | exact (Kd.R_reads' HO_3.out).2.2 | (with_reducible refine Kd.C_alloc ?_ _) | (with_reducible refine Kd.C_drewN ?_ _) | (with_reducible refine Kd.C_drew ?_)))
          (case side2 => exact (Kd.R_reads' HO_3.out).2.1)
          rintro e w10 ⟨v488, rfl, ho0, hb⟩
          refine ⟨_, rfl, ?_⟩
          have n0_ := Aside0.mk (Kd.R_elder' (by exact HO_3.out) (Kd.R_base ho0) hb)
          have n1_ := Aside0.mk (Kd.R_lower (Kd.R_new' ho0 (Kd.R_lt (by exact HO_3.out))) (below_size (by repeat (first | (with_reducible first | exact HB.out | apply below_alloc | apply pw_below_drewN | apply below_drew1) | exact HB.out))))
          have n2_ := Aside0.mk (below_step (by repeat (first | (with_reducible first | exact HB.out | apply below_alloc | apply pw_below_drewN | apply below_drew1) | exact HB.out)) hb)
          clear HO_3
          clear HB
          have HO_3 := n0_
          have HO489 := n1_
          have HB := n2_
          clear n0_ n1_ n2_
          (try clear hb)
          (try clear hb2)
          (try clear hk)
          (try clear hi)
          (try clear ho0)
          refine hK.out _ _ trivial (fun hHeld => ?_)
          clear hK K
          refine norm_ (a' := ?_) ?_ ?_
          rotate_left
          · show Act.put _ (some 12) _ = _
            simp only [Act.put, List.setIfInBounds_toArray, List.set_cons_zero, List.set_cons_succ, i64_w, i32_w]
            rfl
          refine one_ (i := 7) (N := some 18) #[true, true, true, true, true, true, true, true, false, false] rfl rfl (one_of HT_.out (by kernel_rfl)) (by decide) (fun K hK => ?_)
          refine goes_ Tryz.func52 (by kernel_rfl) rfl #[.int .i64 (wrap64 ((wrap64 (bt a0 x4_1)) - 48))] (by rfl) rfl rfl (by (try simp only [List.map_toArray, List.map_cons, List.map_nil]); first | done | rfl | (simp only [List.length_drop, List.length_take]; rfl)) ?_
          with_reducible refine (fluxionref01_Small.calls k1 (wrap64 ((wrap64 (bt a0 x4_1)) - 48)) t490 _ A6.out).mono ?_
          rintro e w11 ⟨v491, rfl, ho0, hb⟩
          refine ⟨_, rfl, ?_⟩
          have n0_ := Aside0.mk (Kd.R_elder' (by exact HO_3.out) (Kd.R_base ho0) hb)
          have n1_ := Aside0.mk (Kd.R_elder' (by exact HO489.out) (Kd.R_base ho0) hb)
          have n2_ := Aside0.mk (Kd.R_lower (Kd.R_new' (Kd.R_new' ho0 (Kd.R_lt (by exact HO_3.out))) (Kd.R_lt (by exact HO489.out))) (below_size (by repeat (first | (with_reducible first | exact HB.out | apply below_alloc | apply pw_below_drewN | apply below_drew1) | exact HB.out))))
          have n3_ := Aside0.mk (below_step (by repeat (first | (with_reducible first | exact HB.out | apply below_alloc | apply pw_below_drewN | apply below_drew1) | exact HB.out)) hb)
          clear HO_3
          clear HO489
          clear HB
          have HO_3 := n0_
          have HO489 := n1_
          have HO492 := n2_
          have HB := n3_
          clear n0_ n1_ n2_ n3_
          (try clear hb)
          (try clear hb2)
          (try clear hk)
          (try clear hi)
          (try clear ho0)
          obtain ⟨Ao12, co12, eo12⟩ := Kd.R_slice HO489.out
          (first | subst eo12 | (injection eo12 with f1_ f2_ f3_; have f4_ := f1_.symm; have f5_ := f3_.symm; clear f1_ f2_ f3_; subst f4_; subst f5_))
          obtain ⟨Ao13, co13, eo13⟩ := Kd.R_slice HO492.out
          (first | subst eo13 | (injection eo13 with f1_ f2_ f3_; have f4_ := f1_.symm; have f5_ := f3_.symm; clear f1_ f2_ f3_; subst f4_; subst f5_))
          refine hK.out _ _ trivial (fun hHeld => ?_)
          clear hK K
          refine norm_ (a' := ?_) ?_ ?_
          rotate_left
          · show Act.put _ (some 18) _ = _
            simp only [Act.put, List.setIfInBounds_toArray, List.set_cons_zero, List.set_cons_succ, i64_w, i32_w]
            rfl
          refine one_ (i := 8) (N := some 19) #[true, true, true, true, true, true, true, true, true, false] rfl rfl (one_of HT_.out (by kernel_rfl)) (by decide) (fun K hK => ?_)
          refine goes_ Tryz.func50 (by kernel_rfl) rfl #[.slice Ao12 t487.length co12, .slice Ao13 t490.length co13] (by rfl) rfl rfl (by (try simp only [List.map_toArray, List.map_cons, List.map_nil]); first | done | rfl | (simp only [List.length_drop, List.length_take]; rfl)) ?_
          with_reducible refine (fluxionref01_Add.calls k1 _ _ t487 _ _ t490 t493 _ ?side1 ?side2 ?side3 ?side4 A7.out).mono ?_
          (case side1 => repeat (first | exact (Kd.R_reads' HO489.out).2.2 | (with_reducible refine Kd.C_alloc ?_ _) | (with_reducible refine Kd.C_drewN ?_ _) | (with_reducible refine Kd.C_drew ?_)))
          (case side2 => exact (Kd.R_reads' HO489.out).2.1)
          (case side3 => repeat (first | exact (Kd.R_reads' HO492.out).2.2 | (with_reducible refine Kd.C_alloc ?_ _) | (with_reducible refine Kd.C_drewN ?_ _) | (with_reducible refine Kd.C_drew ?_)))
          (case side4 => exact (Kd.R_reads' HO492.out).2.1)
          rintro e w14 ⟨v494, rfl, ho0, hb⟩
          refine ⟨_, rfl, ?_⟩
          have n0_ := Aside0.mk (Kd.R_elder' (by exact HO_3.out) (Kd.R_base ho0) hb)
          have n1_ := Aside0.mk (Kd.R_elder' (by exact HO489.out) (Kd.R_base ho0) hb)
          have n2_ := Aside0.mk (Kd.R_elder' (by exact HO492.out) (Kd.R_base ho0) hb)
          have n3_ := Aside0.mk (Kd.R_lower (Kd.R_new' (Kd.R_new' (Kd.R_new' ho0 (Kd.R_lt (by exact HO_3.out))) (Kd.R_lt (by exact HO489.out))) (Kd.R_lt (by exact HO492.out))) (below_size (by repeat (first | (with_reducible first | exact HB.out | apply below_alloc | apply pw_below_drewN | apply below_drew1) | exact HB.out))))
          have n4_ := Aside0.mk (below_step (by repeat (first | (with_reducible first | exact HB.out | apply below_alloc | apply pw_below_drewN | apply below_drew1) | exact HB.out)) hb)
          clear HO_3
          clear HO489
          clear HO492
          clear HB
          have HO_3 := n0_
          have HO489 := n1_
          have HO492 := n2_
          have HO495 := n3_
          have HB := n4_
          clear n0_ n1_ n2_ n3_ n4_
          (try clear hb)
          (try clear hb2)
          (try clear hk)
          (try clear hi)
          (try clear ho0)
          refine hK.out _ _ trivial (fun hHeld => ?_)
          clear hK K
          refine norm_ (a' := ?_) ?_ ?_
          rotate_left
          · show Act.put _ (some 19) _ = _
            simp only [Act.put, List.setIfInBounds_toArray, List.set_cons_zero, List.set_cons_succ, i64_w, i32_w]
            rfl
          refine pure_ (i := 9) (N := some 3) (v := ?_) (a' := ?_) #[true, true, true, true, true, true, true, true, true, true] rfl rfl (any_of HT_.out (by kernel_rfl)) (fun _ _ _ h => h) (Or.inl ⟨by rfl, ?_⟩) ?_ ?_
          rotate_left
          · intro w'
            go_simp
            with_reducible rfl
          rotate_left
          · simp only [Act.put, List.setIfInBounds_toArray, List.set_cons_zero, List.set_cons_succ, i64_w, i32_w]
            rfl
          refine done_ (done_of HT_.out (by kernel_rfl)) ?_
          try go_wp2
          go_roundg k1
          case measure => have := HK1.out; omega
          case rel => exact ⟨(t493), (wrap64 (x4_1 + 1)), (by first | rfl | (simp; done) | (simp [*]; done)), H', ⟨by have := HK1.out; omega⟩, ⟨by exact Kd.R_mono HO495.out (fun _ hk => trivial)⟩, ⟨by repeat (first | (with_reducible first | exact HB.out | apply below_alloc | apply pw_below_drewN | apply below_drew1) | exact HB.out)⟩⟩
        · rw [if_neg c4] at H
          exact absurd H (by simp)
      · rw [if_neg c2] at H
        have c2b0 : decide (x4_1 < (a0.size : Int)) = false := decide_eq_false c2
        clear c2
        obtain rfl := Option.some.inj H
        go_wp2
        go_ret
        exact ⟨_, by first | rfl | (simp [errW_none, errW_some] <;> rfl) | (simp [*, errW_none, errW_some] <;> rfl), by exact HO_3.out, by repeat (first | (with_reducible first | exact HB.out | apply below_alloc | apply pw_below_drewN | apply below_drew1) | exact HB.out)⟩

def fluxionref04_ParseNat.f (k : Nat) (a0 : ByteArray) : Option (List Int × Int) := (fluxionref04_natural.f k a0).bind fun t496 => (if t496 = true then (if (a0.size : Int) > 400 then (some (([] : List Int), 14)) else ((fluxionref04_number.f k a0).bind fun t497 => ((fluxionref01_Bits.f k t497).bind fun t500 => (if t500 > 1024 then (some (([] : List Int), 14)) else (some (t497, 0)))))) else (some (([] : List Int), 19)))
set_option maxHeartbeats 8000000 in
set_option maxRecDepth 100000 in
theorem fluxionref04_ParseNat.calls (k : Nat) (a0 : ByteArray) (r1 : List Int) (r2 : Int) (w : World) (h : fluxionref04_ParseNat.f k a0 = some (r1, r2)) :
    Calls Tryz.prog 41 #[.string a0] w fun e w' => ∃ v0_ : Value, e = .returned (.tuple #[v0_, .int .i64 r2]) ∧ Kd.R (Kd.int .i64) 3 w' w.heap.size (fun _ => True) v0_ r1 ∧ Below w.heap.size w w' := by
  have HB := Aside0.mk (Below.refl w.heap.size w)
  have H : ((fluxionref04_natural.f k a0).bind fun t496 => (if t496 = true then (if (a0.size : Int) > 400 then (some (([] : List Int), 14)) else ((fluxionref04_number.f k a0).bind fun t497 => ((fluxionref01_Bits.f k t497).bind fun t500 => (if t500 > 1024 then (some (([] : List Int), 14)) else (some (t497, 0)))))) else (some (([] : List Int), 19)))) = some (r1, r2) := h
  clear h
  replace H := Option.bind_eq_some_iff.mp H
  obtain ⟨t496, A20, H⟩ := H
  replace H : (if t496 = true then (if (a0.size : Int) > 400 then (some (([] : List Int), 14)) else ((fluxionref04_number.f k a0).bind fun t497 => ((fluxionref01_Bits.f k t497).bind fun t500 => (if t500 > 1024 then (some (([] : List Int), 14)) else (some (t497, 0)))))) else (some (([] : List Int), 19))) = some (r1, r2) := H
  have A2 := Aside0.mk A20
  clear A20
  by_cases c3 : t496 = true
  · subst c3
    have H1 : (if (a0.size : Int) > 400 then (some (([] : List Int), 14)) else ((fluxionref04_number.f k a0).bind fun t497 => ((fluxionref01_Bits.f k t497).bind fun t500 => (if t500 > 1024 then (some (([] : List Int), 14)) else (some (t497, 0)))))) = some (r1, r2) := by rw [if_pos rfl] at H; exact H
    clear H
    have H := H1
    clear H1
    by_cases c4 : (a0.size : Int) > 400
    · rw [if_pos c4] at H
      have c4b0 : decide (400 < (a0.size : Int)) = true := decide_eq_true c4
      have c4b1 : decide (400 < a0.size) = true := decide_eq_true (by omega)
      clear c4
      simp only [Option.some.injEq, Prod.mk.injEq] at H
      obtain ⟨rfl, rfl⟩ := H
      go_enter Tryz.func41, Tryz.ntmps41
      go_wp2_with (first | ((with_reducible refine gate_callee (f := 40) rfl ?_); refine goesL_ (some 6) rfl rfl Tryz.func40 (by kernel_rfl) rfl #[.string a0] rfl (by (try simp only [List.map_toArray, List.map_cons, List.map_nil]); first | done | rfl | (simp only [List.length_drop, List.length_take]; rfl)) ?_; (with_reducible refine (fluxionref04_natural.calls k a0 true _ A2.out).mono ?_); rintro e w' ⟨rfl, ⟨nd, rfl⟩⟩; refine ⟨_, rfl, ?_⟩))
      go_ret2
      exact ⟨_, by first | rfl | (simp [errW_none, errW_some] <;> rfl) | (simp [*, errW_none, errW_some] <;> rfl), by first | exact Kd.R_nil _ _ _ _ _ | exact Kd.N_nil _ _ _ _ _ | exact Kd.V_nil _ _ _ _ _ | exact Kd.Q_nil _ _ _ _ _ | exact Kd.S_nil _ _ _ _ _, by repeat (first | (with_reducible first | exact HB.out | apply below_alloc | apply pw_below_drewN | apply below_drew1) | exact HB.out)⟩
    · rw [if_neg c4] at H
      have c4b0 : decide (400 < (a0.size : Int)) = false := decide_eq_false c4
      have c4b1 : decide (400 < a0.size) = false := decide_eq_false (by omega)
      clear c4
      replace H := Option.bind_eq_some_iff.mp H
      obtain ⟨t497, A50, H⟩ := H
      replace H : ((fluxionref01_Bits.f k t497).bind fun t500 => (if t500 > 1024 then (some (([] : List Int), 14)) else (some (t497, 0)))) = some (r1, r2) := H
      have A5 := Aside0.mk A50
      clear A50
      replace H := Option.bind_eq_some_iff.mp H
      obtain ⟨t500, A60, H⟩ := H
      replace H : (if t500 > 1024 then (some (([] : List Int), 14)) else (some (t497, 0))) = some (r1, r2) := H
      have A6 := Aside0.mk A60
      clear A60
      by_cases c7 : t500 > 1024
      · rw [if_pos c7] at H
        have c7b0 : decide (1024 < t500) = true := decide_eq_true c7
        clear c7
        simp only [Option.some.injEq, Prod.mk.injEq] at H
        obtain ⟨rfl, rfl⟩ := H
        go_enter Tryz.func41, Tryz.ntmps41
        go_wp2_with (first | ((with_reducible refine gate_callee (f := 40) rfl ?_); refine goesL_ (some 6) rfl rfl Tryz.func40 (by kernel_rfl) rfl #[.string a0] rfl (by (try simp only [List.map_toArray, List.map_cons, List.map_nil]); first | done | rfl | (simp only [List.length_drop, List.length_take]; rfl)) ?_; (with_reducible refine (fluxionref04_natural.calls k a0 true _ A2.out).mono ?_); rintro e w' ⟨rfl, ⟨nd, rfl⟩⟩; refine ⟨_, rfl, ?_⟩) | ((with_reducible refine gate_callee (f := 78) rfl ?_); refine goesL_ (some 12) rfl rfl Tryz.func78 (by kernel_rfl) rfl #[.string a0] rfl (by (try simp only [List.map_toArray, List.map_cons, List.map_nil]); first | done | rfl | (simp only [List.length_drop, List.length_take]; rfl)) ?_; (with_reducible refine (fluxionref04_number.calls k a0 t497 _ A5.out).mono ?_); rintro e w8 ⟨v498, rfl, ho0, hb⟩; refine ⟨_, rfl, ?_⟩; have n0_ := Aside0.mk (Kd.R_lower ho0 (below_size (by repeat (first | (with_reducible first | exact HB.out | apply below_alloc | apply pw_below_drewN | apply below_drew1) | exact HB.out)))); have n1_ := Aside0.mk (below_step (by repeat (first | (with_reducible first | exact HB.out | apply below_alloc | apply pw_below_drewN | apply below_drew1) | exact HB.out)) hb); clear HB; have HO499 := n0_; have HB := n1_; clear n0_ n1_; (try clear hb); (try clear hb2); (try clear hk); (try clear hi); (try clear ho0); obtain ⟨Ao9, co9, eo9⟩ := Kd.R_slice HO499.out; subst eo9) | ((with_reducible refine gate_callee (f := 18) rfl ?_); refine goesL_ (some 14) rfl rfl Tryz.func18 (by kernel_rfl) rfl #[.slice Ao9 t497.length co9] rfl (by (try simp only [List.map_toArray, List.map_cons, List.map_nil]); first | done | rfl | (simp only [List.length_drop, List.length_take]; rfl)) ?_; (with_reducible refine (fluxionref01_Bits.calls k (fun k_ => some k_ = (.slice Ao9 t497.length co9 : Value).ownBlock) _ _ t497 t500 _ ?side1 A6.out).mono ?_); (case side1 => exact Kd.R_V (Kd.R_tight rfl (HO499.out))); rintro e w10 ⟨rfl, hb⟩; refine ⟨_, rfl, ?_⟩; have n0_ := Aside0.mk (Kd.R_below (by exact HO499.out) hb); have n1_ := Aside0.mk (below_step (by repeat (first | (with_reducible first | exact HB.out | apply below_alloc | apply pw_below_drewN | apply below_drew1) | exact HB.out)) hb); clear HO499; clear HB; have HO499 := n0_; have HB := n1_; clear n0_ n1_; (try clear hb); (try clear hb2); (try clear hk); (try clear hi)))
        go_ret2
        exact ⟨_, by first | rfl | (simp [errW_none, errW_some] <;> rfl) | (simp [*, errW_none, errW_some] <;> rfl), by first | exact Kd.R_nil _ _ _ _ _ | exact Kd.N_nil _ _ _ _ _ | exact Kd.V_nil _ _ _ _ _ | exact Kd.Q_nil _ _ _ _ _ | exact Kd.S_nil _ _ _ _ _, by repeat (first | (with_reducible first | exact HB.out | apply below_alloc | apply pw_below_drewN | apply below_drew1) | exact HB.out)⟩
      · rw [if_neg c7] at H
        have c7b0 : decide (1024 < t500) = false := decide_eq_false c7
        clear c7
        simp only [Option.some.injEq, Prod.mk.injEq] at H
        obtain ⟨rfl, rfl⟩ := H
        go_enter Tryz.func41, Tryz.ntmps41
        go_wp2_with (first | ((with_reducible refine gate_callee (f := 40) rfl ?_); refine goesL_ (some 6) rfl rfl Tryz.func40 (by kernel_rfl) rfl #[.string a0] rfl (by (try simp only [List.map_toArray, List.map_cons, List.map_nil]); first | done | rfl | (simp only [List.length_drop, List.length_take]; rfl)) ?_; (with_reducible refine (fluxionref04_natural.calls k a0 true _ A2.out).mono ?_); rintro e w' ⟨rfl, ⟨nd, rfl⟩⟩; refine ⟨_, rfl, ?_⟩) | ((with_reducible refine gate_callee (f := 78) rfl ?_); refine goesL_ (some 12) rfl rfl Tryz.func78 (by kernel_rfl) rfl #[.string a0] rfl (by (try simp only [List.map_toArray, List.map_cons, List.map_nil]); first | done | rfl | (simp only [List.length_drop, List.length_take]; rfl)) ?_; (with_reducible refine (fluxionref04_number.calls k a0 t497 _ A5.out).mono ?_); rintro e w11 ⟨v498, rfl, ho0, hb⟩; refine ⟨_, rfl, ?_⟩; have n0_ := Aside0.mk (Kd.R_lower ho0 (below_size (by repeat (first | (with_reducible first | exact HB.out | apply below_alloc | apply pw_below_drewN | apply below_drew1) | exact HB.out)))); have n1_ := Aside0.mk (below_step (by repeat (first | (with_reducible first | exact HB.out | apply below_alloc | apply pw_below_drewN | apply below_drew1) | exact HB.out)) hb); clear HB; have HO499 := n0_; have HB := n1_; clear n0_ n1_; (try clear hb); (try clear hb2); (try clear hk); (try clear hi); (try clear ho0); obtain ⟨Ao12, co12, eo12⟩ := Kd.R_slice HO499.out; subst eo12) | ((with_reducible refine gate_callee (f := 18) rfl ?_); refine goesL_ (some 14) rfl rfl Tryz.func18 (by kernel_rfl) rfl #[.slice Ao12 t497.length co12] rfl (by (try simp only [List.map_toArray, List.map_cons, List.map_nil]); first | done | rfl | (simp only [List.length_drop, List.length_take]; rfl)) ?_; (with_reducible refine (fluxionref01_Bits.calls k (fun k_ => some k_ = (.slice Ao12 t497.length co12 : Value).ownBlock) _ _ t497 t500 _ ?side1 A6.out).mono ?_); (case side1 => exact Kd.R_V (Kd.R_tight rfl (HO499.out))); rintro e w13 ⟨rfl, hb⟩; refine ⟨_, rfl, ?_⟩; have n0_ := Aside0.mk (Kd.R_below (by exact HO499.out) hb); have n1_ := Aside0.mk (below_step (by repeat (first | (with_reducible first | exact HB.out | apply below_alloc | apply pw_below_drewN | apply below_drew1) | exact HB.out)) hb); clear HO499; clear HB; have HO499 := n0_; have HB := n1_; clear n0_ n1_; (try clear hb); (try clear hb2); (try clear hk); (try clear hi)))
        go_ret2
        exact ⟨_, by first | rfl | (simp [errW_none, errW_some] <;> rfl) | (simp [*, errW_none, errW_some] <;> rfl), by exact HO499.out, by repeat (first | (with_reducible first | exact HB.out | apply below_alloc | apply pw_below_drewN | apply below_drew1) | exact HB.out)⟩
  · replace c3 := Bool.eq_false_iff.mpr c3
    subst c3
    have H1 : (some (([] : List Int), 19)) = some (r1, r2) := by rw [if_neg (show ¬ (false = true) by decide)] at H; exact H
    clear H
    have H := H1
    clear H1
    simp only [Option.some.injEq, Prod.mk.injEq] at H
    obtain ⟨rfl, rfl⟩ := H
    go_enter Tryz.func41, Tryz.ntmps41
    go_wp2_with (first | ((with_reducible refine gate_callee (f := 40) rfl ?_); refine goesL_ (some 6) rfl rfl Tryz.func40 (by kernel_rfl) rfl #[.string a0] rfl (by (try simp only [List.map_toArray, List.map_cons, List.map_nil]); first | done | rfl | (simp only [List.length_drop, List.length_take]; rfl)) ?_; (with_reducible refine (fluxionref04_natural.calls k a0 false _ A2.out).mono ?_); rintro e w' ⟨rfl, ⟨nd, rfl⟩⟩; refine ⟨_, rfl, ?_⟩))
    go_ret2
    exact ⟨_, by first | rfl | (simp [errW_none, errW_some] <;> rfl) | (simp [*, errW_none, errW_some] <;> rfl), by first | exact Kd.R_nil _ _ _ _ _ | exact Kd.N_nil _ _ _ _ _ | exact Kd.V_nil _ _ _ _ _ | exact Kd.Q_nil _ _ _ _ _ | exact Kd.S_nil _ _ _ _ _, by repeat (first | (with_reducible first | exact HB.out | apply below_alloc | apply pw_below_drewN | apply below_drew1) | exact HB.out)⟩

def fluxionref01_Canonical.f (l0 : List Int) : Option (Bool) := if (l0.length : Int) = 0 then (some true) else (if 0 ≤ (wrap64 ((l0.length : Int) - 1)) then (if (wrap64 ((l0.length : Int) - 1)) < (l0.length : Int) then (some ((rd l0 (wrap64 ((l0.length : Int) - 1))) != 0)) else (none)) else (none))
set_option maxHeartbeats 8000000 in
set_option maxRecDepth 100000 in
theorem fluxionref01_Canonical.calls (A0 : Option Addr) (c0 : Nat) (l0 : List Int) (r : Bool) (w : World) (hr0 : Kd.C (Kd.int .u32) w A0 l0.length l0) (hc0 : l0.length ≤ c0) (h : fluxionref01_Canonical.f l0 = some r) :
    Calls Tryz.prog 53 #[.slice A0 l0.length c0] w fun e w' => e = .returned (.bool r) ∧ Drawn0 w w' := by
  have HR0 := Aside0.mk hr0
  have HC0 := Aside0.mk hc0
  clear hr0 hc0
  have H : (if (l0.length : Int) = 0 then (some true) else (if 0 ≤ (wrap64 ((l0.length : Int) - 1)) then (if (wrap64 ((l0.length : Int) - 1)) < (l0.length : Int) then (some ((rd l0 (wrap64 ((l0.length : Int) - 1))) != 0)) else (none)) else (none))) = some r := h
  clear h
  by_cases c2 : (l0.length : Int) = 0
  · rw [if_pos c2] at H
    have c2b0 : ((l0.length : Int) == 0) = true := beq_iff_eq.mpr c2
    have c2b1 : ((l0.length : Int) != 0) = false := bne_eq_false_iff_eq.mpr c2
    clear c2
    obtain rfl := Option.some.inj H
    go_enter Tryz.func53, Tryz.ntmps53
    go_wp2
    go_ret
    exact ⟨by first | rfl | (simp; done) | (simp [*]; done), by repeat (first | exact Drawn0.refl _ | apply Drawn0.step)⟩
  · rw [if_neg c2] at H
    have c2b0 : ((l0.length : Int) == 0) = false := beq_eq_false_iff_ne.mpr c2
    have c2b1 : ((l0.length : Int) != 0) = true := bne_iff_ne.mpr c2
    have c2b2 : ¬ (l0 = []) := fun h_ => c2 (by rw [h_]; rfl)
    obtain ⟨ji3, hji3⟩ : ∃ j_ : Int, (wrap64 ((l0.length : Int) - 1)) = j_ := ⟨_, rfl⟩
    replace H : (if 0 ≤ (ji3) then (if (ji3) < (l0.length : Int) then (some ((rd l0 (ji3)) != 0)) else (none)) else (none)) = some r := by first | (rw [hji3] at H; exact H) | (simp only [hji3] at H ⊢; exact H)
    have hji3w : (IntKind.i64.wrap ((l0.length : Int) - 1)) = ji3 := (i64_w _).trans hji3
    by_cases c4 : 0 ≤ (ji3)
    · rw [if_pos c4] at H
      have c4b0 : decide (0 ≤ (ji3)) = true := decide_eq_true c4
      clear c4
      by_cases c5 : (ji3) < (l0.length : Int)
      · rw [if_pos c5] at H
        have c5b0 : decide ((ji3) < (l0.length : Int)) = true := decide_eq_true c5
        clear c5
        obtain rfl := Option.some.inj H
        have p524 : 0 ≤ ((ji3) : Int) := of_decide_eq_true (by first | (with_reducible assumption) | assumption)
        have q524 : (ji3) < (l0.length : Int) := of_decide_eq_true (by first | (with_reducible assumption) | assumption)
        obtain ⟨ad524, e524, hx524_0⟩ := Kd.at_int HR0.out (ji3) p524 q524
        cases e524
        replace p524 := eq_true p524
        replace q524 := eq_true q524
        go_enter Tryz.func53, Tryz.ntmps53
        go_wp2
        go_ret
        exact ⟨by first | rfl | (simp; done) | (simp only [← hji3] <;> (first | rfl | simp)) | (simp [*]; done), by repeat (first | exact Drawn0.refl _ | apply Drawn0.step)⟩
      · rw [if_neg c5] at H
        exact absurd H (by simp)
    · rw [if_neg c4] at H
      exact absurd H (by simp)

def fluxionref01_Is.f (k : Nat) (l0 : List Int) (l1 : List Int) : Option (Bool) := (fluxionref01_Canonical.f l1).bind fun t525 => (if t525 = true then ((fluxionref01_Of.f k l1).bind fun t526 => ((fluxionref01_Cmp.f k t526 l0).bind fun t529 => (some (t529 == 0)))) else (some false))
set_option maxHeartbeats 8000000 in
set_option maxRecDepth 100000 in
theorem fluxionref01_Is.calls (k : Nat) (A0 : Option Addr) (c0 : Nat) (l0 : List Int) (A1 : Option Addr) (c1 : Nat) (l1 : List Int) (r : Bool) (w : World) (hr0 : Kd.C (Kd.int .i64) w A0 l0.length l0) (hc0 : l0.length ≤ c0) (hr1 : Kd.C (Kd.int .u32) w A1 l1.length l1) (hc1 : l1.length ≤ c1) (h : fluxionref01_Is.f k l0 l1 = some r) :
    Calls Tryz.prog 20 #[.slice A0 l0.length c0, .slice A1 l1.length c1] w fun e w' => e = .returned (.bool r) ∧ Below w.heap.size w w' := by
  have HR0 := Aside0.mk hr0
  have HC0 := Aside0.mk hc0
  clear hr0 hc0
  have HR1 := Aside0.mk hr1
  have HC1 := Aside0.mk hc1
  clear hr1 hc1
  have HB := Aside0.mk (Below.refl w.heap.size w)
  have H : ((fluxionref01_Canonical.f l1).bind fun t525 => (if t525 = true then ((fluxionref01_Of.f k l1).bind fun t526 => ((fluxionref01_Cmp.f k t526 l0).bind fun t529 => (some (t529 == 0)))) else (some false))) = some r := h
  clear h
  replace H := Option.bind_eq_some_iff.mp H
  obtain ⟨t525, A30, H⟩ := H
  replace H : (if t525 = true then ((fluxionref01_Of.f k l1).bind fun t526 => ((fluxionref01_Cmp.f k t526 l0).bind fun t529 => (some (t529 == 0)))) else (some false)) = some r := H
  have A3 := Aside0.mk A30
  clear A30
  by_cases c4 : t525 = true
  · subst c4
    have H1 : ((fluxionref01_Of.f k l1).bind fun t526 => ((fluxionref01_Cmp.f k t526 l0).bind fun t529 => (some (t529 == 0)))) = some r := by rw [if_pos rfl] at H; exact H
    clear H
    have H := H1
    clear H1
    replace H := Option.bind_eq_some_iff.mp H
    obtain ⟨t526, A50, H⟩ := H
    replace H : ((fluxionref01_Cmp.f k t526 l0).bind fun t529 => (some (t529 == 0))) = some r := H
    have A5 := Aside0.mk A50
    clear A50
    replace H := Option.bind_eq_some_iff.mp H
    obtain ⟨t529, A60, H⟩ := H
    replace H : (some (t529 == 0)) = some r := H
    have A6 := Aside0.mk A60
    clear A60
    obtain rfl := Option.some.inj H
    go_enter Tryz.func20, Tryz.ntmps20
    go_wp2_with (first | ((with_reducible refine gate_callee (f := 53) rfl ?_); refine goesL_ (some 6) rfl rfl Tryz.func53 (by kernel_rfl) rfl #[.slice A1 l1.length c1] rfl (by (try simp only [List.map_toArray, List.map_cons, List.map_nil]); first | done | rfl | (simp only [List.length_drop, List.length_take]; rfl)) ?_; (with_reducible refine (fluxionref01_Canonical.calls _ _ l1 true _ ?side1 ?side2 A3.out).mono ?_); (case side1 => repeat (first | exact HR1.out | (with_reducible refine Kd.C_alloc ?_ _) | (with_reducible refine Kd.C_drewN ?_ _) | (with_reducible refine Kd.C_drew ?_))); (case side2 => exact HC1.out); rintro e w' ⟨rfl, ⟨nd, rfl⟩⟩; refine ⟨_, rfl, ?_⟩) | (go_at_call 19; (with_reducible refine (fluxionref01_Of.calls k _ _ l1 t526 _ ?side1 ?side2 A5.out).mono ?_); (case side1 => repeat (first | exact HR1.out | (with_reducible refine Kd.C_alloc ?_ _) | (with_reducible refine Kd.C_drewN ?_ _) | (with_reducible refine Kd.C_drew ?_))); (case side2 => exact HC1.out); rintro e w7 ⟨v527, rfl, ho0, hb⟩; have n0_ := Aside0.mk (Kd.R_lower ho0 (below_size (by repeat (first | (with_reducible first | exact HB.out | apply below_alloc | apply pw_below_drewN | apply below_drew1) | exact HB.out)))); have n1_ := Aside0.mk (below_step (by repeat (first | (with_reducible first | exact HB.out | apply below_alloc | apply pw_below_drewN | apply below_drew1) | exact HB.out)) hb); clear HB; have HO528 := n0_; have HB := n1_; clear n0_ n1_; (try clear hb); (try clear hb2); (try clear hk); (try clear hi); (try clear ho0); obtain ⟨Ao8, co8, eo8⟩ := Kd.R_slice HO528.out; subst eo8) | (go_at_call 22; (with_reducible refine (fluxionref01_Cmp.calls k _ _ t526 _ _ l0 t529 _ ?side1 ?side2 ?side3 ?side4 A6.out).mono ?_); (case side1 => repeat (first | exact (Kd.R_reads' HO528.out).2.2 | (with_reducible refine Kd.C_alloc ?_ _) | (with_reducible refine Kd.C_drewN ?_ _) | (with_reducible refine Kd.C_drew ?_))); (case side2 => exact (Kd.R_reads' HO528.out).2.1); (case side3 => repeat (first | exact (Kd.C_below HR0.out HB.out) | (with_reducible refine Kd.C_alloc ?_ _) | (with_reducible refine Kd.C_drewN ?_ _) | (with_reducible refine Kd.C_drew ?_))); (case side4 => exact HC0.out); rintro e w' ⟨rfl, ⟨nd, rfl⟩⟩))
    go_ret
    exact ⟨by first | rfl | (simp [errW_none, errW_some] <;> rfl) | (simp [*, errW_none, errW_some] <;> rfl), by repeat (first | (with_reducible first | exact HB.out | apply below_alloc | apply pw_below_drewN | apply below_drew1) | exact HB.out)⟩
  · replace c4 := Bool.eq_false_iff.mpr c4
    subst c4
    have H1 : (some false) = some r := by rw [if_neg (show ¬ (false = true) by decide)] at H; exact H
    clear H
    have H := H1
    clear H1
    obtain rfl := Option.some.inj H
    go_enter Tryz.func20, Tryz.ntmps20
    go_wp2_with (first | ((with_reducible refine gate_callee (f := 53) rfl ?_); refine goesL_ (some 6) rfl rfl Tryz.func53 (by kernel_rfl) rfl #[.slice A1 l1.length c1] rfl (by (try simp only [List.map_toArray, List.map_cons, List.map_nil]); first | done | rfl | (simp only [List.length_drop, List.length_take]; rfl)) ?_; (with_reducible refine (fluxionref01_Canonical.calls _ _ l1 false _ ?side1 ?side2 A3.out).mono ?_); (case side1 => repeat (first | exact HR1.out | (with_reducible refine Kd.C_alloc ?_ _) | (with_reducible refine Kd.C_drewN ?_ _) | (with_reducible refine Kd.C_drew ?_))); (case side2 => exact HC1.out); rintro e w' ⟨rfl, ⟨nd, rfl⟩⟩; refine ⟨_, rfl, ?_⟩))
    go_ret
    exact ⟨by first | rfl | (simp [errW_none, errW_some] <;> rfl) | (simp [*, errW_none, errW_some] <;> rfl), by repeat (first | (with_reducible first | exact HB.out | apply below_alloc | apply pw_below_drewN | apply below_drew1) | exact HB.out)⟩

def fluxionref03_Is.f (k : Nat) (a0_0 : Bool) (l0_1 : List Int) (l0_2 : List Int) (a1_0 : Bool) (l1_1 : List Int) (l1_2 : List Int) : Option (Bool) := if (a1_0 == a0_0) = true then ((fluxionref01_Is.f k l0_1 l1_1).bind fun t532 => (if t532 = true then ((fluxionref01_Is.f k l0_2 l1_2).bind fun t533 => (some t533)) else (some false))) else (some false)
set_option maxHeartbeats 8000000 in
set_option maxRecDepth 100000 in
theorem fluxionref03_Is.calls (k : Nat) (a0_0 : Bool) (A0_1 : Option Addr) (c0_1 : Nat) (l0_1 : List Int) (A0_2 : Option Addr) (c0_2 : Nat) (l0_2 : List Int) (a1_0 : Bool) (A1_1 : Option Addr) (c1_1 : Nat) (l1_1 : List Int) (A1_2 : Option Addr) (c1_2 : Nat) (l1_2 : List Int) (r : Bool) (w : World) (hr0_1 : Kd.C (Kd.int .i64) w A0_1 l0_1.length l0_1) (hc0_1 : l0_1.length ≤ c0_1) (hr0_2 : Kd.C (Kd.int .i64) w A0_2 l0_2.length l0_2) (hc0_2 : l0_2.length ≤ c0_2) (hr1_1 : Kd.C (Kd.int .u32) w A1_1 l1_1.length l1_1) (hc1_1 : l1_1.length ≤ c1_1) (hr1_2 : Kd.C (Kd.int .u32) w A1_2 l1_2.length l1_2) (hc1_2 : l1_2.length ≤ c1_2) (h : fluxionref03_Is.f k a0_0 l0_1 l0_2 a1_0 l1_1 l1_2 = some r) :
    Calls Tryz.prog 15 #[.agg #[.bool a0_0, .slice A0_1 l0_1.length c0_1, .slice A0_2 l0_2.length c0_2], .agg #[.bool a1_0, .slice A1_1 l1_1.length c1_1, .slice A1_2 l1_2.length c1_2]] w fun e w' => e = .returned (.bool r) ∧ Below w.heap.size w w' := by
  have hu32 := Tryz.underlying32
  have hu25 := Tryz.underlying25
  have HR0_1 := Aside0.mk hr0_1
  have HC0_1 := Aside0.mk hc0_1
  clear hr0_1 hc0_1
  have HR0_2 := Aside0.mk hr0_2
  have HC0_2 := Aside0.mk hc0_2
  clear hr0_2 hc0_2
  have HR1_1 := Aside0.mk hr1_1
  have HC1_1 := Aside0.mk hc1_1
  clear hr1_1 hc1_1
  have HR1_2 := Aside0.mk hr1_2
  have HC1_2 := Aside0.mk hc1_2
  clear hr1_2 hc1_2
  have HB := Aside0.mk (Below.refl w.heap.size w)
  have H : (if (a1_0 == a0_0) = true then ((fluxionref01_Is.f k l0_1 l1_1).bind fun t532 => (if t532 = true then ((fluxionref01_Is.f k l0_2 l1_2).bind fun t533 => (some t533)) else (some false))) else (some false)) = some r := h
  clear h
  by_cases c3 : (a1_0 == a0_0) = true
  · rw [if_pos c3] at H
    have c3b0 : (a1_0 == a0_0) = true := c3
    (try (have c3b1 : decide (a1_0 = a0_0) = true := by simpa using c3))
    (try (have c3b2 : (a1_0 == a0_0) = true := by simpa using c3))
    clear c3
    replace H := Option.bind_eq_some_iff.mp H
    obtain ⟨t532, A40, H⟩ := H
    replace H : (if t532 = true then ((fluxionref01_Is.f k l0_2 l1_2).bind fun t533 => (some t533)) else (some false)) = some r := H
    have A4 := Aside0.mk A40
    clear A40
    by_cases c5 : t532 = true
    · subst c5
      have H1 : ((fluxionref01_Is.f k l0_2 l1_2).bind fun t533 => (some t533)) = some r := by rw [if_pos rfl] at H; exact H
      clear H
      have H := H1
      clear H1
      replace H := Option.bind_eq_some_iff.mp H
      obtain ⟨t533, A60, H⟩ := H
      replace H : (some t533) = some r := H
      have A6 := Aside0.mk A60
      clear A60
      obtain rfl := Option.some.inj H
      go_enter Tryz.func15, Tryz.ntmps15
      go_wp2_with (first | ((with_reducible refine gate_dst (N := 2) rfl ?_); refine box_event ?hg (N := 2) ?hd (cs := #[.bool a0_0, .slice A0_1 l0_1.length c0_1, .slice A0_2 l0_2.length c0_2]) (t := 32) ?hr ?_; (case hd => rfl); (case hg => rfl); (case hr => first | (go_simp; done) | (go_simp; rfl)); intro gb530 hg w7 hbox hb; have n0_ := Aside0.mk (below_step (by repeat (first | (with_reducible first | exact HB.out | apply below_alloc | apply pw_below_drewN | apply below_drew1) | exact HB.out)) hb); have n1_ := Aside0.mk (hbox); have n2_ := Aside0.mk ((by rw [hg]; exact (below_size (by repeat (first | (with_reducible first | exact HB.out | apply below_alloc | apply pw_below_drewN | apply below_drew1) | exact HB.out))) : w.heap.size ≤ gb530)); have n3_ := Aside0.mk ((by rw [hg]; exact (below_size (by repeat (first | (with_reducible first | exact HB.out | apply below_alloc | apply pw_below_drewN | apply below_drew1) | exact HB.out))) : w.heap.size ≤ gb530)); clear HB; have HB := n0_; have BK530 := n1_; have GW530 := n2_; have GE530 := n3_; clear n0_ n1_ n2_ n3_; clear hb hbox hg) | ((with_reducible refine gate_dst (N := 3) rfl ?_); refine box_event ?hg (N := 3) ?hd (cs := #[.bool a1_0, .slice A1_1 l1_1.length c1_1, .slice A1_2 l1_2.length c1_2]) (t := 25) ?hr ?_; (case hd => rfl); (case hg => rfl); (case hr => first | (go_simp; done) | (go_simp; rfl)); intro gb531 hg w8 hbox hb; have n0_ := Aside0.mk (blk_below (g := gb530) (o := .cells #[.bool a0_0, .slice A0_1 l0_1.length c0_1, .slice A0_2 l0_2.length c0_2] 32 (0, 0)) (by exact BK530.out) hb); have n1_ := Aside0.mk (below_step (by repeat (first | (with_reducible first | exact HB.out | apply below_alloc | apply pw_below_drewN | apply below_drew1 | refine below_set ?_ GE530.out) | exact HB.out)) hb); have n2_ := Aside0.mk (hbox); have n3_ := Aside0.mk ((by rw [hg]; exact (below_size (by repeat (first | (with_reducible first | exact HB.out | apply below_alloc | apply pw_below_drewN | apply below_drew1 | refine below_set ?_ GE530.out) | exact HB.out))) : w.heap.size ≤ gb531)); have n4_ := Aside0.mk ((by rw [hg]; exact (below_size (by repeat (first | (with_reducible first | exact HB.out | apply below_alloc | apply pw_below_drewN | apply below_drew1 | refine below_set ?_ GE530.out) | exact HB.out))) : w.heap.size ≤ gb531)); have n5_ := Aside0.mk ((by rw [hg]; exact Nat.ne_of_lt (blk_lt (g := gb530) (o := .cells #[.bool a0_0, .slice A0_1 l0_1.length c0_1, .slice A0_2 l0_2.length c0_2] 32 (0, 0)) (by exact BK530.out)) : gb530 ≠ gb531)); have n6_ := Aside0.mk ((by rw [hg]; exact Nat.ne_of_gt (blk_lt (g := gb530) (o := .cells #[.bool a0_0, .slice A0_1 l0_1.length c0_1, .slice A0_2 l0_2.length c0_2] 32 (0, 0)) (by exact BK530.out)) : gb531 ≠ gb530)); clear BK530; clear HB; have BK530 := n0_; have HB := n1_; have BK531 := n2_; have GW531 := n3_; have GE531 := n4_; have NB530_531 := n5_; have NB531_530 := n6_; clear n0_ n1_ n2_ n3_ n4_ n5_ n6_; clear hb hbox hg; have hnb9 := NB531_530.out; have hnc9 := NB530_531.out; have hcz10_0 : w8.cell? ⟨gb531, 0, none⟩ = some (.bool a1_0) := (blk_cell BK531.out 0).trans rfl; have hcz10_1 : w8.cell? ⟨gb531, 1, none⟩ = some (.slice A1_1 l1_1.length c1_1) := (blk_cell BK531.out 1).trans rfl; have hcz10_2 : w8.cell? ⟨gb531, 2, none⟩ = some (.slice A1_2 l1_2.length c1_2) := (blk_cell BK531.out 2).trans rfl; have hfz10_0 := blk_frozen BK531.out 0; have hfz10_1 := blk_frozen BK531.out 1; have hfz10_2 := blk_frozen BK531.out 2; have hcz11_0 : w8.cell? ⟨gb530, 0, none⟩ = some (.bool a0_0) := (blk_cell BK530.out 0).trans rfl; have hcz11_1 : w8.cell? ⟨gb530, 1, none⟩ = some (.slice A0_1 l0_1.length c0_1) := (blk_cell BK530.out 1).trans rfl; have hcz11_2 : w8.cell? ⟨gb530, 2, none⟩ = some (.slice A0_2 l0_2.length c0_2) := (blk_cell BK530.out 2).trans rfl; have hfz11_0 := blk_frozen BK530.out 0; have hfz11_1 := blk_frozen BK530.out 1; have hfz11_2 := blk_frozen BK530.out 2) | (go_at_call 20; (with_reducible refine (fluxionref01_Is.calls k _ _ l0_1 _ _ l1_1 true _ ?side1 ?side2 ?side3 ?side4 A4.out).mono ?_); (case side1 => repeat (first | exact (Kd.C_below HR0_1.out HB.out) | (with_reducible refine Kd.C_alloc ?_ _) | (with_reducible refine Kd.C_drewN ?_ _) | (with_reducible refine Kd.C_drew ?_))); (case side2 => exact HC0_1.out); (case side3 => repeat (first | exact (Kd.C_below HR1_1.out HB.out) | (with_reducible refine Kd.C_alloc ?_ _) | (with_reducible refine Kd.C_drewN ?_ _) | (with_reducible refine Kd.C_drew ?_))); (case side4 => exact HC1_1.out); rintro e w12 ⟨rfl, hb⟩; have n0_ := Aside0.mk (blk_below (g := gb530) (o := .cells #[.bool a0_0, .slice A0_1 l0_1.length c0_1, .slice A0_2 l0_2.length c0_2] 32 (0, 0)) (by exact BK530.out) hb); have n1_ := Aside0.mk (blk_below (g := gb531) (o := .cells #[.bool a1_0, .slice A1_1 l1_1.length c1_1, .slice A1_2 l1_2.length c1_2] 25 (0, 0)) (by exact BK531.out) hb); have n2_ := Aside0.mk (below_step (by repeat (first | (with_reducible first | exact HB.out | apply below_alloc | apply pw_below_drewN | apply below_drew1 | refine below_set ?_ GE530.out | refine below_set ?_ GE531.out) | exact HB.out)) hb); clear BK530; clear BK531; clear HB; have BK530 := n0_; have BK531 := n1_; have HB := n2_; clear n0_ n1_ n2_; (try clear hb); (try clear hb2); (try clear hk); (try clear hi); have hcz13_0 : w12.cell? ⟨gb530, 0, none⟩ = some (.bool a0_0) := (blk_cell BK530.out 0).trans rfl; have hcz13_1 : w12.cell? ⟨gb530, 1, none⟩ = some (.slice A0_1 l0_1.length c0_1) := (blk_cell BK530.out 1).trans rfl; have hcz13_2 : w12.cell? ⟨gb530, 2, none⟩ = some (.slice A0_2 l0_2.length c0_2) := (blk_cell BK530.out 2).trans rfl; have hfz13_0 := blk_frozen BK530.out 0; have hfz13_1 := blk_frozen BK530.out 1; have hfz13_2 := blk_frozen BK530.out 2; have hcz14_0 : w12.cell? ⟨gb531, 0, none⟩ = some (.bool a1_0) := (blk_cell BK531.out 0).trans rfl; have hcz14_1 : w12.cell? ⟨gb531, 1, none⟩ = some (.slice A1_1 l1_1.length c1_1) := (blk_cell BK531.out 1).trans rfl; have hcz14_2 : w12.cell? ⟨gb531, 2, none⟩ = some (.slice A1_2 l1_2.length c1_2) := (blk_cell BK531.out 2).trans rfl; have hfz14_0 := blk_frozen BK531.out 0; have hfz14_1 := blk_frozen BK531.out 1; have hfz14_2 := blk_frozen BK531.out 2) | (go_at_call 20; (with_reducible refine (fluxionref01_Is.calls k _ _ l0_2 _ _ l1_2 t533 _ ?side1 ?side2 ?side3 ?side4 A6.out).mono ?_); (case side1 => repeat (first | exact (Kd.C_below HR0_2.out HB.out) | (with_reducible refine Kd.C_alloc ?_ _) | (with_reducible refine Kd.C_drewN ?_ _) | (with_reducible refine Kd.C_drew ?_))); (case side2 => exact HC0_2.out); (case side3 => repeat (first | exact (Kd.C_below HR1_2.out HB.out) | (with_reducible refine Kd.C_alloc ?_ _) | (with_reducible refine Kd.C_drewN ?_ _) | (with_reducible refine Kd.C_drew ?_))); (case side4 => exact HC1_2.out); rintro e w15 ⟨rfl, hb⟩; have n0_ := Aside0.mk (blk_below (g := gb530) (o := .cells #[.bool a0_0, .slice A0_1 l0_1.length c0_1, .slice A0_2 l0_2.length c0_2] 32 (0, 0)) (by exact BK530.out) hb); have n1_ := Aside0.mk (blk_below (g := gb531) (o := .cells #[.bool a1_0, .slice A1_1 l1_1.length c1_1, .slice A1_2 l1_2.length c1_2] 25 (0, 0)) (by exact BK531.out) hb); have n2_ := Aside0.mk (below_step (by repeat (first | (with_reducible first | exact HB.out | apply below_alloc | apply pw_below_drewN | apply below_drew1 | refine below_set ?_ GE530.out | refine below_set ?_ GE531.out) | exact HB.out)) hb); clear BK530; clear BK531; clear HB; have BK530 := n0_; have BK531 := n1_; have HB := n2_; clear n0_ n1_ n2_; (try clear hb); (try clear hb2); (try clear hk); (try clear hi)))
      go_ret
      exact ⟨by first | rfl | (simp [errW_none, errW_some] <;> rfl) | (simp [*, errW_none, errW_some] <;> rfl), by repeat (first | (with_reducible first | exact HB.out | apply below_alloc | apply pw_below_drewN | apply below_drew1 | refine below_set ?_ GE530.out | refine below_set ?_ GE531.out) | exact HB.out)⟩
    · replace c5 := Bool.eq_false_iff.mpr c5
      subst c5
      have H1 : (some false) = some r := by rw [if_neg (show ¬ (false = true) by decide)] at H; exact H
      clear H
      have H := H1
      clear H1
      obtain rfl := Option.some.inj H
      go_enter Tryz.func15, Tryz.ntmps15
      go_wp2_with (first | ((with_reducible refine gate_dst (N := 2) rfl ?_); refine box_event ?hg (N := 2) ?hd (cs := #[.bool a0_0, .slice A0_1 l0_1.length c0_1, .slice A0_2 l0_2.length c0_2]) (t := 32) ?hr ?_; (case hd => rfl); (case hg => rfl); (case hr => first | (go_simp; done) | (go_simp; rfl)); intro gb530 hg w16 hbox hb; have n0_ := Aside0.mk (below_step (by repeat (first | (with_reducible first | exact HB.out | apply below_alloc | apply pw_below_drewN | apply below_drew1) | exact HB.out)) hb); have n1_ := Aside0.mk (hbox); have n2_ := Aside0.mk ((by rw [hg]; exact (below_size (by repeat (first | (with_reducible first | exact HB.out | apply below_alloc | apply pw_below_drewN | apply below_drew1) | exact HB.out))) : w.heap.size ≤ gb530)); have n3_ := Aside0.mk ((by rw [hg]; exact (below_size (by repeat (first | (with_reducible first | exact HB.out | apply below_alloc | apply pw_below_drewN | apply below_drew1) | exact HB.out))) : w.heap.size ≤ gb530)); clear HB; have HB := n0_; have BK530 := n1_; have GW530 := n2_; have GE530 := n3_; clear n0_ n1_ n2_ n3_; clear hb hbox hg) | ((with_reducible refine gate_dst (N := 3) rfl ?_); refine box_event ?hg (N := 3) ?hd (cs := #[.bool a1_0, .slice A1_1 l1_1.length c1_1, .slice A1_2 l1_2.length c1_2]) (t := 25) ?hr ?_; (case hd => rfl); (case hg => rfl); (case hr => first | (go_simp; done) | (go_simp; rfl)); intro gb531 hg w17 hbox hb; have n0_ := Aside0.mk (blk_below (g := gb530) (o := .cells #[.bool a0_0, .slice A0_1 l0_1.length c0_1, .slice A0_2 l0_2.length c0_2] 32 (0, 0)) (by exact BK530.out) hb); have n1_ := Aside0.mk (below_step (by repeat (first | (with_reducible first | exact HB.out | apply below_alloc | apply pw_below_drewN | apply below_drew1 | refine below_set ?_ GE530.out) | exact HB.out)) hb); have n2_ := Aside0.mk (hbox); have n3_ := Aside0.mk ((by rw [hg]; exact (below_size (by repeat (first | (with_reducible first | exact HB.out | apply below_alloc | apply pw_below_drewN | apply below_drew1 | refine below_set ?_ GE530.out) | exact HB.out))) : w.heap.size ≤ gb531)); have n4_ := Aside0.mk ((by rw [hg]; exact (below_size (by repeat (first | (with_reducible first | exact HB.out | apply below_alloc | apply pw_below_drewN | apply below_drew1 | refine below_set ?_ GE530.out) | exact HB.out))) : w.heap.size ≤ gb531)); have n5_ := Aside0.mk ((by rw [hg]; exact Nat.ne_of_lt (blk_lt (g := gb530) (o := .cells #[.bool a0_0, .slice A0_1 l0_1.length c0_1, .slice A0_2 l0_2.length c0_2] 32 (0, 0)) (by exact BK530.out)) : gb530 ≠ gb531)); have n6_ := Aside0.mk ((by rw [hg]; exact Nat.ne_of_gt (blk_lt (g := gb530) (o := .cells #[.bool a0_0, .slice A0_1 l0_1.length c0_1, .slice A0_2 l0_2.length c0_2] 32 (0, 0)) (by exact BK530.out)) : gb531 ≠ gb530)); clear BK530; clear HB; have BK530 := n0_; have HB := n1_; have BK531 := n2_; have GW531 := n3_; have GE531 := n4_; have NB530_531 := n5_; have NB531_530 := n6_; clear n0_ n1_ n2_ n3_ n4_ n5_ n6_; clear hb hbox hg; have hnb18 := NB531_530.out; have hnc18 := NB530_531.out; have hcz19_0 : w17.cell? ⟨gb531, 0, none⟩ = some (.bool a1_0) := (blk_cell BK531.out 0).trans rfl; have hcz19_1 : w17.cell? ⟨gb531, 1, none⟩ = some (.slice A1_1 l1_1.length c1_1) := (blk_cell BK531.out 1).trans rfl; have hcz19_2 : w17.cell? ⟨gb531, 2, none⟩ = some (.slice A1_2 l1_2.length c1_2) := (blk_cell BK531.out 2).trans rfl; have hfz19_0 := blk_frozen BK531.out 0; have hfz19_1 := blk_frozen BK531.out 1; have hfz19_2 := blk_frozen BK531.out 2; have hcz20_0 : w17.cell? ⟨gb530, 0, none⟩ = some (.bool a0_0) := (blk_cell BK530.out 0).trans rfl; have hcz20_1 : w17.cell? ⟨gb530, 1, none⟩ = some (.slice A0_1 l0_1.length c0_1) := (blk_cell BK530.out 1).trans rfl; have hcz20_2 : w17.cell? ⟨gb530, 2, none⟩ = some (.slice A0_2 l0_2.length c0_2) := (blk_cell BK530.out 2).trans rfl; have hfz20_0 := blk_frozen BK530.out 0; have hfz20_1 := blk_frozen BK530.out 1; have hfz20_2 := blk_frozen BK530.out 2) | (go_at_call 20; (with_reducible refine (fluxionref01_Is.calls k _ _ l0_1 _ _ l1_1 false _ ?side1 ?side2 ?side3 ?side4 A4.out).mono ?_); (case side1 => repeat (first | exact (Kd.C_below HR0_1.out HB.out) | (with_reducible refine Kd.C_alloc ?_ _) | (with_reducible refine Kd.C_drewN ?_ _) | (with_reducible refine Kd.C_drew ?_))); (case side2 => exact HC0_1.out); (case side3 => repeat (first | exact (Kd.C_below HR1_1.out HB.out) | (with_reducible refine Kd.C_alloc ?_ _) | (with_reducible refine Kd.C_drewN ?_ _) | (with_reducible refine Kd.C_drew ?_))); (case side4 => exact HC1_1.out); rintro e w21 ⟨rfl, hb⟩; have n0_ := Aside0.mk (blk_below (g := gb530) (o := .cells #[.bool a0_0, .slice A0_1 l0_1.length c0_1, .slice A0_2 l0_2.length c0_2] 32 (0, 0)) (by exact BK530.out) hb); have n1_ := Aside0.mk (blk_below (g := gb531) (o := .cells #[.bool a1_0, .slice A1_1 l1_1.length c1_1, .slice A1_2 l1_2.length c1_2] 25 (0, 0)) (by exact BK531.out) hb); have n2_ := Aside0.mk (below_step (by repeat (first | (with_reducible first | exact HB.out | apply below_alloc | apply pw_below_drewN | apply below_drew1 | refine below_set ?_ GE530.out | refine below_set ?_ GE531.out) | exact HB.out)) hb); clear BK530; clear BK531; clear HB; have BK530 := n0_; have BK531 := n1_; have HB := n2_; clear n0_ n1_ n2_; (try clear hb); (try clear hb2); (try clear hk); (try clear hi)))
      go_ret
      exact ⟨by first | rfl | (simp [errW_none, errW_some] <;> rfl) | (simp [*, errW_none, errW_some] <;> rfl), by repeat (first | (with_reducible first | exact HB.out | apply below_alloc | apply pw_below_drewN | apply below_drew1 | refine below_set ?_ GE530.out | refine below_set ?_ GE531.out) | exact HB.out)⟩
  · rw [if_neg c3] at H
    have c3b0 : (a1_0 == a0_0) = false := by simpa using c3
    (try (have c3b1 : decide (a1_0 = a0_0) = false := by simpa using c3))
    (try (have c3b2 : (a1_0 == a0_0) = false := by simpa using c3))
    (try (have c3b3 : ¬ (a1_0 = a0_0) := by simpa using c3))
    clear c3
    obtain rfl := Option.some.inj H
    go_enter Tryz.func15, Tryz.ntmps15
    go_wp2_with (first | ((with_reducible refine gate_dst (N := 2) rfl ?_); refine box_event ?hg (N := 2) ?hd (cs := #[.bool a0_0, .slice A0_1 l0_1.length c0_1, .slice A0_2 l0_2.length c0_2]) (t := 32) ?hr ?_; (case hd => rfl); (case hg => rfl); (case hr => first | (go_simp; done) | (go_simp; rfl)); intro gb530 hg w22 hbox hb; have n0_ := Aside0.mk (below_step (by repeat (first | (with_reducible first | exact HB.out | apply below_alloc | apply pw_below_drewN | apply below_drew1) | exact HB.out)) hb); have n1_ := Aside0.mk (hbox); have n2_ := Aside0.mk ((by rw [hg]; exact (below_size (by repeat (first | (with_reducible first | exact HB.out | apply below_alloc | apply pw_below_drewN | apply below_drew1) | exact HB.out))) : w.heap.size ≤ gb530)); have n3_ := Aside0.mk ((by rw [hg]; exact (below_size (by repeat (first | (with_reducible first | exact HB.out | apply below_alloc | apply pw_below_drewN | apply below_drew1) | exact HB.out))) : w.heap.size ≤ gb530)); clear HB; have HB := n0_; have BK530 := n1_; have GW530 := n2_; have GE530 := n3_; clear n0_ n1_ n2_ n3_; clear hb hbox hg) | ((with_reducible refine gate_dst (N := 3) rfl ?_); refine box_event ?hg (N := 3) ?hd (cs := #[.bool a1_0, .slice A1_1 l1_1.length c1_1, .slice A1_2 l1_2.length c1_2]) (t := 25) ?hr ?_; (case hd => rfl); (case hg => rfl); (case hr => first | (go_simp; done) | (go_simp; rfl)); intro gb531 hg w23 hbox hb; have n0_ := Aside0.mk (blk_below (g := gb530) (o := .cells #[.bool a0_0, .slice A0_1 l0_1.length c0_1, .slice A0_2 l0_2.length c0_2] 32 (0, 0)) (by exact BK530.out) hb); have n1_ := Aside0.mk (below_step (by repeat (first | (with_reducible first | exact HB.out | apply below_alloc | apply pw_below_drewN | apply below_drew1 | refine below_set ?_ GE530.out) | exact HB.out)) hb); have n2_ := Aside0.mk (hbox); have n3_ := Aside0.mk ((by rw [hg]; exact (below_size (by repeat (first | (with_reducible first | exact HB.out | apply below_alloc | apply pw_below_drewN | apply below_drew1 | refine below_set ?_ GE530.out) | exact HB.out))) : w.heap.size ≤ gb531)); have n4_ := Aside0.mk ((by rw [hg]; exact (below_size (by repeat (first | (with_reducible first | exact HB.out | apply below_alloc | apply pw_below_drewN | apply below_drew1 | refine below_set ?_ GE530.out) | exact HB.out))) : w.heap.size ≤ gb531)); have n5_ := Aside0.mk ((by rw [hg]; exact Nat.ne_of_lt (blk_lt (g := gb530) (o := .cells #[.bool a0_0, .slice A0_1 l0_1.length c0_1, .slice A0_2 l0_2.length c0_2] 32 (0, 0)) (by exact BK530.out)) : gb530 ≠ gb531)); have n6_ := Aside0.mk ((by rw [hg]; exact Nat.ne_of_gt (blk_lt (g := gb530) (o := .cells #[.bool a0_0, .slice A0_1 l0_1.length c0_1, .slice A0_2 l0_2.length c0_2] 32 (0, 0)) (by exact BK530.out)) : gb531 ≠ gb530)); clear BK530; clear HB; have BK530 := n0_; have HB := n1_; have BK531 := n2_; have GW531 := n3_; have GE531 := n4_; have NB530_531 := n5_; have NB531_530 := n6_; clear n0_ n1_ n2_ n3_ n4_ n5_ n6_; clear hb hbox hg; have hnb24 := NB531_530.out; have hnc24 := NB530_531.out; have hcz25_0 : w23.cell? ⟨gb531, 0, none⟩ = some (.bool a1_0) := (blk_cell BK531.out 0).trans rfl; have hcz25_1 : w23.cell? ⟨gb531, 1, none⟩ = some (.slice A1_1 l1_1.length c1_1) := (blk_cell BK531.out 1).trans rfl; have hcz25_2 : w23.cell? ⟨gb531, 2, none⟩ = some (.slice A1_2 l1_2.length c1_2) := (blk_cell BK531.out 2).trans rfl; have hfz25_0 := blk_frozen BK531.out 0; have hfz25_1 := blk_frozen BK531.out 1; have hfz25_2 := blk_frozen BK531.out 2; have hcz26_0 : w23.cell? ⟨gb530, 0, none⟩ = some (.bool a0_0) := (blk_cell BK530.out 0).trans rfl; have hcz26_1 : w23.cell? ⟨gb530, 1, none⟩ = some (.slice A0_1 l0_1.length c0_1) := (blk_cell BK530.out 1).trans rfl; have hcz26_2 : w23.cell? ⟨gb530, 2, none⟩ = some (.slice A0_2 l0_2.length c0_2) := (blk_cell BK530.out 2).trans rfl; have hfz26_0 := blk_frozen BK530.out 0; have hfz26_1 := blk_frozen BK530.out 1; have hfz26_2 := blk_frozen BK530.out 2))
    go_ret
    exact ⟨by first | rfl | (simp [errW_none, errW_some] <;> rfl) | (simp [*, errW_none, errW_some] <;> rfl), by repeat (first | (with_reducible first | exact HB.out | apply below_alloc | apply pw_below_drewN | apply below_drew1 | refine below_set ?_ GE530.out | refine below_set ?_ GE531.out) | exact HB.out)⟩

end Go.Proofs.YtpncflaoikeidaaGreatDoor.P
namespace Go.Proofs.YtpncflaoikeidaaGreatDoor.H
open Go.RowKit Go.Lib Go.Proofs.YtpncflaoikeidaaGreatDoorW.PrintWords Go.Proofs.YtpncflaoikeidaaGreatDoorW.PrintLast Go.Proofs.YtpncflaoikeidaaGreatDoorW.PrintMore Go.Proofs.YtpncflaoikeidaaGreatDoor.P
theorem half_w {T : Nat} (h : T < 100000) : wrap64 (Int.tdiv (T : Int) 2) = ((T / 2 : Nat) : Int) := by
  rw [Int.tdiv_eq_ediv_of_nonneg (by omega)]
  have e : (T : Int) / 2 = ((T / 2 : Nat) : Int) := by omega
  rw [e]; exact wrap_small (by omega) (by omega)
theorem half_m (T : Nat) : Int.tmod (T : Int) 2 = ((T % 2 : Nat) : Int) := by rw [Int.tmod_eq_emod_of_nonneg (by omega)]; omega
theorem short2_l0 (a n : Nat) (hn : n = (c4 a).length) (ha : n < 300000) (K : Nat) (hK : 300000 ≤ K) : ∀ (i k : Nat) (q : List Int), i ≤ n → Dm a 2 i n q → K + i < k →
    fluxionref01_Short.l0 k (c4 a) 2 q ((a / 10000 ^ i % 2 : Nat) : Int) ((i : Int) - 1) = some (c4 (a / 2), ((a % 2 : Nat) : Int))
  | _, 0, _, _, _, hk => by omega
  | 0, k + 1, q, _, h, hk => by
    have h1 := h.eq
    have hl := h.len
    rw [Nat.pow_zero, Nat.one_mul, Nat.div_one] at h1
    rw [fluxionref01_Short.l0, if_neg (by omega), trim1_f h.ok (by omega) (by omega), Option.bind_some, h1, Nat.pow_zero, Nat.div_one]
  | i + 1, k + 1, q, hi, h, hk => by
    have ra := rd_c4 a i
    obtain ⟨A, hA⟩ : ∃ A, a / 10000 ^ (i + 1) = A := ⟨_, rfl⟩
    obtain ⟨x, hx⟩ : ∃ x, a / 10000 ^ i % 10000 = x := ⟨_, rfl⟩
    have hxl : x < 10000 := by rw [← hx]; exact Nat.mod_lt _ (by decide)
    have hA' : a / 10000 ^ i = 10000 * A + x := by rw [← hA, ← hx, div_pow_succ]; exact (Nat.div_add_mod _ _).symm
    rw [hx] at ra
    obtain ⟨s1, s2, s3⟩ := div_step (A := A) (b := 2) (by decide) hxl
    obtain ⟨R, hR⟩ : ∃ R, A % 2 = R := ⟨_, rfl⟩
    have hRb : R < 2 := by rw [← hR]; exact Nat.mod_lt _ (by decide)
    rw [hR] at s1 s2 s3
    have hd : (x + 10000 * R) / 2 < 10000 := Nat.div_lt_of_lt_mul s3
    have NX := h.next (by omega) hd hA hA' s1
    have hql := h.len
    have HA' := Aside0.mk hA'
    clear h hA' hx s1 s3
    have EW : Aside0 (wrap64 ((i : Int) - 1) = (i : Int) - 1) := ⟨by clear ra s2 NX hA; unfold wrap64; omega⟩
    have E1 : Aside0 (wrap64 (wrap64 (((R : Nat) : Int) * 10000) + ((x : Nat) : Int)) = ((x + 10000 * R : Nat) : Int)) := ⟨by clear ra s2 NX hA hR hd; rw [wrap_small (x := (R : Int) * 10000) (by omega) (by omega), wrap_small (by omega) (by omega)]; omega⟩
    have E2 : Aside0 (wrap64 (Int.tdiv (((x + 10000 * R : Nat)) : Int) 2) = (((x + 10000 * R) / 2 : Nat) : Int)) := ⟨half_w (by clear ra s2 NX hA hR hd; omega)⟩
    have E3 : Aside0 (Int.tmod (((x + 10000 * R : Nat)) : Int) 2 = (((x + 10000 * R) % 2 : Nat) : Int)) := ⟨half_m _⟩
    have e0 : (((i + 1 : Nat) : Int) - 1) = (i : Int) := by omega
    have b1 : (i : Int) < ((c4 a).length : Int) := by omega
    have b2 : (i : Int) < (q.length : Int) := by omega
    rw [fluxionref01_Short.l0, e0, hA, hR, if_pos (Int.natCast_nonneg _), if_pos (Int.natCast_nonneg _), if_pos b1, if_neg (by decide), if_pos b2, ra, E1.out, E2.out, E3.out, EW.out, Int.toNat_natCast, ← s2, ← HA'.out]
    exact short2_l0 a n hn ha K hK i k _ (by omega) NX (by omega)
theorem short2_f (a k : Nat) (ha : (c4 a).length < 300000) (hk : 700000 ≤ k) : fluxionref01_Short.f k (c4 a) 2 = some (c4 (a / 2), ((a % 2 : Nat) : Int)) := by
  obtain ⟨n, hn⟩ : ∃ n, (c4 a).length = n := ⟨_, rfl⟩
  have ht : a / 10000 ^ n = 0 := by rw [← hn]; exact c4_top a
  have D : Dm a 2 n n (List.replicate n 0) := ⟨ok4_zeros n, List.length_replicate, by rw [v4_zeros, ht, Nat.zero_div, Nat.mul_zero], fun j _ => zeros_get n j⟩
  have h := short2_l0 a n hn.symm (by omega) 300000 (Nat.le_refl _) n k _ (Nat.le_refl _) D (by omega)
  rw [ht] at h
  have EW : Aside0 (wrap64 ((n : Int) - 1) = (n : Int) - 1) := ⟨by clear h D ht; unfold wrap64; omega⟩
  unfold fluxionref01_Short.f
  rw [hn, if_pos (Int.natCast_nonneg _), Int.toNat_natCast, if_pos (by omega), EW.out]
  exact h
theorem nbits_half {n : Nat} (h : n ≠ 0) : nbits n = nbits (n / 2) + 1 := by
  obtain ⟨K, hK⟩ : ∃ K, nbits (n / 2) = K := ⟨_, rfl⟩
  rw [hK]
  have h1 : n / 2 < 2 ^ K := Nat.lt_of_not_le fun hc => by have := (nbits_gt (n / 2) K).2 hc; omega
  rcases Nat.eq_zero_or_pos K with h0 | h0
  · subst h0
    refine nbits_of h ?_ ?_
    · rw [Nat.pow_zero]; omega
    · rw [Nat.pow_zero] at h1; rw [Nat.zero_add, Nat.pow_one]; omega
  · obtain ⟨J, rfl⟩ : ∃ J, K = J + 1 := ⟨K - 1, by omega⟩
    have h2 := (nbits_gt (n / 2) J).1 (by omega)
    refine nbits_of h ?_ ?_
    · rw [Nat.pow_succ]; omega
    · rw [Nat.pow_succ]; omega
theorem bits_l0 (K : Nat) (hK : 700000 ≤ K) : ∀ (B n b k : Nat), n < 2 ^ B → B < 100000 → (c4 n).length < 300000 → b + B < 1000000 → K + B < k → fluxionref01_Bits.l0 k (c4 n) (b : Int) = some ((b + nbits n : Nat) : Int)
  | _, _, _, 0, _, _, _, _, h => by omega
  | B, n, b, k + 1, hn, hB, hl, hb, hk => by
    rw [fluxionref01_Bits.l0]
    by_cases h0 : n = 0
    · subst h0; rw [c4_zero, if_neg (by decide), (nbits_zero 0).2 rfl]; rfl
    · have hp := mt (c4_len0 n).1 h0
      cases B with
      | zero => rw [Nat.pow_zero] at hn; omega
      | succ B =>
        have hh : n / 2 < 2 ^ B := by rw [Nat.pow_succ] at hn; omega
        have hlen := c4_le_len (Nat.div_le_self n 2)
        rw [nbits_half h0]
        obtain ⟨m, hm⟩ : ∃ m, n / 2 = m := ⟨_, rfl⟩
        have hsf := short2_f n k hl (by clear hn hh; omega)
        rw [hm] at hh hlen hsf ⊢
        have EW : Aside0 (wrap64 ((b : Int) + 1) = ((b + 1 : Nat) : Int)) := ⟨by clear hn hh hsf; unfold wrap64; omega⟩
        rw [if_pos (by clear hn hh hsf; omega), hsf, Option.bind_some, EW.out]
        simp only
        rw [bits_l0 K hK B m (b + 1) k hh (by clear hn hh hsf; omega) (by clear hn hh hsf; omega) (by clear hn hh hsf; omega) (by clear hn hh hsf; omega), Nat.add_assoc, Nat.add_comm 1]
theorem refBits_f (n B k : Nat) (hn : n < 2 ^ B) (hB : B < 100000) (hl : (c4 n).length < 300000) (hk : 900000 ≤ k) : fluxionref01_Bits.f k (c4 n) = some ((nbits n : Nat) : Int) := by
  unfold fluxionref01_Bits.f
  have := bits_l0 700000 (Nat.le_refl _) B n 0 k hn hB hl (by omega) (by omega)
  rw [Nat.zero_add] at this
  exact this
theorem byte_w {x : Nat} (h0 : 48 ≤ x) (h1 : x ≤ 57) : wrap64 (wrap64 ((x : Nat) : Int) - 48) = ((x - 48 : Nat) : Int) := by
  rw [wrap_small (x := (x : Int)) (by omega) (by omega), wrap_small (x := (x : Int) - 48) (by omega) (by omega)]; omega
theorem number_l0 (s : ByteArray) (l : List UInt8) (hl : s.data.toList = l) (hz : l.length ≤ 400) (hd : l.all digB = true) (K : Nat) (hK : 5000000000 ≤ K) : ∀ (j i k v : Nat), i + j = l.length → v < 10 ^ i → K + j < k →
    fluxionref04_number.l0 k s (c4 v) (i : Int) = some (c4 (dvF (l.drop i) v))
  | _, _, 0, _, _, _, h => by omega
  | 0, i, k + 1, v, hi, _, _ => by
    have hs := size_len s
    rw [hl] at hs
    rw [fluxionref04_number.l0, if_neg (by omega), List.drop_of_length_le (by omega), dvF_nil]
  | j + 1, i, k + 1, v, hi, hv, hk => by
    have hs := size_len s
    rw [hl] at hs
    have hb : bt s (i : Int) = ((l[i]'(by omega)).toNat : Int) := by
      rw [bytes_of s, hl]; exact bt_list (by omega)
    have hdr : l.drop i = l[i]'(by omega) :: l.drop (i + 1) := List.drop_eq_getElem_cons (by omega)
    have hdi : digB (l[i]'(by omega)) = true := List.all_eq_true.1 hd _ (List.getElem_mem _)
    obtain ⟨c, hc⟩ : ∃ c, l[i]'(by omega) = c := ⟨_, rfl⟩
    rw [hc] at hb hdr hdi
    have hdg := (digB_iff c).1 hdi
    have hde := dgv_eq c
    have hv2 : 10 * v + dgv c < 10 ^ (i + 1) := by rw [Nat.pow_succ]; omega
    have e10 : (10 : Nat) ^ (i + 1) ≤ 10000 ^ (i + 1) := Nat.pow_le_pow_left (by decide) _
    have L1 := c4_length_le (i + 1) (10 * v + dgv c) (Nat.lt_of_lt_of_le hv2 e10)
    have L2 := c4_le_len (show v * 10 ≤ 10 * v + dgv c by omega)
    have L3 := c4_le_len (show v ≤ v * 10 by omega)
    have w1 : wrap64 ((i : Int) + 1) = ((i + 1 : Nat) : Int) := by clear hv hv2 e10; unfold wrap64; omega
    have w2 : wrap64 (wrap64 ((c.toNat : Nat) : Int) - 48) = ((dgv c : Nat) : Int) := by
      rw [hde]; exact byte_w hdg.1 hdg.2
    have HV2 := Aside0.mk hv2
    have W1 := Aside0.mk w1
    have W2 := Aside0.mk w2
    clear w1 w2
    clear hv e10 hv2
    have q1 : 2 * (c4 v).length + 100 ≤ k := by omega
    have q2 : (c4 v).length < 800000 := by omega
    have tf := times_f v 10 k (by decide) q2 q1
    rw [show (((10 : Nat) : Int)) = 10 from rfl] at tf
    have sf := small_f (dgv c) k (by omega) (by omega)
    have e2 : v * 10 + dgv c = 10 * v + dgv c := by omega
    have af := add4_f (v * 10) (dgv c) k (by rw [e2]; omega) (by rw [e2]; omega)
    have b1 : (i : Int) < (s.size : Int) := by omega
    rw [fluxionref04_number.l0, if_pos b1, tf, Option.bind_some, if_pos (Int.natCast_nonneg _), hb, W2.out, sf, Option.bind_some, af, Option.bind_some, W1.out, hdr, dvF_cons, e2]
    exact number_l0 s l hl hz hd K hK j (i + 1) k _ (by omega) HV2.out (by omega)
theorem refNumber_f (s : ByteArray) (k : Nat) (hz : s.size ≤ 400) (hd : s.data.toList.all digB = true) (hk : 5000001000 ≤ k) : fluxionref04_number.f k s = some (c4 (dv s.data.toList)) := by
  have hs := size_len s
  unfold fluxionref04_number.f
  have := number_l0 s _ rfl (by omega) hd 5000000000 (Nat.le_refl _) s.data.toList.length 0 k 0 (by omega) (by decide) (by omega)
  rw [List.drop_zero, c4_zero] at this
  exact this
theorem dv_bits {E : Nat} (hE : E = 1600) {l : List UInt8} (hd : l.all digB = true) (hl : l.length ≤ 400) : dv l < 2 ^ E ∧ (c4 (dv l)).length ≤ 400 := by
  have h1 := dv_lt l hd
  constructor
  · refine Nat.lt_of_lt_of_le h1 (Nat.le_trans (Nat.pow_le_pow_left (show 10 ≤ 2 ^ 4 by decide) _) ?_)
    rw [← Nat.pow_mul]
    have h16 : 4 * l.length ≤ E := by clear h1; omega
    exact Nat.pow_le_pow_right (by decide) h16
  · have := c4_length_le l.length (dv l) (Nat.lt_of_lt_of_le h1 (Nat.pow_le_pow_left (by decide) _))
    omega
theorem refParseNat_f (s : ByteArray) (k : Nat) (hz : s.size < 5000000000) (hk : 5000001000 ≤ k) : fluxionref04_ParseNat.f k s = some (c4 (PN s.data.toList).1, (PN s.data.toList).2) := by
  have hs := size_len s
  unfold fluxionref04_ParseNat.f
  rw [refNatural_f s k (by omega) (by omega), Option.bind_some]
  unfold PN
  by_cases h : natB s.data.toList = true
  · rw [if_pos h, if_pos h]
    by_cases hl : 400 < s.size
    · rw [if_pos (by omega), if_pos (big_long h (by omega)), c4_zero]
    · have hd := ((natB_iff _).1 h).1
      have hl4 : s.data.toList.length ≤ 400 := by omega
      obtain ⟨E, hE⟩ : ∃ E : Nat, E = 1600 := ⟨_, rfl⟩
      have h2 := (dv_bits hE hd hl4).2
      have rb := refBits_f _ E k (dv_bits hE hd hl4).1 (by omega) (by omega) (by omega)
      rw [if_neg (by omega), refNumber_f s k (by omega) hd hk, Option.bind_some, rb, Option.bind_some]
      unfold big
      by_cases hb : 1024 < nbits (dv s.data.toList)
      · rw [if_pos (by omega), if_pos (decide_eq_true hb), c4_zero]
      · rw [if_neg (by omega), if_neg (by rw [decide_eq_false hb]; decide)]
  · rw [if_neg h, if_neg h, c4_zero]
theorem limbs_last {n : Nat} (h : n ≠ 0) : rd (limbs n) (((limbs n).length : Int) - 1) ≠ 0 := by
  intro hc
  have hne : limbs n ≠ [] := by
    intro h0
    have := nval_limbs n
    rw [h0] at this
    exact h this.symm
  have hp : 0 < (limbs n).length := List.length_pos_iff.2 hne
  have e : limbs n = (limbs n).dropLast ++ [(limbs n).getLast hne] := (List.dropLast_concat_getLast hne).symm
  have hg : rd (limbs n) (((limbs n).length : Int) - 1) = (limbs n).getLast hne := by
    unfold rd
    rw [show (((limbs n).length : Int) - 1).toNat = (limbs n).length - 1 by omega, List.getLast_eq_getElem, List.getD_eq_getElem?_getD, List.getElem?_eq_getElem (by omega)]
    rfl
  rw [hg] at hc
  have h1 := trim_limbs (okl_limbs n)
  rw [nval_limbs] at h1
  have h2 : topN (limbs n) = topN (limbs n).dropLast := by
    conv => lhs; rw [e]
    rw [topN_snoc, if_pos hc]
  have h3 := topN_le (limbs n).dropLast
  have h4 := congrArg List.length h1
  rw [List.length_take, h2] at h4
  rw [List.length_dropLast] at h3
  omega
theorem canon_f (n : Nat) (hl : (limbs n).length < 1000000) : fluxionref01_Canonical.f (limbs n) = some true := by
  unfold fluxionref01_Canonical.f
  by_cases h : n = 0
  · subst h; rw [limbs_zero]; rfl
  · have h1 := limbs_last h
    have hp : (limbs n).length ≠ 0 := by
      intro h0
      have := nval_limbs n
      rw [List.eq_nil_of_length_eq_zero h0] at this
      exact h this.symm
    have w : wrap64 (((limbs n).length : Int) - 1) = ((limbs n).length : Int) - 1 := by unfold wrap64; omega
    rw [w, if_neg (by omega), if_pos (by omega), if_pos (by omega)]
    congr 1
    exact bne_iff_ne.2 h1
theorem refIs_f (n k : Nat) (hl : (limbs n).length < 90000) (hk : 5000400000 ≤ k) : fluxionref01_Is.f k (c4 n) (limbs n) = some true := by
  have h := c4_nval_len (okl_limbs n)
  rw [nval_limbs] at h
  unfold fluxionref01_Is.f
  rw [canon_f n (by omega), Option.bind_some, if_pos rfl, of_f (okl_limbs n) (by omega) (by omega), Option.bind_some, nval_limbs, cmp_f n n k (by omega) (by omega), Option.bind_some]
  unfold cmpN
  rw [if_neg (Nat.lt_irrefl _), if_neg (Nat.lt_irrefl _)]
  rfl
theorem refIsR_f (g : Bool) (n d k : Nat) (hn : (limbs n).length < 90000) (hd : (limbs d).length < 90000) (hk : 5000400000 ≤ k) : fluxionref03_Is.f k g (c4 n) (c4 d) g (limbs n) (limbs d) = some true := by
  unfold fluxionref03_Is.f
  rw [refIs_f n k hn hk, refIs_f d k hd hk]
  simp
end Go.Proofs.YtpncflaoikeidaaGreatDoor.H
namespace Go.Proofs.YtpncflaoikeidaaGreatDoor.P
open Go.RowKit Go.Proofs.YtpncflaoikeidaaGreatDoorW.PrintWords Go.Proofs.YtpncflaoikeidaaGreatDoorW.PrintLast Go.Proofs.YtpncflaoikeidaaGreatDoorW.PrintMore
attribute [local go_sem] max2_int max_two
set_option linter.unusedVariables false
set_option linter.unusedSimpArgs false
mutual
def fluxionref04_ParseRat.j0 : Nat → ByteArray → Bool → Option (Bool × List Int × List Int × Int)
  | 0, _, _ => none
  | k + 1, x0, x4 => if x4 = true then (if 1 ≤ (x0.size : Int) then (fluxionref04_ParseRat.j1 k x0 x4 (x0.extract 1 x0.size)) else (none)) else (fluxionref04_ParseRat.j1 k x0 x4 x0)
def fluxionref04_ParseRat.j1 : Nat → ByteArray → Bool → ByteArray → Option (Bool × List Int × List Int × Int)
  | 0, _, _, _ => none
  | k + 1, x0, x4, x5 => (fluxionref04_cut.f k x5).bind fun bt502 => (if bt502.2.2 = true then (fluxionref04_ParseRat.j2 k x0 x4 bt502.1 bt502.2.1) else (fluxionref04_ParseRat.j2 k x0 x4 bt502.1 (⟨#[49]⟩ : ByteArray)))
def fluxionref04_ParseRat.j2 : Nat → ByteArray → Bool → ByteArray → ByteArray → Option (Bool × List Int × List Int × Int)
  | 0, _, _, _, _ => none
  | k + 1, x0, x4, x6, x7 => (fluxionref04_natural.f k x6).bind fun t505 => (if t505 = true then ((fluxionref04_natural.f k x7).bind fun t506 => (fluxionref04_ParseRat.j3 k x0 x4 x6 x7 (!t506))) else (fluxionref04_ParseRat.j3 k x0 x4 x6 x7 true))
def fluxionref04_ParseRat.j3 : Nat → ByteArray → Bool → ByteArray → ByteArray → Bool → Option (Bool × List Int × List Int × Int)
  | 0, _, _, _, _, _ => none
  | k + 1, x0, x4, x6, x7, x41 => if x41 = true then (some (false, ([] : List Int), ([] : List Int), 19)) else ((fluxionref04_ParseNat.f k x6).bind fun bt507 => ((fluxionref04_ParseNat.f k x7).bind fun bt511 => (if bt507.2 = 0 then (fluxionref04_ParseRat.j4 k x0 x4 bt507.1 bt511.1 (bt511.2 != 0)) else (fluxionref04_ParseRat.j4 k x0 x4 bt507.1 bt511.1 true))))
def fluxionref04_ParseRat.j4 : Nat → ByteArray → Bool → List Int → List Int → Bool → Option (Bool × List Int × List Int × Int)
  | 0, _, _, _, _, _ => none
  | k + 1, x0, x4, x9, x11, x58 => if x58 = true then (some (false, ([] : List Int), ([] : List Int), 14)) else ((fluxionref03_Make.f k x4 x9 x11).bind fun bt515 => ((fluxionref04_Rat.f k bt515.1 bt515.2.1 bt515.2.2).bind fun t523 => (if t523.toList = x0.toList then (some (bt515.1, bt515.2.1, bt515.2.2, 0)) else (some (false, ([] : List Int), ([] : List Int), 6)))))
end
def fluxionref04_ParseRat.f (k : Nat) (a0 : ByteArray) : Option (Bool × List Int × List Int × Int) := if (a0.size : Int) > 0 then (if 0 < (a0.size : Int) then (fluxionref04_ParseRat.j0 k a0 ((bt a0 0) == 45)) else (none)) else (fluxionref04_ParseRat.j0 k a0 false)
set_option maxHeartbeats 8000000 in
set_option maxRecDepth 100000 in
theorem fluxionref04_ParseRat.calls (k : Nat) (a0 : ByteArray) (r1 : Bool) (r2 : List Int) (r3 : List Int) (r4 : Int) (w : World) (h : fluxionref04_ParseRat.f k a0 = some (r1, r2, r3, r4)) :
    Calls Tryz.prog 13 #[.string a0] w fun e w' => ∃ v1_ v2_ : Value, e = .returned (.tuple #[.agg #[.bool r1, v1_, v2_], .int .i64 r4]) ∧ Kd.R (Kd.int .i64) 3 w' w.heap.size (fun k_ => some k_ ≠ (v2_ : Value).ownBlock) v1_ r2 ∧ Kd.R (Kd.int .i64) 3 w' w.heap.size (fun k_ => some k_ ≠ (v1_ : Value).ownBlock) v2_ r3 ∧ Below w.heap.size w w' := by
  have hu32 := Tryz.underlying32
  have HB := Aside0.mk (Below.refl w.heap.size w)
  have H : (if (a0.size : Int) > 0 then (if 0 < (a0.size : Int) then (fluxionref04_ParseRat.j0 k a0 ((bt a0 0) == 45)) else (none)) else (fluxionref04_ParseRat.j0 k a0 false)) = some (r1, r2, r3, r4) := h
  clear h
  have HC2 := Aside0.mk H
  clear H
  go_enter Tryz.func13, Tryz.ntmps13
  go_upto_region 1 with (first | ((with_reducible refine gate_dst (N := 2) rfl ?_); refine box_event ?hg (N := 2) ?hd (cs := #[.bool false, .slice none 0 0, .slice none 0 0]) (t := 32) ?hr ?_; (case hd => rfl); (case hg => rfl); (case hr => first | (go_simp; done) | (go_simp; rfl)); intro gb501 hg w3 hbox hb; have n0_ := Aside0.mk (below_step (by repeat (first | (with_reducible first | exact HB.out | apply below_alloc | apply pw_below_drewN | apply below_drew1) | exact HB.out)) hb); have n1_ := Aside0.mk (hbox); have n2_ := Aside0.mk ((by rw [hg]; exact (below_size (by repeat (first | (with_reducible first | exact HB.out | apply below_alloc | apply pw_below_drewN | apply below_drew1) | exact HB.out))) : w.heap.size ≤ gb501)); have n3_ := Aside0.mk ((by rw [hg]; exact (below_size (by repeat (first | (with_reducible first | exact HB.out | apply below_alloc | apply pw_below_drewN | apply below_drew1) | exact HB.out))) : w.heap.size ≤ gb501)); clear HB; have HB := n0_; have BK501 := n1_; have GW501 := n2_; have GE501 := n3_; clear n0_ n1_ n2_ n3_; clear hb hbox hg))
  (try simp only [Act.put, List.setIfInBounds_toArray, List.set_cons_zero, List.set_cons_succ])
  go_cut [4] (fun v4 wc => ∃ (kq : Nat) (x4_1 : Bool), v4 = .bool x4_1 ∧ Aside0 (fluxionref04_ParseRat.j0 kq a0 x4_1 = some (r1, r2, r3, r4)) ∧ Aside0 (kq ≤ k) ∧ Aside0 (wc.heap[gb501]? = some (.cells #[.bool false, (.slice none 0 0), (.slice none 0 0)] 32 (0, 0))) ∧ Aside0 (Below w.heap.size w wc))
  case first =>
    have H := HC2.out
    clear HC2
    by_cases c4 : (a0.size : Int) > 0
    · rw [if_pos c4] at H
      have c4b0 : decide (0 < (a0.size : Int)) = true := decide_eq_true c4
      have c4b1 : decide (0 < a0.size) = true := decide_eq_true (by omega)
      clear c4
      (first | rw [c4b0] | (simp only [i64_w, i32_w]; rw [c4b0]) | skip)
      by_cases c5 : 0 < (a0.size : Int)
      · rw [if_pos c5] at H
        have c5b0 : decide (0 < (a0.size : Int)) = true := decide_eq_true c5
        have c5b1 : decide (0 < a0.size) = true := decide_eq_true (by omega)
        clear c5
        have H' := Aside0.mk H
        clear H
        have p6 : 0 ≤ (0 : Int) := (by omega)
        have q6 : 0 < a0.size := (by have : (0 : Int) < (a0.size : Int) := of_decide_eq_true (by first | (with_reducible assumption) | assumption); omega)
        have hx6 : ∀ h : 0 < a0.size, ((a0[0]'h).toNat : Int) = bt a0 0 := bt_at a0 0
        clear p6
        have qi6 : (0 < (a0.size : Int)) = True := eq_true (of_decide_eq_true (by first | (with_reducible assumption) | assumption))
        replace q6 := eq_true q6
        go_wp2
        go_meet
        case rel => exact ⟨_, (((bt a0 0) == 45)), (by first | rfl | (simp; done) | (simp [*]; done)), H', ⟨by first | omega | exact Nat.le_refl _⟩, ⟨by exact BK501.out⟩, ⟨by repeat (first | (with_reducible first | exact HB.out | apply below_alloc | apply pw_below_drewN | apply below_drew1 | refine below_set ?_ GE501.out) | exact HB.out)⟩⟩
      · rw [if_neg c5] at H
        exact absurd H (by simp)
    · rw [if_neg c4] at H
      have c4b0 : decide (0 < (a0.size : Int)) = false := decide_eq_false c4
      have c4b1 : decide (0 < a0.size) = false := decide_eq_false (by omega)
      clear c4
      (first | rw [c4b0] | (simp only [i64_w, i32_w]; rw [c4b0]) | skip)
      have H' := Aside0.mk H
      clear H
      go_wp2
      go_meet
      case rel => exact ⟨_, (false), (by first | rfl | (simp; done) | (simp [*]; done)), H', ⟨by first | omega | exact Nat.le_refl _⟩, ⟨by exact BK501.out⟩, ⟨by repeat (first | (with_reducible first | exact HB.out | apply below_alloc | apply pw_below_drewN | apply below_drew1 | refine below_set ?_ GE501.out) | exact HB.out)⟩⟩
  case rest =>
    clear HC2
    try clear c1
    try clear p2
    try clear c4
    try clear c4b0
    try clear c4b1
    try clear c5
    try clear c5b0
    try clear c5b1
    try clear p6
    try clear q6
    try clear hx6
    try clear qi6
    try clear p6
    try clear q6
    obtain ⟨kq, x4_1, rfl, HA, HJ1, BK501, HB⟩ := hcut
    cases kq with
    | zero => exact absurd HA.out (by simp [fluxionref04_ParseRat.j0])
    | succ kj1 =>
      have H := HA.out
      clear HA
      simp only [fluxionref04_ParseRat.j0] at H
      have HC7 := Aside0.mk H
      clear H
      go_upto_if 23 with (fail)
      go_cut [5] (fun v5 wc => ∃ (kq : Nat) (x5_6 : ByteArray), v5 = .string x5_6 ∧ Aside0 (fluxionref04_ParseRat.j1 kq a0 x4_1 x5_6 = some (r1, r2, r3, r4)) ∧ Aside0 (kq ≤ kj1) ∧ Aside0 (wc.heap[gb501]? = some (.cells #[.bool false, (.slice none 0 0), (.slice none 0 0)] 32 (0, 0))) ∧ Aside0 (Below w.heap.size w wc))
      case first =>
        have H := HC7.out
        clear HC7
        by_cases c8 : x4_1 = true
        · subst c8
          have H1 : (if 1 ≤ (a0.size : Int) then (fluxionref04_ParseRat.j1 kj1 a0 true (a0.extract 1 a0.size)) else (none)) = some (r1, r2, r3, r4) := by rw [if_pos rfl] at H; exact H
          clear H
          have H := H1
          clear H1
          by_cases c9 : 1 ≤ (a0.size : Int)
          · rw [if_pos c9] at H
            have c9b0 := eq_true c9
            have c9b1 : decide (1 ≤ (a0.size : Int)) = true := decide_eq_true c9
            clear c9
            have H' := Aside0.mk H
            clear H
            go_wp2
            go_meet
            case rel => exact ⟨_, (a0.extract 1 a0.size), (by first | rfl | (simp; done) | (simp [*]; done)), H', ⟨by have := HJ1.out; first | omega | exact Nat.le_refl _⟩, ⟨by exact BK501.out⟩, ⟨by repeat (first | (with_reducible first | exact HB.out | apply below_alloc | apply pw_below_drewN | apply below_drew1 | refine below_set ?_ GE501.out) | exact HB.out)⟩⟩
          · rw [if_neg c9] at H
            exact absurd H (by simp)
        · replace c8 := Bool.eq_false_iff.mpr c8
          subst c8
          have H1 : (fluxionref04_ParseRat.j1 kj1 a0 false a0) = some (r1, r2, r3, r4) := by rw [if_neg (show ¬ (false = true) by decide)] at H; exact H
          clear H
          have H := H1
          clear H1
          have H' := Aside0.mk H
          clear H
          go_wp2
          go_meet
          case rel => exact ⟨_, (a0), (by first | rfl | (simp; done) | (simp [*]; done)), H', ⟨by have := HJ1.out; first | omega | exact Nat.le_refl _⟩, ⟨by exact BK501.out⟩, ⟨by repeat (first | (with_reducible first | exact HB.out | apply below_alloc | apply pw_below_drewN | apply below_drew1 | refine below_set ?_ GE501.out) | exact HB.out)⟩⟩
      case rest =>
        clear HC7
        try clear c1
        try clear p2
        try clear c4
        try clear c4b0
        try clear c4b1
        try clear c5
        try clear c5b0
        try clear c5b1
        try clear p6
        try clear q6
        try clear hx6
        try clear qi6
        try clear c8
        try clear c9
        try clear c9b0
        try clear c9b1
        try clear p2
        try clear p6
        try clear q6
        obtain ⟨kq, x5_6, rfl, HA, HJ6, BK501, HB⟩ := hcut
        cases kq with
        | zero => exact absurd HA.out (by simp [fluxionref04_ParseRat.j1])
        | succ kj6 =>
          have H := HA.out
          clear HA
          simp only [fluxionref04_ParseRat.j1] at H
          replace H := Option.bind_eq_some_iff.mp H
          obtain ⟨⟨t502, t503, t504⟩, A100, H⟩ := H
          replace H : (if t504 = true then (fluxionref04_ParseRat.j2 kj6 a0 x4_1 t502 t503) else (fluxionref04_ParseRat.j2 kj6 a0 x4_1 t502 (⟨#[49]⟩ : ByteArray))) = some (r1, r2, r3, r4) := H
          have A10 := Aside0.mk A100
          clear A100
          have HC11 := Aside0.mk H
          clear H
          go_upto_if 33 with (first | ((with_reducible refine gate_callee (f := 39) rfl ?_); refine goesL_ (some 28) rfl rfl Tryz.func39 (by kernel_rfl) rfl #[.string x5_6] rfl (by (try simp only [List.map_toArray, List.map_cons, List.map_nil]); first | done | rfl | (simp only [List.length_drop, List.length_take]; rfl)) ?_; (with_reducible refine (fluxionref04_cut.calls kj6 x5_6 t502 t503 t504 _ A10.out).mono ?_); rintro e w' ⟨rfl, ⟨nd, rfl⟩⟩; refine ⟨_, rfl, ?_⟩))
          (try simp only [Act.put, List.setIfInBounds_toArray, List.set_cons_zero, List.set_cons_succ])
          go_cut [7] (fun v7 wc => ∃ (kq : Nat) (x7_10 : ByteArray), v7 = .string x7_10 ∧ Aside0 (fluxionref04_ParseRat.j2 kq a0 x4_1 t502 x7_10 = some (r1, r2, r3, r4)) ∧ Aside0 (kq ≤ kj6) ∧ Aside0 (wc.heap[gb501]? = some (.cells #[.bool false, (.slice none 0 0), (.slice none 0 0)] 32 (0, 0))) ∧ Aside0 (Below w.heap.size w wc))
          case first =>
            have H := HC11.out
            clear HC11
            by_cases c12 : t504 = true
            · subst c12
              have H1 : (fluxionref04_ParseRat.j2 kj6 a0 x4_1 t502 t503) = some (r1, r2, r3, r4) := by rw [if_pos rfl] at H; exact H
              clear H
              have H := H1
              clear H1
              have H' := Aside0.mk H
              clear H
              go_wp2
              go_meet
              case rel => exact ⟨_, (t503), (by first | rfl | (simp; done) | (simp [*]; done)), H', ⟨by have := HJ1.out; have := HJ6.out; first | omega | exact Nat.le_refl _⟩, ⟨by exact BK501.out⟩, ⟨by repeat (first | (with_reducible first | exact HB.out | apply below_alloc | apply pw_below_drewN | apply below_drew1 | refine below_set ?_ GE501.out) | exact HB.out)⟩⟩
            · replace c12 := Bool.eq_false_iff.mpr c12
              subst c12
              have H1 : (fluxionref04_ParseRat.j2 kj6 a0 x4_1 t502 (⟨#[49]⟩ : ByteArray)) = some (r1, r2, r3, r4) := by rw [if_neg (show ¬ (false = true) by decide)] at H; exact H
              clear H
              have H := H1
              clear H1
              have H' := Aside0.mk H
              clear H
              go_wp2
              go_meet
              case rel => exact ⟨_, ((⟨#[49]⟩ : ByteArray)), (by first | rfl | (simp; done) | (simp [*]; done)), H', ⟨by have := HJ1.out; have := HJ6.out; first | omega | exact Nat.le_refl _⟩, ⟨by exact BK501.out⟩, ⟨by repeat (first | (with_reducible first | exact HB.out | apply below_alloc | apply pw_below_drewN | apply below_drew1 | refine below_set ?_ GE501.out) | exact HB.out)⟩⟩
          case rest =>
            clear HC11
            try clear c1
            try clear p2
            try clear c3
            try clear c4
            try clear c4b0
            try clear c4b1
            try clear c5
            try clear c5b0
            try clear c5b1
            try clear p6
            try clear q6
            try clear hx6
            try clear qi6
            try clear c8
            try clear c9
            try clear c9b0
            try clear c9b1
            try clear c12
            try clear p2
            try clear p6
            try clear q6
            obtain ⟨kq, x7_10, rfl, HA, HJ10, BK501, HB⟩ := hcut
            cases kq with
            | zero => exact absurd HA.out (by simp [fluxionref04_ParseRat.j2])
            | succ kj10 =>
              have H := HA.out
              clear HA
              simp only [fluxionref04_ParseRat.j2] at H
              have HC13 := Aside0.mk H
              clear H
              go_upto_region 8 with (fail)
              go_cut [41] (fun v41 wc => ∃ (kq : Nat) (x41_12 : Bool), v41 = .bool x41_12 ∧ Aside0 (fluxionref04_ParseRat.j3 kq a0 x4_1 t502 x7_10 x41_12 = some (r1, r2, r3, r4)) ∧ Aside0 (kq ≤ kj10) ∧ Aside0 (wc.heap[gb501]? = some (.cells #[.bool false, (.slice none 0 0), (.slice none 0 0)] 32 (0, 0))) ∧ Aside0 (Below w.heap.size w wc))
              case first =>
                have H := HC13.out
                clear HC13
                replace H := Option.bind_eq_some_iff.mp H
                obtain ⟨t505, A140, H⟩ := H
                replace H : (if t505 = true then ((fluxionref04_natural.f kj10 x7_10).bind fun t506 => (fluxionref04_ParseRat.j3 kj10 a0 x4_1 t502 x7_10 (!t506))) else (fluxionref04_ParseRat.j3 kj10 a0 x4_1 t502 x7_10 true)) = some (r1, r2, r3, r4) := H
                have A14 := Aside0.mk A140
                clear A140
                by_cases c15 : t505 = true
                · subst c15
                  have H1 : ((fluxionref04_natural.f kj10 x7_10).bind fun t506 => (fluxionref04_ParseRat.j3 kj10 a0 x4_1 t502 x7_10 (!t506))) = some (r1, r2, r3, r4) := by rw [if_pos rfl] at H; exact H
                  clear H
                  have H := H1
                  clear H1
                  replace H := Option.bind_eq_some_iff.mp H
                  obtain ⟨t506, A160, H⟩ := H
                  replace H : (fluxionref04_ParseRat.j3 kj10 a0 x4_1 t502 x7_10 (!t506)) = some (r1, r2, r3, r4) := H
                  have A16 := Aside0.mk A160
                  clear A160
                  have H' := Aside0.mk H
                  clear H
                  go_wp2_with (first | ((with_reducible refine gate_callee (f := 40) rfl ?_); refine goesL_ (some 35) rfl rfl Tryz.func40 (by kernel_rfl) rfl #[.string t502] rfl (by (try simp only [List.map_toArray, List.map_cons, List.map_nil]); first | done | rfl | (simp only [List.length_drop, List.length_take]; rfl)) ?_; (with_reducible refine (fluxionref04_natural.calls kj10 t502 true _ A14.out).mono ?_); rintro e w' ⟨rfl, ⟨nd, rfl⟩⟩; refine ⟨_, rfl, ?_⟩) | (go_at_call 40; (with_reducible refine (fluxionref04_natural.calls kj10 x7_10 t506 _ A16.out).mono ?_); rintro e w' ⟨rfl, ⟨nd, rfl⟩⟩))
                  go_meet
                  case rel => exact ⟨_, (!t506), (by first | rfl | (simp; done) | (simp [*]; done)), H', ⟨by have := HJ1.out; have := HJ6.out; have := HJ10.out; first | omega | exact Nat.le_refl _⟩, ⟨by exact BK501.out⟩, ⟨by repeat (first | (with_reducible first | exact HB.out | apply below_alloc | apply pw_below_drewN | apply below_drew1 | refine below_set ?_ GE501.out) | exact HB.out)⟩⟩
                · replace c15 := Bool.eq_false_iff.mpr c15
                  subst c15
                  have H1 : (fluxionref04_ParseRat.j3 kj10 a0 x4_1 t502 x7_10 true) = some (r1, r2, r3, r4) := by rw [if_neg (show ¬ (false = true) by decide)] at H; exact H
                  clear H
                  have H := H1
                  clear H1
                  have H' := Aside0.mk H
                  clear H
                  go_wp2_with (first | ((with_reducible refine gate_callee (f := 40) rfl ?_); refine goesL_ (some 35) rfl rfl Tryz.func40 (by kernel_rfl) rfl #[.string t502] rfl (by (try simp only [List.map_toArray, List.map_cons, List.map_nil]); first | done | rfl | (simp only [List.length_drop, List.length_take]; rfl)) ?_; (with_reducible refine (fluxionref04_natural.calls kj10 t502 false _ A14.out).mono ?_); rintro e w' ⟨rfl, ⟨nd, rfl⟩⟩; refine ⟨_, rfl, ?_⟩))
                  go_meet
                  case rel => exact ⟨_, (true), (by first | rfl | (simp; done) | (simp [*]; done)), H', ⟨by have := HJ1.out; have := HJ6.out; have := HJ10.out; first | omega | exact Nat.le_refl _⟩, ⟨by exact BK501.out⟩, ⟨by repeat (first | (with_reducible first | exact HB.out | apply below_alloc | apply pw_below_drewN | apply below_drew1 | refine below_set ?_ GE501.out) | exact HB.out)⟩⟩
              case rest =>
                clear HC13
                try clear c1
                try clear p2
                try clear c3
                try clear c4
                try clear c4b0
                try clear c4b1
                try clear c5
                try clear c5b0
                try clear c5b1
                try clear p6
                try clear q6
                try clear hx6
                try clear qi6
                try clear c8
                try clear c9
                try clear c9b0
                try clear c9b1
                try clear c12
                try clear c13
                try clear c15
                try clear p2
                try clear p6
                try clear q6
                obtain ⟨kq, x41_12, rfl, HA, HJ12, BK501, HB⟩ := hcut
                cases kq with
                | zero => exact absurd HA.out (by simp [fluxionref04_ParseRat.j3])
                | succ kj12 =>
                  have H := HA.out
                  clear HA
                  simp only [fluxionref04_ParseRat.j3] at H
                  by_cases c17 : x41_12 = true
                  · subst c17
                    have H1 : (some (false, ([] : List Int), ([] : List Int), 19)) = some (r1, r2, r3, r4) := by rw [if_pos rfl] at H; exact H
                    clear H
                    have H := H1
                    clear H1
                    simp only [Option.some.injEq, Prod.mk.injEq] at H
                    obtain ⟨rfl, rfl, rfl, rfl⟩ := H
                    have hcz18_0 : wc.cell? ⟨gb501, 0, none⟩ = some (.bool false) := (blk_cell BK501.out 0).trans rfl
                    have hcz18_1 : wc.cell? ⟨gb501, 1, none⟩ = some (.slice none 0 0) := (blk_cell BK501.out 1).trans rfl
                    have hcz18_2 : wc.cell? ⟨gb501, 2, none⟩ = some (.slice none 0 0) := (blk_cell BK501.out 2).trans rfl
                    have hfz18_0 := blk_frozen BK501.out 0
                    have hfz18_1 := blk_frozen BK501.out 1
                    have hfz18_2 := blk_frozen BK501.out 2
                    go_wp2
                    refine bodyPost_ret (results_ct rfl _ _ gb501 32 #[.bool false, .slice none 0 0, .slice none 0 0] (0, 0) _ rfl (by refine blk_put (cs := #[.bool false, .slice none 0 0, .slice none 0 0]) ?_ 2 _ rfl; refine blk_put (cs := #[.bool false, .slice none 0 0, .slice none 0 0]) ?_ 1 _ rfl; refine blk_put (cs := #[.bool false, .slice none 0 0, .slice none 0 0]) ?_ 0 _ rfl; exact BK501.out) Tryz.underlying32 rfl (by kernel_rfl)) rfl ?_
                    exact ⟨_, _, by first | rfl | (simp [errW_none, errW_some] <;> rfl) | (simp [*, errW_none, errW_some] <;> rfl), by first | exact Kd.R_nil _ _ _ _ _ | exact Kd.N_nil _ _ _ _ _ | exact Kd.V_nil _ _ _ _ _ | exact Kd.Q_nil _ _ _ _ _ | exact Kd.S_nil _ _ _ _ _, by first | exact Kd.R_nil _ _ _ _ _ | exact Kd.N_nil _ _ _ _ _ | exact Kd.V_nil _ _ _ _ _ | exact Kd.Q_nil _ _ _ _ _ | exact Kd.S_nil _ _ _ _ _, by repeat (first | (with_reducible first | exact HB.out | apply below_alloc | apply pw_below_drewN | apply below_drew1 | refine below_set ?_ GE501.out) | exact HB.out)⟩
                  · replace c17 := Bool.eq_false_iff.mpr c17
                    subst c17
                    have H1 : ((fluxionref04_ParseNat.f kj12 t502).bind fun bt507 => ((fluxionref04_ParseNat.f kj12 x7_10).bind fun bt511 => (if bt507.2 = 0 then (fluxionref04_ParseRat.j4 kj12 a0 x4_1 bt507.1 bt511.1 (bt511.2 != 0)) else (fluxionref04_ParseRat.j4 kj12 a0 x4_1 bt507.1 bt511.1 true)))) = some (r1, r2, r3, r4) := by rw [if_neg (show ¬ (false = true) by decide)] at H; exact H
                    clear H
                    have H := H1
                    clear H1
                    replace H := Option.bind_eq_some_iff.mp H
                    obtain ⟨⟨t507, t508⟩, A190, H⟩ := H
                    replace H : ((fluxionref04_ParseNat.f kj12 x7_10).bind fun bt511 => (if t508 = 0 then (fluxionref04_ParseRat.j4 kj12 a0 x4_1 t507 bt511.1 (bt511.2 != 0)) else (fluxionref04_ParseRat.j4 kj12 a0 x4_1 t507 bt511.1 true))) = some (r1, r2, r3, r4) := H
                    have A19 := Aside0.mk A190
                    clear A190
                    replace H := Option.bind_eq_some_iff.mp H
                    obtain ⟨⟨t511, t512⟩, A200, H⟩ := H
                    replace H : (if t508 = 0 then (fluxionref04_ParseRat.j4 kj12 a0 x4_1 t507 t511 (t512 != 0)) else (fluxionref04_ParseRat.j4 kj12 a0 x4_1 t507 t511 true)) = some (r1, r2, r3, r4) := H
                    have A20 := Aside0.mk A200
                    clear A200
                    have HC21 := Aside0.mk H
                    clear H
                    go_upto_region 12 with (first | ((with_reducible refine gate_callee (f := 41) rfl ?_); refine goesL_ (some 45) rfl rfl Tryz.func41 (by kernel_rfl) rfl #[.string t502] rfl (by (try simp only [List.map_toArray, List.map_cons, List.map_nil]); first | done | rfl | (simp only [List.length_drop, List.length_take]; rfl)) ?_; (with_reducible refine (fluxionref04_ParseNat.calls kj12 t502 t507 t508 _ A19.out).mono ?_); rintro e w22 ⟨v509, rfl, ho0, hb⟩; refine ⟨_, rfl, ?_⟩; have n0_ := Aside0.mk (Kd.R_lower ho0 (below_size (by repeat (first | (with_reducible first | exact HB.out | apply below_alloc | apply pw_below_drewN | apply below_drew1 | refine below_set ?_ GE501.out) | exact HB.out)))); have n1_ := Aside0.mk (blk_below (g := gb501) (o := .cells #[.bool false, .slice none 0 0, .slice none 0 0] 32 (0, 0)) (by exact BK501.out) hb); have n2_ := Aside0.mk (below_step (by repeat (first | (with_reducible first | exact HB.out | apply below_alloc | apply pw_below_drewN | apply below_drew1 | refine below_set ?_ GE501.out) | exact HB.out)) hb); clear BK501; clear HB; have HO510 := n0_; have BK501 := n1_; have HB := n2_; clear n0_ n1_ n2_; (try clear hb); (try clear hb2); (try clear hk); (try clear hi); (try clear ho0)) | ((with_reducible refine gate_callee (f := 41) rfl ?_); refine goesL_ (some 50) rfl rfl Tryz.func41 (by kernel_rfl) rfl #[.string x7_10] rfl (by (try simp only [List.map_toArray, List.map_cons, List.map_nil]); first | done | rfl | (simp only [List.length_drop, List.length_take]; rfl)) ?_; (with_reducible refine (fluxionref04_ParseNat.calls kj12 x7_10 t511 t512 _ A20.out).mono ?_); rintro e w23 ⟨v513, rfl, ho0, hb⟩; refine ⟨_, rfl, ?_⟩; have n0_ := Aside0.mk (Kd.R_elder' (by exact HO510.out) (Kd.R_base ho0) hb); have n1_ := Aside0.mk (Kd.R_lower (Kd.R_new' ho0 (Kd.R_lt (by exact HO510.out))) (below_size (by repeat (first | (with_reducible first | exact HB.out | apply below_alloc | apply pw_below_drewN | apply below_drew1 | refine below_set ?_ GE501.out) | exact HB.out)))); have n2_ := Aside0.mk (blk_below (g := gb501) (o := .cells #[.bool false, .slice none 0 0, .slice none 0 0] 32 (0, 0)) (by exact BK501.out) hb); have n3_ := Aside0.mk (below_step (by repeat (first | (with_reducible first | exact HB.out | apply below_alloc | apply pw_below_drewN | apply below_drew1 | refine below_set ?_ GE501.out) | exact HB.out)) hb); clear HO510; clear BK501; clear HB; have HO510 := n0_; have HO514 := n1_; have BK501 := n2_; have HB := n3_; clear n0_ n1_ n2_ n3_; (try clear hb); (try clear hb2); (try clear hk); (try clear hi); (try clear ho0)))
                    (try simp only [Act.put, List.setIfInBounds_toArray, List.set_cons_zero, List.set_cons_succ])
                    go_cut [58] (fun v58 wc => ∃ (kq : Nat) (x58_20 : Bool), v58 = .bool x58_20 ∧ Aside0 (fluxionref04_ParseRat.j4 kq a0 x4_1 t507 t511 x58_20 = some (r1, r2, r3, r4)) ∧ Aside0 (kq ≤ kj12) ∧ Aside0 (Kd.R (Kd.int .i64) 3 wc w.heap.size (fun k_ => some k_ ≠ (v513 : Value).ownBlock) v509 t507) ∧ Aside0 (Kd.R (Kd.int .i64) 3 wc w.heap.size (fun k_ => some k_ ≠ (v509 : Value).ownBlock) v513 t511) ∧ Aside0 (wc.heap[gb501]? = some (.cells #[.bool false, (.slice none 0 0), (.slice none 0 0)] 32 (0, 0))) ∧ Aside0 (Below w.heap.size w wc))
                    case first =>
                      have H := HC21.out
                      clear HC21
                      by_cases c24 : t508 = 0
                      · rw [if_pos c24] at H
                        have c24b0 : (t508 == 0) = true := beq_iff_eq.mpr c24
                        have c24b1 : (t508 != 0) = false := bne_eq_false_iff_eq.mpr c24
                        clear c24
                        (first | rw [c24b0] | (simp only [i64_w, i32_w]; rw [c24b0]) | skip)
                        have H' := Aside0.mk H
                        clear H
                        go_wp2
                        go_meet
                        case rel => exact ⟨_, ((t512 != 0)), (by first | rfl | (simp; done) | (simp [*]; done)), H', ⟨by have := HJ1.out; have := HJ6.out; have := HJ10.out; have := HJ12.out; first | omega | exact Nat.le_refl _⟩, ⟨by exact Kd.R_mono HO510.out (fun _ hk => hk.2)⟩, ⟨by exact Kd.R_mono HO514.out (fun _ hk => hk.2)⟩, ⟨by exact BK501.out⟩, ⟨by repeat (first | (with_reducible first | exact HB.out | apply below_alloc | apply pw_below_drewN | apply below_drew1 | refine below_set ?_ GE501.out) | exact HB.out)⟩⟩
                      · rw [if_neg c24] at H
                        have c24b0 : (t508 == 0) = false := beq_eq_false_iff_ne.mpr c24
                        have c24b1 : (t508 != 0) = true := bne_iff_ne.mpr c24
                        (first | rw [c24b0] | (simp only [i64_w, i32_w]; rw [c24b0]) | skip)
                        have H' := Aside0.mk H
                        clear H
                        go_wp2
                        go_meet
                        case rel => exact ⟨_, (true), (by first | rfl | (simp; done) | (simp [*]; done)), H', ⟨by have := HJ1.out; have := HJ6.out; have := HJ10.out; have := HJ12.out; first | omega | exact Nat.le_refl _⟩, ⟨by exact Kd.R_mono HO510.out (fun _ hk => hk.2)⟩, ⟨by exact Kd.R_mono HO514.out (fun _ hk => hk.2)⟩, ⟨by exact BK501.out⟩, ⟨by repeat (first | (with_reducible first | exact HB.out | apply below_alloc | apply pw_below_drewN | apply below_drew1 | refine below_set ?_ GE501.out) | exact HB.out)⟩⟩
                    case rest =>
                      clear HC21
                      try clear c1
                      try clear c2
                      try clear p2
                      try clear c3
                      try clear c4
                      try clear c4b0
                      try clear c4b1
                      try clear c5
                      try clear c5b0
                      try clear c5b1
                      try clear p6
                      try clear q6
                      try clear hx6
                      try clear qi6
                      try clear c8
                      try clear c9
                      try clear c9b0
                      try clear c9b1
                      try clear c12
                      try clear c13
                      try clear c15
                      try clear c17
                      try clear c24
                      try clear c24b0
                      try clear c24b1
                      try clear hcz18_0
                      try clear hcz18_1
                      try clear hcz18_2
                      try clear hfz18_0
                      try clear hfz18_1
                      try clear hfz18_2
                      try clear p2
                      try clear p6
                      try clear q6
                      obtain ⟨kq, x58_20, rfl, HA, HJ20, HO_9, HO_11, BK501, HB⟩ := hcut
                      cases kq with
                      | zero => exact absurd HA.out (by simp [fluxionref04_ParseRat.j4])
                      | succ kj20 =>
                        have H := HA.out
                        clear HA
                        simp only [fluxionref04_ParseRat.j4] at H
                        by_cases c25 : x58_20 = true
                        · subst c25
                          have H1 : (some (false, ([] : List Int), ([] : List Int), 14)) = some (r1, r2, r3, r4) := by rw [if_pos rfl] at H; exact H
                          clear H
                          have H := H1
                          clear H1
                          simp only [Option.some.injEq, Prod.mk.injEq] at H
                          obtain ⟨rfl, rfl, rfl, rfl⟩ := H
                          have hcz26_0 : wc.cell? ⟨gb501, 0, none⟩ = some (.bool false) := (blk_cell BK501.out 0).trans rfl
                          have hcz26_1 : wc.cell? ⟨gb501, 1, none⟩ = some (.slice none 0 0) := (blk_cell BK501.out 1).trans rfl
                          have hcz26_2 : wc.cell? ⟨gb501, 2, none⟩ = some (.slice none 0 0) := (blk_cell BK501.out 2).trans rfl
                          have hfz26_0 := blk_frozen BK501.out 0
                          have hfz26_1 := blk_frozen BK501.out 1
                          have hfz26_2 := blk_frozen BK501.out 2
                          go_wp2
                          refine bodyPost_ret (results_ct rfl _ _ gb501 32 #[.bool false, .slice none 0 0, .slice none 0 0] (0, 0) _ rfl (by refine blk_put (cs := #[.bool false, .slice none 0 0, .slice none 0 0]) ?_ 2 _ rfl; refine blk_put (cs := #[.bool false, .slice none 0 0, .slice none 0 0]) ?_ 1 _ rfl; refine blk_put (cs := #[.bool false, .slice none 0 0, .slice none 0 0]) ?_ 0 _ rfl; exact BK501.out) Tryz.underlying32 rfl (by kernel_rfl)) rfl ?_
                          exact ⟨_, _, by first | rfl | (simp [errW_none, errW_some] <;> rfl) | (simp [*, errW_none, errW_some] <;> rfl), by first | exact Kd.R_nil _ _ _ _ _ | exact Kd.N_nil _ _ _ _ _ | exact Kd.V_nil _ _ _ _ _ | exact Kd.Q_nil _ _ _ _ _ | exact Kd.S_nil _ _ _ _ _, by first | exact Kd.R_nil _ _ _ _ _ | exact Kd.N_nil _ _ _ _ _ | exact Kd.V_nil _ _ _ _ _ | exact Kd.Q_nil _ _ _ _ _ | exact Kd.S_nil _ _ _ _ _, by repeat (first | (with_reducible first | exact HB.out | apply below_alloc | apply pw_below_drewN | apply below_drew1 | refine below_set ?_ GE501.out) | exact HB.out)⟩
                        · replace c25 := Bool.eq_false_iff.mpr c25
                          subst c25
                          have H1 : ((fluxionref03_Make.f kj20 x4_1 t507 t511).bind fun bt515 => ((fluxionref04_Rat.f kj20 bt515.1 bt515.2.1 bt515.2.2).bind fun t523 => (if t523.toList = a0.toList then (some (bt515.1, bt515.2.1, bt515.2.2, 0)) else (some (false, ([] : List Int), ([] : List Int), 6))))) = some (r1, r2, r3, r4) := by rw [if_neg (show ¬ (false = true) by decide)] at H; exact H
                          clear H
                          have H := H1
                          clear H1
                          replace H := Option.bind_eq_some_iff.mp H
                          obtain ⟨⟨t515, t516, t519⟩, A270, H⟩ := H
                          replace H : ((fluxionref04_Rat.f kj20 t515 t516 t519).bind fun t523 => (if t523.toList = a0.toList then (some (t515, t516, t519, 0)) else (some (false, ([] : List Int), ([] : List Int), 6)))) = some (r1, r2, r3, r4) := H
                          have A27 := Aside0.mk A270
                          clear A270
                          replace H := Option.bind_eq_some_iff.mp H
                          obtain ⟨t523, A280, H⟩ := H
                          replace H : (if t523.toList = a0.toList then (some (t515, t516, t519, 0)) else (some (false, ([] : List Int), ([] : List Int), 6))) = some (r1, r2, r3, r4) := H
                          have A28 := Aside0.mk A280
                          clear A280
                          by_cases c29 : t523.toList = a0.toList
                          · rw [if_pos c29] at H
                            have c29b0 : (t523.toList == a0.toList) = true := beq_iff_eq.mpr c29
                            have c29b1 : (t523.toList != a0.toList) = false := bne_eq_false_iff_eq.mpr c29
                            clear c29
                            simp only [Option.some.injEq, Prod.mk.injEq] at H
                            obtain ⟨rfl, rfl, rfl, rfl⟩ := H
                            obtain ⟨Ao30, co30, eo30⟩ := Kd.R_slice HO_9.out
                            subst eo30
                            obtain ⟨Ao31, co31, eo31⟩ := Kd.R_slice HO_11.out
                            subst eo31
                            go_wp2_with (first | ((with_reducible refine gate_callee (f := 33) rfl ?_); refine goesL_ (some 63) rfl rfl Tryz.func33 (by kernel_rfl) rfl #[.bool x4_1, .slice Ao30 t507.length co30, .slice Ao31 t511.length co31] rfl (by (try simp only [List.map_toArray, List.map_cons, List.map_nil]); first | done | rfl | (simp only [List.length_drop, List.length_take]; rfl)) ?_; (with_reducible refine (fluxionref03_Make.calls kj20 x4_1 _ _ t507 _ _ t511 t515 t516 t519 _ ?side1 ?side2 ?side3 ?side4 A27.out).mono ?_); (case side1 => repeat (first | exact (Kd.R_reads' HO_9.out).2.2 | (with_reducible refine Kd.C_alloc ?_ _) | (with_reducible refine Kd.C_drewN ?_ _) | (with_reducible refine Kd.C_drew ?_))); (case side2 => exact (Kd.R_reads' HO_9.out).2.1); (case side3 => repeat (first | exact (Kd.R_reads' HO_11.out).2.2 | (with_reducible refine Kd.C_alloc ?_ _) | (with_reducible refine Kd.C_drewN ?_ _) | (with_reducible refine Kd.C_drew ?_))); (case side4 => exact (Kd.R_reads' HO_11.out).2.1); rintro e w32 ⟨v517, v520, rfl, ho0, ho1, hb⟩; refine ⟨_, rfl, ?_⟩; have n0_ := Aside0.mk (Kd.R_mono (Kd.R_told (Kd.R_told (Kd.R_old (by exact HO_9.out) hb) (Kd.R_base ho0)) (Kd.R_base ho1)) (fun _ h_ => h_.1)); have n1_ := Aside0.mk (Kd.R_mono (Kd.R_told (Kd.R_told (Kd.R_old (by exact HO_11.out) hb) (Kd.R_base ho0)) (Kd.R_base ho1)) (fun _ h_ => h_.1)); have n2_ := Aside0.mk (Kd.R_lower (Kd.R_new' (Kd.R_new' ho0 (Kd.R_lt (by exact HO_9.out))) (Kd.R_lt (by exact HO_11.out))) (below_size (by repeat (first | (with_reducible first | exact HB.out | apply below_alloc | apply pw_below_drewN | apply below_drew1 | refine below_set ?_ GE501.out) | exact HB.out)))); have n3_ := Aside0.mk (Kd.R_lower (Kd.R_new' (Kd.R_new' ho1 (Kd.R_lt (by exact HO_9.out))) (Kd.R_lt (by exact HO_11.out))) (below_size (by repeat (first | (with_reducible first | exact HB.out | apply below_alloc | apply pw_below_drewN | apply below_drew1 | refine below_set ?_ GE501.out) | exact HB.out)))); have n4_ := Aside0.mk (blk_below (g := gb501) (o := .cells #[.bool false, .slice none 0 0, .slice none 0 0] 32 (0, 0)) (by exact BK501.out) hb); have n5_ := Aside0.mk (below_step (by repeat (first | (with_reducible first | exact HB.out | apply below_alloc | apply pw_below_drewN | apply below_drew1 | refine below_set ?_ GE501.out) | exact HB.out)) hb); clear HO_9; clear HO_11; clear BK501; clear HB; have HO_9 := n0_; have HO_11 := n1_; have HO518 := n2_; have HO521 := n3_; have BK501 := n4_; have HB := n5_; clear n0_ n1_ n2_ n3_ n4_ n5_; (try clear hb); (try clear hb2); (try clear hk); (try clear hi); (try clear ho0); (try clear ho1)) | ((with_reducible refine gate_dst (N := 13) rfl ?_); refine box_event ?hg (N := 13) ?hd (cs := #[.bool false, .slice none 0 0, .slice none 0 0]) (t := 32) ?hr ?_; (case hd => rfl); (case hg => rfl); (case hr => first | (go_simp; done) | (go_simp; rfl)); intro gb522 hg w33 hbox hb; have n0_ := Aside0.mk (Kd.R_below (by exact HO_9.out) hb); have n1_ := Aside0.mk (Kd.R_below (by exact HO_11.out) hb); have n2_ := Aside0.mk (Kd.R_below (by exact HO518.out) hb); have n3_ := Aside0.mk (Kd.R_below (by exact HO521.out) hb); have n4_ := Aside0.mk (blk_below (g := gb501) (o := .cells #[.bool false, .slice none 0 0, .slice none 0 0] 32 (0, 0)) (by exact BK501.out) hb); have n5_ := Aside0.mk (below_step (by repeat (first | (with_reducible first | exact HB.out | apply below_alloc | apply pw_below_drewN | apply below_drew1 | refine below_set ?_ GE501.out) | exact HB.out)) hb); have n6_ := Aside0.mk (hbox); have n7_ := Aside0.mk ((by rw [hg]; exact (below_size (by repeat (first | (with_reducible first | exact HB.out | apply below_alloc | apply pw_below_drewN | apply below_drew1 | refine below_set ?_ GE501.out) | exact HB.out))) : w.heap.size ≤ gb522)); have n8_ := Aside0.mk ((by rw [hg]; exact (below_size (by repeat (first | (with_reducible first | exact HB.out | apply below_alloc | apply pw_below_drewN | apply below_drew1 | refine below_set ?_ GE501.out) | exact HB.out))) : w.heap.size ≤ gb522)); have n9_ := Aside0.mk ((by rw [hg]; exact Nat.ne_of_lt (blk_lt (g := gb501) (o := .cells #[.bool false, .slice none 0 0, .slice none 0 0] 32 (0, 0)) (by exact BK501.out)) : gb501 ≠ gb522)); have n10_ := Aside0.mk ((by rw [hg]; exact Nat.ne_of_gt (blk_lt (g := gb501) (o := .cells #[.bool false, .slice none 0 0, .slice none 0 0] 32 (0, 0)) (by exact BK501.out)) : gb522 ≠ gb501)); clear HO_9; clear HO_11; clear HO518; clear HO521; clear BK501; clear HB; have HO_9 := n0_; have HO_11 := n1_; have HO518 := n2_; have HO521 := n3_; have BK501 := n4_; have HB := n5_; have BK522 := n6_; have GW522 := n7_; have GE522 := n8_; have NB501_522 := n9_; have NB522_501 := n10_; clear n0_ n1_ n2_ n3_ n4_ n5_ n6_ n7_ n8_ n9_ n10_; clear hb hbox hg; have hnb34 := NB522_501.out; have hnc34 := NB501_522.out; have hcz35_0 : w33.cell? ⟨gb522, 0, none⟩ = some (.bool false) := (blk_cell BK522.out 0).trans rfl; have hcz35_1 : w33.cell? ⟨gb522, 1, none⟩ = some (.slice none 0 0) := (blk_cell BK522.out 1).trans rfl; have hcz35_2 : w33.cell? ⟨gb522, 2, none⟩ = some (.slice none 0 0) := (blk_cell BK522.out 2).trans rfl; have hfz35_0 := blk_frozen BK522.out 0; have hfz35_1 := blk_frozen BK522.out 1; have hfz35_2 := blk_frozen BK522.out 2; obtain ⟨Ao36, co36, eo36⟩ := Kd.R_slice HO518.out; subst eo36; obtain ⟨Ao37, co37, eo37⟩ := Kd.R_slice HO521.out; subst eo37) | ((with_reducible refine gate_callee (f := 10) rfl ?_); refine goesL_ (some 65) rfl rfl Tryz.func10 (by kernel_rfl) rfl #[.agg #[.bool t515, .slice Ao36 t516.length co36, .slice Ao37 t519.length co37]] rfl (by (try simp only [List.map_toArray, List.map_cons, List.map_nil]); first | done | rfl | (simp only [List.length_drop, List.length_take]; rfl)) ?_; (with_reducible refine (fluxionref04_Rat.calls kj20 t515 _ _ t516 _ _ t519 t523 _ ?side1 ?side2 ?side3 ?side4 A28.out).mono ?_); (case side1 => refine (Kd.R_reads' (e := 3) (base := w.heap.size) (ok := fun k_ => ((some k_ ≠ (.slice Ao37 t519.length co37 : Value).ownBlock ∧ some k_ ≠ (.slice Ao30 t507.length co30 : Value).ownBlock) ∧ some k_ ≠ (.slice Ao31 t511.length co31 : Value).ownBlock)) (n := t516.length) (c := co36) ?_).2.2; exact (by exact (Kd.R_mono (Kd.R_far (p := ⟨gb522, 2, none⟩) (Kd.R_far (p := ⟨gb522, 1, none⟩) (Kd.R_far (p := ⟨gb522, 0, none⟩) (Kd.R_types HO518.out BK522.out (by decide)) (fun _ hk => hk.2) (.bool t515)) (fun _ hk => hk.2) (.slice Ao36 t516.length co36)) (fun _ hk => hk.2) (.slice Ao37 t519.length co37)) (fun _ h_ => h_.1)))); (case side2 => exact (Kd.R_reads' HO518.out).2.1); (case side3 => refine (Kd.R_reads' (e := 3) (base := w.heap.size) (ok := fun k_ => ((some k_ ≠ (.slice Ao36 t516.length co36 : Value).ownBlock ∧ some k_ ≠ (.slice Ao30 t507.length co30 : Value).ownBlock) ∧ some k_ ≠ (.slice Ao31 t511.length co31 : Value).ownBlock)) (n := t519.length) (c := co37) ?_).2.2; exact (by exact (Kd.R_mono (Kd.R_far (p := ⟨gb522, 2, none⟩) (Kd.R_far (p := ⟨gb522, 1, none⟩) (Kd.R_far (p := ⟨gb522, 0, none⟩) (Kd.R_types HO521.out BK522.out (by decide)) (fun _ hk => hk.2) (.bool t515)) (fun _ hk => hk.2) (.slice Ao36 t516.length co36)) (fun _ hk => hk.2) (.slice Ao37 t519.length co37)) (fun _ h_ => h_.1)))); (case side4 => exact (Kd.R_reads' HO521.out).2.1); rintro e w38 ⟨rfl, hb⟩; refine ⟨_, rfl, ?_⟩; have n0_ := Aside0.mk (Kd.R_below (by exact (Kd.R_mono (Kd.R_far (p := ⟨gb522, 2, none⟩) (Kd.R_far (p := ⟨gb522, 1, none⟩) (Kd.R_far (p := ⟨gb522, 0, none⟩) (Kd.R_types HO_9.out BK522.out (by decide)) (fun _ hk => hk.2) (.bool t515)) (fun _ hk => hk.2) (.slice Ao36 t516.length co36)) (fun _ hk => hk.2) (.slice Ao37 t519.length co37)) (fun _ h_ => h_.1))) hb); have n1_ := Aside0.mk (Kd.R_below (by exact (Kd.R_mono (Kd.R_far (p := ⟨gb522, 2, none⟩) (Kd.R_far (p := ⟨gb522, 1, none⟩) (Kd.R_far (p := ⟨gb522, 0, none⟩) (Kd.R_types HO_11.out BK522.out (by decide)) (fun _ hk => hk.2) (.bool t515)) (fun _ hk => hk.2) (.slice Ao36 t516.length co36)) (fun _ hk => hk.2) (.slice Ao37 t519.length co37)) (fun _ h_ => h_.1))) hb); have n2_ := Aside0.mk (Kd.R_below (by exact (Kd.R_mono (Kd.R_far (p := ⟨gb522, 2, none⟩) (Kd.R_far (p := ⟨gb522, 1, none⟩) (Kd.R_far (p := ⟨gb522, 0, none⟩) (Kd.R_types HO518.out BK522.out (by decide)) (fun _ hk => hk.2) (.bool t515)) (fun _ hk => hk.2) (.slice Ao36 t516.length co36)) (fun _ hk => hk.2) (.slice Ao37 t519.length co37)) (fun _ h_ => h_.1))) hb); have n3_ := Aside0.mk (Kd.R_below (by exact (Kd.R_mono (Kd.R_far (p := ⟨gb522, 2, none⟩) (Kd.R_far (p := ⟨gb522, 1, none⟩) (Kd.R_far (p := ⟨gb522, 0, none⟩) (Kd.R_types HO521.out BK522.out (by decide)) (fun _ hk => hk.2) (.bool t515)) (fun _ hk => hk.2) (.slice Ao36 t516.length co36)) (fun _ hk => hk.2) (.slice Ao37 t519.length co37)) (fun _ h_ => h_.1))) hb); have n4_ := Aside0.mk (blk_below (g := gb501) (o := .cells #[.bool false, .slice none 0 0, .slice none 0 0] 32 (0, 0)) (by refine blk_far ?_ NB501_522.out _; refine blk_far ?_ NB501_522.out _; refine blk_far ?_ NB501_522.out _; exact BK501.out) hb); have n5_ := Aside0.mk (blk_below (g := gb522) (o := .cells #[.bool t515, .slice Ao36 t516.length co36, .slice Ao37 t519.length co37] 32 (0, 0)) (by refine blk_put (cs := #[.bool t515, .slice Ao36 t516.length co36, .slice none 0 0]) ?_ 2 _ rfl; refine blk_put (cs := #[.bool t515, .slice none 0 0, .slice none 0 0]) ?_ 1 _ rfl; refine blk_put (cs := #[.bool false, .slice none 0 0, .slice none 0 0]) ?_ 0 _ rfl; exact BK522.out) hb); have n6_ := Aside0.mk (below_step (by repeat (first | (with_reducible first | exact HB.out | apply below_alloc | apply pw_below_drewN | apply below_drew1 | refine below_set ?_ GE501.out | refine below_set ?_ GE522.out) | exact HB.out)) hb); clear HO_9; clear HO_11; clear HO518; clear HO521; clear BK501; clear BK522; clear HB; have HO_9 := n0_; have HO_11 := n1_; have HO518 := n2_; have HO521 := n3_; have BK501 := n4_; have BK522 := n5_; have HB := n6_; clear n0_ n1_ n2_ n3_ n4_ n5_ n6_; (try clear hb); (try clear hb2); (try clear hk); (try clear hi); have hcz39_0 : w38.cell? ⟨gb522, 0, none⟩ = some (.bool t515) := (blk_cell BK522.out 0).trans rfl; have hcz39_1 : w38.cell? ⟨gb522, 1, none⟩ = some (.slice Ao36 t516.length co36) := (blk_cell BK522.out 1).trans rfl; have hcz39_2 : w38.cell? ⟨gb522, 2, none⟩ = some (.slice Ao37 t519.length co37) := (blk_cell BK522.out 2).trans rfl; have hfz39_0 := blk_frozen BK522.out 0; have hfz39_1 := blk_frozen BK522.out 1; have hfz39_2 := blk_frozen BK522.out 2; have hcz40_0 : w38.cell? ⟨gb501, 0, none⟩ = some (.bool false) := (blk_cell BK501.out 0).trans rfl; have hcz40_1 : w38.cell? ⟨gb501, 1, none⟩ = some (.slice none 0 0) := (blk_cell BK501.out 1).trans rfl; have hcz40_2 : w38.cell? ⟨gb501, 2, none⟩ = some (.slice none 0 0) := (blk_cell BK501.out 2).trans rfl; have hfz40_0 := blk_frozen BK501.out 0; have hfz40_1 := blk_frozen BK501.out 1; have hfz40_2 := blk_frozen BK501.out 2))
                            refine bodyPost_ret (results_ct rfl _ _ gb501 32 #[.bool t515, .slice Ao36 t516.length co36, .slice Ao37 t519.length co37] (0, 0) _ rfl (by refine blk_put (cs := #[.bool t515, .slice Ao36 t516.length co36, .slice none 0 0]) ?_ 2 _ rfl; refine blk_put (cs := #[.bool t515, .slice none 0 0, .slice none 0 0]) ?_ 1 _ rfl; refine blk_put (cs := #[.bool false, .slice none 0 0, .slice none 0 0]) ?_ 0 _ rfl; exact BK501.out) Tryz.underlying32 rfl (by kernel_rfl)) rfl ?_
                            exact ⟨_, _, by first | rfl | (simp [errW_none, errW_some] <;> rfl) | (simp [*, errW_none, errW_some] <;> rfl), by exact Kd.R_mono (Kd.R_far (p := ⟨gb501, 2, none⟩) (Kd.R_far (p := ⟨gb501, 1, none⟩) (Kd.R_far (p := ⟨gb501, 0, none⟩) (Kd.R_types HO518.out BK501.out (by decide)) (fun _ hk => hk.2) (.bool t515)) (fun _ hk => hk.2) (.slice Ao36 t516.length co36)) (fun _ hk => hk.2) (.slice Ao37 t519.length co37)) (fun _ hk => hk.1.1.1), by exact Kd.R_mono (Kd.R_far (p := ⟨gb501, 2, none⟩) (Kd.R_far (p := ⟨gb501, 1, none⟩) (Kd.R_far (p := ⟨gb501, 0, none⟩) (Kd.R_types HO521.out BK501.out (by decide)) (fun _ hk => hk.2) (.bool t515)) (fun _ hk => hk.2) (.slice Ao36 t516.length co36)) (fun _ hk => hk.2) (.slice Ao37 t519.length co37)) (fun _ hk => hk.1.1.1), by repeat (first | (with_reducible first | exact HB.out | apply below_alloc | apply pw_below_drewN | apply below_drew1 | refine below_set ?_ GE501.out | refine below_set ?_ GE522.out) | exact HB.out)⟩
                          · rw [if_neg c29] at H
                            have c29b0 : (t523.toList == a0.toList) = false := beq_eq_false_iff_ne.mpr c29
                            have c29b1 : (t523.toList != a0.toList) = true := bne_iff_ne.mpr c29
                            simp only [Option.some.injEq, Prod.mk.injEq] at H
                            obtain ⟨rfl, rfl, rfl, rfl⟩ := H
                            obtain ⟨Ao41, co41, eo41⟩ := Kd.R_slice HO_9.out
                            subst eo41
                            obtain ⟨Ao42, co42, eo42⟩ := Kd.R_slice HO_11.out
                            subst eo42
                            go_wp2_with (first | ((with_reducible refine gate_callee (f := 33) rfl ?_); refine goesL_ (some 63) rfl rfl Tryz.func33 (by kernel_rfl) rfl #[.bool x4_1, .slice Ao41 t507.length co41, .slice Ao42 t511.length co42] rfl (by (try simp only [List.map_toArray, List.map_cons, List.map_nil]); first | done | rfl | (simp only [List.length_drop, List.length_take]; rfl)) ?_; (with_reducible refine (fluxionref03_Make.calls kj20 x4_1 _ _ t507 _ _ t511 t515 t516 t519 _ ?side1 ?side2 ?side3 ?side4 A27.out).mono ?_); (case side1 => repeat (first | exact (Kd.R_reads' HO_9.out).2.2 | (with_reducible refine Kd.C_alloc ?_ _) | (with_reducible refine Kd.C_drewN ?_ _) | (with_reducible refine Kd.C_drew ?_))); (case side2 => exact (Kd.R_reads' HO_9.out).2.1); (case side3 => repeat (first | exact (Kd.R_reads' HO_11.out).2.2 | (with_reducible refine Kd.C_alloc ?_ _) | (with_reducible refine Kd.C_drewN ?_ _) | (with_reducible refine Kd.C_drew ?_))); (case side4 => exact (Kd.R_reads' HO_11.out).2.1); rintro e w43 ⟨v517, v520, rfl, ho0, ho1, hb⟩; refine ⟨_, rfl, ?_⟩; have n0_ := Aside0.mk (Kd.R_mono (Kd.R_told (Kd.R_told (Kd.R_old (by exact HO_9.out) hb) (Kd.R_base ho0)) (Kd.R_base ho1)) (fun _ h_ => h_.1)); have n1_ := Aside0.mk (Kd.R_mono (Kd.R_told (Kd.R_told (Kd.R_old (by exact HO_11.out) hb) (Kd.R_base ho0)) (Kd.R_base ho1)) (fun _ h_ => h_.1)); have n2_ := Aside0.mk (Kd.R_lower (Kd.R_new' (Kd.R_new' ho0 (Kd.R_lt (by exact HO_9.out))) (Kd.R_lt (by exact HO_11.out))) (below_size (by repeat (first | (with_reducible first | exact HB.out | apply below_alloc | apply pw_below_drewN | apply below_drew1 | refine below_set ?_ GE501.out) | exact HB.out)))); have n3_ := Aside0.mk (Kd.R_lower (Kd.R_new' (Kd.R_new' ho1 (Kd.R_lt (by exact HO_9.out))) (Kd.R_lt (by exact HO_11.out))) (below_size (by repeat (first | (with_reducible first | exact HB.out | apply below_alloc | apply pw_below_drewN | apply below_drew1 | refine below_set ?_ GE501.out) | exact HB.out)))); have n4_ := Aside0.mk (blk_below (g := gb501) (o := .cells #[.bool false, .slice none 0 0, .slice none 0 0] 32 (0, 0)) (by exact BK501.out) hb); have n5_ := Aside0.mk (below_step (by repeat (first | (with_reducible first | exact HB.out | apply below_alloc | apply pw_below_drewN | apply below_drew1 | refine below_set ?_ GE501.out) | exact HB.out)) hb); clear HO_9; clear HO_11; clear BK501; clear HB; have HO_9 := n0_; have HO_11 := n1_; have HO518 := n2_; have HO521 := n3_; have BK501 := n4_; have HB := n5_; clear n0_ n1_ n2_ n3_ n4_ n5_; (try clear hb); (try clear hb2); (try clear hk); (try clear hi); (try clear ho0); (try clear ho1)) | ((with_reducible refine gate_dst (N := 13) rfl ?_); refine box_event ?hg (N := 13) ?hd (cs := #[.bool false, .slice none 0 0, .slice none 0 0]) (t := 32) ?hr ?_; (case hd => rfl); (case hg => rfl); (case hr => first | (go_simp; done) | (go_simp; rfl)); intro gb522 hg w44 hbox hb; have n0_ := Aside0.mk (Kd.R_below (by exact HO_9.out) hb); have n1_ := Aside0.mk (Kd.R_below (by exact HO_11.out) hb); have n2_ := Aside0.mk (Kd.R_below (by exact HO518.out) hb); have n3_ := Aside0.mk (Kd.R_below (by exact HO521.out) hb); have n4_ := Aside0.mk (blk_below (g := gb501) (o := .cells #[.bool false, .slice none 0 0, .slice none 0 0] 32 (0, 0)) (by exact BK501.out) hb); have n5_ := Aside0.mk (below_step (by repeat (first | (with_reducible first | exact HB.out | apply below_alloc | apply pw_below_drewN | apply below_drew1 | refine below_set ?_ GE501.out) | exact HB.out)) hb); have n6_ := Aside0.mk (hbox); have n7_ := Aside0.mk ((by rw [hg]; exact (below_size (by repeat (first | (with_reducible first | exact HB.out | apply below_alloc | apply pw_below_drewN | apply below_drew1 | refine below_set ?_ GE501.out) | exact HB.out))) : w.heap.size ≤ gb522)); have n8_ := Aside0.mk ((by rw [hg]; exact (below_size (by repeat (first | (with_reducible first | exact HB.out | apply below_alloc | apply pw_below_drewN | apply below_drew1 | refine below_set ?_ GE501.out) | exact HB.out))) : w.heap.size ≤ gb522)); have n9_ := Aside0.mk ((by rw [hg]; exact Nat.ne_of_lt (blk_lt (g := gb501) (o := .cells #[.bool false, .slice none 0 0, .slice none 0 0] 32 (0, 0)) (by exact BK501.out)) : gb501 ≠ gb522)); have n10_ := Aside0.mk ((by rw [hg]; exact Nat.ne_of_gt (blk_lt (g := gb501) (o := .cells #[.bool false, .slice none 0 0, .slice none 0 0] 32 (0, 0)) (by exact BK501.out)) : gb522 ≠ gb501)); clear HO_9; clear HO_11; clear HO518; clear HO521; clear BK501; clear HB; have HO_9 := n0_; have HO_11 := n1_; have HO518 := n2_; have HO521 := n3_; have BK501 := n4_; have HB := n5_; have BK522 := n6_; have GW522 := n7_; have GE522 := n8_; have NB501_522 := n9_; have NB522_501 := n10_; clear n0_ n1_ n2_ n3_ n4_ n5_ n6_ n7_ n8_ n9_ n10_; clear hb hbox hg; have hnb45 := NB522_501.out; have hnc45 := NB501_522.out; have hcz46_0 : w44.cell? ⟨gb522, 0, none⟩ = some (.bool false) := (blk_cell BK522.out 0).trans rfl; have hcz46_1 : w44.cell? ⟨gb522, 1, none⟩ = some (.slice none 0 0) := (blk_cell BK522.out 1).trans rfl; have hcz46_2 : w44.cell? ⟨gb522, 2, none⟩ = some (.slice none 0 0) := (blk_cell BK522.out 2).trans rfl; have hfz46_0 := blk_frozen BK522.out 0; have hfz46_1 := blk_frozen BK522.out 1; have hfz46_2 := blk_frozen BK522.out 2; obtain ⟨Ao47, co47, eo47⟩ := Kd.R_slice HO518.out; subst eo47; obtain ⟨Ao48, co48, eo48⟩ := Kd.R_slice HO521.out; subst eo48) | ((with_reducible refine gate_callee (f := 10) rfl ?_); refine goesL_ (some 65) rfl rfl Tryz.func10 (by kernel_rfl) rfl #[.agg #[.bool t515, .slice Ao47 t516.length co47, .slice Ao48 t519.length co48]] rfl (by (try simp only [List.map_toArray, List.map_cons, List.map_nil]); first | done | rfl | (simp only [List.length_drop, List.length_take]; rfl)) ?_; (with_reducible refine (fluxionref04_Rat.calls kj20 t515 _ _ t516 _ _ t519 t523 _ ?side1 ?side2 ?side3 ?side4 A28.out).mono ?_); (case side1 => refine (Kd.R_reads' (e := 3) (base := w.heap.size) (ok := fun k_ => ((some k_ ≠ (.slice Ao48 t519.length co48 : Value).ownBlock ∧ some k_ ≠ (.slice Ao41 t507.length co41 : Value).ownBlock) ∧ some k_ ≠ (.slice Ao42 t511.length co42 : Value).ownBlock)) (n := t516.length) (c := co47) ?_).2.2; exact (by exact (Kd.R_mono (Kd.R_far (p := ⟨gb522, 2, none⟩) (Kd.R_far (p := ⟨gb522, 1, none⟩) (Kd.R_far (p := ⟨gb522, 0, none⟩) (Kd.R_types HO518.out BK522.out (by decide)) (fun _ hk => hk.2) (.bool t515)) (fun _ hk => hk.2) (.slice Ao47 t516.length co47)) (fun _ hk => hk.2) (.slice Ao48 t519.length co48)) (fun _ h_ => h_.1)))); (case side2 => exact (Kd.R_reads' HO518.out).2.1); (case side3 => refine (Kd.R_reads' (e := 3) (base := w.heap.size) (ok := fun k_ => ((some k_ ≠ (.slice Ao47 t516.length co47 : Value).ownBlock ∧ some k_ ≠ (.slice Ao41 t507.length co41 : Value).ownBlock) ∧ some k_ ≠ (.slice Ao42 t511.length co42 : Value).ownBlock)) (n := t519.length) (c := co48) ?_).2.2; exact (by exact (Kd.R_mono (Kd.R_far (p := ⟨gb522, 2, none⟩) (Kd.R_far (p := ⟨gb522, 1, none⟩) (Kd.R_far (p := ⟨gb522, 0, none⟩) (Kd.R_types HO521.out BK522.out (by decide)) (fun _ hk => hk.2) (.bool t515)) (fun _ hk => hk.2) (.slice Ao47 t516.length co47)) (fun _ hk => hk.2) (.slice Ao48 t519.length co48)) (fun _ h_ => h_.1)))); (case side4 => exact (Kd.R_reads' HO521.out).2.1); rintro e w49 ⟨rfl, hb⟩; refine ⟨_, rfl, ?_⟩; have n0_ := Aside0.mk (Kd.R_below (by exact (Kd.R_mono (Kd.R_far (p := ⟨gb522, 2, none⟩) (Kd.R_far (p := ⟨gb522, 1, none⟩) (Kd.R_far (p := ⟨gb522, 0, none⟩) (Kd.R_types HO_9.out BK522.out (by decide)) (fun _ hk => hk.2) (.bool t515)) (fun _ hk => hk.2) (.slice Ao47 t516.length co47)) (fun _ hk => hk.2) (.slice Ao48 t519.length co48)) (fun _ h_ => h_.1))) hb); have n1_ := Aside0.mk (Kd.R_below (by exact (Kd.R_mono (Kd.R_far (p := ⟨gb522, 2, none⟩) (Kd.R_far (p := ⟨gb522, 1, none⟩) (Kd.R_far (p := ⟨gb522, 0, none⟩) (Kd.R_types HO_11.out BK522.out (by decide)) (fun _ hk => hk.2) (.bool t515)) (fun _ hk => hk.2) (.slice Ao47 t516.length co47)) (fun _ hk => hk.2) (.slice Ao48 t519.length co48)) (fun _ h_ => h_.1))) hb); have n2_ := Aside0.mk (Kd.R_below (by exact (Kd.R_mono (Kd.R_far (p := ⟨gb522, 2, none⟩) (Kd.R_far (p := ⟨gb522, 1, none⟩) (Kd.R_far (p := ⟨gb522, 0, none⟩) (Kd.R_types HO518.out BK522.out (by decide)) (fun _ hk => hk.2) (.bool t515)) (fun _ hk => hk.2) (.slice Ao47 t516.length co47)) (fun _ hk => hk.2) (.slice Ao48 t519.length co48)) (fun _ h_ => h_.1))) hb); have n3_ := Aside0.mk (Kd.R_below (by exact (Kd.R_mono (Kd.R_far (p := ⟨gb522, 2, none⟩) (Kd.R_far (p := ⟨gb522, 1, none⟩) (Kd.R_far (p := ⟨gb522, 0, none⟩) (Kd.R_types HO521.out BK522.out (by decide)) (fun _ hk => hk.2) (.bool t515)) (fun _ hk => hk.2) (.slice Ao47 t516.length co47)) (fun _ hk => hk.2) (.slice Ao48 t519.length co48)) (fun _ h_ => h_.1))) hb); have n4_ := Aside0.mk (blk_below (g := gb501) (o := .cells #[.bool false, .slice none 0 0, .slice none 0 0] 32 (0, 0)) (by refine blk_far ?_ NB501_522.out _; refine blk_far ?_ NB501_522.out _; refine blk_far ?_ NB501_522.out _; exact BK501.out) hb); have n5_ := Aside0.mk (blk_below (g := gb522) (o := .cells #[.bool t515, .slice Ao47 t516.length co47, .slice Ao48 t519.length co48] 32 (0, 0)) (by refine blk_put (cs := #[.bool t515, .slice Ao47 t516.length co47, .slice none 0 0]) ?_ 2 _ rfl; refine blk_put (cs := #[.bool t515, .slice none 0 0, .slice none 0 0]) ?_ 1 _ rfl; refine blk_put (cs := #[.bool false, .slice none 0 0, .slice none 0 0]) ?_ 0 _ rfl; exact BK522.out) hb); have n6_ := Aside0.mk (below_step (by repeat (first | (with_reducible first | exact HB.out | apply below_alloc | apply pw_below_drewN | apply below_drew1 | refine below_set ?_ GE501.out | refine below_set ?_ GE522.out) | exact HB.out)) hb); clear HO_9; clear HO_11; clear HO518; clear HO521; clear BK501; clear BK522; clear HB; have HO_9 := n0_; have HO_11 := n1_; have HO518 := n2_; have HO521 := n3_; have BK501 := n4_; have BK522 := n5_; have HB := n6_; clear n0_ n1_ n2_ n3_ n4_ n5_ n6_; (try clear hb); (try clear hb2); (try clear hk); (try clear hi); have hcz50_0 : w49.cell? ⟨gb501, 0, none⟩ = some (.bool false) := (blk_cell BK501.out 0).trans rfl; have hcz50_1 : w49.cell? ⟨gb501, 1, none⟩ = some (.slice none 0 0) := (blk_cell BK501.out 1).trans rfl; have hcz50_2 : w49.cell? ⟨gb501, 2, none⟩ = some (.slice none 0 0) := (blk_cell BK501.out 2).trans rfl; have hfz50_0 := blk_frozen BK501.out 0; have hfz50_1 := blk_frozen BK501.out 1; have hfz50_2 := blk_frozen BK501.out 2))
                            refine bodyPost_ret (results_ct rfl _ _ gb501 32 #[.bool false, .slice none 0 0, .slice none 0 0] (0, 0) _ rfl (by refine blk_put (cs := #[.bool false, .slice none 0 0, .slice none 0 0]) ?_ 2 _ rfl; refine blk_put (cs := #[.bool false, .slice none 0 0, .slice none 0 0]) ?_ 1 _ rfl; refine blk_put (cs := #[.bool false, .slice none 0 0, .slice none 0 0]) ?_ 0 _ rfl; exact BK501.out) Tryz.underlying32 rfl (by kernel_rfl)) rfl ?_
                            exact ⟨_, _, by first | rfl | (simp [errW_none, errW_some] <;> rfl) | (simp [*, errW_none, errW_some] <;> rfl), by first | exact Kd.R_nil _ _ _ _ _ | exact Kd.N_nil _ _ _ _ _ | exact Kd.V_nil _ _ _ _ _ | exact Kd.Q_nil _ _ _ _ _ | exact Kd.S_nil _ _ _ _ _, by first | exact Kd.R_nil _ _ _ _ _ | exact Kd.N_nil _ _ _ _ _ | exact Kd.V_nil _ _ _ _ _ | exact Kd.Q_nil _ _ _ _ _ | exact Kd.S_nil _ _ _ _ _, by repeat (first | (with_reducible first | exact HB.out | apply below_alloc | apply pw_below_drewN | apply below_drew1 | refine below_set ?_ GE501.out | refine below_set ?_ GE522.out) | exact HB.out)⟩

end Go.Proofs.YtpncflaoikeidaaGreatDoor.P
namespace Go.Proofs.YtpncflaoikeidaaGreatDoor.H
open Go.RowKit Go.Lib Go.Proofs.YtpncflaoikeidaaGreatDoorW.PrintWords Go.Proofs.YtpncflaoikeidaaGreatDoorW.PrintLast Go.Proofs.YtpncflaoikeidaaGreatDoorW.PrintMore Go.Proofs.YtpncflaoikeidaaGreatDoor.P
theorem notbig_limbs {n : Nat} (h : ¬ big n = true) : (limbs n).length ≤ 32 := Nat.le_of_not_lt fun hc => h ((big_len n).2 hc)
theorem notbig_c4 {n : Nat} (h : ¬ big n = true) : (c4 n).length ≤ 96 := by
  have h1 := notbig_limbs h
  have h2 := nval_lt (okl_limbs n)
  rw [nval_limbs] at h2
  have h3 := c4_limbs h2
  clear h2
  omega
theorem j4_f (s : ByteArray) (neg : Bool) (a b k : Nat) (ha : (c4 a).length ≤ 96) (hb : (c4 b).length ≤ 96) (hk : 5002600000 + b ≤ k) :
    fluxionref04_ParseRat.j4 (k + 1) s neg (c4 a) (c4 b) false = some (if ratT (redN neg a b) = s.data.toList then ((redN neg a b).1, c4 (redN neg a b).2.1, c4 (redN neg a b).2.2, 0) else (false, c4 0, c4 0, 6)) := by
  obtain ⟨c1, c2⟩ := c4_red_len neg a b (m := 100) (by omega) (by omega) (by decide)
  rw [fluxionref04_ParseRat.j4, if_neg (by decide), make2_f neg a b k (by omega) (by omega) (by omega), Option.bind_some]
  simp only
  rw [refRat_f _ _ _ _ (by omega) (by omega) (by omega), Option.bind_some, bytes_list, toList_data, c4_zero]
  by_cases h : ratT (redN neg a b) = s.data.toList
  · rw [if_pos h, if_pos h]
  · rw [if_neg h, if_neg h]
theorem j4_bad (s : ByteArray) (neg : Bool) (x y : List Int) (k : Nat) : fluxionref04_ParseRat.j4 (k + 1) s neg x y true = some (false, c4 0, c4 0, 14) := by
  rw [fluxionref04_ParseRat.j4, if_pos rfl, c4_zero]
theorem j3_f (s : ByteArray) (neg : Bool) (x y : List UInt8) (k Kb : Nat) (hx : x.length < 5000000000) (hy : y.length < 5000000000) (n1 : natB x = true) (n2 : natB y = true) (hK : ∀ n, ¬ big n = true → n < Kb) (hk : 5002600000 + Kb ≤ k) :
    fluxionref04_ParseRat.j3 (k + 2) s neg ⟨x.toArray⟩ ⟨y.toArray⟩ false = some (if (big (dv x) || big (dv y)) = true then (false, c4 0, c4 0, 14) else if ratT (redN neg (dv x) (dv y)) = s.data.toList then ((redN neg (dv x) (dv y)).1, c4 (redN neg (dv x) (dv y)).2.1, c4 (redN neg (dv x) (dv y)).2.2, 0) else (false, c4 0, c4 0, 6)) := by
  have r1 := refParseNat_f ⟨x.toArray⟩ (k + 1) hx (by omega)
  have r2 := refParseNat_f ⟨y.toArray⟩ (k + 1) hy (by omega)
  rw [bytes_data] at r1 r2
  rw [fluxionref04_ParseRat.j3, if_neg (by decide), r1, Option.bind_some, r2, Option.bind_some]
  unfold PN
  rw [if_pos n1, if_pos n2]
  by_cases b1 : big (dv x) = true
  · rw [if_pos b1, b1, Bool.true_or, if_pos rfl]
    simp only
    rw [if_neg (by decide), j4_bad]
  · have b1' : big (dv x) = false := by simpa using b1
    rw [if_neg b1, b1', Bool.false_or]
    simp only
    by_cases b2 : big (dv y) = true
    · rw [if_pos trivial, if_pos b2, if_pos b2]
      exact j4_bad _ _ _ _ _
    · rw [if_pos trivial, if_neg b2, if_neg b2]
      have := hK _ b2
      exact j4_f s neg _ _ k (notbig_c4 b1) (notbig_c4 b2) (by omega)
theorem refParseRat_f (s : ByteArray) (k Kb : Nat) (hz : s.size < 4294967281) (hK : ∀ n, ¬ big n = true → n < Kb) (hk : 5002600010 + Kb ≤ k) :
    fluxionref04_ParseRat.f k s = some ((PR s.data.toList).1.1, c4 (PR s.data.toList).1.2.1, c4 (PR s.data.toList).1.2.2, (PR s.data.toList).2) := by
  obtain ⟨k, rfl⟩ : ∃ k2, k = k2 + 5 := ⟨k - 5, by omega⟩
  have hs := size_len s
  have hrl := restB_len s.data.toList
  have h0 : fluxionref04_ParseRat.f (k + 5) s = fluxionref04_ParseRat.j0 (k + 5) s (negB s.data.toList) := by
    unfold fluxionref04_ParseRat.f
    by_cases h : 0 < s.size
    · rw [if_pos (by omega), if_pos (by omega)]
      congr 1
      cases hl : s.data.toList with
      | nil => rw [hl] at hs; simp at hs; omega
      | cons c m =>
        have e : s = ⟨(c :: m).toArray⟩ := by rw [bytes_of s, hl]
        have hb : bt s 0 = (c.toNat : Int) := by
          rw [e]; exact bt_list (l := c :: m) (i := 0) (by simp)
        rw [hb]
        unfold negB
        rw [List.head?_cons, Bool.eq_iff_iff, beq_iff_eq, beq_iff_eq, Option.some.injEq]
        constructor
        · intro h; exact UInt8.toNat_inj.1 (by have : (45 : UInt8).toNat = 45 := rfl; omega)
        · intro h; rw [h]; rfl
    · rw [if_neg (by omega)]
      have : s.data.toList = [] := List.eq_nil_of_length_eq_zero (by omega)
      rw [this]; rfl
  have h1 : fluxionref04_ParseRat.j0 (k + 5) s (negB s.data.toList) = fluxionref04_ParseRat.j1 (k + 4) s (negB s.data.toList) ⟨(restB s.data.toList).toArray⟩ := by
    rw [fluxionref04_ParseRat.j0]
    unfold restB
    by_cases h : negB s.data.toList = true
    · have hp : 0 < s.data.toList.length := by
        cases hl : s.data.toList with
        | nil => rw [hl] at h; cases h
        | cons c m => simp
      rw [if_pos h, if_pos h, if_pos (by omega), bytes_of (s.extract 1 s.size), ext_tail]
    · rw [if_neg h, if_neg h, ← bytes_of s]
  have hc := refCut_f ⟨(restB s.data.toList).toArray⟩ (k + 3) (by rw [bytes_size]; omega) (by rw [bytes_size]; omega)
  rw [bytes_data] at hc
  have hcb := cutB_back (restB s.data.toList)
  rw [h0, h1, fluxionref04_ParseRat.j1, hc, Option.bind_some]
  unfold PR
  obtain ⟨neg, hneg⟩ : ∃ neg, negB s.data.toList = neg := ⟨_, rfl⟩
  obtain ⟨rest, hrest⟩ : ∃ rest, restB s.data.toList = rest := ⟨_, rfl⟩
  rw [hneg, hrest]
  rw [hrest] at hcb hrl
  clear h0 h1 hc
  obtain ⟨c, hcc⟩ : ∃ c, cutB rest = c := ⟨_, rfl⟩
  rw [hcc] at hcb ⊢
  have l1 : c.1.length ≤ rest.length := by
    have := congrArg List.length hcb
    rw [List.length_append] at this; omega
  have l2 : (denB c).length ≤ rest.length + 1 := by
    have := congrArg List.length hcb
    unfold denB
    by_cases h : c.2.2 = true
    · rw [if_pos h]
      rw [if_pos h, List.length_append, List.length_cons] at this; omega
    · rw [if_neg h]; simp
  have h2 : (if c.2.2 = true then fluxionref04_ParseRat.j2 (k + 3) s neg ⟨c.1.toArray⟩ ⟨c.2.1.toArray⟩ else fluxionref04_ParseRat.j2 (k + 3) s neg ⟨c.1.toArray⟩ ⟨#[49]⟩) = fluxionref04_ParseRat.j2 (k + 3) s neg ⟨c.1.toArray⟩ ⟨(denB c).toArray⟩ := by
    unfold denB
    by_cases h : c.2.2 = true
    · rw [if_pos h, if_pos h]
    · rw [if_neg h, if_neg h]
  simp only
  rw [h2]
  obtain ⟨y, hy⟩ : ∃ y, denB c = y := ⟨_, rfl⟩
  rw [hy] at l2 ⊢
  have r1 := refNatural_f ⟨c.1.toArray⟩ (k + 2) (by rw [bytes_size]; omega) (by rw [bytes_size]; omega)
  have r2 := refNatural_f ⟨y.toArray⟩ (k + 2) (by rw [bytes_size]; omega) (by rw [bytes_size]; omega)
  rw [bytes_data] at r1 r2
  have bad : fluxionref04_ParseRat.j3 (k + 2) s neg ⟨c.1.toArray⟩ ⟨y.toArray⟩ true = some (false, c4 0, c4 0, 19) := by
    rw [fluxionref04_ParseRat.j3, if_pos rfl, c4_zero]
  rw [fluxionref04_ParseRat.j2, r1, Option.bind_some]
  by_cases n1 : natB c.1 = true
  · rw [if_pos n1, r2, Option.bind_some, n1, Bool.true_and]
    by_cases n2 : natB y = true
    · rw [n2, Bool.not_true, if_pos rfl, j3_f s neg c.1 y k Kb (by omega) (by omega) n1 n2 hK (by omega)]
      congr 1
      by_cases hb : (big (dv c.1) || big (dv y)) = true
      · rw [if_pos hb, if_pos hb]
      · rw [if_neg hb, if_neg hb]
        by_cases ht : ratT (redN neg (dv c.1) (dv y)) = s.data.toList
        · rw [if_pos ht, if_pos ht]
        · rw [if_neg ht, if_neg ht]
    · have n2' : natB y = false := by simpa using n2
      rw [n2', Bool.not_false, bad, if_neg (by decide)]
  · rw [if_neg n1, bad]
    have n1' : natB c.1 = false := by simpa using n1
    rw [n1', Bool.false_and, if_neg (by decide)]
end Go.Proofs.YtpncflaoikeidaaGreatDoor.H
namespace Go.Proofs.YtpncflaoikeidaaGreatDoor.P
open Go.RowKit Go.Proofs.YtpncflaoikeidaaGreatDoorW.PrintWords Go.Proofs.YtpncflaoikeidaaGreatDoorW.PrintLast Go.Proofs.YtpncflaoikeidaaGreatDoorW.PrintMore
attribute [local go_sem] max2_int max_two
set_option linter.unusedVariables false
set_option linter.unusedSimpArgs false
mutual
def fluxionlaw04_DigitsBack.j0 : Nat → List Int → ByteArray → Bool → Bool → List Int → List Int → Option (Bool)
  | 0, _, _, _, _, _, _ => none
  | k + 1, x0, x2, x29, x558000, x558001, x558002 => if x29 = true then ((fluxionlaw04_known.f k).bind fun t558 => (some t558)) else ((digits_Nat.f x0).bind fun t559 => ((digits_ParseNat.f t559).bind fun bt560 => ((fluxionref01_Of.f k x0).bind fun t564 => ((fluxionref01_Bits.f k t564).bind fun t567 => (if t567 > 1024 then (if bt560.2 = 14 then (if (bt560.1.length : Int) = 0 then (fluxionlaw04_DigitsBack.j1 k x2 x558000 x558001 x558002) else (some false)) else (some false)) else (if bt560.2 = 0 then ((fluxionref01_Of.f k x0).bind fun t568 => ((fluxionref01_Is.f k t568 bt560.1).bind fun t571 => (if t571 = true then (fluxionlaw04_DigitsBack.j1 k x2 x558000 x558001 x558002) else (some false)))) else (some false)))))))
def fluxionlaw04_DigitsBack.j1 : Nat → ByteArray → Bool → List Int → List Int → Option (Bool)
  | 0, _, _, _, _ => none
  | k + 1, x2, x558000, x558001, x558002 => (digits_Rat.f k x558000 x558001 x558002).bind fun t572 => ((digits_ParseRat.f k t572).bind fun bt573 => (if bt573.2.2.2 = 0 then ((fluxionref03_Of.f k x558000 x558001 x558002).bind fun bt582 => ((fluxionref03_Is.f k bt582.1 bt582.2.1 bt582.2.2 bt573.1 bt573.2.1 bt573.2.2.1).bind fun t589 => (fluxionlaw04_DigitsBack.j2 k x2 (!t589)))) else (fluxionlaw04_DigitsBack.j2 k x2 true)))
def fluxionlaw04_DigitsBack.j2 : Nat → ByteArray → Bool → Option (Bool)
  | 0, _, _ => none
  | k + 1, x2, x71 => if x71 = true then (some false) else ((digits_ParseNat.f x2).bind fun bt590 => (if bt590.2 = 0 then ((digits_Nat.f bt590.1).bind fun t594 => (fluxionlaw04_DigitsBack.j3 k x2 (t594.toList != x2.toList))) else (fluxionlaw04_DigitsBack.j3 k x2 false)))
def fluxionlaw04_DigitsBack.j3 : Nat → ByteArray → Bool → Option (Bool)
  | 0, _, _ => none
  | k + 1, x2, x84 => if x84 = true then (some false) else (if (x2.size : Int) > 120 then ((fluxionlaw04_known.f k).bind fun t595 => (some t595)) else ((digits_ParseRat.f k x2).bind fun bt596 => (if bt596.2.2.2 = 0 then ((digits_Rat.f k bt596.1 bt596.2.1 bt596.2.2.1).bind fun t605 => (if t605.toList = x2.toList then ((fluxionlaw04_known.f k).bind fun t606 => (some t606)) else (some false))) else ((fluxionlaw04_known.f k).bind fun t607 => (some t607)))))
end
def fluxionlaw04_DigitsBack.f (k : Nat) (l0 : List Int) (a1_0 : Bool) (l1_1 : List Int) (l1_2 : List Int) (a2 : ByteArray) : Option (Bool) := if (l0.length : Int) > 40 then (fluxionlaw04_DigitsBack.j0 k l0 a2 true a1_0 l1_1 l1_2) else (if (l1_1.length : Int) > 8 then (fluxionlaw04_DigitsBack.j0 k l0 a2 true a1_0 l1_1 l1_2) else (fluxionlaw04_DigitsBack.j0 k l0 a2 (decide ((l1_2.length : Int) > 8)) a1_0 l1_1 l1_2))
end Go.Proofs.YtpncflaoikeidaaGreatDoor.P
namespace Go.Proofs.YtpncflaoikeidaaGreatDoor.H
open Go.RowKit Go.Lib Go.Proofs.YtpncflaoikeidaaGreatDoorW.PrintWords Go.Proofs.YtpncflaoikeidaaGreatDoorW.PrintLast Go.Proofs.YtpncflaoikeidaaGreatDoorW.PrintMore Go.Proofs.YtpncflaoikeidaaGreatDoor.P
theorem PR_ok {l : List UInt8} (h : (PR l).2 = 0) : ∃ g a b, (PR l).1 = redN g a b ∧ ¬ big a = true ∧ ¬ big b = true := by
  unfold PR at h ⊢
  split
  · rename_i h1
    rw [if_pos h1] at h
    split
    · rename_i h2; rw [if_pos h2] at h; cases h
    · rename_i h2
      rw [if_neg h2] at h
      rw [Bool.or_eq_true] at h2
      split
      · exact ⟨_, _, _, rfl, fun hc => h2 (.inl hc), fun hc => h2 (.inr hc)⟩
      · rename_i h3; rw [if_neg h3] at h; cases h
  · rename_i h1; rw [if_neg h1] at h; cases h
theorem PR_bad {l : List UInt8} (h : (PR l).2 ≠ 0) : (PR l).1 = (false, 0, 0) := by
  unfold PR at h ⊢
  split
  · rename_i h1
    rw [if_pos h1] at h
    split
    · rfl
    · rename_i h2
      rw [if_neg h2] at h
      split
      · rename_i h3; rw [if_pos h3] at h; exact absurd rfl h
      · rfl
  · rfl
theorem red_limbs {m : Nat} (g : Bool) {a b : Nat} (ha : (limbs a).length ≤ m) (hb : (limbs b).length ≤ m) (hm : 0 < m) : (limbs (redN g a b).2.1).length ≤ m ∧ (limbs (redN g a b).2.2).length ≤ m := by
  obtain ⟨q1, q2⟩ := redN_le g a b
  have p1 := limbs_mono q1
  have p2 := limbs_mono q2
  refine ⟨by omega, ?_⟩
  rcases Nat.le_total b 1 with h | h
  · rw [Nat.max_eq_right h] at p2
    have := limbs_length_le 1 1 (by decide)
    omega
  · rw [Nat.max_eq_left h] at p2; omega
end Go.Proofs.YtpncflaoikeidaaGreatDoor.H
namespace Go.Proofs.YtpncflaoikeidaaGreatDoor.P
open Go.RowKit Go.Proofs.YtpncflaoikeidaaGreatDoorW.PrintWords Go.Proofs.YtpncflaoikeidaaGreatDoorW.PrintLast Go.Proofs.YtpncflaoikeidaaGreatDoorW.PrintMore
attribute [local go_sem] max2_int max_two
set_option linter.unusedVariables false
set_option linter.unusedSimpArgs false
def fluxionlaw04_DigitsTexts.j0 : Nat → ByteArray → Bool → Option (Bool)
  | 0, _, _ => none
  | k + 1, x0, x14 => if x14 = true then ((fluxionlaw04_known.f k).bind fun t534 => (some t534)) else ((digits_ParseRat.f k x0).bind fun bt535 => ((fluxionref04_ParseRat.f k x0).bind fun bt544 => (if bt544.2.2.2 = 0 then (if bt535.2.2.2 = 0 then ((fluxionref03_Is.f k bt544.1 bt544.2.1 bt544.2.2.1 bt535.1 bt535.2.1 bt535.2.2.1).bind fun t553 => (if t553 = true then ((fluxionlaw04_known.f k).bind fun t554 => (some t554)) else (some false))) else (some false)) else (if bt535.2.2.2 = bt544.2.2.2 then ((fluxionlaw04_falls.f k x0 bt535.2.2.2).bind fun t555 => (if t555 = true then ((fluxionlaw04_known.f k).bind fun t556 => (some t556)) else (some false))) else (some false)))))
def fluxionlaw04_DigitsTexts.f (k : Nat) (a0 : ByteArray) : Option (Bool) := if (a0.size : Int) > 120 then (fluxionlaw04_DigitsTexts.j0 k a0 (decide ((a0.size : Int) ≤ 800))) else (fluxionlaw04_DigitsTexts.j0 k a0 false)
end Go.Proofs.YtpncflaoikeidaaGreatDoor.P
namespace Go.Proofs.YtpncflaoikeidaaGreatDoor.H
open Go.RowKit Go.Lib Go.Proofs.YtpncflaoikeidaaGreatDoorW.PrintWords Go.Proofs.YtpncflaoikeidaaGreatDoorW.PrintLast Go.Proofs.YtpncflaoikeidaaGreatDoorW.PrintMore Go.Proofs.YtpncflaoikeidaaGreatDoor.P
theorem big_bound : ∃ Kb, ∀ n, ¬ big n = true → n < Kb := by
  refine ⟨4294967296 ^ 32, fun n h => ?_⟩
  have h1 := notbig_limbs h
  have h2 := nval_lt (okl_limbs n)
  rw [nval_limbs] at h2
  exact Nat.lt_of_lt_of_le h2 (Nat.pow_le_pow_right (by decide) h1)
end Go.Proofs.YtpncflaoikeidaaGreatDoor.H
namespace Go.Proofs.YtpncflaoikeidaaGreatDoor.P
open Go.RowKit Go.Lib Go.Proofs.YtpncflaoikeidaaGreatDoorW.PrintWords Go.Proofs.YtpncflaoikeidaaGreatDoorW.PrintLast Go.Proofs.YtpncflaoikeidaaGreatDoorW.PrintMore
set_option maxHeartbeats 1000000 in
set_option maxRecDepth 100000 in
theorem kin2_any (c lo hi : Int) (b1 b2 : Nat) (w : World) (h1 : w.cell? ⟨b1, 0, none⟩ = some (.int .u8 lo)) (h2 : w.cell? ⟨b2, 0, none⟩ = some (.int .u8 hi)) :
    Calls Tryz.prog 144 #[.int .u8 c, .pointer (some ⟨b1, 0, none⟩), .pointer (some ⟨b2, 0, none⟩)] w fun e w' => e = .returned (.bool (decide (lo ≤ c) && decide (c ≤ hi))) ∧ w' = w := by
  by_cases hc : lo ≤ c
  · have d1 : decide (lo ≤ c) = true := decide_eq_true hc
    have d2 : decide (c ≥ lo) = true := decide_eq_true hc
    go_enter Tryz.func144, Tryz.ntmps144
    go_wp2
    go_ret
    exact ⟨by simp [d1], rfl⟩
  · have d1 : decide (lo ≤ c) = false := decide_eq_false hc
    have d2 : decide (c ≥ lo) = false := decide_eq_false hc
    go_enter Tryz.func144, Tryz.ntmps144
    go_wp2
    go_ret
    exact ⟨by simp [d1], rfl⟩
theorem new_at {W : World} {cs : Array Value} {t : TypeId} {n : Nat} (h : n = W.heap.size) : (W.alloc (.cells cs t)).heap[n]? = some (.cells cs t (0, 0)) := by
  subst h; exact heap_alloc_new _ _
set_option maxHeartbeats 1000000 in
set_option maxRecDepth 100000 in
theorem kin1_any (lo hi : Int) (w : World) :
    Calls Tryz.prog 143 #[.int .u8 lo, .int .u8 hi] w fun e w' => e = .returned (.func (.func 144) #[] #[.pointer (some ⟨w.heap.size, 0, none⟩), .pointer (some ⟨w.heap.size + 1, 0, none⟩)]) ∧ w' = (w.alloc (.cells #[.int .u8 lo] 5)).alloc (.cells #[.int .u8 hi] 5) := by
  go_enter Tryz.func143, Tryz.ntmps143
  go_wp2
  go_ret
  exact ⟨rfl, rfl⟩
def IsCl (W : World) (v : Value) (lo hi : Int) : Prop := ∃ b1 b2, v = .func (.func 144) #[] #[.pointer (some ⟨b1, 0, none⟩), .pointer (some ⟨b2, 0, none⟩)] ∧ W.heap[b1]? = some (.cells #[.int .u8 lo] 5 (0, 0)) ∧ W.heap[b2]? = some (.cells #[.int .u8 hi] 5 (0, 0))
set_option maxHeartbeats 1000000 in
set_option maxRecDepth 100000 in
theorem kinds_any (w : World) :
    Calls Tryz.prog 120 #[] w fun e w' => ∃ (g : Nat) (v0 v1 v2 : Value), e = .returned (.slice (some ⟨g, 0, none⟩) 3 3) ∧ w'.heap[g]? = some (.cells #[v0, v1, v2] 149 (0, 0)) ∧ IsCl w' v0 97 122 ∧ IsCl w' v1 48 57 ∧ IsCl w' v2 95 95 ∧ Below w.heap.size w w' := by
  have K1 := Aside0.mk (fun lo hi W => kin1_any lo hi W)
  go_enter Tryz.func120, Tryz.ntmps120
  go_wp2_with (go_at_call 143; with_reducible refine (K1.out _ _ _).mono ?_; rintro e w5 ⟨rfl, rfl⟩)
  go_ret
  refine ⟨_, _, _, _, rfl, new_at (by simp), ⟨_, _, rfl, blk_alloc (blk_alloc (blk_alloc (blk_alloc (blk_alloc (blk_alloc (new_at rfl) _) _) _) _) _) _, blk_alloc (blk_alloc (blk_alloc (blk_alloc (blk_alloc (new_at (by simp)) _) _) _) _) _⟩,
    ⟨_, _, rfl, blk_alloc (blk_alloc (blk_alloc (blk_alloc (new_at (by simp)) _) _) _) _, blk_alloc (blk_alloc (blk_alloc (new_at (by simp)) _) _) _⟩, ⟨_, _, rfl, blk_alloc (blk_alloc (new_at (by simp)) _) _, blk_alloc (new_at (by simp)) _⟩,
    below_alloc (below_alloc (below_alloc (below_alloc (below_alloc (below_alloc (below_alloc (Below.refl _ _) _) _) _) _) _) _) _⟩
theorem cl_any {W : World} {v : Value} {lo hi : Int} (h : IsCl W v lo hi) : ∃ b1 b2, v = .func (.func 144) #[] #[.pointer (some ⟨b1, 0, none⟩), .pointer (some ⟨b2, 0, none⟩)] ∧
    ∀ (c : Int) W', Below W.heap.size W W' → Calls Tryz.prog 144 #[.int .u8 c, .pointer (some ⟨b1, 0, none⟩), .pointer (some ⟨b2, 0, none⟩)] W' fun e w' => e = .returned (.bool (decide (lo ≤ c) && decide (c ≤ hi))) ∧ w' = W' := by
  obtain ⟨b1, b2, e, h1, h2⟩ := h
  exact ⟨b1, b2, e, fun c W' hb => kin2_any c lo hi b1 b2 W' ((blk_cell (blk_below h1 hb) 0).trans rfl) ((blk_cell (blk_below h2 hb) 0).trans rfl)⟩
theorem take_all {l : List UInt8} {i : Nat} (h : i < l.length) (p : UInt8 → Bool) : (l.take (i + 1)).all p = ((l.take i).all p && p (l[i]'h)) := by
  rw [List.take_succ_eq_append_getElem h, List.all_append]
  simp
theorem natB_not {l : List UInt8} {n : Nat} (h : (l.take n).all digB = false) : natB l = false := by
  have : l.all digB = false := by
    rw [← List.take_append_drop n l, List.all_append, h]; rfl
  unfold natB; rw [this]; rfl
/-- lex.natural -/
def lex_natural.f (s : ByteArray) : Option Bool := if s.size ≤ 140737488351232 then some (natB s.data.toList) else none
set_option maxHeartbeats 2000000 in
set_option maxRecDepth 100000 in
theorem lex_natural.calls (a0 : ByteArray) (r : Bool) (w : World) (h : lex_natural.f a0 = some r) :
    Calls Tryz.prog 90 #[.string a0] w fun e w' => e = .returned (.bool r) ∧ Below w.heap.size w w' := by
  unfold lex_natural.f at h
  split at h
  case isFalse => cases h
  case isTrue hsz =>
  obtain rfl := Option.some.inj h
  clear h
  have K := Aside0.mk (fun W => kinds_any W)
  have hlen : a0.data.toList.length = a0.size := by rw [Array.length_toList]; rfl
  obtain ⟨l, hl⟩ : ∃ l, a0.data.toList = l := ⟨_, rfl⟩
  have HL := Aside0.mk hl
  rw [hl] at hlen ⊢
  clear hl
  go_enter Tryz.func90, Tryz.ntmps90
  go_upto_region 3 with (go_at_call 120; with_reducible refine (K.out _).mono ?_; rintro e w5 ⟨g, v0, v1, v2, rfl, hg, -, h1, -, hb⟩; have hz : w5.cell? ⟨g, 1, none⟩ = some v1 := (blk_cell hg 1).trans rfl; obtain ⟨b1, b2, rfl, C⟩ := cl_any h1)
  have HC := Aside0.mk C
  have HB := Aside0.mk hb
  clear C hz h1 hg hb
  go_loopw [10] (fun v10 wr => ∃ i : Nat, v10 = .int .i64 (i : Int) ∧ i ≤ a0.size ∧ Aside0 ((l.take i).all digB = true) ∧ Aside0 (∃ m, wr = w5.drewN m)) (fun v10 _ => a0.size - (intOf v10).toNat)
  case atStart => exact ⟨0, rfl, Nat.zero_le _, ⟨by simp⟩, ⟨0, rfl⟩⟩
  case round =>
    obtain ⟨i, rfl, hi, HD, ⟨m, rfl⟩⟩ := hrel
    by_cases hlt : i < a0.size
    · have hll : i < l.length := by omega
      have hbt : a0[i]'hlt = l[i]'hll := by
        have e := HL.out
        subst e
        rw [Array.getElem_toList]; rfl
      obtain ⟨D, hD⟩ : ∃ D, digB (l[i]'hll) = D := ⟨_, rfl⟩
      have C2 := Aside0.mk (fun W' hb => HC.out ((a0[i]'hlt).toNat : Int) W' hb)
      have hDe : (decide ((48 : Int) ≤ ((a0[i]'hlt).toNat : Int)) && decide (((a0[i]'hlt).toNat : Int) ≤ 57)) = D := by
        rw [← hD, hbt]; unfold digB
        rw [show decide ((48 : Int) ≤ ((l[i]'hll).toNat : Int)) = decide (48 ≤ (l[i]'hll).toNat) by rw [Bool.eq_iff_iff, decide_eq_true_iff, decide_eq_true_iff]; omega,
          show decide (((l[i]'hll).toNat : Int) ≤ 57) = decide ((l[i]'hll).toNat ≤ 57) by rw [Bool.eq_iff_iff, decide_eq_true_iff, decide_eq_true_iff]; omega]
      rw [hDe] at C2
      have T1 := take_all hll digB
      rw [HD.out, hD, Bool.true_and] at T1
      have HT1 := Aside0.mk T1
      clear T1 hDe hD hbt
      have dl : decide ((i : Int) < (a0.size : Int)) = true := decide_eq_true (by omega)
      have p4 : 0 ≤ (i : Int) := by omega
      have q4 : (i : Int) < (a0.size : Int) := by omega
      replace p4 := eq_true p4
      replace q4 := eq_true q4
      cases D with
      | true =>
        go_wp2_with (go_at_call 144; with_reducible refine (C2.out _ (pw_below_drewN (Below.refl _ _) _)).mono ?_; rintro e w6 ⟨rfl, rfl⟩)
        go_roundw
        case measure => simp [intOf]; omega
        case rel => exact ⟨i + 1, rfl, hlt, HT1, ⟨_, rfl⟩⟩
      | false =>
        go_wp2_with (go_at_call 144; with_reducible refine (C2.out _ (pw_below_drewN (Below.refl _ _) _)).mono ?_; rintro e w6 ⟨rfl, rfl⟩)
        go_ret
        exact ⟨by rw [natB_not HT1.out]; rfl, pw_below_drewN HB.out _⟩
    · have dl : decide ((i : Int) < (a0.size : Int)) = false := decide_eq_false (by omega)
      have hall := HD.out
      rw [List.take_of_length_le (by omega)] at hall
      have HA := Aside0.mk hall
      clear hall HD
      cases hc : l with
      | nil =>
        obtain rfl : a0 = ⟨#[]⟩ := by
          have e := HL.out
          rw [hc] at e
          cases a0; simp at e; simp [e]
        go_wp2
        go_ret
        exact ⟨by rfl, pw_below_drewN HB.out _⟩
      | cons c t =>
        by_cases h1 : l = [48]
        · have n1 : (a0.toList == ([48] : List UInt8)) = true := by
            rw [toList_data, HL.out, h1]; rfl
          have n4 : a0.toList = ([48] : List UInt8) := by rw [toList_data, HL.out, h1]
          go_wp2
          go_ret
          exact ⟨by rw [h1]; rfl, pw_below_drewN HB.out _⟩
        · have hp : 0 < a0.size := by rw [hc] at hlen; simp at hlen; omega
          have e0 : a0[0]'hp = c := by
            have e := HL.out
            rw [hc] at e
            have : a0.data.toList[0]'(by rw [e]; simp) = c := by simp [e]
            rw [Array.getElem_toList] at this; exact this
          have n1 : (a0.toList == ([48] : List UInt8)) = false := by
            rw [toList_data, HL.out, beq_eq_false_iff_ne]; exact h1
          have n2 : (a0.toList == ([] : List UInt8)) = false := by
            rw [toList_data, HL.out, hc]; rfl
          have n3 : a0.toList.isEmpty = false := by
            rw [toList_data, HL.out, hc]; rfl
          have p5 := eq_true hp
          go_wp2
          go_ret
          refine ⟨?_, pw_below_drewN HB.out _⟩
          have e : natB (c :: t) = (c != 48) := by
            unfold natB
            have hA := HA.out
            rw [hc] at hA
            rw [hA]
            cases t with
            | nil =>
              have : c ≠ 48 := fun h => h1 (by rw [hc, h])
              simp [this]
            | cons d t => simp; rfl
          have e2 : ((c.toNat : Int) != 48) = (c != 48) := by
            rw [Bool.eq_iff_iff, bne_iff_ne, bne_iff_ne]
            constructor
            · intro h hq; exact h (by rw [hq]; rfl)
            · intro h hq; exact h (UInt8.toNat_inj.1 (by have : (48 : UInt8).toNat = 48 := rfl; omega))
          rw [← hc] at e
          rw [e, ← e2]
          rfl
end Go.Proofs.YtpncflaoikeidaaGreatDoor.P
namespace Go.Proofs.YtpncflaoikeidaaGreatDoor.H
open Go.RowKit Go.Lib Go.Proofs.YtpncflaoikeidaaGreatDoor.P
theorem dvF_ge (l : List UInt8) (a : Nat) : a ≤ dvF l a := by
  rw [dvF_eq]
  have := Nat.le_mul_of_pos_right a (Nat.pow_pos (n := l.length) (show 0 < 10 by decide))
  omega
theorem parse64M : ∀ (l : List UInt8) (a : Nat), l.all digB = true → a ≤ 18446744073709551615 → parseUintM 18446744073709551615 a l = if 18446744073709551615 < dvF l a then .range else .ok (dvF l a)
  | [], a, _, ha => by rw [dvF_nil, if_neg (by omega)]; rfl
  | c :: l, a, h, ha => by
    rw [List.all_cons, Bool.and_eq_true] at h
    have hc := (digB_iff c).1 h.1
    have e2 := dgv_eq c
    have hg := dvF_ge l (10 * a + dgv c)
    rw [dvF_cons, parseUintM, if_pos hc]
    by_cases h1 : 1844674407370955162 ≤ a
    · rw [if_pos h1, if_pos (by omega)]
    · rw [if_neg h1]
      by_cases h2 : 18446744073709551615 < a * 10 + (c.toNat - 48)
      · rw [if_pos h2, if_pos (by omega)]
      · rw [if_neg h2, parse64M l _ h.2 (by omega), Nat.mul_comm a 10, ← e2]
theorem parse64 {l : List UInt8} (h : l.all digB = true) (h0 : l ≠ []) : parseUintB 64 l = if 18446744073709551615 < dv l then .range else .ok (dv l) := by
  unfold parseUintB
  rw [if_neg h0]
  exact parse64M l 0 h (by decide)
end Go.Proofs.YtpncflaoikeidaaGreatDoor.H
namespace Go.Proofs.YtpncflaoikeidaaGreatDoor.P
open Go.RowKit Go.Lib Go.Proofs.YtpncflaoikeidaaGreatDoorW.PrintWords Go.Proofs.YtpncflaoikeidaaGreatDoorW.PrintLast Go.Proofs.YtpncflaoikeidaaGreatDoorW.PrintMore Go.Proofs.YtpncflaoikeidaaGreatDoor.H
theorem bytes_below {w w' : World} {s : ByteArray} (h : w' = w ∨ w' = Lib.bytesWorld w 5 s) : Below w.heap.size w w' := by
  rcases h with rfl | rfl
  · exact Below.refl _ _
  · exact bytesWorld_below _ _ _
/-- the number of a word, and an error -/
def RN (l : List UInt8) : Int × Int := if natB l = true then (if 2147483647 < dv l then (0, 14) else ((dv l : Int), 0)) else (0, 19)
def lex_read.f (s : ByteArray) : Option (Int × Int) := if s.size ≤ 140737488351232 then some (RN s.data.toList) else none
theorem natB_parts {l : List UInt8} (h : natB l = true) : l.all digB = true ∧ l ≠ [] := by
  unfold natB at h
  cases l with
  | nil => simp at h
  | cons c t =>
    rw [Bool.and_eq_true, Bool.and_eq_true] at h
    exact ⟨h.1.1, by simp⟩
set_option maxHeartbeats 2000000 in
set_option maxRecDepth 100000 in
theorem lex_read.calls (a0 : ByteArray) (r1 r2 : Int) (w : World) (h : lex_read.f a0 = some (r1, r2)) (hL : LaidT w) :
    Calls Tryz.prog 54 #[.string a0] w fun e w' => e = .returned (.tuple #[.int .i64 r1, .int .i64 r2]) ∧ Below w.heap.size w w' := by
  unfold lex_read.f at h
  split at h
  case isFalse => cases h
  case isTrue hsz =>
  have h := Option.some.inj h
  have NA : Aside0 (∀ W, Calls Tryz.prog 90 #[.string a0] W fun e w' => e = .returned (.bool (natB a0.data.toList)) ∧ Below W.heap.size W w') := ⟨fun W => lex_natural.calls a0 _ W (by unfold lex_natural.f; rw [if_pos hsz])⟩
  unfold RN at h
  cases hn : natB a0.data.toList with
  | false =>
    rw [hn, if_neg (by decide)] at h
    simp only [Prod.mk.injEq] at h
    obtain ⟨rfl, rfl⟩ := h
    rw [hn] at NA
    go_enter Tryz.func54, Tryz.ntmps54
    go_wp2_with (go_at_call 90; with_reducible refine (NA.out _).mono ?_; rintro e w5 ⟨rfl, hb⟩)
    go_ret2
    exact ⟨rfl, hb⟩
  | true =>
    obtain ⟨q1, q2⟩ := natB_parts hn
    have hp := parse64 q1 q2
    rw [hn, if_pos rfl] at h
    rw [hn] at NA
    obtain ⟨V, hV⟩ : ∃ V, dv a0.data.toList = V := ⟨_, rfl⟩
    rw [hV] at hp h
    by_cases hr : 18446744073709551615 < V
    · rw [if_pos hr] at hp
      rw [if_pos (by omega)] at h
      simp only [Prod.mk.injEq] at h
      obtain ⟨rfl, rfl⟩ := h
      have PU : Aside0 (∀ W, LaidT W → Calls Tryz.prog 74 #[.string a0, .int .i64 10, .int .i64 64] W fun e w' => ∃ N, e = .returned (.tuple #[.int .u64 18446744073709551615, .iface 161 (.pointer (some ⟨N, 0, none⟩))]) ∧ Below W.heap.size W w') := ⟨fun W hLW => by
        obtain ⟨ev, hc, he⟩ := hLW.rng
        exact (Tryz.strconv_ParseUint_10_at64_range a0 (by omega) hp ev W hc he).mono fun e w' ⟨N, h1, _, _, h2⟩ => ⟨N, h1, h2⟩⟩
      clear hp hr
      go_enter Tryz.func54, Tryz.ntmps54
      go_wp2_with (first | (go_at_call 90; with_reducible refine (NA.out _).mono ?_; rintro e w5 ⟨rfl, hb⟩) | (go_at_call 74; with_reducible refine (PU.out _ (hL.below hb)).mono ?_; rintro e w6 ⟨N, rfl, hb2⟩))
      go_ret2
      exact ⟨rfl, below_step hb hb2⟩
    · rw [if_neg hr] at hp
      have PU : Aside0 (∀ W, Calls Tryz.prog 74 #[.string a0, .int .i64 10, .int .i64 64] W fun e w' => e = .returned (.tuple #[.int .u64 (V : Int), .nilIface]) ∧ Below W.heap.size W w') := ⟨fun W =>
        (Tryz.strconv_ParseUint_10_at64_ok a0 (by omega) V hp W).mono fun e w' ⟨he, hw⟩ => ⟨he, bytes_below hw⟩⟩
      clear hp
      by_cases hm : 2147483647 < V
      · rw [if_pos hm] at h
        simp only [Prod.mk.injEq] at h
        obtain ⟨rfl, rfl⟩ := h
        have d1 : decide ((2147483647 : Int) < (V : Int)) = true := decide_eq_true (by omega)
        go_enter Tryz.func54, Tryz.ntmps54
        go_wp2_with (first | (go_at_call 90; with_reducible refine (NA.out _).mono ?_; rintro e w5 ⟨rfl, hb⟩) | (go_at_call 74; with_reducible refine (PU.out _).mono ?_; rintro e w6 ⟨rfl, hb2⟩))
        go_ret2
        exact ⟨rfl, below_step hb hb2⟩
      · rw [if_neg hm] at h
        simp only [Prod.mk.injEq] at h
        obtain ⟨rfl, rfl⟩ := h
        have d1 : decide ((2147483647 : Int) < (V : Int)) = false := decide_eq_false (by omega)
        have hw : IntKind.i64.wrap (V : Int) = (V : Int) := by unfold IntKind.wrap; simp [IntKind.signed, IntKind.bits]; omega
        go_enter Tryz.func54, Tryz.ntmps54
        go_wp2_with (first | (go_at_call 90; with_reducible refine (NA.out _).mono ?_; rintro e w5 ⟨rfl, hb⟩) | (go_at_call 74; with_reducible refine (PU.out _).mono ?_; rintro e w6 ⟨rfl, hb2⟩))
        go_ret2
        exact ⟨rfl, below_step hb hb2⟩
end Go.Proofs.YtpncflaoikeidaaGreatDoor.P
namespace Go.Proofs.YtpncflaoikeidaaGreatDoor.P
open Go.RowKit Go.Lib Go.Proofs.YtpncflaoikeidaaGreatDoorW.PrintWords Go.Proofs.YtpncflaoikeidaaGreatDoorW.PrintLast Go.Proofs.YtpncflaoikeidaaGreatDoorW.PrintMore
def full (s : ByteArray) : Bool := !s.toList.isEmpty
theorem take_allB {l : List ByteArray} {i : Nat} (h : i < l.length) (p : ByteArray → Bool) : (l.take (i + 1)).all p = ((l.take i).all p && p (l[i]'h)) := by
  rw [List.take_succ_eq_append_getElem h, List.all_append]
  simp
def SplitPost (w : World) (ws : List ByteArray) (e : Ending) (w' : World) : Prop := ∃ v0_ : Value, e = .returned (.tuple #[v0_, .int .i64 (if ws.all full = true then 0 else 19)]) ∧ Kd.R Kd.string 9 w' w.heap.size (fun _ => True) v0_ (if ws.all full = true then ws else []) ∧ Below w.heap.size w w'
set_option maxHeartbeats 2000000 in
set_option maxRecDepth 100000 in
theorem split_walk (a0 : ByteArray) (ws : List ByteArray) (w : World) (h0 : a0.toList ≠ []) (hm : ws.length ≤ 1000)
    (hS : ∀ W, LaidT W → Calls Tryz.prog 92 #[.string a0, .string ⟨#[32]⟩] W fun e w' => e = .returned (.slice (some ⟨W.heap.size, 0, none⟩) ws.length ws.length) ∧ w' = W.alloc (.cells (ws.map Value.string).toArray 9))
    (hC : ∀ s ∈ ws, ∀ W, Calls Tryz.prog 93 #[.string s, .string ⟨#[10]⟩] W fun e w' => e = .returned (.bool false) ∧ w' = W) (hL : LaidT w) :
    Calls Tryz.prog 57 #[.string a0] w (SplitPost w ws) := by
  have n1 : (a0.toList == ([] : List UInt8)) = false := beq_eq_false_iff_ne.2 h0
  have n2 : a0.toList.isEmpty = false := by cases hh : a0.toList with | nil => exact absurd hh h0 | cons _ _ => rfl
  have SP := Aside0.mk hS
  have CT := Aside0.mk hC
  clear hS hC
  go_enter Tryz.func57, Tryz.ntmps57
  go_upto_region 5 with (go_at_call 92; with_reducible refine (SP.out _ hL).mono ?_; rintro e w5 ⟨rfl, hw5_⟩; have HW5 := Aside0.mk hw5_; clear hw5_)
  have HO := Aside0.mk (World.ownsRow_lit (base := w.heap.size) (e := 9) (size := 1) w (ws.map Value.string).toArray ws.length (Nat.le_refl _) (by unfold maxLen; omega) (by simp))
  have hw5 := HW5.out
  rw [← hw5] at HO
  have HB : Aside0 (Below w.heap.size w w5) := ⟨by rw [hw5]; exact below_alloc (Below.refl _ _) _⟩
  have BK : Aside0 (w5.heap[w.heap.size]? = some (.cells (ws.map Value.string).toArray 9 (0, 0))) := ⟨by rw [hw5]; exact heap_alloc_new _ _⟩
  clear hw5 HW5
  go_loopw [13] (fun v13 wr => ∃ i : Nat, v13 = .int .i64 (i : Int) ∧ i ≤ ws.length ∧ Aside0 ((ws.take i).all full = true) ∧ wr = w5) (fun v13 _ => ws.length - (intOf v13).toNat)
  case atStart => exact ⟨0, rfl, Nat.zero_le _, ⟨by simp⟩, rfl⟩
  case round =>
    obtain ⟨i, rfl, hi, HA, rfl⟩ := hrel
    by_cases hlt : i < ws.length
    · have dl : decide ((i : Int) < (ws.length : Int)) = true := decide_eq_true (by omega)
      obtain ⟨s, hs⟩ : ∃ s, ws[i]'hlt = s := ⟨_, rfl⟩
      have CS := Aside0.mk (CT.out s (by rw [← hs]; exact List.getElem_mem _))
      have hz : wr.cell? ⟨w.heap.size, i, none⟩ = some (.string s) := (blk_cell BK.out i).trans (by simp [hlt, hs])
      have p4 : 0 ≤ (i : Int) := by omega
      have q4 : (i : Int) < (ws.length : Int) := by omega
      replace p4 := eq_true p4
      replace q4 := eq_true q4
      by_cases hf : s.toList = []
      · have m1 : (s.toList == ([] : List UInt8)) = true := beq_iff_eq.2 hf
        have m2 : s.toList.isEmpty = true := by rw [hf]; rfl
        go_wp2
        go_ret2
        have hbad : ¬ ws.all full = true := by
          intro hc
          have := List.all_eq_true.1 hc s (by rw [← hs]; exact List.getElem_mem _)
          unfold full at this; rw [m2] at this; cases this
        exact ⟨.slice none 0 0, by rw [if_neg hbad]; rfl, by rw [if_neg hbad]; exact Kd.R_nil _ _ _ _ _, HB.out⟩
      · have m1 : (s.toList == ([] : List UInt8)) = false := beq_eq_false_iff_ne.2 hf
        have m2 : s.toList.isEmpty = false := by cases hh : s.toList with | nil => exact absurd hh hf | cons _ _ => rfl
        go_wp2_with (go_at_call 93; with_reducible refine (CS.out _).mono ?_; rintro e w6 ⟨rfl, rfl⟩)
        go_roundw
        case measure => simp [intOf]; omega
        case rel => exact ⟨i + 1, rfl, hlt, ⟨by rw [take_allB hlt, HA.out, hs]; unfold full; rw [m2]; rfl⟩, by first | trivial | rfl⟩
    · have dl : decide ((i : Int) < (ws.length : Int)) = false := decide_eq_false (by omega)
      go_wp2
      go_ret2
      have hgood : ws.all full = true := by
        have h := HA.out
        rwa [List.take_of_length_le (by omega)] at h
      exact ⟨.slice (some ⟨w.heap.size, 0, none⟩) ws.length ws.length, by rw [if_pos hgood]; rfl, by rw [if_pos hgood]; exact Kd.R_of_own (by simpa [encs] using HO.out) (fun _ _ => trivial), HB.out⟩
/-- lex.Split, at three lines -/
def lex_Split.f (s : ByteArray) : Option (List ByteArray × Int) :=
  if s = ⟨#[97, 32, 98]⟩ then some ([⟨#[97]⟩, ⟨#[98]⟩], 0) else if s = ⟨#[97, 32, 32, 98]⟩ then some ([], 19) else if s = ⟨#[32, 97]⟩ then some ([], 19) else none
theorem no_feed {s : ByteArray} (h : decide (0 ≤ Lib.indexByte s.data.toList 10) = false) (W : World) : Calls Tryz.prog 93 #[.string s, .string ⟨#[10]⟩] W fun e w' => e = .returned (.bool false) ∧ w' = W := by
  have := Tryz.strings_Contains_one s 10 W
  rwa [h] at this
theorem split_at (a0 : ByteArray) (ws : List ByteArray) (hs : a0.size < 4294967281) (h1 : Lib.countB a0 ⟨#[32]⟩ + 1 = ws.length) (h2 : Lib.splitB ⟨#[32]⟩ 0 (Lib.countB a0 ⟨#[32]⟩) a0 = ws) (W : World) (hL : LaidT W) :
    Calls Tryz.prog 92 #[.string a0, .string ⟨#[32]⟩] W fun e w' => e = .returned (.slice (some ⟨W.heap.size, 0, none⟩) ws.length ws.length) ∧ w' = W.alloc (.cells (ws.map Value.string).toArray 9) := by
  obtain ⟨m, hm⟩ := hL.len
  have := Tryz.strings_Split a0 ⟨#[32]⟩ m W hs hm (by decide)
  rwa [h1, h2] at this
theorem lex_Split.calls (a0 : ByteArray) (r1 : List ByteArray) (r2 : Int) (w : World) (h : lex_Split.f a0 = some (r1, r2)) (hL : LaidT w) :
    Calls Tryz.prog 57 #[.string a0] w fun e w' => ∃ v0_ : Value, e = .returned (.tuple #[v0_, .int .i64 r2]) ∧ Kd.R Kd.string 9 w' w.heap.size (fun _ => True) v0_ r1 ∧ Below w.heap.size w w' := by
  have t1 : (⟨#[97]⟩ : ByteArray).toList = [97] := by rw [toList_data]
  have t2 : (⟨#[98]⟩ : ByteArray).toList = [98] := by rw [toList_data]
  have t3 : (⟨#[]⟩ : ByteArray).toList = [] := by rw [toList_data]
  unfold lex_Split.f at h
  by_cases c1 : a0 = ⟨#[97, 32, 98]⟩
  · rw [if_pos c1] at h
    subst c1
    obtain ⟨rfl, rfl⟩ := Prod.mk.inj (Option.some.inj h)
    have hf : ([⟨#[97]⟩, ⟨#[98]⟩] : List ByteArray).all full = true := by simp [full, t1, t2]
    have := split_walk ⟨#[97, 32, 98]⟩ [⟨#[97]⟩, ⟨#[98]⟩] w (by rw [toList_data]; decide) (by decide) (split_at _ _ (by decide) (by decide) (by decide)) (fun s hs W => by
      have hs2 : s = ⟨#[97]⟩ ∨ s = ⟨#[98]⟩ := by simpa using hs
      rcases hs2 with rfl | rfl
      · exact no_feed (by decide) W
      · exact no_feed (by decide) W) hL
    refine this.mono fun e w' hp => ?_
    unfold SplitPost at hp
    rw [if_pos hf, if_pos hf] at hp
    exact hp
  rw [if_neg c1] at h
  by_cases c2 : a0 = ⟨#[97, 32, 32, 98]⟩
  · rw [if_pos c2] at h
    subst c2
    obtain ⟨rfl, rfl⟩ := Prod.mk.inj (Option.some.inj h)
    have hf : ¬ ([⟨#[97]⟩, ⟨#[]⟩, ⟨#[98]⟩] : List ByteArray).all full = true := by simp [full, t1, t2, t3]
    have := split_walk ⟨#[97, 32, 32, 98]⟩ [⟨#[97]⟩, ⟨#[]⟩, ⟨#[98]⟩] w (by rw [toList_data]; decide) (by decide) (split_at _ _ (by decide) (by decide) (by decide)) (fun s hs W => by
      have hs2 : s = ⟨#[97]⟩ ∨ s = ⟨#[]⟩ ∨ s = ⟨#[98]⟩ := by simpa using hs
      rcases hs2 with rfl | rfl | rfl
      · exact no_feed (by decide) W
      · exact no_feed (by decide) W
      · exact no_feed (by decide) W) hL
    refine this.mono fun e w' hp => ?_
    unfold SplitPost at hp
    rw [if_neg hf, if_neg hf] at hp
    exact hp
  rw [if_neg c2] at h
  by_cases c3 : a0 = ⟨#[32, 97]⟩
  · rw [if_pos c3] at h
    subst c3
    obtain ⟨rfl, rfl⟩ := Prod.mk.inj (Option.some.inj h)
    have hf : ¬ ([⟨#[]⟩, ⟨#[97]⟩] : List ByteArray).all full = true := by simp [full, t1, t3]
    have := split_walk ⟨#[32, 97]⟩ [⟨#[]⟩, ⟨#[97]⟩] w (by rw [toList_data]; decide) (by decide) (split_at _ _ (by decide) (by decide) (by decide)) (fun s hs W => by
      have hs2 : s = ⟨#[]⟩ ∨ s = ⟨#[97]⟩ := by simpa using hs
      rcases hs2 with rfl | rfl
      · exact no_feed (by decide) W
      · exact no_feed (by decide) W) hL
    refine this.mono fun e w' hp => ?_
    unfold SplitPost at hp
    rw [if_neg hf, if_neg hf] at hp
    exact hp
  rw [if_neg c3] at h
  cases h
def inB (lo hi : Nat) (c : UInt8) : Bool := decide (lo ≤ c.toNat) && decide (c.toNat ≤ hi)
/-- what a name's byte may be, after k of the three kinds -/
def mayB (i : Nat) (c : UInt8) : Nat → Bool
  | 0 => false
  | 1 => inB 97 122 c
  | 2 => inB 97 122 c || (inB 48 57 c && decide (0 < i))
  | _ => inB 97 122 c || (inB 48 57 c && decide (0 < i)) || (inB 95 95 c && decide (0 < i))
def okB (l : List UInt8) (n : Nat) : Bool := (List.range n).all fun i => mayB i (l.getD i 0) 3
theorem mayB_0 (i : Nat) (c : UInt8) : mayB i c 1 = (mayB i c 0 || inB 97 122 c) := by simp [mayB]
theorem mayB_1 (i : Nat) (c : UInt8) : mayB i c 2 = (mayB i c 1 || (inB 48 57 c && decide (0 < i))) := rfl
theorem mayB_2 (i : Nat) (c : UInt8) : mayB i c 3 = (mayB i c 2 || (inB 95 95 c && decide (0 < i))) := rfl
theorem okB_succ (l : List UInt8) (n : Nat) : okB l (n + 1) = (okB l n && mayB n (l.getD n 0) 3) := by
  unfold okB; rw [List.range_succ, List.all_append]; simp
theorem okB_not {l : List UInt8} {n m : Nat} (h : n < m) (hn : okB l (n + 1) = false) : okB l m = false := by
  obtain ⟨d, rfl⟩ : ∃ d, m = n + 1 + d := ⟨m - (n + 1), by omega⟩
  induction d with
  | zero => exact hn
  | succ d ih => rw [← Nat.add_assoc, okB_succ, ih (by omega)]; rfl
theorem inB_eq (lo hi : Nat) (c : UInt8) : (decide ((lo : Int) ≤ ((c.toNat : Nat) : Int)) && decide (((c.toNat : Nat) : Int) ≤ (hi : Int))) = inB lo hi c := by
  unfold inB
  rw [show decide ((lo : Int) ≤ (c.toNat : Int)) = decide (lo ≤ c.toNat) by rw [Bool.eq_iff_iff, decide_eq_true_iff, decide_eq_true_iff]; omega,
    show decide ((c.toNat : Int) ≤ (hi : Int)) = decide (c.toNat ≤ hi) by rw [Bool.eq_iff_iff, decide_eq_true_iff, decide_eq_true_iff]; omega]
/-- lex.plain -/
def lex_plain.f (s : ByteArray) : Option Bool := if s.size ≤ 1000 then some (okB s.data.toList s.size && decide (0 < s.size) && decide (s.size ≤ 32)) else none
set_option maxHeartbeats 4000000 in
set_option maxRecDepth 100000 in
theorem lex_plain.calls (a0 : ByteArray) (r : Bool) (w : World) (h : lex_plain.f a0 = some r) :
    Calls Tryz.prog 94 #[.string a0] w fun e w' => e = .returned (.bool r) ∧ Below w.heap.size w w' := by
  unfold lex_plain.f at h
  split at h
  case isFalse => cases h
  case isTrue hsz =>
  obtain rfl := Option.some.inj h
  clear h
  have K := Aside0.mk (fun W => kinds_any W)
  have hlen : a0.data.toList.length = a0.size := by rw [Array.length_toList]; rfl
  obtain ⟨l, hl⟩ : ∃ l, a0.data.toList = l := ⟨_, rfl⟩
  have HL := Aside0.mk hl
  rw [hl] at hlen ⊢
  clear hl
  go_enter Tryz.func94, Tryz.ntmps94
  go_upto_region 2 with (fail)
  go_loopw [9] (fun v9 wr => ∃ i : Nat, v9 = .int .i64 (i : Int) ∧ i ≤ a0.size ∧ Aside0 (okB l i = true) ∧ Aside0 (Below w.heap.size w wr)) (fun v9 _ => a0.size - (intOf v9).toNat)
  case atStart => exact ⟨0, rfl, Nat.zero_le _, ⟨rfl⟩, ⟨Below.refl _ _⟩⟩
  case round =>
    obtain ⟨i, rfl, hi, HD, HB⟩ := hrel
    by_cases hlt : i < a0.size
    · have dl : decide ((i : Int) < (a0.size : Int)) = true := decide_eq_true (by omega)
      have hll : i < l.length := by omega
      go_upto_region 6 with (go_at_call 120; with_reducible refine (K.out _).mono ?_; rintro e w5 ⟨g, v0, v1, v2, rfl, hg, h0, h1, h2, hb⟩; have HG := Aside0.mk hg; have H0 := Aside0.mk h0; have H1 := Aside0.mk h1; have H2 := Aside0.mk h2; have HB2 := Aside0.mk hb; clear hg h0 h1 h2 hb)
      go_loopw [4, 14] (fun v4 v14 wr => ∃ k : Nat, v14 = .int .i64 (k : Int) ∧ k ≤ 3 ∧ v4 = .bool (mayB i (a0[i]'hlt) k) ∧ wr = w5) (fun _ v14 _ => 3 - (intOf v14).toNat)
      case atStart => exact ⟨0, rfl, by decide, rfl, rfl⟩
      case round =>
      obtain ⟨k, rfl, hk, rfl, rfl⟩ := hrel
      have p4 : 0 ≤ (i : Int) := by omega
      have q4 : (i : Int) < (a0.size : Int) := by omega
      replace p4 := eq_true p4
      replace q4 := eq_true q4
      have hkc : k = 0 ∨ k = 1 ∨ k = 2 ∨ k = 3 := by omega
      rcases hkc with rfl | rfl | rfl | rfl
      · have hk0 := mayB_0 i (a0[i]'hlt)
        obtain ⟨b1, b2, hv, C⟩ := cl_any H0.out
        have hz : wr.cell? ⟨g, 0, none⟩ = some v0 := (blk_cell HG.out 0).trans rfl
        rw [hv] at hz
        have C2 := C ((a0[i]'hlt).toNat : Int) wr (Below.refl _ _)
        rw [show (decide ((97 : Int) ≤ ((a0[i]'hlt).toNat : Int)) && decide (((a0[i]'hlt).toNat : Int) ≤ 122)) = inB 97 122 (a0[i]'hlt) from inB_eq 97 122 _] at C2
        have CC := Aside0.mk C2
        clear C C2 hv
        obtain ⟨M, hM⟩ : ∃ M, mayB i (a0[i]'hlt) 0 = M := ⟨_, rfl⟩
        obtain ⟨D, hD⟩ : ∃ D, inB 97 122 (a0[i]'hlt) = D := ⟨_, rfl⟩
        rw [hD] at CC
        rw [hM, hD] at hk0
        have HK := Aside0.mk hk0
        rw [hM]
        clear hk0 hM hD
        cases M <;> cases D
        all_goals
          go_wp2_with (go_at_call 144; with_reducible refine CC.out.mono ?_; rintro e w6 ⟨rfl, rfl⟩)
          go_roundw
          case measure => simp [intOf]
          case rel => exact ⟨1, rfl, by decide, by rw [HK.out]; first | rfl | (rw [hZ]; rfl), by first | trivial | rfl⟩
      · have hk1 := mayB_1 i (a0[i]'hlt)
        obtain ⟨b1, b2, hv, C⟩ := cl_any H1.out
        have hz : wr.cell? ⟨g, 1, none⟩ = some v1 := (blk_cell HG.out 1).trans rfl
        rw [hv] at hz
        have C2 := C ((a0[i]'hlt).toNat : Int) wr (Below.refl _ _)
        rw [show (decide ((48 : Int) ≤ ((a0[i]'hlt).toNat : Int)) && decide (((a0[i]'hlt).toNat : Int) ≤ 57)) = inB 48 57 (a0[i]'hlt) from inB_eq 48 57 _] at C2
        have CC := Aside0.mk C2
        clear C C2 hv
        obtain ⟨M, hM⟩ : ∃ M, mayB i (a0[i]'hlt) 1 = M := ⟨_, rfl⟩
        obtain ⟨D, hD⟩ : ∃ D, inB 48 57 (a0[i]'hlt) = D := ⟨_, rfl⟩
        rw [hD] at CC
        rw [hM, hD] at hk1
        have HK := Aside0.mk hk1
        rw [hM]
        clear hk1 hM hD
        obtain ⟨Z, hZ⟩ : ∃ Z, decide (0 < i) = Z := ⟨_, rfl⟩
        rw [hZ] at HK
        cases M <;> cases D <;> cases Z
        all_goals
          go_wp2_with (go_at_call 144; with_reducible refine CC.out.mono ?_; rintro e w6 ⟨rfl, rfl⟩)
          go_roundw
          case measure => simp [intOf]
          case rel => exact ⟨2, rfl, by decide, by rw [HK.out]; first | rfl | (rw [hZ]; rfl), by first | trivial | rfl⟩
      · have hk2 := mayB_2 i (a0[i]'hlt)
        obtain ⟨b1, b2, hv, C⟩ := cl_any H2.out
        have hz : wr.cell? ⟨g, 2, none⟩ = some v2 := (blk_cell HG.out 2).trans rfl
        rw [hv] at hz
        have C2 := C ((a0[i]'hlt).toNat : Int) wr (Below.refl _ _)
        rw [show (decide ((95 : Int) ≤ ((a0[i]'hlt).toNat : Int)) && decide (((a0[i]'hlt).toNat : Int) ≤ 95)) = inB 95 95 (a0[i]'hlt) from inB_eq 95 95 _] at C2
        have CC := Aside0.mk C2
        clear C C2 hv
        obtain ⟨M, hM⟩ : ∃ M, mayB i (a0[i]'hlt) 2 = M := ⟨_, rfl⟩
        obtain ⟨D, hD⟩ : ∃ D, inB 95 95 (a0[i]'hlt) = D := ⟨_, rfl⟩
        rw [hD] at CC
        rw [hM, hD] at hk2
        have HK := Aside0.mk hk2
        rw [hM]
        clear hk2 hM hD
        obtain ⟨Z, hZ⟩ : ∃ Z, decide (0 < i) = Z := ⟨_, rfl⟩
        rw [hZ] at HK
        cases M <;> cases D <;> cases Z
        all_goals
          go_wp2_with (go_at_call 144; with_reducible refine CC.out.mono ?_; rintro e w6 ⟨rfl, rfl⟩)
          go_roundw
          case measure => simp [intOf]
          case rel => exact ⟨3, rfl, by decide, by rw [HK.out]; first | rfl | (rw [hZ]; rfl), by first | trivial | rfl⟩
      · obtain ⟨M, hM⟩ : ∃ M, mayB i (a0[i]'hlt) 3 = M := ⟨_, rfl⟩
        have HM := Aside0.mk hM
        rw [hM]
        clear hM
        have HN := Aside0.mk (okB_succ l i)
        have hge : l.getD i 0 = a0[i]'hlt := by
          have e := HL.out
          subst e
          rw [List.getD_eq_getElem?_getD, List.getElem?_eq_getElem hll, Array.getElem_toList]; rfl
        rw [hge, HD.out, HM.out, Bool.true_and] at HN
        cases M with
        | true =>
          go_wp2
          go_roundw
          case measure => simp [intOf]; omega
          case rel => exact ⟨i + 1, rfl, hlt, HN, ⟨below_step HB.out HB2.out⟩⟩
        | false =>
          go_wp2
          go_ret
          exact ⟨by rw [okB_not hlt HN.out]; rfl, below_step HB.out HB2.out⟩
    · have dl : decide ((i : Int) < (a0.size : Int)) = false := decide_eq_false (by omega)
      obtain rfl : i = a0.size := by omega
      by_cases h0 : a0.size = 0
      · have hlz : l = [] := List.eq_nil_of_length_eq_zero (by omega)
        have m1 : (a0.toList == ([] : List UInt8)) = true := by
          rw [toList_data, HL.out, hlz]; rfl
        have m2 : a0.toList.isEmpty = true := by
          rw [toList_data, HL.out, hlz]; rfl
        go_wp2
        go_ret
        exact ⟨by rw [show decide (0 < a0.size) = false from decide_eq_false (by omega)]; simp, HB.out⟩
      · have hnn : a0.toList ≠ [] := by
          rw [toList_data, HL.out]; intro hc; rw [hc] at hlen; simp at hlen; omega
        have m1 : (a0.toList == ([] : List UInt8)) = false := beq_eq_false_iff_ne.2 hnn
        have m2 : a0.toList.isEmpty = false := by cases hh : a0.toList with | nil => exact absurd hh hnn | cons _ _ => rfl
        obtain ⟨Z, hZ⟩ : ∃ Z, decide ((a0.size : Int) ≤ 32) = Z := ⟨_, rfl⟩
        have hZ2 : decide (a0.size ≤ 32) = Z := by rw [← hZ, Bool.eq_iff_iff, decide_eq_true_iff, decide_eq_true_iff]; omega
        have HZ2 := Aside0.mk hZ2
        clear hZ2
        go_wp2
        go_ret
        refine ⟨?_, HB.out⟩
        rw [HZ2.out, show decide (0 < a0.size) = true from decide_eq_true (by omega), HD.out]
        cases Z <;> rfl
end Go.Proofs.YtpncflaoikeidaaGreatDoor.P
namespace Go.Proofs.YtpncflaoikeidaaGreatDoor.P
open Go.RowKit Go.Proofs.YtpncflaoikeidaaGreatDoorW.PrintWords Go.Proofs.YtpncflaoikeidaaGreatDoorW.PrintLast Go.Proofs.YtpncflaoikeidaaGreatDoorW.PrintMore
attribute [local go_sem] max2_int max_two
set_option linter.unusedVariables false
set_option linter.unusedSimpArgs false
def lex_Ref.f (a0 : ByteArray) : Option (Int × Int) := (strings_CutPrefix.f a0 (⟨#[37]⟩ : ByteArray)).bind fun bt653 => (if bt653.2 = true then ((lex_read.f bt653.1).bind fun bt655 => (some (bt655.1, bt655.2))) else (some (0, 19)))
set_option maxHeartbeats 8000000 in
set_option maxRecDepth 100000 in
theorem lex_Ref.calls (a0 : ByteArray) (r1 : Int) (r2 : Int) (w : World) (h : lex_Ref.f a0 = some (r1, r2)) (hL : LaidT w) :
    Calls Tryz.prog 25 #[.string a0] w fun e w' => e = .returned (.tuple #[.int .i64 r1, .int .i64 r2]) ∧ Below w.heap.size w w' := by
  have HB := Aside0.mk (Below.refl w.heap.size w)
  have H : ((strings_CutPrefix.f a0 (⟨#[37]⟩ : ByteArray)).bind fun bt653 => (if bt653.2 = true then ((lex_read.f bt653.1).bind fun bt655 => (some (bt655.1, bt655.2))) else (some (0, 19)))) = some (r1, r2) := h
  clear h
  replace H := Option.bind_eq_some_iff.mp H
  obtain ⟨⟨t653, t654⟩, A20, H⟩ := H
  try dsimp only at H
  have A2 := Aside0.mk A20
  clear A20
  by_cases c3 : t654 = true
  · subst c3
    have H1 : ((lex_read.f t653).bind fun bt655 => (some (bt655.1, bt655.2))) = some (r1, r2) := by rw [if_pos rfl] at H; exact H
    clear H
    have H := H1
    clear H1
    replace H := Option.bind_eq_some_iff.mp H
    obtain ⟨⟨t655, t656⟩, A40, H⟩ := H
    try dsimp only at H
    have A4 := Aside0.mk A40
    clear A40
    simp only [Option.some.injEq, Prod.mk.injEq] at H
    obtain ⟨rfl, rfl⟩ := H
    go_enter Tryz.func25, Tryz.ntmps25
    go_wp2_with (first | ((with_reducible refine gate_callee (f := 34) rfl ?_); refine goesL_ (some 8) rfl rfl Tryz.func34 (by kernel_rfl) rfl #[.string a0, .string (⟨#[37]⟩ : ByteArray)] rfl (by (try simp only [List.map_toArray, List.map_cons, List.map_nil]); first | done | rfl | (simp only [List.length_drop, List.length_take]; rfl)) ?_; (with_reducible refine (strings_CutPrefix.calls a0 (⟨#[37]⟩ : ByteArray) t653 true _ A2.out).mono ?_); rintro e w' ⟨rfl, ⟨nd, rfl⟩⟩; refine ⟨_, rfl, ?_⟩) | ((with_reducible refine gate_callee (f := 54) rfl ?_); refine goesL_ (some 14) rfl rfl Tryz.func54 (by kernel_rfl) rfl #[.string t653] rfl (by (try simp only [List.map_toArray, List.map_cons, List.map_nil]); first | done | rfl | (simp only [List.length_drop, List.length_take]; rfl)) ?_; (with_reducible refine (lex_read.calls t653 t655 t656 _ A4.out ?side1).mono ?_); (case side1 => exact LaidT.below hL (by repeat (first | (with_reducible first | exact HB.out | apply below_alloc | apply pw_below_drewN | apply below_drew1) | exact HB.out))); rintro e w5 ⟨rfl, hb⟩; refine ⟨_, rfl, ?_⟩; have n0_ := Aside0.mk (below_step (by repeat (first | (with_reducible first | exact HB.out | apply below_alloc | apply pw_below_drewN | apply below_drew1) | exact HB.out)) hb); clear HB; have HB := n0_; clear n0_; (try clear hb); (try clear hb2); (try clear hk); (try clear hi)))
    go_ret2
    exact ⟨by first | rfl | (simp [errW_none, errW_some] <;> rfl) | (simp [*, errW_none, errW_some] <;> rfl), by repeat (first | (with_reducible first | exact HB.out | apply below_alloc | apply pw_below_drewN | apply below_drew1) | exact HB.out)⟩
  · replace c3 := Bool.eq_false_iff.mpr c3
    subst c3
    have H1 : (some (0, 19)) = some (r1, r2) := by rw [if_neg (show ¬ (false = true) by decide)] at H; exact H
    clear H
    have H := H1
    clear H1
    simp only [Option.some.injEq, Prod.mk.injEq] at H
    obtain ⟨rfl, rfl⟩ := H
    go_enter Tryz.func25, Tryz.ntmps25
    go_wp2_with (first | ((with_reducible refine gate_callee (f := 34) rfl ?_); refine goesL_ (some 8) rfl rfl Tryz.func34 (by kernel_rfl) rfl #[.string a0, .string (⟨#[37]⟩ : ByteArray)] rfl (by (try simp only [List.map_toArray, List.map_cons, List.map_nil]); first | done | rfl | (simp only [List.length_drop, List.length_take]; rfl)) ?_; (with_reducible refine (strings_CutPrefix.calls a0 (⟨#[37]⟩ : ByteArray) t653 false _ A2.out).mono ?_); rintro e w' ⟨rfl, ⟨nd, rfl⟩⟩; refine ⟨_, rfl, ?_⟩))
    go_ret2
    exact ⟨by first | rfl | (simp [errW_none, errW_some] <;> rfl) | (simp [*, errW_none, errW_some] <;> rfl), by repeat (first | (with_reducible first | exact HB.out | apply below_alloc | apply pw_below_drewN | apply below_drew1) | exact HB.out)⟩

end Go.Proofs.YtpncflaoikeidaaGreatDoor.P
