/- TEXTS OF THIS CLAIM, GATHERED: words printed by the kit, functions printed over the translation, contracts and plain laws by hand. -/
import Derived.Test.YtpncflaoikeidaaGreatDoorZL5
namespace Go.Proofs.YtpncflaoikeidaaGreatDoor.P
open Go.RowKit Go.Proofs.YtpncflaoikeidaaGreatDoorW.PrintWords Go.Proofs.YtpncflaoikeidaaGreatDoorW.PrintLast Go.Proofs.YtpncflaoikeidaaGreatDoorW.PrintMore
attribute [local go_sem] max2_int max_two
set_option linter.unusedVariables false
set_option linter.unusedSimpArgs false
def lex_Lines.l0 : Nat → ByteArray → List ByteArray → Option (List ByteArray × Int)
  | 0, _, _ => none
  | k + 1, x0, x4 => if x0.toList = ([] : List UInt8) then (some (x4, 0)) else ((strings_Cut.f x0 (⟨#[10]⟩ : ByteArray)).bind fun bt659 => (if bt659.2.2 = true then (if x4.length < 8796093022208 then (lex_Lines.l0 k bt659.2.1 (x4 ++ [bt659.1])) else (none)) else (some (([] : List ByteArray), 19))))
def lex_Lines.f (k : Nat) (a0 : ByteArray) : Option (List ByteArray × Int) := lex_Lines.l0 k a0 ([] : List ByteArray)
set_option maxHeartbeats 8000000 in
set_option maxRecDepth 100000 in
theorem lex_Lines.calls (k : Nat) (a0 : ByteArray) (r1 : List ByteArray) (r2 : Int) (w : World) (h : lex_Lines.f k a0 = some (r1, r2)) (hL : LaidT w) :
    Calls Tryz.prog 56 #[.string a0] w fun e w' => ∃ v0_ : Value, e = .returned (.tuple #[v0_, .int .i64 r2]) ∧ Kd.R Kd.string 9 w' w.heap.size (fun _ => True) v0_ r1 ∧ Below w.heap.size w w' := by
  have HB := Aside0.mk (Below.refl w.heap.size w)
  have H : (lex_Lines.l0 k a0 ([] : List ByteArray)) = some (r1, r2) := h
  clear h
  have H' := Aside0.mk H
  clear H
  go_enter Tryz.func56, Tryz.ntmps56
  go_wp2
  go_loopg [0, 4] k (fun kq v0 v4 w' => ∃ (x0_1 : ByteArray) (x4_1 : List ByteArray), v0 = .string x0_1 ∧ Aside0 (lex_Lines.l0 kq x0_1 x4_1 = some (r1, r2)) ∧ Aside0 (kq ≤ k) ∧ Aside0 (Kd.R Kd.string 9 w' w.heap.size (fun _ => True) v4 x4_1) ∧ Aside0 (Below w.heap.size w w'))
  case atStart => exact ⟨(a0), (([] : List ByteArray)), (by first | rfl | (simp; done) | (simp [*]; done)), H', ⟨Nat.le_refl _⟩, ⟨by first | exact Kd.R_nil _ _ _ _ _ | exact Kd.N_nil _ _ _ _ _ | exact Kd.V_nil _ _ _ _ _ | exact Kd.Q_nil _ _ _ _ _ | exact Kd.S_nil _ _ _ _ _⟩, ⟨by repeat (first | (with_reducible first | exact HB.out | apply below_alloc | apply pw_below_drewN | apply below_drew1) | exact HB.out)⟩⟩
  case round =>
    clear H'
    obtain ⟨x0_1, x4_1, rfl, HA, HK1, HO_4, HB⟩ := hrel
    cases gk with
    | zero => exact absurd HA.out (by simp [lex_Lines.l0])
    | succ k1 =>
      have H := HA.out
      clear HA
      simp only [lex_Lines.l0] at H
      by_cases c2 : x0_1.toList = ([] : List UInt8)
      · rw [if_pos c2] at H
        have c2b0 : (x0_1.toList == ([] : List UInt8)) = true := beq_iff_eq.mpr c2
        have c2b1 : (x0_1.toList != ([] : List UInt8)) = false := bne_eq_false_iff_eq.mpr c2
        clear c2
        simp only [Option.some.injEq, Prod.mk.injEq] at H
        obtain ⟨rfl, rfl⟩ := H
        go_wp2
        go_ret2
        exact ⟨_, by first | rfl | (simp [errW_none, errW_some] <;> rfl) | (simp [*, errW_none, errW_some] <;> rfl), by exact HO_4.out, by repeat (first | (with_reducible first | exact HB.out | apply below_alloc | apply pw_below_drewN | apply below_drew1) | exact HB.out)⟩
      · rw [if_neg c2] at H
        have c2b0 : (x0_1.toList == ([] : List UInt8)) = false := beq_eq_false_iff_ne.mpr c2
        have c2b1 : (x0_1.toList != ([] : List UInt8)) = true := bne_iff_ne.mpr c2
        replace H := Option.bind_eq_some_iff.mp H
        obtain ⟨⟨t659, t660, t661⟩, A30, H⟩ := H
        try dsimp only at H
        have A3 := Aside0.mk A30
        clear A30
        by_cases c4 : t661 = true
        · subst c4
          have H1 : (if x4_1.length < 8796093022208 then (lex_Lines.l0 k1 t660 (x4_1 ++ [t659])) else (none)) = some (r1, r2) := by rw [if_pos rfl] at H; exact H
          clear H
          have H := H1
          clear H1
          by_cases c5 : x4_1.length < 8796093022208
          · rw [if_pos c5] at H
            have LMc5 := Aside0.mk c5
            clear c5
            obtain ⟨y662, hy662⟩ : ∃ y_ : List ByteArray, y_ = (x4_1 ++ [t659]) := ⟨_, rfl⟩
            replace H : (lex_Lines.l0 k1 t660 y662) = some (r1, r2) := by first | (rw [hy662]; with_reducible exact H) | (have H2_ := (Option.bind_some _ _).symm.trans H; rw [hy662]; with_reducible exact H2_) | (have H2_ := (Option.bind_some _ _).symm.trans H; with_reducible exact H2_) | with_reducible exact H | (rw [hy662]; exact H) | exact H
            have Ny662 := Aside0.mk hy662
            clear hy662
            have H' := Aside0.mk H
            clear H
            go_wp2_with (first | ((with_reducible refine gate_callee (f := 35) rfl ?_); refine goesL_ (some 12) rfl rfl Tryz.func35 (by kernel_rfl) rfl #[.string x0_1, .string (⟨#[10]⟩ : ByteArray)] rfl (by (try simp only [List.map_toArray, List.map_cons, List.map_nil]); first | done | rfl | (simp only [List.length_drop, List.length_take]; rfl)) ?_; (with_reducible refine (strings_Cut.calls x0_1 (⟨#[10]⟩ : ByteArray) t659 t660 true _ A3.out ?side1).mono ?_); (case side1 => exact LaidT.below hL (by repeat (first | (with_reducible first | exact HB.out | apply below_alloc | apply pw_below_drewN | apply below_drew1) | exact HB.out))); rintro e w6 ⟨rfl, hb⟩; refine ⟨_, rfl, ?_⟩; have n0_ := Aside0.mk (Kd.R_below (by exact HO_4.out) hb); have n1_ := Aside0.mk (below_step (by repeat (first | (with_reducible first | exact HB.out | apply below_alloc | apply pw_below_drewN | apply below_drew1) | exact HB.out)) hb); clear HO_4; clear HB; have HO_4 := n0_; have HB := n1_; clear n0_ n1_; (try clear hb); (try clear hb2); (try clear hk); (try clear hi)) | ((with_reducible refine gate_builtin (b := .append) (xs := #[.tmp 18, .tmp 20]) rfl ?_); at_builtin; refine Kd.R_append Kd.string (w0 := w) w.heap.size rfl (.tmp 18) (.tmp 20) 93 9 (.string ⟨#[]⟩) 16 rfl Tryz.underlying93 info9 rfl (by decide) (by omega) u4 x4_1 t659 [.string t659] (fun _ => True) (fun _ => False) rfl rfl ?aP (fun _ hk => hk.elim) ?aF ?aO ?aB ?aS ?aL ?_; (case aP => exact rfl); (case aB => exact (by repeat (first | (with_reducible first | exact HB.out | apply below_alloc | apply pw_below_drewN | apply below_drew1) | exact HB.out))); (case aF => exact (fun _ _ => trivial)); (case aO => exact (by exact HO_4.out)); (case aS => exact (below_size (by repeat (first | (with_reducible first | exact HB.out | apply below_alloc | apply pw_below_drewN | apply below_drew1) | exact HB.out)))); (case aL => have := LMc5.out; omega); intro v663 w7 ho hb hg hat; rw [← Ny662.out] at ho; have n0_ := Aside0.mk (hb); have n1_ := Aside0.mk (ho); clear HB; clear HO_4; have HB := n0_; have HO664 := n1_; clear n0_ n1_; clear ho hb hg hat))
            go_roundg k1
            case measure => have := HK1.out; omega
            case rel => exact ⟨(t660), (y662), (by first | rfl | (simp; done) | (simp [*]; done)), H', ⟨by have := HK1.out; omega⟩, ⟨by exact HO664.out⟩, ⟨by repeat (first | (with_reducible first | exact HB.out | apply below_alloc | apply pw_below_drewN | apply below_drew1) | exact HB.out)⟩⟩
          · rw [if_neg c5] at H
            exact absurd H (by simp)
        · replace c4 := Bool.eq_false_iff.mpr c4
          subst c4
          have H1 : (some (([] : List ByteArray), 19)) = some (r1, r2) := by rw [if_neg (show ¬ (false = true) by decide)] at H; exact H
          clear H
          have H := H1
          clear H1
          simp only [Option.some.injEq, Prod.mk.injEq] at H
          obtain ⟨rfl, rfl⟩ := H
          go_wp2_with (first | ((with_reducible refine gate_callee (f := 35) rfl ?_); refine goesL_ (some 12) rfl rfl Tryz.func35 (by kernel_rfl) rfl #[.string x0_1, .string (⟨#[10]⟩ : ByteArray)] rfl (by (try simp only [List.map_toArray, List.map_cons, List.map_nil]); first | done | rfl | (simp only [List.length_drop, List.length_take]; rfl)) ?_; (with_reducible refine (strings_Cut.calls x0_1 (⟨#[10]⟩ : ByteArray) t659 t660 false _ A3.out ?side1).mono ?_); (case side1 => exact LaidT.below hL (by repeat (first | (with_reducible first | exact HB.out | apply below_alloc | apply pw_below_drewN | apply below_drew1) | exact HB.out))); rintro e w8 ⟨rfl, hb⟩; refine ⟨_, rfl, ?_⟩; have n0_ := Aside0.mk (Kd.R_below (by exact HO_4.out) hb); have n1_ := Aside0.mk (below_step (by repeat (first | (with_reducible first | exact HB.out | apply below_alloc | apply pw_below_drewN | apply below_drew1) | exact HB.out)) hb); clear HO_4; clear HB; have HO_4 := n0_; have HB := n1_; clear n0_ n1_; (try clear hb); (try clear hb2); (try clear hk); (try clear hi)))
          go_ret2
          exact ⟨_, by first | rfl | (simp [errW_none, errW_some] <;> rfl) | (simp [*, errW_none, errW_some] <;> rfl), by first | exact Kd.R_nil _ _ _ _ _ | exact Kd.N_nil _ _ _ _ _ | exact Kd.V_nil _ _ _ _ _ | exact Kd.Q_nil _ _ _ _ _ | exact Kd.S_nil _ _ _ _ _, by repeat (first | (with_reducible first | exact HB.out | apply below_alloc | apply pw_below_drewN | apply below_drew1) | exact HB.out)⟩

def fluxionref16_SameTexts.l0 : Nat → List ByteArray → List ByteArray → Int → Option (Bool)
  | 0, _, _, _ => none
  | k + 1, x0, x1, x5 => if x5 < (x0.length : Int) then (if 0 ≤ x5 then (if x5 < (x1.length : Int) then (if (rdOf ByteArray.empty x0 x5).toList = (rdOf ByteArray.empty x1 x5).toList then (fluxionref16_SameTexts.l0 k x0 x1 (wrap64 (x5 + 1))) else (some false)) else (none)) else (none)) else (some true)
def fluxionref16_SameTexts.f (k : Nat) (l0 : List ByteArray) (l1 : List ByteArray) : Option (Bool) := if (l0.length : Int) = (l1.length : Int) then (fluxionref16_SameTexts.l0 k l0 l1 0) else (some false)
set_option maxHeartbeats 8000000 in
set_option maxRecDepth 100000 in
theorem fluxionref16_SameTexts.calls (k : Nat) (A0 : Option Addr) (c0 : Nat) (l0 : List ByteArray) (A1 : Option Addr) (c1 : Nat) (l1 : List ByteArray) (r : Bool) (w : World) (hr0 : Kd.C Kd.string w A0 l0.length l0) (hc0 : l0.length ≤ c0) (hr1 : Kd.C Kd.string w A1 l1.length l1) (hc1 : l1.length ≤ c1) (h : fluxionref16_SameTexts.f k l0 l1 = some r) :
    Calls Tryz.prog 58 #[.slice A0 l0.length c0, .slice A1 l1.length c1] w fun e w' => e = .returned (.bool r) ∧ Drawn0 w w' := by
  have HR0 := Aside0.mk hr0
  have HC0 := Aside0.mk hc0
  clear hr0 hc0
  have HR1 := Aside0.mk hr1
  have HC1 := Aside0.mk hc1
  clear hr1 hc1
  have H : (if (l0.length : Int) = (l1.length : Int) then (fluxionref16_SameTexts.l0 k l0 l1 0) else (some false)) = some r := h
  clear h
  by_cases c3 : (l0.length : Int) = (l1.length : Int)
  · rw [if_pos c3] at H
    have c3b0 : ((l0.length : Int) == (l1.length : Int)) = true := beq_iff_eq.mpr c3
    have c3b1 : ((l0.length : Int) != (l1.length : Int)) = false := bne_eq_false_iff_eq.mpr c3
    have c3b2 : (l0.length == l1.length) = true := by first | simpa using c3 | (simp at c3 ⊢; omega)
    clear c3
    have H' := Aside0.mk H
    clear H
    go_enter Tryz.func58, Tryz.ntmps58
    go_wp2
    repeat (go_quiet (fail); try go_wp2)
    go_loopg [5] k (fun kq v5 w' => ∃ (x5_1 : Int), v5 = .int .i64 x5_1 ∧ Aside0 (fluxionref16_SameTexts.l0 kq l0 l1 x5_1 = some r) ∧ Aside0 (kq ≤ k) ∧ Drawn0 w w')
    case atStart => exact ⟨(0), (by first | rfl | (simp; done) | (simp [*]; done)), H', ⟨Nat.le_refl _⟩, by repeat (first | exact Drawn0.refl _ | apply Drawn0.step)⟩
    case round =>
      clear H'
      try clear c1
      try clear p2
      try clear c3
      try clear c3b0
      try clear c3b1
      try clear c3b2
      obtain ⟨x5_1, rfl, HA, HK1, ⟨m1, rfl⟩⟩ := hrel
      cases gk with
      | zero => exact absurd HA.out (by simp [fluxionref16_SameTexts.l0])
      | succ k1 =>
        have H := HA.out
        clear HA
        simp only [fluxionref16_SameTexts.l0] at H
        by_cases c4 : x5_1 < (l0.length : Int)
        · rw [if_pos c4] at H
          have c4b0 : decide (x5_1 < (l0.length : Int)) = true := decide_eq_true c4
          clear c4
          by_cases c5 : 0 ≤ x5_1
          · rw [if_pos c5] at H
            have c5b0 : decide (0 ≤ x5_1) = true := decide_eq_true c5
            clear c5
            by_cases c6 : x5_1 < (l1.length : Int)
            · rw [if_pos c6] at H
              have c6b0 : decide (x5_1 < (l1.length : Int)) = true := decide_eq_true c6
              clear c6
              by_cases c7 : (rdOf ByteArray.empty l0 x5_1).toList = (rdOf ByteArray.empty l1 x5_1).toList
              · rw [if_pos c7] at H
                have c7b0 : ((rdOf ByteArray.empty l0 x5_1).toList == (rdOf ByteArray.empty l1 x5_1).toList) = true := beq_iff_eq.mpr c7
                have c7b1 : ((rdOf ByteArray.empty l0 x5_1).toList != (rdOf ByteArray.empty l1 x5_1).toList) = false := bne_eq_false_iff_eq.mpr c7
                clear c7
                have H' := Aside0.mk H
                clear H
                have p665 : 0 ≤ (x5_1 : Int) := of_decide_eq_true (by first | (with_reducible assumption) | assumption)
                have q665 : x5_1 < (l0.length : Int) := of_decide_eq_true (by first | (with_reducible assumption) | assumption)
                obtain ⟨ad665, e665, hx665_0⟩ := Kd.at_string HR0.out x5_1 p665 q665
                cases e665
                replace p665 := eq_true p665
                replace q665 := eq_true q665
                have p666 : 0 ≤ (x5_1 : Int) := of_decide_eq_true (by first | (with_reducible assumption) | assumption)
                have q666 : x5_1 < (l1.length : Int) := of_decide_eq_true (by first | (with_reducible assumption) | assumption)
                obtain ⟨ad666, e666, hx666_0⟩ := Kd.at_string HR1.out x5_1 p666 q666
                cases e666
                replace p666 := eq_true p666
                replace q666 := eq_true q666
                go_wp2
                repeat (go_quiet (fail); try go_wp2)
                go_roundg k1
                case measure => have := HK1.out; omega
                case rel => exact ⟨(wrap64 (x5_1 + 1)), (by first | rfl | (simp; done) | (simp [*]; done)), H', ⟨by have := HK1.out; omega⟩, by repeat (first | exact Drawn0.refl _ | apply Drawn0.step)⟩
              · rw [if_neg c7] at H
                have c7b0 : ((rdOf ByteArray.empty l0 x5_1).toList == (rdOf ByteArray.empty l1 x5_1).toList) = false := beq_eq_false_iff_ne.mpr c7
                have c7b1 : ((rdOf ByteArray.empty l0 x5_1).toList != (rdOf ByteArray.empty l1 x5_1).toList) = true := bne_iff_ne.mpr c7
                obtain rfl := Option.some.inj H
                have p665 : 0 ≤ (x5_1 : Int) := of_decide_eq_true (by first | (with_reducible assumption) | assumption)
                have q665 : x5_1 < (l0.length : Int) := of_decide_eq_true (by first | (with_reducible assumption) | assumption)
                obtain ⟨ad665, e665, hx665_0⟩ := Kd.at_string HR0.out x5_1 p665 q665
                cases e665
                replace p665 := eq_true p665
                replace q665 := eq_true q665
                have p666 : 0 ≤ (x5_1 : Int) := of_decide_eq_true (by first | (with_reducible assumption) | assumption)
                have q666 : x5_1 < (l1.length : Int) := of_decide_eq_true (by first | (with_reducible assumption) | assumption)
                obtain ⟨ad666, e666, hx666_0⟩ := Kd.at_string HR1.out x5_1 p666 q666
                cases e666
                replace p666 := eq_true p666
                replace q666 := eq_true q666
                go_wp2
                repeat (go_quiet (fail); try go_wp2)
                go_ret
                exact ⟨by first | rfl | (simp; done) | (simp [*]; done), by repeat (first | exact Drawn0.refl _ | apply Drawn0.step)⟩
            · rw [if_neg c6] at H
              exact absurd H (by simp)
          · rw [if_neg c5] at H
            exact absurd H (by simp)
        · rw [if_neg c4] at H
          have c4b0 : decide (x5_1 < (l0.length : Int)) = false := decide_eq_false c4
          clear c4
          obtain rfl := Option.some.inj H
          go_wp2
          repeat (go_quiet (fail); try go_wp2)
          go_ret
          exact ⟨by first | rfl | (simp; done) | (simp [*]; done), by repeat (first | exact Drawn0.refl _ | apply Drawn0.step)⟩
  · rw [if_neg c3] at H
    have c3b0 : ((l0.length : Int) == (l1.length : Int)) = false := beq_eq_false_iff_ne.mpr c3
    have c3b1 : ((l0.length : Int) != (l1.length : Int)) = true := bne_iff_ne.mpr c3
    have c3b2 : (l0.length == l1.length) = false := by first | simpa using c3 | (simp at c3 ⊢; omega)
    obtain rfl := Option.some.inj H
    go_enter Tryz.func58, Tryz.ntmps58
    go_wp2
    repeat (go_quiet (fail); try go_wp2)
    go_ret
    exact ⟨by first | rfl | (simp; done) | (simp [*]; done), by repeat (first | exact Drawn0.refl _ | apply Drawn0.step)⟩

def lex_Int.j0 : Nat → ByteArray → Bool → Bool → Option (Int × Int)
  | 0, _, _, _ => none
  | k + 1, x4, x5, x17 => if x17 = true then (some (0, 19)) else ((lex_read.f x4).bind fun bt646 => (if x5 = true then (some (wrap64 (-bt646.1), bt646.2)) else (some (bt646.1, bt646.2))))
def lex_Int.f (k : Nat) (a0 : ByteArray) : Option (Int × Int) := (strings_CutPrefix.f a0 (⟨#[45]⟩ : ByteArray)).bind fun bt644 => (if bt644.2 = true then (lex_Int.j0 k bt644.1 bt644.2 (bt644.1.toList == ([48] : List UInt8))) else (lex_Int.j0 k bt644.1 bt644.2 false))
set_option maxHeartbeats 8000000 in
set_option maxRecDepth 100000 in
theorem lex_Int.calls (k : Nat) (a0 : ByteArray) (r1 : Int) (r2 : Int) (w : World) (h : lex_Int.f k a0 = some (r1, r2)) (hL : LaidT w) :
    Calls Tryz.prog 23 #[.string a0] w fun e w' => e = .returned (.tuple #[.int .i64 r1, .int .i64 r2]) ∧ Below w.heap.size w w' := by
  have HB := Aside0.mk (Below.refl w.heap.size w)
  have H : ((strings_CutPrefix.f a0 (⟨#[45]⟩ : ByteArray)).bind fun bt644 => (if bt644.2 = true then (lex_Int.j0 k bt644.1 bt644.2 (bt644.1.toList == ([48] : List UInt8))) else (lex_Int.j0 k bt644.1 bt644.2 false))) = some (r1, r2) := h
  clear h
  replace H := Option.bind_eq_some_iff.mp H
  obtain ⟨⟨t644, t645⟩, A20, H⟩ := H
  try dsimp only at H
  have A2 := Aside0.mk A20
  clear A20
  have HC3 := Aside0.mk H
  clear H
  go_enter Tryz.func23, Tryz.ntmps23
  go_upto_region 2 with (first | ((with_reducible refine gate_callee (f := 34) rfl ?_); refine goesL_ (some 10) rfl rfl Tryz.func34 (by kernel_rfl) rfl #[.string a0, .string (⟨#[45]⟩ : ByteArray)] rfl (by (try simp only [List.map_toArray, List.map_cons, List.map_nil]); first | done | rfl | (simp only [List.length_drop, List.length_take]; rfl)) ?_; (with_reducible refine (strings_CutPrefix.calls a0 (⟨#[45]⟩ : ByteArray) t644 t645 _ A2.out).mono ?_); rintro e w' ⟨rfl, ⟨nd, rfl⟩⟩; refine ⟨_, rfl, ?_⟩))
  (try simp only [Act.put, List.setIfInBounds_toArray, List.set_cons_zero, List.set_cons_succ])
  go_cut [17] (fun v17 wc => ∃ (kq : Nat) (x17_2 : Bool), v17 = .bool x17_2 ∧ Aside0 (lex_Int.j0 kq t644 t645 x17_2 = some (r1, r2)) ∧ Aside0 (kq ≤ k) ∧ Aside0 (Below w.heap.size w wc))
  case first =>
    have H := HC3.out
    clear HC3
    by_cases c4 : t645 = true
    · subst c4
      have H1 : (lex_Int.j0 k t644 true (t644.toList == ([48] : List UInt8))) = some (r1, r2) := by rw [if_pos rfl] at H; exact H
      clear H
      have H := H1
      clear H1
      have H' := Aside0.mk H
      clear H
      go_wp2
      go_meet
      case rel => exact ⟨_, ((t644.toList == ([48] : List UInt8))), (by first | rfl | (simp; done) | (simp [*]; done)), H', ⟨by first | omega | exact Nat.le_refl _⟩, ⟨by repeat (first | (with_reducible first | exact HB.out | apply below_alloc | apply pw_below_drewN | apply below_drew1) | exact HB.out)⟩⟩
    · replace c4 := Bool.eq_false_iff.mpr c4
      subst c4
      have H1 : (lex_Int.j0 k t644 false false) = some (r1, r2) := by rw [if_neg (show ¬ (false = true) by decide)] at H; exact H
      clear H
      have H := H1
      clear H1
      have H' := Aside0.mk H
      clear H
      go_wp2
      go_meet
      case rel => exact ⟨_, (false), (by first | rfl | (simp; done) | (simp [*]; done)), H', ⟨by first | omega | exact Nat.le_refl _⟩, ⟨by repeat (first | (with_reducible first | exact HB.out | apply below_alloc | apply pw_below_drewN | apply below_drew1) | exact HB.out)⟩⟩
  case rest =>
    clear HC3
    try clear c2
    try clear p2
    try clear c3
    try clear c4
    obtain ⟨kq, x17_2, rfl, HA, HJ2, HB⟩ := hcut
    cases kq with
    | zero => exact absurd HA.out (by simp [lex_Int.j0])
    | succ kj2 =>
      have H := HA.out
      clear HA
      simp only [lex_Int.j0] at H
      by_cases c5 : x17_2 = true
      · subst c5
        have H1 : (some (0, 19)) = some (r1, r2) := by rw [if_pos rfl] at H; exact H
        clear H
        have H := H1
        clear H1
        simp only [Option.some.injEq, Prod.mk.injEq] at H
        obtain ⟨rfl, rfl⟩ := H
        go_wp2
        go_ret2
        exact ⟨by first | rfl | (simp [errW_none, errW_some] <;> rfl) | (simp [*, errW_none, errW_some] <;> rfl), by repeat (first | (with_reducible first | exact HB.out | apply below_alloc | apply pw_below_drewN | apply below_drew1) | exact HB.out)⟩
      · replace c5 := Bool.eq_false_iff.mpr c5
        subst c5
        have H1 : ((lex_read.f t644).bind fun bt646 => (if t645 = true then (some (wrap64 (-bt646.1), bt646.2)) else (some (bt646.1, bt646.2)))) = some (r1, r2) := by rw [if_neg (show ¬ (false = true) by decide)] at H; exact H
        clear H
        have H := H1
        clear H1
        replace H := Option.bind_eq_some_iff.mp H
        obtain ⟨⟨t646, t647⟩, A60, H⟩ := H
        try dsimp only at H
        have A6 := Aside0.mk A60
        clear A60
        by_cases c7 : t645 = true
        · subst c7
          have H1 : (some (wrap64 (-t646), t647)) = some (r1, r2) := by rw [if_pos rfl] at H; exact H
          clear H
          have H := H1
          clear H1
          simp only [Option.some.injEq, Prod.mk.injEq] at H
          obtain ⟨rfl, rfl⟩ := H
          go_wp2_with (first | ((with_reducible refine gate_callee (f := 54) rfl ?_); refine goesL_ (some 20) rfl rfl Tryz.func54 (by kernel_rfl) rfl #[.string t644] rfl (by (try simp only [List.map_toArray, List.map_cons, List.map_nil]); first | done | rfl | (simp only [List.length_drop, List.length_take]; rfl)) ?_; (with_reducible refine (lex_read.calls t644 t646 t647 _ A6.out ?side1).mono ?_); (case side1 => exact LaidT.below hL (by repeat (first | (with_reducible first | exact HB.out | apply below_alloc | apply pw_below_drewN | apply below_drew1) | exact HB.out))); rintro e w8 ⟨rfl, hb⟩; refine ⟨_, rfl, ?_⟩; have n0_ := Aside0.mk (below_step (by repeat (first | (with_reducible first | exact HB.out | apply below_alloc | apply pw_below_drewN | apply below_drew1) | exact HB.out)) hb); clear HB; have HB := n0_; clear n0_; (try clear hb); (try clear hb2); (try clear hk); (try clear hi)))
          go_ret2
          exact ⟨by first | rfl | (simp [errW_none, errW_some] <;> rfl) | (simp [*, errW_none, errW_some] <;> rfl), by repeat (first | (with_reducible first | exact HB.out | apply below_alloc | apply pw_below_drewN | apply below_drew1) | exact HB.out)⟩
        · replace c7 := Bool.eq_false_iff.mpr c7
          subst c7
          have H1 : (some (t646, t647)) = some (r1, r2) := by rw [if_neg (show ¬ (false = true) by decide)] at H; exact H
          clear H
          have H := H1
          clear H1
          simp only [Option.some.injEq, Prod.mk.injEq] at H
          obtain ⟨rfl, rfl⟩ := H
          go_wp2_with (first | ((with_reducible refine gate_callee (f := 54) rfl ?_); refine goesL_ (some 20) rfl rfl Tryz.func54 (by kernel_rfl) rfl #[.string t644] rfl (by (try simp only [List.map_toArray, List.map_cons, List.map_nil]); first | done | rfl | (simp only [List.length_drop, List.length_take]; rfl)) ?_; (with_reducible refine (lex_read.calls t644 t646 t647 _ A6.out ?side1).mono ?_); (case side1 => exact LaidT.below hL (by repeat (first | (with_reducible first | exact HB.out | apply below_alloc | apply pw_below_drewN | apply below_drew1) | exact HB.out))); rintro e w9 ⟨rfl, hb⟩; refine ⟨_, rfl, ?_⟩; have n0_ := Aside0.mk (below_step (by repeat (first | (with_reducible first | exact HB.out | apply below_alloc | apply pw_below_drewN | apply below_drew1) | exact HB.out)) hb); clear HB; have HB := n0_; clear n0_; (try clear hb); (try clear hb2); (try clear hk); (try clear hi)))
          go_ret2
          exact ⟨by first | rfl | (simp [errW_none, errW_some] <;> rfl) | (simp [*, errW_none, errW_some] <;> rfl), by repeat (first | (with_reducible first | exact HB.out | apply below_alloc | apply pw_below_drewN | apply below_drew1) | exact HB.out)⟩

def fluxionlaw16_number.f (k : Nat) (a0 : ByteArray) (a1 : Int) (a2 : Int) : Option (Bool) := (lex_Int.f k a0).bind fun bt667 => (if bt667.1 = a1 then (some (bt667.2 == a2)) else (some false))
set_option maxHeartbeats 8000000 in
set_option maxRecDepth 100000 in
theorem fluxionlaw16_number.calls (k : Nat) (a0 : ByteArray) (a1 : Int) (a2 : Int) (r : Bool) (w : World) (h : fluxionlaw16_number.f k a0 a1 a2 = some r) (hL : LaidT w) :
    Calls Tryz.prog 59 #[.string a0, .int .i64 a1, .int .i64 a2] w fun e w' => e = .returned (.bool r) ∧ Below w.heap.size w w' := by
  have HB := Aside0.mk (Below.refl w.heap.size w)
  have H : ((lex_Int.f k a0).bind fun bt667 => (if bt667.1 = a1 then (some (bt667.2 == a2)) else (some false))) = some r := h
  clear h
  replace H := Option.bind_eq_some_iff.mp H
  obtain ⟨⟨t667, t668⟩, A40, H⟩ := H
  try dsimp only at H
  have A4 := Aside0.mk A40
  clear A40
  by_cases c5 : t667 = a1
  · rw [if_pos c5] at H
    have c5b0 : (t667 == a1) = true := beq_iff_eq.mpr c5
    have c5b1 : (t667 != a1) = false := bne_eq_false_iff_eq.mpr c5
    clear c5
    obtain rfl := Option.some.inj H
    go_enter Tryz.func59, Tryz.ntmps59
    go_wp2_with (first | ((with_reducible refine gate_callee (f := 23) rfl ?_); refine goesL_ (some 11) rfl rfl Tryz.func23 (by kernel_rfl) rfl #[.string a0] rfl (by (try simp only [List.map_toArray, List.map_cons, List.map_nil]); first | done | rfl | (simp only [List.length_drop, List.length_take]; rfl)) ?_; (with_reducible refine (lex_Int.calls k a0 t667 t668 _ A4.out ?side1).mono ?_); (case side1 => exact LaidT.below hL (by repeat (first | (with_reducible first | exact HB.out | apply below_alloc | apply pw_below_drewN | apply below_drew1) | exact HB.out))); rintro e w6 ⟨rfl, hb⟩; refine ⟨_, rfl, ?_⟩; have n0_ := Aside0.mk (below_step (by repeat (first | (with_reducible first | exact HB.out | apply below_alloc | apply pw_below_drewN | apply below_drew1) | exact HB.out)) hb); clear HB; have HB := n0_; clear n0_; (try clear hb); (try clear hb2); (try clear hk); (try clear hi)))
    go_ret
    exact ⟨by first | rfl | (simp [errW_none, errW_some] <;> rfl) | (simp [*, errW_none, errW_some] <;> rfl), by repeat (first | (with_reducible first | exact HB.out | apply below_alloc | apply pw_below_drewN | apply below_drew1) | exact HB.out)⟩
  · rw [if_neg c5] at H
    have c5b0 : (t667 == a1) = false := beq_eq_false_iff_ne.mpr c5
    have c5b1 : (t667 != a1) = true := bne_iff_ne.mpr c5
    obtain rfl := Option.some.inj H
    go_enter Tryz.func59, Tryz.ntmps59
    go_wp2_with (first | ((with_reducible refine gate_callee (f := 23) rfl ?_); refine goesL_ (some 11) rfl rfl Tryz.func23 (by kernel_rfl) rfl #[.string a0] rfl (by (try simp only [List.map_toArray, List.map_cons, List.map_nil]); first | done | rfl | (simp only [List.length_drop, List.length_take]; rfl)) ?_; (with_reducible refine (lex_Int.calls k a0 t667 t668 _ A4.out ?side1).mono ?_); (case side1 => exact LaidT.below hL (by repeat (first | (with_reducible first | exact HB.out | apply below_alloc | apply pw_below_drewN | apply below_drew1) | exact HB.out))); rintro e w7 ⟨rfl, hb⟩; refine ⟨_, rfl, ?_⟩; have n0_ := Aside0.mk (below_step (by repeat (first | (with_reducible first | exact HB.out | apply below_alloc | apply pw_below_drewN | apply below_drew1) | exact HB.out)) hb); clear HB; have HB := n0_; clear n0_; (try clear hb); (try clear hb2); (try clear hk); (try clear hi)))
    go_ret
    exact ⟨by first | rfl | (simp [errW_none, errW_some] <;> rfl) | (simp [*, errW_none, errW_some] <;> rfl), by repeat (first | (with_reducible first | exact HB.out | apply below_alloc | apply pw_below_drewN | apply below_drew1) | exact HB.out)⟩

def lex_Hidden.f (a0 : ByteArray) : Option (Bool) := (strings_CutPrefix.f a0 (⟨#[126]⟩ : ByteArray)).bind fun bt669 => (if bt669.2 = true then ((lex_natural.f bt669.1).bind fun t671 => (if t671 = true then (some (decide ((a0.size : Int) ≤ 32))) else (some false))) else (some false))
set_option maxHeartbeats 8000000 in
set_option maxRecDepth 100000 in
theorem lex_Hidden.calls (a0 : ByteArray) (r : Bool) (w : World) (h : lex_Hidden.f a0 = some r) :
    Calls Tryz.prog 95 #[.string a0] w fun e w' => e = .returned (.bool r) ∧ Below w.heap.size w w' := by
  have HB := Aside0.mk (Below.refl w.heap.size w)
  have H : ((strings_CutPrefix.f a0 (⟨#[126]⟩ : ByteArray)).bind fun bt669 => (if bt669.2 = true then ((lex_natural.f bt669.1).bind fun t671 => (if t671 = true then (some (decide ((a0.size : Int) ≤ 32))) else (some false))) else (some false))) = some r := h
  clear h
  replace H := Option.bind_eq_some_iff.mp H
  obtain ⟨⟨t669, t670⟩, A20, H⟩ := H
  try dsimp only at H
  have A2 := Aside0.mk A20
  clear A20
  by_cases c3 : t670 = true
  · subst c3
    have H1 : ((lex_natural.f t669).bind fun t671 => (if t671 = true then (some (decide ((a0.size : Int) ≤ 32))) else (some false))) = some r := by rw [if_pos rfl] at H; exact H
    clear H
    have H := H1
    clear H1
    replace H := Option.bind_eq_some_iff.mp H
    obtain ⟨t671, A40, H⟩ := H
    try dsimp only at H
    have A4 := Aside0.mk A40
    clear A40
    by_cases c5 : t671 = true
    · subst c5
      have H1 : (some (decide ((a0.size : Int) ≤ 32))) = some r := by rw [if_pos rfl] at H; exact H
      clear H
      have H := H1
      clear H1
      obtain rfl := Option.some.inj H
      go_enter Tryz.func95, Tryz.ntmps95
      go_wp2_with (first | ((with_reducible refine gate_callee (f := 34) rfl ?_); refine goesL_ (some 7) rfl rfl Tryz.func34 (by kernel_rfl) rfl #[.string a0, .string (⟨#[126]⟩ : ByteArray)] rfl (by (try simp only [List.map_toArray, List.map_cons, List.map_nil]); first | done | rfl | (simp only [List.length_drop, List.length_take]; rfl)) ?_; (with_reducible refine (strings_CutPrefix.calls a0 (⟨#[126]⟩ : ByteArray) t669 true _ A2.out).mono ?_); rintro e w' ⟨rfl, ⟨nd, rfl⟩⟩; refine ⟨_, rfl, ?_⟩) | (go_at_call 90; (with_reducible refine (lex_natural.calls t669 true _ A4.out).mono ?_); rintro e w6 ⟨rfl, hb⟩; have n0_ := Aside0.mk (below_step (by repeat (first | (with_reducible first | exact HB.out | apply below_alloc | apply pw_below_drewN | apply below_drew1) | exact HB.out)) hb); clear HB; have HB := n0_; clear n0_; (try clear hb); (try clear hb2); (try clear hk); (try clear hi)))
      go_ret
      exact ⟨by first | rfl | (simp [errW_none, errW_some] <;> rfl) | (simp [*, errW_none, errW_some] <;> rfl), by repeat (first | (with_reducible first | exact HB.out | apply below_alloc | apply pw_below_drewN | apply below_drew1) | exact HB.out)⟩
    · replace c5 := Bool.eq_false_iff.mpr c5
      subst c5
      have H1 : (some false) = some r := by rw [if_neg (show ¬ (false = true) by decide)] at H; exact H
      clear H
      have H := H1
      clear H1
      obtain rfl := Option.some.inj H
      go_enter Tryz.func95, Tryz.ntmps95
      go_wp2_with (first | ((with_reducible refine gate_callee (f := 34) rfl ?_); refine goesL_ (some 7) rfl rfl Tryz.func34 (by kernel_rfl) rfl #[.string a0, .string (⟨#[126]⟩ : ByteArray)] rfl (by (try simp only [List.map_toArray, List.map_cons, List.map_nil]); first | done | rfl | (simp only [List.length_drop, List.length_take]; rfl)) ?_; (with_reducible refine (strings_CutPrefix.calls a0 (⟨#[126]⟩ : ByteArray) t669 true _ A2.out).mono ?_); rintro e w' ⟨rfl, ⟨nd, rfl⟩⟩; refine ⟨_, rfl, ?_⟩) | (go_at_call 90; (with_reducible refine (lex_natural.calls t669 false _ A4.out).mono ?_); rintro e w7 ⟨rfl, hb⟩; have n0_ := Aside0.mk (below_step (by repeat (first | (with_reducible first | exact HB.out | apply below_alloc | apply pw_below_drewN | apply below_drew1) | exact HB.out)) hb); clear HB; have HB := n0_; clear n0_; (try clear hb); (try clear hb2); (try clear hk); (try clear hi)))
      go_ret
      exact ⟨by first | rfl | (simp [errW_none, errW_some] <;> rfl) | (simp [*, errW_none, errW_some] <;> rfl), by repeat (first | (with_reducible first | exact HB.out | apply below_alloc | apply pw_below_drewN | apply below_drew1) | exact HB.out)⟩
  · replace c3 := Bool.eq_false_iff.mpr c3
    subst c3
    have H1 : (some false) = some r := by rw [if_neg (show ¬ (false = true) by decide)] at H; exact H
    clear H
    have H := H1
    clear H1
    obtain rfl := Option.some.inj H
    go_enter Tryz.func95, Tryz.ntmps95
    go_wp2_with (first | ((with_reducible refine gate_callee (f := 34) rfl ?_); refine goesL_ (some 7) rfl rfl Tryz.func34 (by kernel_rfl) rfl #[.string a0, .string (⟨#[126]⟩ : ByteArray)] rfl (by (try simp only [List.map_toArray, List.map_cons, List.map_nil]); first | done | rfl | (simp only [List.length_drop, List.length_take]; rfl)) ?_; (with_reducible refine (strings_CutPrefix.calls a0 (⟨#[126]⟩ : ByteArray) t669 false _ A2.out).mono ?_); rintro e w' ⟨rfl, ⟨nd, rfl⟩⟩; refine ⟨_, rfl, ?_⟩))
    go_ret
    exact ⟨by first | rfl | (simp [errW_none, errW_some] <;> rfl) | (simp [*, errW_none, errW_some] <;> rfl), by repeat (first | (with_reducible first | exact HB.out | apply below_alloc | apply pw_below_drewN | apply below_drew1) | exact HB.out)⟩

def lex_Name.f (a0 : ByteArray) : Option (Int) := (lex_plain.f a0).bind fun t672 => (if t672 = true then (some 0) else ((lex_Hidden.f a0).bind fun t673 => (if t673 = true then (some 0) else (some 15))))
set_option maxHeartbeats 8000000 in
set_option maxRecDepth 100000 in
theorem lex_Name.calls (a0 : ByteArray) (r : Int) (w : World) (h : lex_Name.f a0 = some r) :
    Calls Tryz.prog 60 #[.string a0] w fun e w' => e = .returned (.int .i64 r) ∧ Below w.heap.size w w' := by
  have HB := Aside0.mk (Below.refl w.heap.size w)
  have H : ((lex_plain.f a0).bind fun t672 => (if t672 = true then (some 0) else ((lex_Hidden.f a0).bind fun t673 => (if t673 = true then (some 0) else (some 15))))) = some r := h
  clear h
  replace H := Option.bind_eq_some_iff.mp H
  obtain ⟨t672, A20, H⟩ := H
  try dsimp only at H
  have A2 := Aside0.mk A20
  clear A20
  by_cases c3 : t672 = true
  · subst c3
    have H1 : (some 0) = some r := by rw [if_pos rfl] at H; exact H
    clear H
    have H := H1
    clear H1
    obtain rfl := Option.some.inj H
    go_enter Tryz.func60, Tryz.ntmps60
    go_wp2_with (first | ((with_reducible refine gate_callee (f := 94) rfl ?_); refine goesL_ (some 4) rfl rfl Tryz.func94 (by kernel_rfl) rfl #[.string a0] rfl (by (try simp only [List.map_toArray, List.map_cons, List.map_nil]); first | done | rfl | (simp only [List.length_drop, List.length_take]; rfl)) ?_; (with_reducible refine (lex_plain.calls a0 true _ A2.out).mono ?_); rintro e w4 ⟨rfl, hb⟩; refine ⟨_, rfl, ?_⟩; have n0_ := Aside0.mk (below_step (by repeat (first | (with_reducible first | exact HB.out | apply below_alloc | apply pw_below_drewN | apply below_drew1) | exact HB.out)) hb); clear HB; have HB := n0_; clear n0_; (try clear hb); (try clear hb2); (try clear hk); (try clear hi)))
    go_ret
    exact ⟨by first | rfl | (simp [errW_none, errW_some] <;> rfl) | (simp [*, errW_none, errW_some] <;> rfl), by repeat (first | (with_reducible first | exact HB.out | apply below_alloc | apply pw_below_drewN | apply below_drew1) | exact HB.out)⟩
  · replace c3 := Bool.eq_false_iff.mpr c3
    subst c3
    have H1 : ((lex_Hidden.f a0).bind fun t673 => (if t673 = true then (some 0) else (some 15))) = some r := by rw [if_neg (show ¬ (false = true) by decide)] at H; exact H
    clear H
    have H := H1
    clear H1
    replace H := Option.bind_eq_some_iff.mp H
    obtain ⟨t673, A50, H⟩ := H
    try dsimp only at H
    have A5 := Aside0.mk A50
    clear A50
    by_cases c6 : t673 = true
    · subst c6
      have H1 : (some 0) = some r := by rw [if_pos rfl] at H; exact H
      clear H
      have H := H1
      clear H1
      obtain rfl := Option.some.inj H
      go_enter Tryz.func60, Tryz.ntmps60
      go_wp2_with (first | ((with_reducible refine gate_callee (f := 94) rfl ?_); refine goesL_ (some 4) rfl rfl Tryz.func94 (by kernel_rfl) rfl #[.string a0] rfl (by (try simp only [List.map_toArray, List.map_cons, List.map_nil]); first | done | rfl | (simp only [List.length_drop, List.length_take]; rfl)) ?_; (with_reducible refine (lex_plain.calls a0 false _ A2.out).mono ?_); rintro e w7 ⟨rfl, hb⟩; refine ⟨_, rfl, ?_⟩; have n0_ := Aside0.mk (below_step (by repeat (first | (with_reducible first | exact HB.out | apply below_alloc | apply pw_below_drewN | apply below_drew1) | exact HB.out)) hb); clear HB; have HB := n0_; clear n0_; (try clear hb); (try clear hb2); (try clear hk); (try clear hi)) | (go_at_call 95; (with_reducible refine (lex_Hidden.calls a0 true _ A5.out).mono ?_); rintro e w8 ⟨rfl, hb⟩; have n0_ := Aside0.mk (below_step (by repeat (first | (with_reducible first | exact HB.out | apply below_alloc | apply pw_below_drewN | apply below_drew1) | exact HB.out)) hb); clear HB; have HB := n0_; clear n0_; (try clear hb); (try clear hb2); (try clear hk); (try clear hi)))
      go_ret
      exact ⟨by first | rfl | (simp [errW_none, errW_some] <;> rfl) | (simp [*, errW_none, errW_some] <;> rfl), by repeat (first | (with_reducible first | exact HB.out | apply below_alloc | apply pw_below_drewN | apply below_drew1) | exact HB.out)⟩
    · replace c6 := Bool.eq_false_iff.mpr c6
      subst c6
      have H1 : (some 15) = some r := by rw [if_neg (show ¬ (false = true) by decide)] at H; exact H
      clear H
      have H := H1
      clear H1
      obtain rfl := Option.some.inj H
      go_enter Tryz.func60, Tryz.ntmps60
      go_wp2_with (first | ((with_reducible refine gate_callee (f := 94) rfl ?_); refine goesL_ (some 4) rfl rfl Tryz.func94 (by kernel_rfl) rfl #[.string a0] rfl (by (try simp only [List.map_toArray, List.map_cons, List.map_nil]); first | done | rfl | (simp only [List.length_drop, List.length_take]; rfl)) ?_; (with_reducible refine (lex_plain.calls a0 false _ A2.out).mono ?_); rintro e w9 ⟨rfl, hb⟩; refine ⟨_, rfl, ?_⟩; have n0_ := Aside0.mk (below_step (by repeat (first | (with_reducible first | exact HB.out | apply below_alloc | apply pw_below_drewN | apply below_drew1) | exact HB.out)) hb); clear HB; have HB := n0_; clear n0_; (try clear hb); (try clear hb2); (try clear hk); (try clear hi)) | (go_at_call 95; (with_reducible refine (lex_Hidden.calls a0 false _ A5.out).mono ?_); rintro e w10 ⟨rfl, hb⟩; have n0_ := Aside0.mk (below_step (by repeat (first | (with_reducible first | exact HB.out | apply below_alloc | apply pw_below_drewN | apply below_drew1) | exact HB.out)) hb); clear HB; have HB := n0_; clear n0_; (try clear hb); (try clear hb2); (try clear hk); (try clear hi)))
      go_ret
      exact ⟨by first | rfl | (simp [errW_none, errW_some] <;> rfl) | (simp [*, errW_none, errW_some] <;> rfl), by repeat (first | (with_reducible first | exact HB.out | apply below_alloc | apply pw_below_drewN | apply below_drew1) | exact HB.out)⟩

def fluxionlaw16_known.f (k : Nat)  : Option (Bool) := (lex_Lines.f k (⟨#[97, 10, 10]⟩ : ByteArray)).bind fun bt674 => ((lex_Lines.f k (⟨#[97]⟩ : ByteArray)).bind fun bt678 => ((lex_Split.f (⟨#[97, 32, 98]⟩ : ByteArray)).bind fun bt682 => ((lex_Split.f (⟨#[97, 32, 32, 98]⟩ : ByteArray)).bind fun bt686 => ((lex_Split.f (⟨#[32, 97]⟩ : ByteArray)).bind fun bt690 => ((lex_Ref.f (⟨#[37, 55]⟩ : ByteArray)).bind fun bt694 => ((lex_Ref.f (⟨#[37, 45, 49]⟩ : ByteArray)).bind fun bt696 => (if bt674.2 = 0 then ((fluxionref16_SameTexts.f k bt674.1 (([(⟨#[97]⟩ : ByteArray), (⟨#[]⟩ : ByteArray)] : List ByteArray))).bind fun t701 => (if t701 = true then (if bt678.2 = 19 then (if bt682.2 = 0 then ((fluxionref16_SameTexts.f k bt682.1 (([(⟨#[97]⟩ : ByteArray), (⟨#[98]⟩ : ByteArray)] : List ByteArray))).bind fun t705 => (if t705 = true then (if bt686.2 = 19 then (if bt690.2 = 19 then ((fluxionlaw16_number.f k (⟨#[45, 49, 50]⟩ : ByteArray) (-12) 0).bind fun t706 => (if t706 = true then ((fluxionlaw16_number.f k (⟨#[45, 48]⟩ : ByteArray) 0 19).bind fun t707 => (if t707 = true then ((fluxionlaw16_number.f k (⟨#[48, 49]⟩ : ByteArray) 0 19).bind fun t708 => (if t708 = true then ((fluxionlaw16_number.f k (⟨#[50, 49, 52, 55, 52, 56, 51, 54, 52, 56]⟩ : ByteArray) 0 14).bind fun t709 => (if t709 = true then (if bt694.1 = 7 then (if bt694.2 = 0 then (if bt696.2 = 19 then ((lex_Name.f (⟨#[120, 95, 49]⟩ : ByteArray)).bind fun t710 => (if t710 = 0 then ((lex_Name.f (⟨#[126, 48]⟩ : ByteArray)).bind fun t711 => (if t711 = 0 then ((lex_Name.f (⟨#[126, 48, 49]⟩ : ByteArray)).bind fun t712 => (if t712 = 15 then ((lex_Name.f (⟨#[88]⟩ : ByteArray)).bind fun t713 => (some (t713 == 15))) else (none))) else (none))) else (none))) else (none)) else (none)) else (none)) else (none))) else (none))) else (none))) else (none))) else (none)) else (none)) else (none))) else (none)) else (none)) else (none))) else (none))))))))
theorem lit_C (W : World) (xs : List ByteArray) (h : xs.length ≤ 1000) (n : Nat) (hn : n = W.heap.size) : Kd.C Kd.string (W.alloc (.cells (xs.map Value.string).toArray 9)) (some ⟨n, 0, none⟩) xs.length xs := by
  subst hn
  have h1 := World.ownsRow_lit (base := W.heap.size) (e := 9) (size := 1) W (xs.map Value.string).toArray xs.length (Nat.le_refl _) (by unfold maxLen; omega) (by simp)
  exact (Kd.R_reads' (Kd.R_of_own (enc := Value.string) (h1 := fun _ => rfl) (ok := fun _ => True) (by simpa [encs] using h1) (fun _ _ => trivial))).2.2
set_option maxHeartbeats 8000000 in
set_option maxRecDepth 100000 in
theorem fluxionlaw16_known.calls (k : Nat)  (r : Bool) (w : World) (h : fluxionlaw16_known.f k  = some r) (hL : LaidT w) :
    Calls Tryz.prog 27 #[] w fun e w' => e = .returned (.bool r) ∧ Below w.heap.size w w' := by
  have HB := Aside0.mk (Below.refl w.heap.size w)
  have H : ((lex_Lines.f k (⟨#[97, 10, 10]⟩ : ByteArray)).bind fun bt674 => ((lex_Lines.f k (⟨#[97]⟩ : ByteArray)).bind fun bt678 => ((lex_Split.f (⟨#[97, 32, 98]⟩ : ByteArray)).bind fun bt682 => ((lex_Split.f (⟨#[97, 32, 32, 98]⟩ : ByteArray)).bind fun bt686 => ((lex_Split.f (⟨#[32, 97]⟩ : ByteArray)).bind fun bt690 => ((lex_Ref.f (⟨#[37, 55]⟩ : ByteArray)).bind fun bt694 => ((lex_Ref.f (⟨#[37, 45, 49]⟩ : ByteArray)).bind fun bt696 => (if bt674.2 = 0 then ((fluxionref16_SameTexts.f k bt674.1 (([(⟨#[97]⟩ : ByteArray), (⟨#[]⟩ : ByteArray)] : List ByteArray))).bind fun t701 => (if t701 = true then (if bt678.2 = 19 then (if bt682.2 = 0 then ((fluxionref16_SameTexts.f k bt682.1 (([(⟨#[97]⟩ : ByteArray), (⟨#[98]⟩ : ByteArray)] : List ByteArray))).bind fun t705 => (if t705 = true then (if bt686.2 = 19 then (if bt690.2 = 19 then ((fluxionlaw16_number.f k (⟨#[45, 49, 50]⟩ : ByteArray) (-12) 0).bind fun t706 => (if t706 = true then ((fluxionlaw16_number.f k (⟨#[45, 48]⟩ : ByteArray) 0 19).bind fun t707 => (if t707 = true then ((fluxionlaw16_number.f k (⟨#[48, 49]⟩ : ByteArray) 0 19).bind fun t708 => (if t708 = true then ((fluxionlaw16_number.f k (⟨#[50, 49, 52, 55, 52, 56, 51, 54, 52, 56]⟩ : ByteArray) 0 14).bind fun t709 => (if t709 = true then (if bt694.1 = 7 then (if bt694.2 = 0 then (if bt696.2 = 19 then ((lex_Name.f (⟨#[120, 95, 49]⟩ : ByteArray)).bind fun t710 => (if t710 = 0 then ((lex_Name.f (⟨#[126, 48]⟩ : ByteArray)).bind fun t711 => (if t711 = 0 then ((lex_Name.f (⟨#[126, 48, 49]⟩ : ByteArray)).bind fun t712 => (if t712 = 15 then ((lex_Name.f (⟨#[88]⟩ : ByteArray)).bind fun t713 => (some (t713 == 15))) else (none))) else (none))) else (none))) else (none)) else (none)) else (none)) else (none))) else (none))) else (none))) else (none))) else (none)) else (none)) else (none))) else (none)) else (none)) else (none))) else (none))))))))) = some r := h
  clear h
  replace H := Option.bind_eq_some_iff.mp H
  obtain ⟨⟨t674, t675⟩, A10, H⟩ := H
  try dsimp only at H
  have A1 := Aside0.mk A10
  clear A10
  replace H := Option.bind_eq_some_iff.mp H
  obtain ⟨⟨t678, t679⟩, A20, H⟩ := H
  try dsimp only at H
  have A2 := Aside0.mk A20
  clear A20
  replace H := Option.bind_eq_some_iff.mp H
  obtain ⟨⟨t682, t683⟩, A30, H⟩ := H
  try dsimp only at H
  have A3 := Aside0.mk A30
  clear A30
  replace H := Option.bind_eq_some_iff.mp H
  obtain ⟨⟨t686, t687⟩, A40, H⟩ := H
  try dsimp only at H
  have A4 := Aside0.mk A40
  clear A40
  replace H := Option.bind_eq_some_iff.mp H
  obtain ⟨⟨t690, t691⟩, A50, H⟩ := H
  try dsimp only at H
  have A5 := Aside0.mk A50
  clear A50
  replace H := Option.bind_eq_some_iff.mp H
  obtain ⟨⟨t694, t695⟩, A60, H⟩ := H
  try dsimp only at H
  have A6 := Aside0.mk A60
  clear A60
  replace H := Option.bind_eq_some_iff.mp H
  obtain ⟨⟨t696, t697⟩, A70, H⟩ := H
  try dsimp only at H
  have A7 := Aside0.mk A70
  clear A70
  by_cases c8 : t675 = 0
  · rw [if_pos c8] at H
    have c8b0 : (t675 == 0) = true := beq_iff_eq.mpr c8
    have c8b1 : (t675 != 0) = false := bne_eq_false_iff_eq.mpr c8
    clear c8
    obtain ⟨y698, hy698⟩ : ∃ y_ : List ByteArray, y_ = (([(⟨#[97]⟩ : ByteArray), (⟨#[]⟩ : ByteArray)] : List ByteArray)) := ⟨_, rfl⟩
    replace H : ((fluxionref16_SameTexts.f k t674 y698).bind fun t701 => (if t701 = true then (if t679 = 19 then (if t683 = 0 then ((fluxionref16_SameTexts.f k t682 (([(⟨#[97]⟩ : ByteArray), (⟨#[98]⟩ : ByteArray)] : List ByteArray))).bind fun t705 => (if t705 = true then (if t687 = 19 then (if t691 = 19 then ((fluxionlaw16_number.f k (⟨#[45, 49, 50]⟩ : ByteArray) (-12) 0).bind fun t706 => (if t706 = true then ((fluxionlaw16_number.f k (⟨#[45, 48]⟩ : ByteArray) 0 19).bind fun t707 => (if t707 = true then ((fluxionlaw16_number.f k (⟨#[48, 49]⟩ : ByteArray) 0 19).bind fun t708 => (if t708 = true then ((fluxionlaw16_number.f k (⟨#[50, 49, 52, 55, 52, 56, 51, 54, 52, 56]⟩ : ByteArray) 0 14).bind fun t709 => (if t709 = true then (if t694 = 7 then (if t695 = 0 then (if t697 = 19 then ((lex_Name.f (⟨#[120, 95, 49]⟩ : ByteArray)).bind fun t710 => (if t710 = 0 then ((lex_Name.f (⟨#[126, 48]⟩ : ByteArray)).bind fun t711 => (if t711 = 0 then ((lex_Name.f (⟨#[126, 48, 49]⟩ : ByteArray)).bind fun t712 => (if t712 = 15 then ((lex_Name.f (⟨#[88]⟩ : ByteArray)).bind fun t713 => (some (t713 == 15))) else (none))) else (none))) else (none))) else (none)) else (none)) else (none)) else (none))) else (none))) else (none))) else (none))) else (none)) else (none)) else (none))) else (none)) else (none)) else (none))) = some r := by first | (rw [hy698]; with_reducible exact H) | (have H2_ := (Option.bind_some _ _).symm.trans H; rw [hy698]; with_reducible exact H2_) | (have H2_ := (Option.bind_some _ _).symm.trans H; with_reducible exact H2_) | with_reducible exact H | (rw [hy698]; exact H) | exact H
    have Ny698 := Aside0.mk hy698
    clear hy698
    replace H := Option.bind_eq_some_iff.mp H
    obtain ⟨t701, A90, H⟩ := H
    try dsimp only at H
    have A9 := Aside0.mk A90
    clear A90
    by_cases c10 : t701 = true
    · subst c10
      have H1 : (if t679 = 19 then (if t683 = 0 then ((fluxionref16_SameTexts.f k t682 (([(⟨#[97]⟩ : ByteArray), (⟨#[98]⟩ : ByteArray)] : List ByteArray))).bind fun t705 => (if t705 = true then (if t687 = 19 then (if t691 = 19 then ((fluxionlaw16_number.f k (⟨#[45, 49, 50]⟩ : ByteArray) (-12) 0).bind fun t706 => (if t706 = true then ((fluxionlaw16_number.f k (⟨#[45, 48]⟩ : ByteArray) 0 19).bind fun t707 => (if t707 = true then ((fluxionlaw16_number.f k (⟨#[48, 49]⟩ : ByteArray) 0 19).bind fun t708 => (if t708 = true then ((fluxionlaw16_number.f k (⟨#[50, 49, 52, 55, 52, 56, 51, 54, 52, 56]⟩ : ByteArray) 0 14).bind fun t709 => (if t709 = true then (if t694 = 7 then (if t695 = 0 then (if t697 = 19 then ((lex_Name.f (⟨#[120, 95, 49]⟩ : ByteArray)).bind fun t710 => (if t710 = 0 then ((lex_Name.f (⟨#[126, 48]⟩ : ByteArray)).bind fun t711 => (if t711 = 0 then ((lex_Name.f (⟨#[126, 48, 49]⟩ : ByteArray)).bind fun t712 => (if t712 = 15 then ((lex_Name.f (⟨#[88]⟩ : ByteArray)).bind fun t713 => (some (t713 == 15))) else (none))) else (none))) else (none))) else (none)) else (none)) else (none)) else (none))) else (none))) else (none))) else (none))) else (none)) else (none)) else (none))) else (none)) else (none)) = some r := by rw [if_pos rfl] at H; exact H
      clear H
      have H := H1
      clear H1
      by_cases c11 : t679 = 19
      · rw [if_pos c11] at H
        have c11b0 : (t679 == 19) = true := beq_iff_eq.mpr c11
        have c11b1 : (t679 != 19) = false := bne_eq_false_iff_eq.mpr c11
        clear c11
        by_cases c12 : t683 = 0
        · rw [if_pos c12] at H
          have c12b0 : (t683 == 0) = true := beq_iff_eq.mpr c12
          have c12b1 : (t683 != 0) = false := bne_eq_false_iff_eq.mpr c12
          clear c12
          obtain ⟨y702, hy702⟩ : ∃ y_ : List ByteArray, y_ = (([(⟨#[97]⟩ : ByteArray), (⟨#[98]⟩ : ByteArray)] : List ByteArray)) := ⟨_, rfl⟩
          replace H : ((fluxionref16_SameTexts.f k t682 y702).bind fun t705 => (if t705 = true then (if t687 = 19 then (if t691 = 19 then ((fluxionlaw16_number.f k (⟨#[45, 49, 50]⟩ : ByteArray) (-12) 0).bind fun t706 => (if t706 = true then ((fluxionlaw16_number.f k (⟨#[45, 48]⟩ : ByteArray) 0 19).bind fun t707 => (if t707 = true then ((fluxionlaw16_number.f k (⟨#[48, 49]⟩ : ByteArray) 0 19).bind fun t708 => (if t708 = true then ((fluxionlaw16_number.f k (⟨#[50, 49, 52, 55, 52, 56, 51, 54, 52, 56]⟩ : ByteArray) 0 14).bind fun t709 => (if t709 = true then (if t694 = 7 then (if t695 = 0 then (if t697 = 19 then ((lex_Name.f (⟨#[120, 95, 49]⟩ : ByteArray)).bind fun t710 => (if t710 = 0 then ((lex_Name.f (⟨#[126, 48]⟩ : ByteArray)).bind fun t711 => (if t711 = 0 then ((lex_Name.f (⟨#[126, 48, 49]⟩ : ByteArray)).bind fun t712 => (if t712 = 15 then ((lex_Name.f (⟨#[88]⟩ : ByteArray)).bind fun t713 => (some (t713 == 15))) else (none))) else (none))) else (none))) else (none)) else (none)) else (none)) else (none))) else (none))) else (none))) else (none))) else (none)) else (none)) else (none))) = some r := by first | (rw [hy702]; with_reducible exact H) | (have H2_ := (Option.bind_some _ _).symm.trans H; rw [hy702]; with_reducible exact H2_) | (have H2_ := (Option.bind_some _ _).symm.trans H; with_reducible exact H2_) | with_reducible exact H | (rw [hy702]; exact H) | exact H
          have Ny702 := Aside0.mk hy702
          clear hy702
          replace H := Option.bind_eq_some_iff.mp H
          obtain ⟨t705, A130, H⟩ := H
          try dsimp only at H
          have A13 := Aside0.mk A130
          clear A130
          by_cases c14 : t705 = true
          · subst c14
            have H1 : (if t687 = 19 then (if t691 = 19 then ((fluxionlaw16_number.f k (⟨#[45, 49, 50]⟩ : ByteArray) (-12) 0).bind fun t706 => (if t706 = true then ((fluxionlaw16_number.f k (⟨#[45, 48]⟩ : ByteArray) 0 19).bind fun t707 => (if t707 = true then ((fluxionlaw16_number.f k (⟨#[48, 49]⟩ : ByteArray) 0 19).bind fun t708 => (if t708 = true then ((fluxionlaw16_number.f k (⟨#[50, 49, 52, 55, 52, 56, 51, 54, 52, 56]⟩ : ByteArray) 0 14).bind fun t709 => (if t709 = true then (if t694 = 7 then (if t695 = 0 then (if t697 = 19 then ((lex_Name.f (⟨#[120, 95, 49]⟩ : ByteArray)).bind fun t710 => (if t710 = 0 then ((lex_Name.f (⟨#[126, 48]⟩ : ByteArray)).bind fun t711 => (if t711 = 0 then ((lex_Name.f (⟨#[126, 48, 49]⟩ : ByteArray)).bind fun t712 => (if t712 = 15 then ((lex_Name.f (⟨#[88]⟩ : ByteArray)).bind fun t713 => (some (t713 == 15))) else (none))) else (none))) else (none))) else (none)) else (none)) else (none)) else (none))) else (none))) else (none))) else (none))) else (none)) else (none)) = some r := by rw [if_pos rfl] at H; exact H
            clear H
            have H := H1
            clear H1
            by_cases c15 : t687 = 19
            · rw [if_pos c15] at H
              have c15b0 : (t687 == 19) = true := beq_iff_eq.mpr c15
              have c15b1 : (t687 != 19) = false := bne_eq_false_iff_eq.mpr c15
              clear c15
              by_cases c16 : t691 = 19
              · rw [if_pos c16] at H
                have c16b0 : (t691 == 19) = true := beq_iff_eq.mpr c16
                have c16b1 : (t691 != 19) = false := bne_eq_false_iff_eq.mpr c16
                clear c16
                replace H := Option.bind_eq_some_iff.mp H
                obtain ⟨t706, A170, H⟩ := H
                try dsimp only at H
                have A17 := Aside0.mk A170
                clear A170
                by_cases c18 : t706 = true
                · subst c18
                  have H1 : ((fluxionlaw16_number.f k (⟨#[45, 48]⟩ : ByteArray) 0 19).bind fun t707 => (if t707 = true then ((fluxionlaw16_number.f k (⟨#[48, 49]⟩ : ByteArray) 0 19).bind fun t708 => (if t708 = true then ((fluxionlaw16_number.f k (⟨#[50, 49, 52, 55, 52, 56, 51, 54, 52, 56]⟩ : ByteArray) 0 14).bind fun t709 => (if t709 = true then (if t694 = 7 then (if t695 = 0 then (if t697 = 19 then ((lex_Name.f (⟨#[120, 95, 49]⟩ : ByteArray)).bind fun t710 => (if t710 = 0 then ((lex_Name.f (⟨#[126, 48]⟩ : ByteArray)).bind fun t711 => (if t711 = 0 then ((lex_Name.f (⟨#[126, 48, 49]⟩ : ByteArray)).bind fun t712 => (if t712 = 15 then ((lex_Name.f (⟨#[88]⟩ : ByteArray)).bind fun t713 => (some (t713 == 15))) else (none))) else (none))) else (none))) else (none)) else (none)) else (none)) else (none))) else (none))) else (none))) = some r := by rw [if_pos rfl] at H; exact H
                  clear H
                  have H := H1
                  clear H1
                  replace H := Option.bind_eq_some_iff.mp H
                  obtain ⟨t707, A190, H⟩ := H
                  try dsimp only at H
                  have A19 := Aside0.mk A190
                  clear A190
                  by_cases c20 : t707 = true
                  · subst c20
                    have H1 : ((fluxionlaw16_number.f k (⟨#[48, 49]⟩ : ByteArray) 0 19).bind fun t708 => (if t708 = true then ((fluxionlaw16_number.f k (⟨#[50, 49, 52, 55, 52, 56, 51, 54, 52, 56]⟩ : ByteArray) 0 14).bind fun t709 => (if t709 = true then (if t694 = 7 then (if t695 = 0 then (if t697 = 19 then ((lex_Name.f (⟨#[120, 95, 49]⟩ : ByteArray)).bind fun t710 => (if t710 = 0 then ((lex_Name.f (⟨#[126, 48]⟩ : ByteArray)).bind fun t711 => (if t711 = 0 then ((lex_Name.f (⟨#[126, 48, 49]⟩ : ByteArray)).bind fun t712 => (if t712 = 15 then ((lex_Name.f (⟨#[88]⟩ : ByteArray)).bind fun t713 => (some (t713 == 15))) else (none))) else (none))) else (none))) else (none)) else (none)) else (none)) else (none))) else (none))) = some r := by rw [if_pos rfl] at H; exact H
                    clear H
                    have H := H1
                    clear H1
                    replace H := Option.bind_eq_some_iff.mp H
                    obtain ⟨t708, A210, H⟩ := H
                    try dsimp only at H
                    have A21 := Aside0.mk A210
                    clear A210
                    by_cases c22 : t708 = true
                    · subst c22
                      have H1 : ((fluxionlaw16_number.f k (⟨#[50, 49, 52, 55, 52, 56, 51, 54, 52, 56]⟩ : ByteArray) 0 14).bind fun t709 => (if t709 = true then (if t694 = 7 then (if t695 = 0 then (if t697 = 19 then ((lex_Name.f (⟨#[120, 95, 49]⟩ : ByteArray)).bind fun t710 => (if t710 = 0 then ((lex_Name.f (⟨#[126, 48]⟩ : ByteArray)).bind fun t711 => (if t711 = 0 then ((lex_Name.f (⟨#[126, 48, 49]⟩ : ByteArray)).bind fun t712 => (if t712 = 15 then ((lex_Name.f (⟨#[88]⟩ : ByteArray)).bind fun t713 => (some (t713 == 15))) else (none))) else (none))) else (none))) else (none)) else (none)) else (none)) else (none))) = some r := by rw [if_pos rfl] at H; exact H
                      clear H
                      have H := H1
                      clear H1
                      replace H := Option.bind_eq_some_iff.mp H
                      obtain ⟨t709, A230, H⟩ := H
                      try dsimp only at H
                      have A23 := Aside0.mk A230
                      clear A230
                      by_cases c24 : t709 = true
                      · subst c24
                        have H1 : (if t694 = 7 then (if t695 = 0 then (if t697 = 19 then ((lex_Name.f (⟨#[120, 95, 49]⟩ : ByteArray)).bind fun t710 => (if t710 = 0 then ((lex_Name.f (⟨#[126, 48]⟩ : ByteArray)).bind fun t711 => (if t711 = 0 then ((lex_Name.f (⟨#[126, 48, 49]⟩ : ByteArray)).bind fun t712 => (if t712 = 15 then ((lex_Name.f (⟨#[88]⟩ : ByteArray)).bind fun t713 => (some (t713 == 15))) else (none))) else (none))) else (none))) else (none)) else (none)) else (none)) = some r := by rw [if_pos rfl] at H; exact H
                        clear H
                        have H := H1
                        clear H1
                        by_cases c25 : t694 = 7
                        · rw [if_pos c25] at H
                          have c25b0 : (t694 == 7) = true := beq_iff_eq.mpr c25
                          have c25b1 : (t694 != 7) = false := bne_eq_false_iff_eq.mpr c25
                          clear c25
                          by_cases c26 : t695 = 0
                          · rw [if_pos c26] at H
                            have c26b0 : (t695 == 0) = true := beq_iff_eq.mpr c26
                            have c26b1 : (t695 != 0) = false := bne_eq_false_iff_eq.mpr c26
                            clear c26
                            by_cases c27 : t697 = 19
                            · rw [if_pos c27] at H
                              have c27b0 : (t697 == 19) = true := beq_iff_eq.mpr c27
                              have c27b1 : (t697 != 19) = false := bne_eq_false_iff_eq.mpr c27
                              clear c27
                              replace H := Option.bind_eq_some_iff.mp H
                              obtain ⟨t710, A280, H⟩ := H
                              try dsimp only at H
                              have A28 := Aside0.mk A280
                              clear A280
                              by_cases c29 : t710 = 0
                              · rw [if_pos c29] at H
                                have c29b0 : (t710 == 0) = true := beq_iff_eq.mpr c29
                                have c29b1 : (t710 != 0) = false := bne_eq_false_iff_eq.mpr c29
                                clear c29
                                replace H := Option.bind_eq_some_iff.mp H
                                obtain ⟨t711, A300, H⟩ := H
                                try dsimp only at H
                                have A30 := Aside0.mk A300
                                clear A300
                                by_cases c31 : t711 = 0
                                · rw [if_pos c31] at H
                                  have c31b0 : (t711 == 0) = true := beq_iff_eq.mpr c31
                                  have c31b1 : (t711 != 0) = false := bne_eq_false_iff_eq.mpr c31
                                  clear c31
                                  replace H := Option.bind_eq_some_iff.mp H
                                  obtain ⟨t712, A320, H⟩ := H
                                  try dsimp only at H
                                  have A32 := Aside0.mk A320
                                  clear A320
                                  by_cases c33 : t712 = 15
                                  · rw [if_pos c33] at H
                                    have c33b0 : (t712 == 15) = true := beq_iff_eq.mpr c33
                                    have c33b1 : (t712 != 15) = false := bne_eq_false_iff_eq.mpr c33
                                    clear c33
                                    replace H := Option.bind_eq_some_iff.mp H
                                    obtain ⟨t713, A340, H⟩ := H
                                    try dsimp only at H
                                    have A34 := Aside0.mk A340
                                    clear A340
                                    obtain rfl := Option.some.inj H
                                    go_enter Tryz.func27, Tryz.ntmps27
                                    go_wp2_with (first | ((with_reducible refine gate_callee (f := 56) rfl ?_); refine goesL_ (some 16) rfl rfl Tryz.func56 (by kernel_rfl) rfl #[.string (⟨#[97, 10, 10]⟩ : ByteArray)] rfl (by (try simp only [List.map_toArray, List.map_cons, List.map_nil]); first | done | rfl | (simp only [List.length_drop, List.length_take]; rfl)) ?_; (with_reducible refine (lex_Lines.calls k (⟨#[97, 10, 10]⟩ : ByteArray) t674 t675 _ A1.out ?side1).mono ?_); (case side1 => exact LaidT.below hL (by repeat (first | (with_reducible first | exact HB.out | apply below_alloc | apply pw_below_drewN | apply below_drew1) | exact HB.out))); rintro e w35 ⟨v676, rfl, ho0, hb⟩; refine ⟨_, rfl, ?_⟩; have n0_ := Aside0.mk (Kd.R_lower ho0 (below_size (by repeat (first | (with_reducible first | exact HB.out | apply below_alloc | apply pw_below_drewN | apply below_drew1) | exact HB.out)))); have n1_ := Aside0.mk (below_step (by repeat (first | (with_reducible first | exact HB.out | apply below_alloc | apply pw_below_drewN | apply below_drew1) | exact HB.out)) hb); clear HB; have HO677 := n0_; have HB := n1_; clear n0_ n1_; (try clear hb); (try clear hb2); (try clear hk); (try clear hi); (try clear ho0)) | ((with_reducible refine gate_callee (f := 56) rfl ?_); refine goesL_ (some 20) rfl rfl Tryz.func56 (by kernel_rfl) rfl #[.string (⟨#[97]⟩ : ByteArray)] rfl (by (try simp only [List.map_toArray, List.map_cons, List.map_nil]); first | done | rfl | (simp only [List.length_drop, List.length_take]; rfl)) ?_; (with_reducible refine (lex_Lines.calls k (⟨#[97]⟩ : ByteArray) t678 t679 _ A2.out ?side1).mono ?_); (case side1 => exact LaidT.below hL (by repeat (first | (with_reducible first | exact HB.out | apply below_alloc | apply pw_below_drewN | apply below_drew1) | exact HB.out))); rintro e w36 ⟨v680, rfl, ho0, hb⟩; refine ⟨_, rfl, ?_⟩; have n0_ := Aside0.mk (Kd.R_elder' (by exact HO677.out) (Kd.R_base ho0) hb); have n1_ := Aside0.mk (Kd.R_lower (Kd.R_new' ho0 (Kd.R_lt (by exact HO677.out))) (below_size (by repeat (first | (with_reducible first | exact HB.out | apply below_alloc | apply pw_below_drewN | apply below_drew1) | exact HB.out)))); have n2_ := Aside0.mk (below_step (by repeat (first | (with_reducible first | exact HB.out | apply below_alloc | apply pw_below_drewN | apply below_drew1) | exact HB.out)) hb); clear HO677; clear HB; have HO677 := n0_; have HO681 := n1_; have HB := n2_; clear n0_ n1_ n2_; (try clear hb); (try clear hb2); (try clear hk); (try clear hi); (try clear ho0)) | ((with_reducible refine gate_callee (f := 57) rfl ?_); refine goesL_ (some 24) rfl rfl Tryz.func57 (by kernel_rfl) rfl #[.string (⟨#[97, 32, 98]⟩ : ByteArray)] rfl (by (try simp only [List.map_toArray, List.map_cons, List.map_nil]); first | done | rfl | (simp only [List.length_drop, List.length_take]; rfl)) ?_; (with_reducible refine (lex_Split.calls (⟨#[97, 32, 98]⟩ : ByteArray) t682 t683 _ A3.out ?side1).mono ?_); (case side1 => exact LaidT.below hL (by repeat (first | (with_reducible first | exact HB.out | apply below_alloc | apply pw_below_drewN | apply below_drew1) | exact HB.out))); rintro e w37 ⟨v684, rfl, ho0, hb⟩; refine ⟨_, rfl, ?_⟩; have n0_ := Aside0.mk (Kd.R_elder' (by exact HO677.out) (Kd.R_base ho0) hb); have n1_ := Aside0.mk (Kd.R_elder' (by exact HO681.out) (Kd.R_base ho0) hb); have n2_ := Aside0.mk (Kd.R_lower (Kd.R_new' (Kd.R_new' ho0 (Kd.R_lt (by exact HO677.out))) (Kd.R_lt (by exact HO681.out))) (below_size (by repeat (first | (with_reducible first | exact HB.out | apply below_alloc | apply pw_below_drewN | apply below_drew1) | exact HB.out)))); have n3_ := Aside0.mk (below_step (by repeat (first | (with_reducible first | exact HB.out | apply below_alloc | apply pw_below_drewN | apply below_drew1) | exact HB.out)) hb); clear HO677; clear HO681; clear HB; have HO677 := n0_; have HO681 := n1_; have HO685 := n2_; have HB := n3_; clear n0_ n1_ n2_ n3_; (try clear hb); (try clear hb2); (try clear hk); (try clear hi); (try clear ho0)) | ((with_reducible refine gate_callee (f := 57) rfl ?_); refine goesL_ (some 28) rfl rfl Tryz.func57 (by kernel_rfl) rfl #[.string (⟨#[97, 32, 32, 98]⟩ : ByteArray)] rfl (by (try simp only [List.map_toArray, List.map_cons, List.map_nil]); first | done | rfl | (simp only [List.length_drop, List.length_take]; rfl)) ?_; (with_reducible refine (lex_Split.calls (⟨#[97, 32, 32, 98]⟩ : ByteArray) t686 t687 _ A4.out ?side1).mono ?_); (case side1 => exact LaidT.below hL (by repeat (first | (with_reducible first | exact HB.out | apply below_alloc | apply pw_below_drewN | apply below_drew1) | exact HB.out))); rintro e w38 ⟨v688, rfl, ho0, hb⟩; refine ⟨_, rfl, ?_⟩; have n0_ := Aside0.mk (Kd.R_elder' (by exact HO677.out) (Kd.R_base ho0) hb); have n1_ := Aside0.mk (Kd.R_elder' (by exact HO681.out) (Kd.R_base ho0) hb); have n2_ := Aside0.mk (Kd.R_elder' (by exact HO685.out) (Kd.R_base ho0) hb); have n3_ := Aside0.mk (Kd.R_lower (Kd.R_new' (Kd.R_new' (Kd.R_new' ho0 (Kd.R_lt (by exact HO677.out))) (Kd.R_lt (by exact HO681.out))) (Kd.R_lt (by exact HO685.out))) (below_size (by repeat (first | (with_reducible first | exact HB.out | apply below_alloc | apply pw_below_drewN | apply below_drew1) | exact HB.out)))); have n4_ := Aside0.mk (below_step (by repeat (first | (with_reducible first | exact HB.out | apply below_alloc | apply pw_below_drewN | apply below_drew1) | exact HB.out)) hb); clear HO677; clear HO681; clear HO685; clear HB; have HO677 := n0_; have HO681 := n1_; have HO685 := n2_; have HO689 := n3_; have HB := n4_; clear n0_ n1_ n2_ n3_ n4_; (try clear hb); (try clear hb2); (try clear hk); (try clear hi); (try clear ho0)) | ((with_reducible refine gate_callee (f := 57) rfl ?_); refine goesL_ (some 32) rfl rfl Tryz.func57 (by kernel_rfl) rfl #[.string (⟨#[32, 97]⟩ : ByteArray)] rfl (by (try simp only [List.map_toArray, List.map_cons, List.map_nil]); first | done | rfl | (simp only [List.length_drop, List.length_take]; rfl)) ?_; (with_reducible refine (lex_Split.calls (⟨#[32, 97]⟩ : ByteArray) t690 t691 _ A5.out ?side1).mono ?_); (case side1 => exact LaidT.below hL (by repeat (first | (with_reducible first | exact HB.out | apply below_alloc | apply pw_below_drewN | apply below_drew1) | exact HB.out))); rintro e w39 ⟨v692, rfl, ho0, hb⟩; refine ⟨_, rfl, ?_⟩; have n0_ := Aside0.mk (Kd.R_elder' (by exact HO677.out) (Kd.R_base ho0) hb); have n1_ := Aside0.mk (Kd.R_elder' (by exact HO681.out) (Kd.R_base ho0) hb); have n2_ := Aside0.mk (Kd.R_elder' (by exact HO685.out) (Kd.R_base ho0) hb); have n3_ := Aside0.mk (Kd.R_elder' (by exact HO689.out) (Kd.R_base ho0) hb); have n4_ := Aside0.mk (Kd.R_lower (Kd.R_new' (Kd.R_new' (Kd.R_new' (Kd.R_new' ho0 (Kd.R_lt (by exact HO677.out))) (Kd.R_lt (by exact HO681.out))) (Kd.R_lt (by exact HO685.out))) (Kd.R_lt (by exact HO689.out))) (below_size (by repeat (first | (with_reducible first | exact HB.out | apply below_alloc | apply pw_below_drewN | apply below_drew1) | exact HB.out)))); have n5_ := Aside0.mk (below_step (by repeat (first | (with_reducible first | exact HB.out | apply below_alloc | apply pw_below_drewN | apply below_drew1) | exact HB.out)) hb); clear HO677; clear HO681; clear HO685; clear HO689; clear HB; have HO677 := n0_; have HO681 := n1_; have HO685 := n2_; have HO689 := n3_; have HO693 := n4_; have HB := n5_; clear n0_ n1_ n2_ n3_ n4_ n5_; (try clear hb); (try clear hb2); (try clear hk); (try clear hi); (try clear ho0)) | ((with_reducible refine gate_callee (f := 25) rfl ?_); refine goesL_ (some 36) rfl rfl Tryz.func25 (by kernel_rfl) rfl #[.string (⟨#[37, 55]⟩ : ByteArray)] rfl (by (try simp only [List.map_toArray, List.map_cons, List.map_nil]); first | done | rfl | (simp only [List.length_drop, List.length_take]; rfl)) ?_; (with_reducible refine (lex_Ref.calls (⟨#[37, 55]⟩ : ByteArray) t694 t695 _ A6.out ?side1).mono ?_); (case side1 => exact LaidT.below hL (by repeat (first | (with_reducible first | exact HB.out | apply below_alloc | apply pw_below_drewN | apply below_drew1) | exact HB.out))); rintro e w40 ⟨rfl, hb⟩; refine ⟨_, rfl, ?_⟩; have n0_ := Aside0.mk (Kd.R_below (by exact HO677.out) hb); have n1_ := Aside0.mk (Kd.R_below (by exact HO681.out) hb); have n2_ := Aside0.mk (Kd.R_below (by exact HO685.out) hb); have n3_ := Aside0.mk (Kd.R_below (by exact HO689.out) hb); have n4_ := Aside0.mk (Kd.R_below (by exact HO693.out) hb); have n5_ := Aside0.mk (below_step (by repeat (first | (with_reducible first | exact HB.out | apply below_alloc | apply pw_below_drewN | apply below_drew1) | exact HB.out)) hb); clear HO677; clear HO681; clear HO685; clear HO689; clear HO693; clear HB; have HO677 := n0_; have HO681 := n1_; have HO685 := n2_; have HO689 := n3_; have HO693 := n4_; have HB := n5_; clear n0_ n1_ n2_ n3_ n4_ n5_; (try clear hb); (try clear hb2); (try clear hk); (try clear hi)) | ((with_reducible refine gate_callee (f := 25) rfl ?_); refine goesL_ (some 40) rfl rfl Tryz.func25 (by kernel_rfl) rfl #[.string (⟨#[37, 45, 49]⟩ : ByteArray)] rfl (by (try simp only [List.map_toArray, List.map_cons, List.map_nil]); first | done | rfl | (simp only [List.length_drop, List.length_take]; rfl)) ?_; (with_reducible refine (lex_Ref.calls (⟨#[37, 45, 49]⟩ : ByteArray) t696 t697 _ A7.out ?side1).mono ?_); (case side1 => exact LaidT.below hL (by repeat (first | (with_reducible first | exact HB.out | apply below_alloc | apply pw_below_drewN | apply below_drew1) | exact HB.out))); rintro e w41 ⟨rfl, hb⟩; refine ⟨_, rfl, ?_⟩; have n0_ := Aside0.mk (Kd.R_below (by exact HO677.out) hb); have n1_ := Aside0.mk (Kd.R_below (by exact HO681.out) hb); have n2_ := Aside0.mk (Kd.R_below (by exact HO685.out) hb); have n3_ := Aside0.mk (Kd.R_below (by exact HO689.out) hb); have n4_ := Aside0.mk (Kd.R_below (by exact HO693.out) hb); have n5_ := Aside0.mk (below_step (by repeat (first | (with_reducible first | exact HB.out | apply below_alloc | apply pw_below_drewN | apply below_drew1) | exact HB.out)) hb); clear HO677; clear HO681; clear HO685; clear HO689; clear HO693; clear HB; have HO677 := n0_; have HO681 := n1_; have HO685 := n2_; have HO689 := n3_; have HO693 := n4_; have HB := n5_; clear n0_ n1_ n2_ n3_ n4_ n5_; (try clear hb); (try clear hb2); (try clear hk); (try clear hi)) | (go_at_call 58; obtain ⟨Aop, cop, eop⟩ := Kd.R_slice HO677.out; subst eop; have Aq := A9.out; rw [Ny698.out] at Aq; refine (fluxionref16_SameTexts.calls k _ _ t674 _ _ [(⟨#[97]⟩ : ByteArray), (⟨#[]⟩ : ByteArray)] true _ ?side1 ?side2 ?side3 ?side4 Aq).mono ?_; (case side1 => repeat (first | exact (Kd.R_reads' HO677.out).2.2 | refine Kd.C_alloc ?_ _ | refine Kd.C_drewN ?_ _)); (case side2 => exact (Kd.R_reads' HO677.out).2.1); (case side3 => refine lit_C _ [(⟨#[97]⟩ : ByteArray), (⟨#[]⟩ : ByteArray)] (by decide) _ ?_; first | rfl | (simp; done)); (case side4 => exact Nat.le_refl _); rintro e w' ⟨rfl, ⟨nd, rfl⟩⟩) | (go_at_call 58; obtain ⟨Aop, cop, eop⟩ := Kd.R_slice HO685.out; subst eop; have Aq := A13.out; rw [Ny702.out] at Aq; refine (fluxionref16_SameTexts.calls k _ _ t682 _ _ [(⟨#[97]⟩ : ByteArray), (⟨#[98]⟩ : ByteArray)] true _ ?side1 ?side2 ?side3 ?side4 Aq).mono ?_; (case side1 => repeat (first | exact (Kd.R_reads' HO685.out).2.2 | refine Kd.C_alloc ?_ _ | refine Kd.C_drewN ?_ _)); (case side2 => exact (Kd.R_reads' HO685.out).2.1); (case side3 => refine lit_C _ [(⟨#[97]⟩ : ByteArray), (⟨#[98]⟩ : ByteArray)] (by decide) _ ?_; first | rfl | (simp; done)); (case side4 => exact Nat.le_refl _); rintro e w' ⟨rfl, ⟨nd, rfl⟩⟩) | (go_at_call 59; (with_reducible refine (fluxionlaw16_number.calls k (⟨#[45, 49, 50]⟩ : ByteArray) (-12) 0 true _ A17.out ?side1).mono ?_); (case side1 => exact LaidT.below hL (by repeat (first | (with_reducible first | exact HB.out | apply below_alloc | apply pw_below_drewN | apply below_drew1) | exact HB.out))); rintro e w50 ⟨rfl, hb⟩; have n9_ := Aside0.mk (below_step (by repeat (first | (with_reducible first | exact HB.out | apply below_alloc | apply pw_below_drewN | apply below_drew1) | exact HB.out)) hb); clear HB; have HB := n9_; clear n9_ hb) | (go_at_call 59; (with_reducible refine (fluxionlaw16_number.calls k (⟨#[45, 48]⟩ : ByteArray) 0 19 true _ A19.out ?side1).mono ?_); (case side1 => exact LaidT.below hL (by repeat (first | (with_reducible first | exact HB.out | apply below_alloc | apply pw_below_drewN | apply below_drew1) | exact HB.out))); rintro e w51 ⟨rfl, hb⟩; have n9_ := Aside0.mk (below_step (by repeat (first | (with_reducible first | exact HB.out | apply below_alloc | apply pw_below_drewN | apply below_drew1) | exact HB.out)) hb); clear HB; have HB := n9_; clear n9_ hb) | (go_at_call 59; (with_reducible refine (fluxionlaw16_number.calls k (⟨#[48, 49]⟩ : ByteArray) 0 19 true _ A21.out ?side1).mono ?_); (case side1 => exact LaidT.below hL (by repeat (first | (with_reducible first | exact HB.out | apply below_alloc | apply pw_below_drewN | apply below_drew1) | exact HB.out))); rintro e w52 ⟨rfl, hb⟩; have n9_ := Aside0.mk (below_step (by repeat (first | (with_reducible first | exact HB.out | apply below_alloc | apply pw_below_drewN | apply below_drew1) | exact HB.out)) hb); clear HB; have HB := n9_; clear n9_ hb) | (go_at_call 59; (with_reducible refine (fluxionlaw16_number.calls k (⟨#[50, 49, 52, 55, 52, 56, 51, 54, 52, 56]⟩ : ByteArray) 0 14 true _ A23.out ?side1).mono ?_); (case side1 => exact LaidT.below hL (by repeat (first | (with_reducible first | exact HB.out | apply below_alloc | apply pw_below_drewN | apply below_drew1) | exact HB.out))); rintro e w53 ⟨rfl, hb⟩; have n9_ := Aside0.mk (below_step (by repeat (first | (with_reducible first | exact HB.out | apply below_alloc | apply pw_below_drewN | apply below_drew1) | exact HB.out)) hb); clear HB; have HB := n9_; clear n9_ hb) | (go_at_call 60; (with_reducible refine (lex_Name.calls (⟨#[120, 95, 49]⟩ : ByteArray) t710 _ A28.out).mono ?_); rintro e w54 ⟨rfl, hb⟩; have n9_ := Aside0.mk (below_step (by repeat (first | (with_reducible first | exact HB.out | apply below_alloc | apply pw_below_drewN | apply below_drew1) | exact HB.out)) hb); clear HB; have HB := n9_; clear n9_ hb) | (go_at_call 60; (with_reducible refine (lex_Name.calls (⟨#[126, 48]⟩ : ByteArray) t711 _ A30.out).mono ?_); rintro e w55 ⟨rfl, hb⟩; have n9_ := Aside0.mk (below_step (by repeat (first | (with_reducible first | exact HB.out | apply below_alloc | apply pw_below_drewN | apply below_drew1) | exact HB.out)) hb); clear HB; have HB := n9_; clear n9_ hb) | (go_at_call 60; (with_reducible refine (lex_Name.calls (⟨#[126, 48, 49]⟩ : ByteArray) t712 _ A32.out).mono ?_); rintro e w56 ⟨rfl, hb⟩; have n9_ := Aside0.mk (below_step (by repeat (first | (with_reducible first | exact HB.out | apply below_alloc | apply pw_below_drewN | apply below_drew1) | exact HB.out)) hb); clear HB; have HB := n9_; clear n9_ hb) | (go_at_call 60; (with_reducible refine (lex_Name.calls (⟨#[88]⟩ : ByteArray) t713 _ A34.out).mono ?_); rintro e w57 ⟨rfl, hb⟩; have n9_ := Aside0.mk (below_step (by repeat (first | (with_reducible first | exact HB.out | apply below_alloc | apply pw_below_drewN | apply below_drew1) | exact HB.out)) hb); clear HB; have HB := n9_; clear n9_ hb))
                                    go_ret
                                    exact ⟨by first | rfl | (simp [errW_none, errW_some] <;> rfl) | (simp [*, errW_none, errW_some] <;> rfl), by repeat (first | (with_reducible first | exact HB.out | apply below_alloc | apply pw_below_drewN | apply below_drew1) | exact HB.out)⟩
                                  · rw [if_neg c33] at H
                                    exact absurd H (by simp)
                                · rw [if_neg c31] at H
                                  exact absurd H (by simp)
                              · rw [if_neg c29] at H
                                exact absurd H (by simp)
                            · rw [if_neg c27] at H
                              exact absurd H (by simp)
                          · rw [if_neg c26] at H
                            exact absurd H (by simp)
                        · rw [if_neg c25] at H
                          exact absurd H (by simp)
                      · replace c24 := Bool.eq_false_iff.mpr c24
                        subst c24
                        have H1 : (none) = some r := by rw [if_neg (show ¬ (false = true) by decide)] at H; exact H
                        clear H
                        have H := H1
                        clear H1
                        exact absurd H (by simp)
                    · replace c22 := Bool.eq_false_iff.mpr c22
                      subst c22
                      have H1 : (none) = some r := by rw [if_neg (show ¬ (false = true) by decide)] at H; exact H
                      clear H
                      have H := H1
                      clear H1
                      exact absurd H (by simp)
                  · replace c20 := Bool.eq_false_iff.mpr c20
                    subst c20
                    have H1 : (none) = some r := by rw [if_neg (show ¬ (false = true) by decide)] at H; exact H
                    clear H
                    have H := H1
                    clear H1
                    exact absurd H (by simp)
                · replace c18 := Bool.eq_false_iff.mpr c18
                  subst c18
                  have H1 : (none) = some r := by rw [if_neg (show ¬ (false = true) by decide)] at H; exact H
                  clear H
                  have H := H1
                  clear H1
                  exact absurd H (by simp)
              · rw [if_neg c16] at H
                exact absurd H (by simp)
            · rw [if_neg c15] at H
              exact absurd H (by simp)
          · replace c14 := Bool.eq_false_iff.mpr c14
            subst c14
            have H1 : (none) = some r := by rw [if_neg (show ¬ (false = true) by decide)] at H; exact H
            clear H
            have H := H1
            clear H1
            exact absurd H (by simp)
        · rw [if_neg c12] at H
          exact absurd H (by simp)
      · rw [if_neg c11] at H
        exact absurd H (by simp)
    · replace c10 := Bool.eq_false_iff.mpr c10
      subst c10
      have H1 : (none) = some r := by rw [if_neg (show ¬ (false = true) by decide)] at H; exact H
      clear H
      have H := H1
      clear H1
      exact absurd H (by simp)
  · rw [if_neg c8] at H
    exact absurd H (by simp)

def fluxionref16_digits.l0 : Nat → ByteArray → Int → Option (Bool)
  | 0, _, _ => none
  | k + 1, x0, x3 => if x3 < (x0.size : Int) then (if 0 ≤ x3 then (if (bt x0 x3) < 48 then (some false) else (if (bt x0 x3) > 57 then (some false) else (fluxionref16_digits.l0 k x0 (wrap64 (x3 + 1))))) else (none)) else (if (x0.size : Int) = 1 then (some true) else (if (x0.size : Int) > 1 then (if 0 < (x0.size : Int) then (some ((bt x0 0) != 48)) else (none)) else (some false)))
def fluxionref16_digits.f (k : Nat) (a0 : ByteArray) : Option (Bool) := fluxionref16_digits.l0 k a0 0
set_option maxHeartbeats 8000000 in
set_option maxRecDepth 100000 in
theorem fluxionref16_digits.calls (k : Nat) (a0 : ByteArray) (r : Bool) (w : World) (h : fluxionref16_digits.f k a0 = some r) :
    Calls Tryz.prog 91 #[.string a0] w fun e w' => e = .returned (.bool r) ∧ Drawn0 w w' := by
  have H : (fluxionref16_digits.l0 k a0 0) = some r := h
  clear h
  have H' := Aside0.mk H
  clear H
  go_enter Tryz.func91, Tryz.ntmps91
  go_wp2
  go_loopg [3] k (fun kq v3 w' => ∃ (x3_1 : Int), v3 = .int .i64 x3_1 ∧ Aside0 (fluxionref16_digits.l0 kq a0 x3_1 = some r) ∧ Aside0 (kq ≤ k) ∧ Drawn0 w w')
  case atStart => exact ⟨(0), (by first | rfl | (simp; done) | (simp [*]; done)), H', ⟨Nat.le_refl _⟩, by repeat (first | exact Drawn0.refl _ | apply Drawn0.step)⟩
  case round =>
    clear H'
    obtain ⟨x3_1, rfl, HA, HK1, ⟨m1, rfl⟩⟩ := hrel
    cases gk with
    | zero => exact absurd HA.out (by simp [fluxionref16_digits.l0])
    | succ k1 =>
      have H := HA.out
      clear HA
      simp only [fluxionref16_digits.l0] at H
      by_cases c2 : x3_1 < (a0.size : Int)
      · rw [if_pos c2] at H
        have c2b0 : decide (x3_1 < (a0.size : Int)) = true := decide_eq_true c2
        clear c2
        by_cases c3 : 0 ≤ x3_1
        · rw [if_pos c3] at H
          have c3b0 : decide (0 ≤ x3_1) = true := decide_eq_true c3
          clear c3
          by_cases c5 : (bt a0 x3_1) < 48
          · rw [if_pos c5] at H
            have c5b0 : decide ((bt a0 x3_1) < 48) = true := decide_eq_true c5
            clear c5
            obtain rfl := Option.some.inj H
            have p4 : 0 ≤ (x3_1 : Int) := of_decide_eq_true (by first | (with_reducible assumption) | assumption)
            have q4 : x3_1 < (a0.size : Int) := of_decide_eq_true (by first | (with_reducible assumption) | assumption)
            have hx4 := bt_at a0 x3_1
            replace p4 := eq_true p4
            replace q4 := eq_true q4
            go_wp2
            go_ret
            exact ⟨by first | rfl | (simp; done) | (simp [*]; done), by repeat (first | exact Drawn0.refl _ | apply Drawn0.step)⟩
          · rw [if_neg c5] at H
            have c5b0 : decide ((bt a0 x3_1) < 48) = false := decide_eq_false c5
            clear c5
            by_cases c7 : (bt a0 x3_1) > 57
            · rw [if_pos c7] at H
              have c7b0 : decide (57 < (bt a0 x3_1)) = true := decide_eq_true c7
              clear c7
              obtain rfl := Option.some.inj H
              have p4 : 0 ≤ (x3_1 : Int) := of_decide_eq_true (by first | (with_reducible assumption) | assumption)
              have q4 : x3_1 < (a0.size : Int) := of_decide_eq_true (by first | (with_reducible assumption) | assumption)
              have hx4 := bt_at a0 x3_1
              replace p4 := eq_true p4
              replace q4 := eq_true q4
              have p6 : 0 ≤ (x3_1 : Int) := of_decide_eq_true (by first | (with_reducible assumption) | assumption)
              have q6 : x3_1 < (a0.size : Int) := of_decide_eq_true (by first | (with_reducible assumption) | assumption)
              have hx6 := bt_at a0 x3_1
              replace p6 := eq_true p6
              replace q6 := eq_true q6
              go_wp2
              go_ret
              exact ⟨by first | rfl | (simp; done) | (simp [*]; done), by repeat (first | exact Drawn0.refl _ | apply Drawn0.step)⟩
            · rw [if_neg c7] at H
              have c7b0 : decide (57 < (bt a0 x3_1)) = false := decide_eq_false c7
              clear c7
              have H' := Aside0.mk H
              clear H
              have p4 : 0 ≤ (x3_1 : Int) := of_decide_eq_true (by first | (with_reducible assumption) | assumption)
              have q4 : x3_1 < (a0.size : Int) := of_decide_eq_true (by first | (with_reducible assumption) | assumption)
              have hx4 := bt_at a0 x3_1
              replace p4 := eq_true p4
              replace q4 := eq_true q4
              have p6 : 0 ≤ (x3_1 : Int) := of_decide_eq_true (by first | (with_reducible assumption) | assumption)
              have q6 : x3_1 < (a0.size : Int) := of_decide_eq_true (by first | (with_reducible assumption) | assumption)
              have hx6 := bt_at a0 x3_1
              replace p6 := eq_true p6
              replace q6 := eq_true q6
              go_wp2
              go_roundg k1
              case measure => have := HK1.out; omega
              case rel => exact ⟨(wrap64 (x3_1 + 1)), (by first | rfl | (simp; done) | (simp [*]; done)), H', ⟨by have := HK1.out; omega⟩, by repeat (first | exact Drawn0.refl _ | apply Drawn0.step)⟩
        · rw [if_neg c3] at H
          exact absurd H (by simp)
      · rw [if_neg c2] at H
        have c2b0 : decide (x3_1 < (a0.size : Int)) = false := decide_eq_false c2
        clear c2
        by_cases c8 : (a0.size : Int) = 1
        · rw [if_pos c8] at H
          have c8b0 : ((a0.size : Int) == 1) = true := beq_iff_eq.mpr c8
          have c8b1 : ((a0.size : Int) != 1) = false := bne_eq_false_iff_eq.mpr c8
          clear c8
          obtain rfl := Option.some.inj H
          go_wp2
          go_ret
          exact ⟨by first | rfl | (simp; done) | (simp [*]; done), by repeat (first | exact Drawn0.refl _ | apply Drawn0.step)⟩
        · rw [if_neg c8] at H
          have c8b0 : ((a0.size : Int) == 1) = false := beq_eq_false_iff_ne.mpr c8
          have c8b1 : ((a0.size : Int) != 1) = true := bne_iff_ne.mpr c8
          by_cases c9 : (a0.size : Int) > 1
          · rw [if_pos c9] at H
            have c9b0 : decide (1 < (a0.size : Int)) = true := decide_eq_true c9
            have c9b1 : decide (1 < a0.size) = true := decide_eq_true (by omega)
            clear c9
            by_cases c10 : 0 < (a0.size : Int)
            · rw [if_pos c10] at H
              have c10b0 : decide (0 < (a0.size : Int)) = true := decide_eq_true c10
              have c10b1 : decide (0 < a0.size) = true := decide_eq_true (by omega)
              clear c10
              obtain rfl := Option.some.inj H
              have p11 : 0 ≤ (0 : Int) := (by omega)
              have q11 : 0 < a0.size := (by have : (0 : Int) < (a0.size : Int) := of_decide_eq_true (by first | (with_reducible assumption) | assumption); omega)
              have hx11 : ∀ h : 0 < a0.size, ((a0[0]'h).toNat : Int) = bt a0 0 := bt_at a0 0
              clear p11
              have qi11 : (0 < (a0.size : Int)) = True := eq_true (of_decide_eq_true (by first | (with_reducible assumption) | assumption))
              replace q11 := eq_true q11
              go_wp2
              go_ret
              exact ⟨by first | rfl | (simp; done) | (simp [*]; done), by repeat (first | exact Drawn0.refl _ | apply Drawn0.step)⟩
            · rw [if_neg c10] at H
              exact absurd H (by simp)
          · rw [if_neg c9] at H
            have c9b0 : decide (1 < (a0.size : Int)) = false := decide_eq_false c9
            have c9b1 : decide (1 < a0.size) = false := decide_eq_false (by omega)
            clear c9
            obtain rfl := Option.some.inj H
            go_wp2
            go_ret
            exact ⟨by first | rfl | (simp; done) | (simp [*]; done), by repeat (first | exact Drawn0.refl _ | apply Drawn0.step)⟩

def fluxionref16_number.l0 : Nat → ByteArray → Int → Int → Option (Int × Int)
  | 0, _, _, _ => none
  | k + 1, x0, x4, x5 => if x5 < (x0.size : Int) then (if 0 ≤ x5 then (fluxionref16_number.l0 k x0 (wrap64 ((wrap64 ((wrap64 (10 * x4)) + (wrap64 (bt x0 x5)))) - 48)) (wrap64 (x5 + 1))) else (none)) else (if x4 > 2147483647 then (some (0, 14)) else (some (x4, 0)))
def fluxionref16_number.f (k : Nat) (a0 : ByteArray) : Option (Int × Int) := (fluxionref16_digits.f k a0).bind fun t648 => (if t648 = true then (if (a0.size : Int) > 10 then (some (0, 14)) else (fluxionref16_number.l0 k a0 0 0)) else (some (0, 19)))
set_option maxHeartbeats 8000000 in
set_option maxRecDepth 100000 in
theorem fluxionref16_number.calls (k : Nat) (a0 : ByteArray) (r1 : Int) (r2 : Int) (w : World) (h : fluxionref16_number.f k a0 = some (r1, r2)) :
    Calls Tryz.prog 55 #[.string a0] w fun e w' => e = .returned (.tuple #[.int .i64 r1, .int .i64 r2]) ∧ Drawn0 w w' := by
  have H : ((fluxionref16_digits.f k a0).bind fun t648 => (if t648 = true then (if (a0.size : Int) > 10 then (some (0, 14)) else (fluxionref16_number.l0 k a0 0 0)) else (some (0, 19)))) = some (r1, r2) := h
  clear h
  replace H := Option.bind_eq_some_iff.mp H
  obtain ⟨t648, A20, H⟩ := H
  try dsimp only at H
  have A2 := Aside0.mk A20
  clear A20
  by_cases c3 : t648 = true
  · subst c3
    have H1 : (if (a0.size : Int) > 10 then (some (0, 14)) else (fluxionref16_number.l0 k a0 0 0)) = some (r1, r2) := by rw [if_pos rfl] at H; exact H
    clear H
    have H := H1
    clear H1
    by_cases c4 : (a0.size : Int) > 10
    · rw [if_pos c4] at H
      have c4b0 : decide (10 < (a0.size : Int)) = true := decide_eq_true c4
      have c4b1 : decide (10 < a0.size) = true := decide_eq_true (by omega)
      clear c4
      simp only [Option.some.injEq, Prod.mk.injEq] at H
      obtain ⟨rfl, rfl⟩ := H
      go_enter Tryz.func55, Tryz.ntmps55
      go_wp2_with (first | ((with_reducible refine gate_callee (f := 91) rfl ?_); refine goesL_ (some 7) rfl rfl Tryz.func91 (by kernel_rfl) rfl #[.string a0] rfl (by (try simp only [List.map_toArray, List.map_cons, List.map_nil]); first | done | rfl | (simp only [List.length_drop, List.length_take]; rfl)) ?_; (with_reducible refine (fluxionref16_digits.calls k a0 true _ A2.out).mono ?_); rintro e w' ⟨rfl, ⟨nd, rfl⟩⟩; refine ⟨_, rfl, ?_⟩))
      go_ret2
      exact ⟨by first | rfl | (simp; done) | (simp [*]; done), by repeat (first | exact Drawn0.refl _ | apply Drawn0.step)⟩
    · rw [if_neg c4] at H
      have c4b0 : decide (10 < (a0.size : Int)) = false := decide_eq_false c4
      have c4b1 : decide (10 < a0.size) = false := decide_eq_false (by omega)
      clear c4
      have H' := Aside0.mk H
      clear H
      go_enter Tryz.func55, Tryz.ntmps55
      go_wp2_with (first | ((with_reducible refine gate_callee (f := 91) rfl ?_); refine goesL_ (some 7) rfl rfl Tryz.func91 (by kernel_rfl) rfl #[.string a0] rfl (by (try simp only [List.map_toArray, List.map_cons, List.map_nil]); first | done | rfl | (simp only [List.length_drop, List.length_take]; rfl)) ?_; (with_reducible refine (fluxionref16_digits.calls k a0 true _ A2.out).mono ?_); rintro e w' ⟨rfl, ⟨nd, rfl⟩⟩; refine ⟨_, rfl, ?_⟩))
      go_loopg [4, 5] k (fun kq v4 v5 w' => ∃ (x4_1 : Int) (x5_1 : Int), v4 = .int .i64 x4_1 ∧ v5 = .int .i64 x5_1 ∧ Aside0 (fluxionref16_number.l0 kq a0 x4_1 x5_1 = some (r1, r2)) ∧ Aside0 (kq ≤ k) ∧ Drawn0 w w')
      case atStart => exact ⟨(0), (0), (by first | rfl | (simp; done) | (simp [*]; done)), (by first | rfl | (simp; done) | (simp [*]; done)), H', ⟨Nat.le_refl _⟩, by repeat (first | exact Drawn0.refl _ | apply Drawn0.step)⟩
      case round =>
        clear H'
        try clear p2
        try clear c3
        try clear c4
        try clear c4b0
        try clear c4b1
        obtain ⟨x4_1, x5_1, rfl, rfl, HA, HK1, ⟨m1, rfl⟩⟩ := hrel
        cases gk with
        | zero => exact absurd HA.out (by simp [fluxionref16_number.l0])
        | succ k1 =>
          have H := HA.out
          clear HA
          simp only [fluxionref16_number.l0] at H
          by_cases c5 : x5_1 < (a0.size : Int)
          · rw [if_pos c5] at H
            have c5b0 : decide (x5_1 < (a0.size : Int)) = true := decide_eq_true c5
            clear c5
            by_cases c6 : 0 ≤ x5_1
            · rw [if_pos c6] at H
              have c6b0 : decide (0 ≤ x5_1) = true := decide_eq_true c6
              clear c6
              have H' := Aside0.mk H
              clear H
              have p7 : 0 ≤ (x5_1 : Int) := of_decide_eq_true (by first | (with_reducible assumption) | assumption)
              have q7 : x5_1 < (a0.size : Int) := of_decide_eq_true (by first | (with_reducible assumption) | assumption)
              have hx7 := bt_at a0 x5_1
              replace p7 := eq_true p7
              replace q7 := eq_true q7
              go_wp2
              go_roundg k1
              case measure => have := HK1.out; omega
              case rel => exact ⟨(wrap64 ((wrap64 ((wrap64 (10 * x4_1)) + (wrap64 (bt a0 x5_1)))) - 48)), (wrap64 (x5_1 + 1)), (by first | rfl | (simp; done) | (simp [*]; done)), (by first | rfl | (simp; done) | (simp [*]; done)), H', ⟨by have := HK1.out; omega⟩, by repeat (first | exact Drawn0.refl _ | apply Drawn0.step)⟩
            · rw [if_neg c6] at H
              exact absurd H (by simp)
          · rw [if_neg c5] at H
            have c5b0 : decide (x5_1 < (a0.size : Int)) = false := decide_eq_false c5
            clear c5
            by_cases c8 : x4_1 > 2147483647
            · rw [if_pos c8] at H
              have c8b0 : decide (2147483647 < x4_1) = true := decide_eq_true c8
              clear c8
              simp only [Option.some.injEq, Prod.mk.injEq] at H
              obtain ⟨rfl, rfl⟩ := H
              go_wp2
              go_ret2
              exact ⟨by first | rfl | (simp; done) | (simp [*]; done), by repeat (first | exact Drawn0.refl _ | apply Drawn0.step)⟩
            · rw [if_neg c8] at H
              have c8b0 : decide (2147483647 < x4_1) = false := decide_eq_false c8
              clear c8
              simp only [Option.some.injEq, Prod.mk.injEq] at H
              obtain ⟨rfl, rfl⟩ := H
              go_wp2
              go_ret2
              exact ⟨by first | rfl | (simp; done) | (simp [*]; done), by repeat (first | exact Drawn0.refl _ | apply Drawn0.step)⟩
  · replace c3 := Bool.eq_false_iff.mpr c3
    subst c3
    have H1 : (some (0, 19)) = some (r1, r2) := by rw [if_neg (show ¬ (false = true) by decide)] at H; exact H
    clear H
    have H := H1
    clear H1
    simp only [Option.some.injEq, Prod.mk.injEq] at H
    obtain ⟨rfl, rfl⟩ := H
    go_enter Tryz.func55, Tryz.ntmps55
    go_wp2_with (first | ((with_reducible refine gate_callee (f := 91) rfl ?_); refine goesL_ (some 7) rfl rfl Tryz.func91 (by kernel_rfl) rfl #[.string a0] rfl (by (try simp only [List.map_toArray, List.map_cons, List.map_nil]); first | done | rfl | (simp only [List.length_drop, List.length_take]; rfl)) ?_; (with_reducible refine (fluxionref16_digits.calls k a0 false _ A2.out).mono ?_); rintro e w' ⟨rfl, ⟨nd, rfl⟩⟩; refine ⟨_, rfl, ?_⟩))
    go_ret2
    exact ⟨by first | rfl | (simp; done) | (simp [*]; done), by repeat (first | exact Drawn0.refl _ | apply Drawn0.step)⟩

def fluxionref16_Int.j0 : Nat → ByteArray → Bool → Option (Int × Int)
  | 0, _, _ => none
  | k + 1, x0, x13 => if x13 = true then (if 1 ≤ (x0.size : Int) then ((fluxionref16_number.f k (x0.extract 1 x0.size)).bind fun bt649 => (if bt649.2 = 0 then (if bt649.1 = 0 then (some (0, 19)) else (some (wrap64 (-bt649.1), bt649.2))) else (some (wrap64 (-bt649.1), bt649.2)))) else (none)) else ((fluxionref16_number.f k x0).bind fun bt651 => (some (bt651.1, bt651.2)))
def fluxionref16_Int.f (k : Nat) (a0 : ByteArray) : Option (Int × Int) := if (a0.size : Int) > 0 then (if 0 < (a0.size : Int) then (fluxionref16_Int.j0 k a0 ((bt a0 0) == 45)) else (none)) else (fluxionref16_Int.j0 k a0 false)
set_option maxHeartbeats 8000000 in
set_option maxRecDepth 100000 in
theorem fluxionref16_Int.calls (k : Nat) (a0 : ByteArray) (r1 : Int) (r2 : Int) (w : World) (h : fluxionref16_Int.f k a0 = some (r1, r2)) :
    Calls Tryz.prog 24 #[.string a0] w fun e w' => e = .returned (.tuple #[.int .i64 r1, .int .i64 r2]) ∧ Drawn0 w w' := by
  have H : (if (a0.size : Int) > 0 then (if 0 < (a0.size : Int) then (fluxionref16_Int.j0 k a0 ((bt a0 0) == 45)) else (none)) else (fluxionref16_Int.j0 k a0 false)) = some (r1, r2) := h
  clear h
  have HC2 := Aside0.mk H
  clear H
  go_enter Tryz.func24, Tryz.ntmps24
  go_upto_region 1 with (fail)
  go_cut [13] (fun v13 wc => ∃ (kq : Nat) (x13_1 : Bool), v13 = .bool x13_1 ∧ Aside0 (fluxionref16_Int.j0 kq a0 x13_1 = some (r1, r2)) ∧ Aside0 (kq ≤ k) ∧ Drawn0 w wc)
  case first =>
    have H := HC2.out
    clear HC2
    by_cases c3 : (a0.size : Int) > 0
    · rw [if_pos c3] at H
      have c3b0 : decide (0 < (a0.size : Int)) = true := decide_eq_true c3
      have c3b1 : decide (0 < a0.size) = true := decide_eq_true (by omega)
      clear c3
      (first | rw [c3b0] | (simp only [i64_w, i32_w]; rw [c3b0]) | skip)
      by_cases c4 : 0 < (a0.size : Int)
      · rw [if_pos c4] at H
        have c4b0 : decide (0 < (a0.size : Int)) = true := decide_eq_true c4
        have c4b1 : decide (0 < a0.size) = true := decide_eq_true (by omega)
        clear c4
        have H' := Aside0.mk H
        clear H
        have p5 : 0 ≤ (0 : Int) := (by omega)
        have q5 : 0 < a0.size := (by have : (0 : Int) < (a0.size : Int) := of_decide_eq_true (by first | (with_reducible assumption) | assumption); omega)
        have hx5 : ∀ h : 0 < a0.size, ((a0[0]'h).toNat : Int) = bt a0 0 := bt_at a0 0
        clear p5
        have qi5 : (0 < (a0.size : Int)) = True := eq_true (of_decide_eq_true (by first | (with_reducible assumption) | assumption))
        replace q5 := eq_true q5
        go_wp2
        go_meet
        case rel => exact ⟨_, (((bt a0 0) == 45)), (by first | rfl | (simp; done) | (simp [*]; done)), H', ⟨by first | omega | exact Nat.le_refl _⟩, by repeat (first | exact Drawn0.refl _ | apply Drawn0.step)⟩
      · rw [if_neg c4] at H
        exact absurd H (by simp)
    · rw [if_neg c3] at H
      have c3b0 : decide (0 < (a0.size : Int)) = false := decide_eq_false c3
      have c3b1 : decide (0 < a0.size) = false := decide_eq_false (by omega)
      clear c3
      (first | rw [c3b0] | (simp only [i64_w, i32_w]; rw [c3b0]) | skip)
      have H' := Aside0.mk H
      clear H
      go_wp2
      go_meet
      case rel => exact ⟨_, (false), (by first | rfl | (simp; done) | (simp [*]; done)), H', ⟨by first | omega | exact Nat.le_refl _⟩, by repeat (first | exact Drawn0.refl _ | apply Drawn0.step)⟩
  case rest =>
    clear HC2
    try clear c2
    try clear p2
    try clear c3
    try clear c3b0
    try clear c3b1
    try clear c4
    try clear c4b0
    try clear c4b1
    try clear p5
    try clear q5
    try clear hx5
    try clear qi5
    try clear p5
    try clear q5
    obtain ⟨kq, x13_1, rfl, HA, HJ1, ⟨mc1, rfl⟩⟩ := hcut
    cases kq with
    | zero => exact absurd HA.out (by simp [fluxionref16_Int.j0])
    | succ kj1 =>
      have H := HA.out
      clear HA
      simp only [fluxionref16_Int.j0] at H
      by_cases c6 : x13_1 = true
      · subst c6
        have H1 : (if 1 ≤ (a0.size : Int) then ((fluxionref16_number.f kj1 (a0.extract 1 a0.size)).bind fun bt649 => (if bt649.2 = 0 then (if bt649.1 = 0 then (some (0, 19)) else (some (wrap64 (-bt649.1), bt649.2))) else (some (wrap64 (-bt649.1), bt649.2)))) else (none)) = some (r1, r2) := by rw [if_pos rfl] at H; exact H
        clear H
        have H := H1
        clear H1
        by_cases c7 : 1 ≤ (a0.size : Int)
        · rw [if_pos c7] at H
          have c7b0 := eq_true c7
          have c7b1 : decide (1 ≤ (a0.size : Int)) = true := decide_eq_true c7
          clear c7
          replace H := Option.bind_eq_some_iff.mp H
          obtain ⟨⟨t649, t650⟩, A80, H⟩ := H
          try dsimp only at H
          have A8 := Aside0.mk A80
          clear A80
          by_cases c9 : t650 = 0
          · rw [if_pos c9] at H
            have c9b0 : (t650 == 0) = true := beq_iff_eq.mpr c9
            have c9b1 : (t650 != 0) = false := bne_eq_false_iff_eq.mpr c9
            clear c9
            by_cases c10 : t649 = 0
            · rw [if_pos c10] at H
              have c10b0 : (t649 == 0) = true := beq_iff_eq.mpr c10
              have c10b1 : (t649 != 0) = false := bne_eq_false_iff_eq.mpr c10
              clear c10
              simp only [Option.some.injEq, Prod.mk.injEq] at H
              obtain ⟨rfl, rfl⟩ := H
              go_wp2_with (first | ((with_reducible refine gate_callee (f := 55) rfl ?_); refine goesL_ (some 17) rfl rfl Tryz.func55 (by kernel_rfl) rfl #[.string (a0.extract 1 a0.size)] rfl (by (try simp only [List.map_toArray, List.map_cons, List.map_nil]); first | done | rfl | (simp only [List.length_drop, List.length_take]; rfl)) ?_; (with_reducible refine (fluxionref16_number.calls kj1 (a0.extract 1 a0.size) t649 t650 _ A8.out).mono ?_); rintro e w' ⟨rfl, ⟨nd, rfl⟩⟩; refine ⟨_, rfl, ?_⟩))
              go_ret2
              exact ⟨by first | rfl | (simp; done) | (simp [*]; done), by repeat (first | exact Drawn0.refl _ | apply Drawn0.step)⟩
            · rw [if_neg c10] at H
              have c10b0 : (t649 == 0) = false := beq_eq_false_iff_ne.mpr c10
              have c10b1 : (t649 != 0) = true := bne_iff_ne.mpr c10
              simp only [Option.some.injEq, Prod.mk.injEq] at H
              obtain ⟨rfl, rfl⟩ := H
              go_wp2_with (first | ((with_reducible refine gate_callee (f := 55) rfl ?_); refine goesL_ (some 17) rfl rfl Tryz.func55 (by kernel_rfl) rfl #[.string (a0.extract 1 a0.size)] rfl (by (try simp only [List.map_toArray, List.map_cons, List.map_nil]); first | done | rfl | (simp only [List.length_drop, List.length_take]; rfl)) ?_; (with_reducible refine (fluxionref16_number.calls kj1 (a0.extract 1 a0.size) t649 t650 _ A8.out).mono ?_); rintro e w' ⟨rfl, ⟨nd, rfl⟩⟩; refine ⟨_, rfl, ?_⟩))
              go_ret2
              exact ⟨by first | rfl | (simp; done) | (simp [*]; done), by repeat (first | exact Drawn0.refl _ | apply Drawn0.step)⟩
          · rw [if_neg c9] at H
            have c9b0 : (t650 == 0) = false := beq_eq_false_iff_ne.mpr c9
            have c9b1 : (t650 != 0) = true := bne_iff_ne.mpr c9
            simp only [Option.some.injEq, Prod.mk.injEq] at H
            obtain ⟨rfl, rfl⟩ := H
            go_wp2_with (first | ((with_reducible refine gate_callee (f := 55) rfl ?_); refine goesL_ (some 17) rfl rfl Tryz.func55 (by kernel_rfl) rfl #[.string (a0.extract 1 a0.size)] rfl (by (try simp only [List.map_toArray, List.map_cons, List.map_nil]); first | done | rfl | (simp only [List.length_drop, List.length_take]; rfl)) ?_; (with_reducible refine (fluxionref16_number.calls kj1 (a0.extract 1 a0.size) t649 t650 _ A8.out).mono ?_); rintro e w' ⟨rfl, ⟨nd, rfl⟩⟩; refine ⟨_, rfl, ?_⟩))
            go_ret2
            exact ⟨by first | rfl | (simp; done) | (simp [*]; done), by repeat (first | exact Drawn0.refl _ | apply Drawn0.step)⟩
        · rw [if_neg c7] at H
          exact absurd H (by simp)
      · replace c6 := Bool.eq_false_iff.mpr c6
        subst c6
        have H1 : ((fluxionref16_number.f kj1 a0).bind fun bt651 => (some (bt651.1, bt651.2))) = some (r1, r2) := by rw [if_neg (show ¬ (false = true) by decide)] at H; exact H
        clear H
        have H := H1
        clear H1
        replace H := Option.bind_eq_some_iff.mp H
        obtain ⟨⟨t651, t652⟩, A110, H⟩ := H
        try dsimp only at H
        have A11 := Aside0.mk A110
        clear A110
        simp only [Option.some.injEq, Prod.mk.injEq] at H
        obtain ⟨rfl, rfl⟩ := H
        go_wp2_with (first | ((with_reducible refine gate_callee (f := 55) rfl ?_); refine goesL_ (some 30) rfl rfl Tryz.func55 (by kernel_rfl) rfl #[.string a0] rfl (by (try simp only [List.map_toArray, List.map_cons, List.map_nil]); first | done | rfl | (simp only [List.length_drop, List.length_take]; rfl)) ?_; (with_reducible refine (fluxionref16_number.calls kj1 a0 t651 t652 _ A11.out).mono ?_); rintro e w' ⟨rfl, ⟨nd, rfl⟩⟩; refine ⟨_, rfl, ?_⟩))
        go_ret2
        exact ⟨by first | rfl | (simp; done) | (simp [*]; done), by repeat (first | exact Drawn0.refl _ | apply Drawn0.step)⟩

def fluxionref16_Ref.f (k : Nat) (a0 : ByteArray) : Option (Int × Int) := if (a0.size : Int) = 0 then (some (0, 19)) else (if 0 < (a0.size : Int) then (if (bt a0 0) = 37 then (if 1 ≤ (a0.size : Int) then ((fluxionref16_number.f k (a0.extract 1 a0.size)).bind fun bt657 => (some (bt657.1, bt657.2))) else (none)) else (some (0, 19))) else (none))
set_option maxHeartbeats 8000000 in
set_option maxRecDepth 100000 in
theorem fluxionref16_Ref.calls (k : Nat) (a0 : ByteArray) (r1 : Int) (r2 : Int) (w : World) (h : fluxionref16_Ref.f k a0 = some (r1, r2)) :
    Calls Tryz.prog 26 #[.string a0] w fun e w' => e = .returned (.tuple #[.int .i64 r1, .int .i64 r2]) ∧ Drawn0 w w' := by
  have H : (if (a0.size : Int) = 0 then (some (0, 19)) else (if 0 < (a0.size : Int) then (if (bt a0 0) = 37 then (if 1 ≤ (a0.size : Int) then ((fluxionref16_number.f k (a0.extract 1 a0.size)).bind fun bt657 => (some (bt657.1, bt657.2))) else (none)) else (some (0, 19))) else (none))) = some (r1, r2) := h
  clear h
  by_cases c2 : (a0.size : Int) = 0
  · rw [if_pos c2] at H
    have c2b0 : ((a0.size : Int) == 0) = true := beq_iff_eq.mpr c2
    have c2b1 : ((a0.size : Int) != 0) = false := bne_eq_false_iff_eq.mpr c2
    clear c2
    simp only [Option.some.injEq, Prod.mk.injEq] at H
    obtain ⟨rfl, rfl⟩ := H
    go_enter Tryz.func26, Tryz.ntmps26
    go_wp2
    go_ret2
    exact ⟨by first | rfl | (simp; done) | (simp [*]; done), by repeat (first | exact Drawn0.refl _ | apply Drawn0.step)⟩
  · rw [if_neg c2] at H
    have c2b0 : ((a0.size : Int) == 0) = false := beq_eq_false_iff_ne.mpr c2
    have c2b1 : ((a0.size : Int) != 0) = true := bne_iff_ne.mpr c2
    by_cases c3 : 0 < (a0.size : Int)
    · rw [if_pos c3] at H
      have c3b0 : decide (0 < (a0.size : Int)) = true := decide_eq_true c3
      have c3b1 : decide (0 < a0.size) = true := decide_eq_true (by omega)
      clear c3
      by_cases c5 : (bt a0 0) = 37
      · rw [if_pos c5] at H
        have c5b0 : ((bt a0 0) == 37) = true := beq_iff_eq.mpr c5
        have c5b1 : ((bt a0 0) != 37) = false := bne_eq_false_iff_eq.mpr c5
        clear c5
        by_cases c6 : 1 ≤ (a0.size : Int)
        · rw [if_pos c6] at H
          have c6b0 := eq_true c6
          have c6b1 : decide (1 ≤ (a0.size : Int)) = true := decide_eq_true c6
          clear c6
          replace H := Option.bind_eq_some_iff.mp H
          obtain ⟨⟨t657, t658⟩, A70, H⟩ := H
          try dsimp only at H
          have A7 := Aside0.mk A70
          clear A70
          simp only [Option.some.injEq, Prod.mk.injEq] at H
          obtain ⟨rfl, rfl⟩ := H
          have p4 : 0 ≤ (0 : Int) := (by omega)
          have q4 : 0 < a0.size := (by have : (0 : Int) < (a0.size : Int) := of_decide_eq_true (by first | (with_reducible assumption) | assumption); omega)
          have hx4 : ∀ h : 0 < a0.size, ((a0[0]'h).toNat : Int) = bt a0 0 := bt_at a0 0
          clear p4
          have qi4 : (0 < (a0.size : Int)) = True := eq_true (of_decide_eq_true (by first | (with_reducible assumption) | assumption))
          replace q4 := eq_true q4
          go_enter Tryz.func26, Tryz.ntmps26
          go_wp2_with (first | ((with_reducible refine gate_callee (f := 55) rfl ?_); refine goesL_ (some 14) rfl rfl Tryz.func55 (by kernel_rfl) rfl #[.string (a0.extract 1 a0.size)] rfl (by (try simp only [List.map_toArray, List.map_cons, List.map_nil]); first | done | rfl | (simp only [List.length_drop, List.length_take]; rfl)) ?_; (with_reducible refine (fluxionref16_number.calls k (a0.extract 1 a0.size) t657 t658 _ A7.out).mono ?_); rintro e w' ⟨rfl, ⟨nd, rfl⟩⟩; refine ⟨_, rfl, ?_⟩))
          go_ret2
          exact ⟨by first | rfl | (simp; done) | (simp [*]; done), by repeat (first | exact Drawn0.refl _ | apply Drawn0.step)⟩
        · rw [if_neg c6] at H
          exact absurd H (by simp)
      · rw [if_neg c5] at H
        have c5b0 : ((bt a0 0) == 37) = false := beq_eq_false_iff_ne.mpr c5
        have c5b1 : ((bt a0 0) != 37) = true := bne_iff_ne.mpr c5
        simp only [Option.some.injEq, Prod.mk.injEq] at H
        obtain ⟨rfl, rfl⟩ := H
        have p4 : 0 ≤ (0 : Int) := (by omega)
        have q4 : 0 < a0.size := (by have : (0 : Int) < (a0.size : Int) := of_decide_eq_true (by first | (with_reducible assumption) | assumption); omega)
        have hx4 : ∀ h : 0 < a0.size, ((a0[0]'h).toNat : Int) = bt a0 0 := bt_at a0 0
        clear p4
        have qi4 : (0 < (a0.size : Int)) = True := eq_true (of_decide_eq_true (by first | (with_reducible assumption) | assumption))
        replace q4 := eq_true q4
        go_enter Tryz.func26, Tryz.ntmps26
        go_wp2
        go_ret2
        exact ⟨by first | rfl | (simp; done) | (simp [*]; done), by repeat (first | exact Drawn0.refl _ | apply Drawn0.step)⟩
    · rw [if_neg c3] at H
      exact absurd H (by simp)

end Go.Proofs.YtpncflaoikeidaaGreatDoor.P
namespace Go.Proofs.YtpncflaoikeidaaGreatDoor.H
open Go.RowKit Go.Lib Go.Proofs.YtpncflaoikeidaaGreatDoorW.PrintWords Go.Proofs.YtpncflaoikeidaaGreatDoorW.PrintLast Go.Proofs.YtpncflaoikeidaaGreatDoorW.PrintMore Go.Proofs.YtpncflaoikeidaaGreatDoor.P
/-- is this byte ahead? -/
def hdB (p : UInt8) (l : List UInt8) : Bool := l.head? == some p
theorem cutP_f (p : UInt8) (s : ByteArray) : strings_CutPrefix.f s ⟨#[p]⟩ = some (⟨(if hdB p s.data.toList = true then s.data.toList.drop 1 else s.data.toList).toArray⟩, hdB p s.data.toList) := by
  have hz : ((⟨#[p]⟩ : ByteArray).size : Int) = 1 := rfl
  have hl := size_len s
  have ht : (⟨#[p]⟩ : ByteArray).toList = [p] := bytes_list [p]
  have e1 : ((1 : Int)).toNat = 1 := rfl
  unfold strings_CutPrefix.f stringslite_CutPrefix.f stringslite_HasPrefix.f
  rw [hz, ht, e1]
  by_cases h : 1 ≤ s.size
  · rw [if_pos (by omega), if_pos (by omega), if_pos (by omega), Option.bind_some, toList_data, ext_head]
    cases hs : s.data.toList with
    | nil => rw [hs] at hl; simp at hl; omega
    | cons c l =>
      have hn : (List.take 1 (c :: l) == ([p] : List UInt8)) = hdB p (c :: l) := by simp [hdB]
      rw [hn]
      cases hdB p (c :: l) with
      | true =>
        rw [if_pos rfl, if_pos (by omega), if_pos (by omega), Option.bind_some, if_pos rfl, bytes_of (s.extract 1 s.size), ext_tail, hs]
      | false =>
        rw [if_neg (by decide), Option.bind_some, if_neg (by decide), ← hs, ← bytes_of s]
  · rw [if_neg (by omega), Option.bind_some, if_neg (by decide), Option.bind_some]
    have h0 : s.data.toList = [] := List.eq_nil_of_length_eq_zero (by omega)
    have hn : hdB p s.data.toList = false := by rw [h0]; rfl
    rw [hn, if_neg (by decide), ← bytes_of s]
/-- a word's number, and an error -/
def IN (l : List UInt8) : Int × Int := if hdB 45 l = true then (if l.drop 1 = [48] then (0, 19) else (-(RN (l.drop 1)).1, (RN (l.drop 1)).2)) else RN l
def FN (l : List UInt8) : Int × Int := if hdB 37 l = true then RN (l.drop 1) else (0, 19)
theorem RN_range (l : List UInt8) : 0 ≤ (RN l).1 ∧ (RN l).1 ≤ 2147483647 := by
  unfold RN
  split
  · split
    · simp
    · simp; omega
  · simp
theorem neg_w {x : Int} (h0 : 0 ≤ x) (h1 : x ≤ 2147483647) : wrap64 (-x) = -x := by unfold wrap64; omega
theorem lexRead_f {l : List UInt8} (h : l.length ≤ 140737488351232) : lex_read.f ⟨l.toArray⟩ = some (RN l) := by
  unfold lex_read.f; rw [bytes_size, if_pos h]
theorem lexInt_f (k : Nat) (s : ByteArray) (hz : s.size ≤ 140737488351232) : lex_Int.f (k + 1) s = some (IN s.data.toList) := by
  have hl := size_len s
  unfold lex_Int.f
  rw [cutP_f, Option.bind_some]
  simp only
  obtain ⟨l, hll⟩ : ∃ l, s.data.toList = l := ⟨_, rfl⟩
  rw [hll] at hl ⊢
  unfold IN
  cases hn : hdB 45 l with
  | true =>
    have hd : (l.drop 1).length ≤ 140737488351232 := by rw [List.length_drop]; omega
    obtain ⟨q1, q2⟩ := RN_range (l.drop 1)
    rw [if_pos rfl, if_pos rfl, if_pos rfl, lex_Int.j0, bytes_list]
    by_cases h0 : l.drop 1 = [48]
    · rw [if_pos h0, h0]; rfl
    · rw [if_neg h0, beq_eq_false_iff_ne.2 h0, if_neg (by decide), lexRead_f hd, Option.bind_some, if_pos rfl, neg_w q1 q2]
  | false =>
    rw [if_neg (by decide), if_neg (by decide), if_neg (by decide), lex_Int.j0, if_neg (by decide), lexRead_f (by omega), Option.bind_some, if_neg (by decide)]
theorem lexRef_f (s : ByteArray) (hz : s.size ≤ 140737488351232) : lex_Ref.f s = some (FN s.data.toList) := by
  have hl := size_len s
  unfold lex_Ref.f
  rw [cutP_f, Option.bind_some]
  simp only
  obtain ⟨l, hll⟩ : ∃ l, s.data.toList = l := ⟨_, rfl⟩
  rw [hll] at hl ⊢
  unfold FN
  cases hn : hdB 37 l with
  | true =>
    have hd : (l.drop 1).length ≤ 140737488351232 := by rw [List.length_drop]; omega
    rw [if_pos rfl, if_pos rfl, if_pos rfl, lexRead_f hd, Option.bind_some]
  | false => rw [if_neg (by decide), if_neg (by decide)]
theorem dig_l0 (s : ByteArray) (l : List UInt8) (hl : s.data.toList = l) (hz : l.length < 9000000000000000) : ∀ (j i k : Nat), i + j = l.length → j < k →
    fluxionref16_digits.l0 k s (i : Int) = some ((l.drop i).all digB && (!l.isEmpty && (l.head? != some 48 || l.length == 1)))
  | _, _, 0, _, h => by omega
  | 0, i, k + 1, hi, _ => by
    have hs := size_len s
    rw [hl] at hs
    rw [fluxionref16_digits.l0, if_neg (by omega), List.drop_of_length_le (by omega), List.all_nil, Bool.true_and]
    cases hc : l with
    | nil => rw [hc] at hs; rw [if_neg (by rw [← hs]; simp), if_neg (by rw [← hs]; simp)]; rfl
    | cons c m =>
      have hb : bt s 0 = (c.toNat : Int) := by
        have e : s = ⟨(c :: m).toArray⟩ := by rw [bytes_of s, hl, hc]
        rw [e]
        exact bt_list (l := c :: m) (i := 0) (by simp)
      rw [hc, List.length_cons] at hs
      cases m with
      | nil => rw [if_pos (by rw [← hs]; rfl)]; simp
      | cons d m =>
        rw [List.length_cons] at hs
        rw [if_neg (by omega), if_pos (by omega), if_pos (by omega), hb]
        have e2 : ((c.toNat : Int) != 48) = (c != 48) := by
          rw [Bool.eq_iff_iff, bne_iff_ne, bne_iff_ne]
          constructor
          · intro h hq; exact h (by rw [hq]; rfl)
          · intro h hq; exact h (UInt8.toNat_inj.1 (by have : (48 : UInt8).toNat = 48 := rfl; omega))
        rw [e2]
        simp
        rfl
  | j + 1, i, k + 1, hi, hk => by
    have hs := size_len s
    rw [hl] at hs
    have hb : bt s (i : Int) = ((l[i]'(by omega)).toNat : Int) := by
      rw [bytes_of s, hl]; exact bt_list (by omega)
    have hd : l.drop i = l[i]'(by omega) :: l.drop (i + 1) := List.drop_eq_getElem_cons (by omega)
    have w1 : wrap64 ((i : Int) + 1) = ((i + 1 : Nat) : Int) := by unfold wrap64; omega
    rw [fluxionref16_digits.l0, if_pos (by omega), if_pos (by omega), hb, w1, hd, List.all_cons, dig_l0 s l hl hz j (i + 1) k (by omega) (by clear w1; omega)]
    by_cases h : digB (l[i]'(by omega)) = true
    · have := (digB_iff _).1 h
      rw [if_neg (by omega), if_neg (by omega), h, Bool.true_and]
    · have h1 : ¬ (48 ≤ (l[i]'(by omega)).toNat ∧ (l[i]'(by omega)).toNat ≤ 57) := fun hc => h ((digB_iff _).2 hc)
      have h2 : digB (l[i]'(by omega)) = false := by simpa using h
      rw [h2, Bool.false_and, Bool.false_and]
      by_cases h3 : (l[i]'(by omega)).toNat < 48
      · rw [if_pos (by omega)]
      · rw [if_neg (by omega), if_pos (by omega)]
theorem refDigits_f (s : ByteArray) (k : Nat) (hz : s.size < 9000000000000000) (hk : s.size < k) : fluxionref16_digits.f k s = some (natB s.data.toList) := by
  have hs := size_len s
  unfold fluxionref16_digits.f
  have := dig_l0 s _ rfl (by omega) s.data.toList.length 0 k (by omega) (by omega)
  rw [List.drop_zero] at this
  rw [show (0 : Int) = ((0 : Nat) : Int) from rfl, this]
  unfold natB
  rw [Bool.and_assoc]
theorem num_l0 (s : ByteArray) (l : List UInt8) (hl : s.data.toList = l) (hz : l.length ≤ 10) (hd : l.all digB = true) : ∀ (j i k v : Nat), i + j = l.length → v < 10 ^ i → j < k →
    fluxionref16_number.l0 k s (v : Int) (i : Int) = some (if 2147483647 < dvF (l.drop i) v then (0, 14) else (((dvF (l.drop i) v : Nat) : Int), 0))
  | _, _, 0, _, _, _, h => by omega
  | 0, i, k + 1, v, hi, _, _ => by
    have hs := size_len s
    rw [hl] at hs
    rw [fluxionref16_number.l0, if_neg (by omega), List.drop_of_length_le (by omega), dvF_nil]
    by_cases h : 2147483647 < v
    · rw [if_pos (by omega), if_pos h]
    · rw [if_neg (by omega), if_neg h]
  | j + 1, i, k + 1, v, hi, hv, hk => by
    have hs := size_len s
    rw [hl] at hs
    have hb : bt s (i : Int) = ((l[i]'(by omega)).toNat : Int) := by
      rw [bytes_of s, hl]; exact bt_list (by omega)
    have hdr : l.drop i = l[i]'(by omega) :: l.drop (i + 1) := List.drop_eq_getElem_cons (by omega)
    have hdi : digB (l[i]'(by omega)) = true := List.all_eq_true.1 hd _ (List.getElem_mem _)
    obtain ⟨c, hc⟩ : ∃ c, l[i]'(by omega) = c := ⟨_, rfl⟩
    rw [hc] at hb hdr hdi
    have hdg := (digB_iff c).1 hdi
    have hde := dgv_eq c
    have hv2 : 10 * v + dgv c < 10 ^ (i + 1) := by rw [Nat.pow_succ]; omega
    have hvs : v < 10000000000 := by
      have : (10 : Nat) ^ i ≤ 10 ^ 10 := Nat.pow_le_pow_right (by decide) (by omega)
      exact Nat.lt_of_lt_of_le hv this
    have HV2 := Aside0.mk hv2
    clear hv hv2
    have b1 : (i : Int) < (s.size : Int) := by omega
    have W2 : Aside0 (wrap64 (wrap64 (wrap64 (10 * (v : Int)) + wrap64 ((c.toNat : Nat) : Int)) - 48) = ((10 * v + dgv c : Nat) : Int)) := ⟨by
      rw [wrap_small (x := 10 * (v : Int)) (by omega) (by omega), wrap_small (x := ((c.toNat : Nat) : Int)) (by omega) (by omega), wrap_small (x := 10 * (v : Int) + ((c.toNat : Nat) : Int)) (by omega) (by omega), wrap_small (by omega) (by omega)]
      omega⟩
    have W1 : Aside0 (wrap64 ((i : Int) + 1) = ((i + 1 : Nat) : Int)) := ⟨by rw [wrap_small (by omega) (by omega)]; omega⟩
    rw [fluxionref16_number.l0, if_pos b1, if_pos (Int.natCast_nonneg _), hb, W2.out, W1.out, hdr, dvF_cons]
    exact num_l0 s l hl hz hd j (i + 1) k _ (by omega) HV2.out (by omega)
theorem refNum_f (s : ByteArray) (k : Nat) (hz : s.size < 9000000000000000) (hk : s.size < k) (hk2 : 100 < k) : fluxionref16_number.f k s = some (RN s.data.toList) := by
  have hs := size_len s
  unfold fluxionref16_number.f
  rw [refDigits_f s k hz hk, Option.bind_some]
  unfold RN
  by_cases h : natB s.data.toList = true
  · rw [if_pos h, if_pos h]
    by_cases hl : 10 < s.size
    · have hbig : 2147483647 < dv s.data.toList := by
        refine Nat.lt_of_not_le fun hc => ?_
        have h2 := dec_len (j := 10) (r := dv s.data.toList) (by decide) (by omega)
        rw [dec_dv h] at h2
        omega
      rw [if_pos (by omega), if_pos hbig]
    · have hd := (natB_parts h).1
      have := num_l0 s _ rfl (by omega) hd s.data.toList.length 0 k 0 (by omega) (by decide) (by omega)
      rw [List.drop_zero] at this
      rw [if_neg (by omega)]
      exact this
  · rw [if_neg h, if_neg h]
end Go.Proofs.YtpncflaoikeidaaGreatDoor.H
namespace Go.Proofs.YtpncflaoikeidaaGreatDoor.P
open Go.RowKit Go.Proofs.YtpncflaoikeidaaGreatDoorW.PrintWords Go.Proofs.YtpncflaoikeidaaGreatDoorW.PrintLast Go.Proofs.YtpncflaoikeidaaGreatDoorW.PrintMore
attribute [local go_sem] max2_int max_two
set_option linter.unusedVariables false
set_option linter.unusedSimpArgs false
def lex_Rat.f (k : Nat) (a0 : ByteArray) : Option (Bool × List Int × List Int × Int) := (digits_ParseRat.f k a0).bind fun bt715 => (some (bt715.1, bt715.2.1, bt715.2.2.1, bt715.2.2.2))
set_option maxHeartbeats 8000000 in
set_option maxRecDepth 100000 in
theorem lex_Rat.calls (k : Nat) (a0 : ByteArray) (r1 : Bool) (r2 : List Int) (r3 : List Int) (r4 : Int) (w : World) (h : lex_Rat.f k a0 = some (r1, r2, r3, r4)) (hL : LaidT w) :
    Calls Tryz.prog 28 #[.string a0] w fun e w' => ∃ v1_ v2_ : Value, e = .returned (.tuple #[.agg #[.bool r1, v1_, v2_], .int .i64 r4]) ∧ Kd.R (Kd.int .u32) 56 w' w.heap.size (fun k_ => some k_ ≠ (v2_ : Value).ownBlock) v1_ r2 ∧ Kd.R (Kd.int .u32) 56 w' w.heap.size (fun k_ => some k_ ≠ (v1_ : Value).ownBlock) v2_ r3 ∧ Below w.heap.size w w' := by
  have hu25 := Tryz.underlying25
  have HB := Aside0.mk (Below.refl w.heap.size w)
  have H : ((digits_ParseRat.f k a0).bind fun bt715 => (some (bt715.1, bt715.2.1, bt715.2.2.1, bt715.2.2.2))) = some (r1, r2, r3, r4) := h
  clear h
  replace H := Option.bind_eq_some_iff.mp H
  obtain ⟨⟨t715, t716, t719, t722⟩, A20, H⟩ := H
  try dsimp only at H
  have A2 := Aside0.mk A20
  clear A20
  simp only [Option.some.injEq, Prod.mk.injEq] at H
  obtain ⟨rfl, rfl, rfl, rfl⟩ := H
  go_enter Tryz.func28, Tryz.ntmps28
  go_wp2_with (first | ((with_reducible refine gate_dst (N := 2) rfl ?_); refine box_event ?hg (N := 2) ?hd (cs := #[.bool false, .slice none 0 0, .slice none 0 0]) (t := 25) ?hr ?_; (case hd => rfl); (case hg => rfl); (case hr => first | (go_simp; done) | (go_simp; rfl)); intro gb714 hg w3 hbox hb; have n0_ := Aside0.mk (below_step (by repeat (first | (with_reducible first | exact HB.out | apply below_alloc | apply pw_below_drewN | apply below_drew1) | exact HB.out)) hb); have n1_ := Aside0.mk (hbox); have n2_ := Aside0.mk ((by rw [hg]; exact (below_size (by repeat (first | (with_reducible first | exact HB.out | apply below_alloc | apply pw_below_drewN | apply below_drew1) | exact HB.out))) : w.heap.size ≤ gb714)); have n3_ := Aside0.mk ((by rw [hg]; exact (below_size (by repeat (first | (with_reducible first | exact HB.out | apply below_alloc | apply pw_below_drewN | apply below_drew1) | exact HB.out))) : w.heap.size ≤ gb714)); clear HB; have HB := n0_; have BK714 := n1_; have GW714 := n2_; have GE714 := n3_; clear n0_ n1_ n2_ n3_; clear hb hbox hg) | ((with_reducible refine gate_callee (f := 12) rfl ?_); refine goesL_ (some 5) rfl rfl Tryz.func12 (by kernel_rfl) rfl #[.string a0] rfl (by (try simp only [List.map_toArray, List.map_cons, List.map_nil]); first | done | rfl | (simp only [List.length_drop, List.length_take]; rfl)) ?_; (with_reducible refine (digits_ParseRat.calls k a0 t715 t716 t719 t722 _ A2.out ?side1).mono ?_); (case side1 => exact LaidT.below hL (by repeat (first | (with_reducible first | exact HB.out | apply below_alloc | apply pw_below_drewN | apply below_drew1 | refine below_set ?_ GE714.out) | exact HB.out))); rintro e w4 ⟨v717, v720, rfl, ho0, ho1, hb⟩; refine ⟨_, rfl, ?_⟩; have n0_ := Aside0.mk (Kd.R_lower ho0 (below_size (by repeat (first | (with_reducible first | exact HB.out | apply below_alloc | apply pw_below_drewN | apply below_drew1 | refine below_set ?_ GE714.out) | exact HB.out)))); have n1_ := Aside0.mk (Kd.R_lower ho1 (below_size (by repeat (first | (with_reducible first | exact HB.out | apply below_alloc | apply pw_below_drewN | apply below_drew1 | refine below_set ?_ GE714.out) | exact HB.out)))); have n2_ := Aside0.mk (blk_below (g := gb714) (o := .cells #[.bool false, .slice none 0 0, .slice none 0 0] 25 (0, 0)) (by exact BK714.out) hb); have n3_ := Aside0.mk (below_step (by repeat (first | (with_reducible first | exact HB.out | apply below_alloc | apply pw_below_drewN | apply below_drew1 | refine below_set ?_ GE714.out) | exact HB.out)) hb); clear BK714; clear HB; have HO718 := n0_; have HO721 := n1_; have BK714 := n2_; have HB := n3_; clear n0_ n1_ n2_ n3_; (try clear hb); (try clear hb2); (try clear hk); (try clear hi); (try clear ho0); (try clear ho1); have hcz5_0 : w4.cell? ⟨gb714, 0, none⟩ = some (.bool false) := (blk_cell BK714.out 0).trans rfl; have hcz5_1 : w4.cell? ⟨gb714, 1, none⟩ = some (.slice none 0 0) := (blk_cell BK714.out 1).trans rfl; have hcz5_2 : w4.cell? ⟨gb714, 2, none⟩ = some (.slice none 0 0) := (blk_cell BK714.out 2).trans rfl; have hfz5_0 := blk_frozen BK714.out 0; have hfz5_1 := blk_frozen BK714.out 1; have hfz5_2 := blk_frozen BK714.out 2; obtain ⟨Ao6, co6, eo6⟩ := Kd.R_slice HO718.out; subst eo6; obtain ⟨Ao7, co7, eo7⟩ := Kd.R_slice HO721.out; subst eo7))
  refine bodyPost_ret (results_ct rfl _ _ gb714 25 #[.bool t715, .slice Ao6 t716.length co6, .slice Ao7 t719.length co7] (0, 0) _ rfl (by refine blk_put (cs := #[.bool t715, .slice Ao6 t716.length co6, .slice none 0 0]) ?_ 2 _ rfl; refine blk_put (cs := #[.bool t715, .slice none 0 0, .slice none 0 0]) ?_ 1 _ rfl; refine blk_put (cs := #[.bool false, .slice none 0 0, .slice none 0 0]) ?_ 0 _ rfl; exact BK714.out) Tryz.underlying25 rfl (by kernel_rfl)) rfl ?_
  exact ⟨_, _, by first | rfl | (simp [errW_none, errW_some] <;> rfl) | (simp [*, errW_none, errW_some] <;> rfl), by exact Kd.R_mono (Kd.R_far (p := ⟨gb714, 2, none⟩) (Kd.R_far (p := ⟨gb714, 1, none⟩) (Kd.R_far (p := ⟨gb714, 0, none⟩) (Kd.R_types HO718.out BK714.out (by decide)) (fun _ hk => hk.2) (.bool t715)) (fun _ hk => hk.2) (.slice Ao6 t716.length co6)) (fun _ hk => hk.2) (.slice Ao7 t719.length co7)) (fun _ hk => hk.1), by exact Kd.R_mono (Kd.R_far (p := ⟨gb714, 2, none⟩) (Kd.R_far (p := ⟨gb714, 1, none⟩) (Kd.R_far (p := ⟨gb714, 0, none⟩) (Kd.R_types HO721.out BK714.out (by decide)) (fun _ hk => hk.2) (.bool t715)) (fun _ hk => hk.2) (.slice Ao6 t716.length co6)) (fun _ hk => hk.2) (.slice Ao7 t719.length co7)) (fun _ hk => hk.1), by repeat (first | (with_reducible first | exact HB.out | apply below_alloc | apply pw_below_drewN | apply below_drew1 | refine below_set ?_ GE714.out) | exact HB.out)⟩

def fluxionlaw16_LexNumbers.j0 : Nat → ByteArray → Bool → Option (Bool)
  | 0, _, _ => none
  | k + 1, x0, x52 => if x52 = true then (some false) else (if (x0.size : Int) > 120 then ((fluxionlaw16_known.f k).bind fun t731 => (some t731)) else ((lex_Rat.f k x0).bind fun bt732 => ((fluxionref04_ParseRat.f k x0).bind fun bt741 => (if bt741.2.2.2 = 0 then (if bt732.2.2.2 = 0 then ((fluxionref03_Is.f k bt741.1 bt741.2.1 bt741.2.2.1 bt732.1 bt732.2.1 bt732.2.2.1).bind fun t750 => (if t750 = true then ((fluxionlaw16_known.f k).bind fun t751 => (some t751)) else (some false))) else (some false)) else (if bt732.2.2.2 = bt741.2.2.2 then (if bt732.1 = true then (some false) else (if (bt732.2.1.length : Int) = 0 then (if (bt732.2.2.1.length : Int) = 0 then ((fluxionlaw16_known.f k).bind fun t752 => (some t752)) else (some false)) else (some false))) else (some false))))))
def fluxionlaw16_LexNumbers.f (k : Nat) (a0 : ByteArray) : Option (Bool) := (lex_Int.f k a0).bind fun bt723 => ((fluxionref16_Int.f k a0).bind fun bt725 => ((lex_Ref.f a0).bind fun bt727 => ((fluxionref16_Ref.f k a0).bind fun bt729 => (if bt723.1 = bt725.1 then (if bt723.2 = bt725.2 then (if bt727.1 = bt729.1 then (fluxionlaw16_LexNumbers.j0 k a0 (bt727.2 != bt729.2)) else (fluxionlaw16_LexNumbers.j0 k a0 true)) else (fluxionlaw16_LexNumbers.j0 k a0 true)) else (fluxionlaw16_LexNumbers.j0 k a0 true)))))
set_option maxHeartbeats 8000000 in
set_option maxRecDepth 100000 in
theorem fluxionlaw16_LexNumbers.calls (k : Nat) (a0 : ByteArray) (r : Bool) (w : World) (h : fluxionlaw16_LexNumbers.f k a0 = some r) (hL : LaidT w) :
    Calls Tryz.prog 7 #[.string a0] w fun e w' => e = .returned (.bool r) ∧ Below w.heap.size w w' := by
  have hu25 := Tryz.underlying25
  have hu32 := Tryz.underlying32
  have HB := Aside0.mk (Below.refl w.heap.size w)
  have H : ((lex_Int.f k a0).bind fun bt723 => ((fluxionref16_Int.f k a0).bind fun bt725 => ((lex_Ref.f a0).bind fun bt727 => ((fluxionref16_Ref.f k a0).bind fun bt729 => (if bt723.1 = bt725.1 then (if bt723.2 = bt725.2 then (if bt727.1 = bt729.1 then (fluxionlaw16_LexNumbers.j0 k a0 (bt727.2 != bt729.2)) else (fluxionlaw16_LexNumbers.j0 k a0 true)) else (fluxionlaw16_LexNumbers.j0 k a0 true)) else (fluxionlaw16_LexNumbers.j0 k a0 true)))))) = some r := h
  clear h
  replace H := Option.bind_eq_some_iff.mp H
  obtain ⟨⟨t723, t724⟩, A20, H⟩ := H
  try dsimp only at H
  have A2 := Aside0.mk A20
  clear A20
  replace H := Option.bind_eq_some_iff.mp H
  obtain ⟨⟨t725, t726⟩, A30, H⟩ := H
  try dsimp only at H
  have A3 := Aside0.mk A30
  clear A30
  replace H := Option.bind_eq_some_iff.mp H
  obtain ⟨⟨t727, t728⟩, A40, H⟩ := H
  try dsimp only at H
  have A4 := Aside0.mk A40
  clear A40
  replace H := Option.bind_eq_some_iff.mp H
  obtain ⟨⟨t729, t730⟩, A50, H⟩ := H
  try dsimp only at H
  have A5 := Aside0.mk A50
  clear A50
  have HC6 := Aside0.mk H
  clear H
  go_enter Tryz.func7, Tryz.ntmps7
  go_upto_region 5 with (first | ((with_reducible refine gate_callee (f := 23) rfl ?_); refine goesL_ (some 17) rfl rfl Tryz.func23 (by kernel_rfl) rfl #[.string a0] rfl (by (try simp only [List.map_toArray, List.map_cons, List.map_nil]); first | done | rfl | (simp only [List.length_drop, List.length_take]; rfl)) ?_; (with_reducible refine (lex_Int.calls k a0 t723 t724 _ A2.out ?side1).mono ?_); (case side1 => exact LaidT.below hL (by repeat (first | (with_reducible first | exact HB.out | apply below_alloc | apply pw_below_drewN | apply below_drew1) | exact HB.out))); rintro e w7 ⟨rfl, hb⟩; refine ⟨_, rfl, ?_⟩; have n0_ := Aside0.mk (below_step (by repeat (first | (with_reducible first | exact HB.out | apply below_alloc | apply pw_below_drewN | apply below_drew1) | exact HB.out)) hb); clear HB; have HB := n0_; clear n0_; (try clear hb); (try clear hb2); (try clear hk); (try clear hi)) | ((with_reducible refine gate_callee (f := 24) rfl ?_); refine goesL_ (some 22) rfl rfl Tryz.func24 (by kernel_rfl) rfl #[.string a0] rfl (by (try simp only [List.map_toArray, List.map_cons, List.map_nil]); first | done | rfl | (simp only [List.length_drop, List.length_take]; rfl)) ?_; (with_reducible refine (fluxionref16_Int.calls k a0 t725 t726 _ A3.out).mono ?_); rintro e w' ⟨rfl, ⟨nd, rfl⟩⟩; refine ⟨_, rfl, ?_⟩) | ((with_reducible refine gate_callee (f := 25) rfl ?_); refine goesL_ (some 27) rfl rfl Tryz.func25 (by kernel_rfl) rfl #[.string a0] rfl (by (try simp only [List.map_toArray, List.map_cons, List.map_nil]); first | done | rfl | (simp only [List.length_drop, List.length_take]; rfl)) ?_; (with_reducible refine (lex_Ref.calls a0 t727 t728 _ A4.out ?side1).mono ?_); (case side1 => exact LaidT.below hL (by repeat (first | (with_reducible first | exact HB.out | apply below_alloc | apply pw_below_drewN | apply below_drew1) | exact HB.out))); rintro e w8 ⟨rfl, hb⟩; refine ⟨_, rfl, ?_⟩; have n0_ := Aside0.mk (below_step (by repeat (first | (with_reducible first | exact HB.out | apply below_alloc | apply pw_below_drewN | apply below_drew1) | exact HB.out)) hb); clear HB; have HB := n0_; clear n0_; (try clear hb); (try clear hb2); (try clear hk); (try clear hi)) | ((with_reducible refine gate_callee (f := 26) rfl ?_); refine goesL_ (some 32) rfl rfl Tryz.func26 (by kernel_rfl) rfl #[.string a0] rfl (by (try simp only [List.map_toArray, List.map_cons, List.map_nil]); first | done | rfl | (simp only [List.length_drop, List.length_take]; rfl)) ?_; (with_reducible refine (fluxionref16_Ref.calls k a0 t729 t730 _ A5.out).mono ?_); rintro e w' ⟨rfl, ⟨nd, rfl⟩⟩; refine ⟨_, rfl, ?_⟩))
  (try simp only [Act.put, List.setIfInBounds_toArray, List.set_cons_zero, List.set_cons_succ])
  go_cut [52] (fun v52 wc => ∃ (kq : Nat) (x52_5 : Bool), v52 = .bool x52_5 ∧ Aside0 (fluxionlaw16_LexNumbers.j0 kq a0 x52_5 = some r) ∧ Aside0 (kq ≤ k) ∧ Aside0 (Below w.heap.size w wc))
  case first =>
    have H := HC6.out
    clear HC6
    by_cases c9 : t723 = t725
    · rw [if_pos c9] at H
      have c9b0 : (t723 == t725) = true := beq_iff_eq.mpr c9
      have c9b1 : (t723 != t725) = false := bne_eq_false_iff_eq.mpr c9
      clear c9
      (first | rw [c9b0] | (simp only [i64_w, i32_w]; rw [c9b0]) | skip)
      by_cases c10 : t724 = t726
      · rw [if_pos c10] at H
        have c10b0 : (t724 == t726) = true := beq_iff_eq.mpr c10
        have c10b1 : (t724 != t726) = false := bne_eq_false_iff_eq.mpr c10
        clear c10
        by_cases c11 : t727 = t729
        · rw [if_pos c11] at H
          have c11b0 : (t727 == t729) = true := beq_iff_eq.mpr c11
          have c11b1 : (t727 != t729) = false := bne_eq_false_iff_eq.mpr c11
          clear c11
          have H' := Aside0.mk H
          clear H
          go_wp2
          go_meet
          case rel => exact ⟨_, ((t728 != t730)), (by first | rfl | (simp; done) | (simp [*]; done)), H', ⟨by first | omega | exact Nat.le_refl _⟩, ⟨by repeat (first | (with_reducible first | exact HB.out | apply below_alloc | apply pw_below_drewN | apply below_drew1) | exact HB.out)⟩⟩
        · rw [if_neg c11] at H
          have c11b0 : (t727 == t729) = false := beq_eq_false_iff_ne.mpr c11
          have c11b1 : (t727 != t729) = true := bne_iff_ne.mpr c11
          have H' := Aside0.mk H
          clear H
          go_wp2
          go_meet
          case rel => exact ⟨_, (true), (by first | rfl | (simp; done) | (simp [*]; done)), H', ⟨by first | omega | exact Nat.le_refl _⟩, ⟨by repeat (first | (with_reducible first | exact HB.out | apply below_alloc | apply pw_below_drewN | apply below_drew1) | exact HB.out)⟩⟩
      · rw [if_neg c10] at H
        have c10b0 : (t724 == t726) = false := beq_eq_false_iff_ne.mpr c10
        have c10b1 : (t724 != t726) = true := bne_iff_ne.mpr c10
        have H' := Aside0.mk H
        clear H
        go_wp2
        go_meet
        case rel => exact ⟨_, (true), (by first | rfl | (simp; done) | (simp [*]; done)), H', ⟨by first | omega | exact Nat.le_refl _⟩, ⟨by repeat (first | (with_reducible first | exact HB.out | apply below_alloc | apply pw_below_drewN | apply below_drew1) | exact HB.out)⟩⟩
    · rw [if_neg c9] at H
      have c9b0 : (t723 == t725) = false := beq_eq_false_iff_ne.mpr c9
      have c9b1 : (t723 != t725) = true := bne_iff_ne.mpr c9
      (first | rw [c9b0] | (simp only [i64_w, i32_w]; rw [c9b0]) | skip)
      have H' := Aside0.mk H
      clear H
      go_wp2
      go_meet
      case rel => exact ⟨_, (true), (by first | rfl | (simp; done) | (simp [*]; done)), H', ⟨by first | omega | exact Nat.le_refl _⟩, ⟨by repeat (first | (with_reducible first | exact HB.out | apply below_alloc | apply pw_below_drewN | apply below_drew1) | exact HB.out)⟩⟩
  case rest =>
    clear HC6
    try clear c1
    try clear c2
    try clear p2
    try clear c7
    try clear c9
    try clear c9b0
    try clear c9b1
    try clear c10
    try clear c10b0
    try clear c10b1
    try clear c11
    try clear c11b0
    try clear c11b1
    obtain ⟨kq, x52_5, rfl, HA, HJ5, HB⟩ := hcut
    cases kq with
    | zero => exact absurd HA.out (by simp [fluxionlaw16_LexNumbers.j0])
    | succ kj5 =>
      have H := HA.out
      clear HA
      simp only [fluxionlaw16_LexNumbers.j0] at H
      by_cases c12 : x52_5 = true
      · subst c12
        have H1 : (some false) = some r := by rw [if_pos rfl] at H; exact H
        clear H
        have H := H1
        clear H1
        obtain rfl := Option.some.inj H
        go_wp2
        go_ret
        exact ⟨by first | rfl | (simp [errW_none, errW_some] <;> rfl) | (simp [*, errW_none, errW_some] <;> rfl), by repeat (first | (with_reducible first | exact HB.out | apply below_alloc | apply pw_below_drewN | apply below_drew1) | exact HB.out)⟩
      · replace c12 := Bool.eq_false_iff.mpr c12
        subst c12
        have H1 : (if (a0.size : Int) > 120 then ((fluxionlaw16_known.f kj5).bind fun t731 => (some t731)) else ((lex_Rat.f kj5 a0).bind fun bt732 => ((fluxionref04_ParseRat.f kj5 a0).bind fun bt741 => (if bt741.2.2.2 = 0 then (if bt732.2.2.2 = 0 then ((fluxionref03_Is.f kj5 bt741.1 bt741.2.1 bt741.2.2.1 bt732.1 bt732.2.1 bt732.2.2.1).bind fun t750 => (if t750 = true then ((fluxionlaw16_known.f kj5).bind fun t751 => (some t751)) else (some false))) else (some false)) else (if bt732.2.2.2 = bt741.2.2.2 then (if bt732.1 = true then (some false) else (if (bt732.2.1.length : Int) = 0 then (if (bt732.2.2.1.length : Int) = 0 then ((fluxionlaw16_known.f kj5).bind fun t752 => (some t752)) else (some false)) else (some false))) else (some false)))))) = some r := by rw [if_neg (show ¬ (false = true) by decide)] at H; exact H
        clear H
        have H := H1
        clear H1
        by_cases c13 : (a0.size : Int) > 120
        · rw [if_pos c13] at H
          have c13b0 : decide (120 < (a0.size : Int)) = true := decide_eq_true c13
          have c13b1 : decide (120 < a0.size) = true := decide_eq_true (by omega)
          clear c13
          replace H := Option.bind_eq_some_iff.mp H
          obtain ⟨t731, A140, H⟩ := H
          try dsimp only at H
          have A14 := Aside0.mk A140
          clear A140
          obtain rfl := Option.some.inj H
          go_wp2_with (first | ((with_reducible refine gate_callee (f := 27) rfl ?_); refine goesL_ (some 56) rfl rfl Tryz.func27 (by kernel_rfl) rfl #[] rfl (by (try simp only [List.map_toArray, List.map_cons, List.map_nil]); first | done | rfl | (simp only [List.length_drop, List.length_take]; rfl)) ?_; (with_reducible refine (fluxionlaw16_known.calls kj5  t731 _ A14.out ?side1).mono ?_); (case side1 => exact LaidT.below hL (by repeat (first | (with_reducible first | exact HB.out | apply below_alloc | apply pw_below_drewN | apply below_drew1) | exact HB.out))); rintro e w15 ⟨rfl, hb⟩; refine ⟨_, rfl, ?_⟩; have n0_ := Aside0.mk (below_step (by repeat (first | (with_reducible first | exact HB.out | apply below_alloc | apply pw_below_drewN | apply below_drew1) | exact HB.out)) hb); clear HB; have HB := n0_; clear n0_; (try clear hb); (try clear hb2); (try clear hk); (try clear hi)))
          go_ret
          exact ⟨by first | rfl | (simp [errW_none, errW_some] <;> rfl) | (simp [*, errW_none, errW_some] <;> rfl), by repeat (first | (with_reducible first | exact HB.out | apply below_alloc | apply pw_below_drewN | apply below_drew1) | exact HB.out)⟩
        · rw [if_neg c13] at H
          have c13b0 : decide (120 < (a0.size : Int)) = false := decide_eq_false c13
          have c13b1 : decide (120 < a0.size) = false := decide_eq_false (by omega)
          clear c13
          replace H := Option.bind_eq_some_iff.mp H
          obtain ⟨⟨t732, t733, t736, t739⟩, A160, H⟩ := H
          try dsimp only at H
          have A16 := Aside0.mk A160
          clear A160
          replace H := Option.bind_eq_some_iff.mp H
          obtain ⟨⟨t741, t742, t745, t748⟩, A170, H⟩ := H
          try dsimp only at H
          have A17 := Aside0.mk A170
          clear A170
          by_cases c18 : t748 = 0
          · rw [if_pos c18] at H
            have c18b0 : (t748 == 0) = true := beq_iff_eq.mpr c18
            have c18b1 : (t748 != 0) = false := bne_eq_false_iff_eq.mpr c18
            clear c18
            by_cases c19 : t739 = 0
            · rw [if_pos c19] at H
              have c19b0 : (t739 == 0) = true := beq_iff_eq.mpr c19
              have c19b1 : (t739 != 0) = false := bne_eq_false_iff_eq.mpr c19
              clear c19
              replace H := Option.bind_eq_some_iff.mp H
              obtain ⟨t750, A200, H⟩ := H
              try dsimp only at H
              have A20 := Aside0.mk A200
              clear A200
              by_cases c21 : t750 = true
              · subst c21
                have H1 : ((fluxionlaw16_known.f kj5).bind fun t751 => (some t751)) = some r := by rw [if_pos rfl] at H; exact H
                clear H
                have H := H1
                clear H1
                replace H := Option.bind_eq_some_iff.mp H
                obtain ⟨t751, A220, H⟩ := H
                try dsimp only at H
                have A22 := Aside0.mk A220
                clear A220
                obtain rfl := Option.some.inj H
                go_wp2_with (first | ((with_reducible refine gate_callee (f := 28) rfl ?_); refine goesL_ (some 59) rfl rfl Tryz.func28 (by kernel_rfl) rfl #[.string a0] rfl (by (try simp only [List.map_toArray, List.map_cons, List.map_nil]); first | done | rfl | (simp only [List.length_drop, List.length_take]; rfl)) ?_; (with_reducible refine (lex_Rat.calls kj5 a0 t732 t733 t736 t739 _ A16.out ?side1).mono ?_); (case side1 => exact LaidT.below hL (by repeat (first | (with_reducible first | exact HB.out | apply below_alloc | apply pw_below_drewN | apply below_drew1) | exact HB.out))); rintro e w23 ⟨v734, v737, rfl, ho0, ho1, hb⟩; refine ⟨_, rfl, ?_⟩; have n0_ := Aside0.mk (Kd.R_lower ho0 (below_size (by repeat (first | (with_reducible first | exact HB.out | apply below_alloc | apply pw_below_drewN | apply below_drew1) | exact HB.out)))); have n1_ := Aside0.mk (Kd.R_lower ho1 (below_size (by repeat (first | (with_reducible first | exact HB.out | apply below_alloc | apply pw_below_drewN | apply below_drew1) | exact HB.out)))); have n2_ := Aside0.mk (below_step (by repeat (first | (with_reducible first | exact HB.out | apply below_alloc | apply pw_below_drewN | apply below_drew1) | exact HB.out)) hb); clear HB; have HO735 := n0_; have HO738 := n1_; have HB := n2_; clear n0_ n1_ n2_; (try clear hb); (try clear hb2); (try clear hk); (try clear hi); (try clear ho0); (try clear ho1)) | ((with_reducible refine gate_dst (N := 11) rfl ?_); (try (refine gate_guard (by rfl) ?_; dsimp only)); refine box_event ?hg (N := 11) ?hd (cs := #[.bool false, .slice none 0 0, .slice none 0 0]) (t := 25) ?hr ?_; (case hd => rfl); (case hg => rfl); (case hr => first | (go_simp; done) | (go_simp; rfl)); intro gb740 hg w24 hbox hb; have n0_ := Aside0.mk (Kd.R_below (by exact HO735.out) hb); have n1_ := Aside0.mk (Kd.R_below (by exact HO738.out) hb); have n2_ := Aside0.mk (below_step (by repeat (first | (with_reducible first | exact HB.out | apply below_alloc | apply pw_below_drewN | apply below_drew1) | exact HB.out)) hb); have n3_ := Aside0.mk (hbox); have n4_ := Aside0.mk ((by rw [hg]; exact (below_size (by repeat (first | (with_reducible first | exact HB.out | apply below_alloc | apply pw_below_drewN | apply below_drew1) | exact HB.out))) : w.heap.size ≤ gb740)); have n5_ := Aside0.mk ((by rw [hg]; exact (below_size (by repeat (first | (with_reducible first | exact HB.out | apply below_alloc | apply pw_below_drewN | apply below_drew1) | exact HB.out))) : w.heap.size ≤ gb740)); clear HO735; clear HO738; clear HB; have HO735 := n0_; have HO738 := n1_; have HB := n2_; have BK740 := n3_; have GW740 := n4_; have GE740 := n5_; clear n0_ n1_ n2_ n3_ n4_ n5_; clear hb hbox hg; have hcz25_0 : w24.cell? ⟨gb740, 0, none⟩ = some (.bool false) := (blk_cell BK740.out 0).trans rfl; have hcz25_1 : w24.cell? ⟨gb740, 1, none⟩ = some (.slice none 0 0) := (blk_cell BK740.out 1).trans rfl; have hcz25_2 : w24.cell? ⟨gb740, 2, none⟩ = some (.slice none 0 0) := (blk_cell BK740.out 2).trans rfl; have hfz25_0 := blk_frozen BK740.out 0; have hfz25_1 := blk_frozen BK740.out 1; have hfz25_2 := blk_frozen BK740.out 2; obtain ⟨Ao26, co26, eo26⟩ := Kd.R_slice HO735.out; subst eo26; obtain ⟨Ao27, co27, eo27⟩ := Kd.R_slice HO738.out; subst eo27) | ((with_reducible refine gate_callee (f := 13) rfl ?_); refine goesL_ (some 64) rfl rfl Tryz.func13 (by kernel_rfl) rfl #[.string a0] rfl (by (try simp only [List.map_toArray, List.map_cons, List.map_nil]); first | done | rfl | (simp only [List.length_drop, List.length_take]; rfl)) ?_; (with_reducible refine (fluxionref04_ParseRat.calls kj5 a0 t741 t742 t745 t748 _ A17.out).mono ?_); rintro e w28 ⟨v743, v746, rfl, ho0, ho1, hb⟩; refine ⟨_, rfl, ?_⟩; have n0_ := Aside0.mk (Kd.R_below (by exact (Kd.R_mono (Kd.R_far (p := ⟨gb740, 2, none⟩) (Kd.R_far (p := ⟨gb740, 1, none⟩) (Kd.R_far (p := ⟨gb740, 0, none⟩) (Kd.R_types HO735.out BK740.out (by decide)) (fun _ hk => hk.2) (.bool t732)) (fun _ hk => hk.2) (.slice Ao26 t733.length co26)) (fun _ hk => hk.2) (.slice Ao27 t736.length co27)) (fun _ h_ => h_.1))) hb); have n1_ := Aside0.mk (Kd.R_below (by exact (Kd.R_mono (Kd.R_far (p := ⟨gb740, 2, none⟩) (Kd.R_far (p := ⟨gb740, 1, none⟩) (Kd.R_far (p := ⟨gb740, 0, none⟩) (Kd.R_types HO738.out BK740.out (by decide)) (fun _ hk => hk.2) (.bool t732)) (fun _ hk => hk.2) (.slice Ao26 t733.length co26)) (fun _ hk => hk.2) (.slice Ao27 t736.length co27)) (fun _ h_ => h_.1))) hb); have n2_ := Aside0.mk (Kd.R_lower ho0 (below_size (by repeat (first | (with_reducible first | exact HB.out | apply below_alloc | apply pw_below_drewN | apply below_drew1 | refine below_set ?_ GE740.out) | exact HB.out)))); have n3_ := Aside0.mk (Kd.R_lower ho1 (below_size (by repeat (first | (with_reducible first | exact HB.out | apply below_alloc | apply pw_below_drewN | apply below_drew1 | refine below_set ?_ GE740.out) | exact HB.out)))); have n4_ := Aside0.mk (blk_below (g := gb740) (o := .cells #[.bool t732, .slice Ao26 t733.length co26, .slice Ao27 t736.length co27] 25 (0, 0)) (by refine blk_put (cs := #[.bool t732, .slice Ao26 t733.length co26, .slice none 0 0]) ?_ 2 _ rfl; refine blk_put (cs := #[.bool t732, .slice none 0 0, .slice none 0 0]) ?_ 1 _ rfl; refine blk_put (cs := #[.bool false, .slice none 0 0, .slice none 0 0]) ?_ 0 _ rfl; exact BK740.out) hb); have n5_ := Aside0.mk (below_step (by repeat (first | (with_reducible first | exact HB.out | apply below_alloc | apply pw_below_drewN | apply below_drew1 | refine below_set ?_ GE740.out) | exact HB.out)) hb); clear HO735; clear HO738; clear BK740; clear HB; have HO735 := n0_; have HO738 := n1_; have HO744 := n2_; have HO747 := n3_; have BK740 := n4_; have HB := n5_; clear n0_ n1_ n2_ n3_ n4_ n5_; (try clear hb); (try clear hb2); (try clear hk); (try clear hi); (try clear ho0); (try clear ho1)) | ((with_reducible refine gate_dst (N := 13) rfl ?_); (try (refine gate_guard (by rfl) ?_; dsimp only)); refine box_event ?hg (N := 13) ?hd (cs := #[.bool false, .slice none 0 0, .slice none 0 0]) (t := 32) ?hr ?_; (case hd => rfl); (case hg => rfl); (case hr => first | (go_simp; done) | (go_simp; rfl)); intro gb749 hg w29 hbox hb; have n0_ := Aside0.mk (Kd.R_below (by exact HO735.out) hb); have n1_ := Aside0.mk (Kd.R_below (by exact HO738.out) hb); have n2_ := Aside0.mk (Kd.R_below (by exact HO744.out) hb); have n3_ := Aside0.mk (Kd.R_below (by exact HO747.out) hb); have n4_ := Aside0.mk (blk_below (g := gb740) (o := .cells #[.bool t732, .slice Ao26 t733.length co26, .slice Ao27 t736.length co27] 25 (0, 0)) (by exact BK740.out) hb); have n5_ := Aside0.mk (below_step (by repeat (first | (with_reducible first | exact HB.out | apply below_alloc | apply pw_below_drewN | apply below_drew1 | refine below_set ?_ GE740.out) | exact HB.out)) hb); have n6_ := Aside0.mk (hbox); have n7_ := Aside0.mk ((by rw [hg]; exact (below_size (by repeat (first | (with_reducible first | exact HB.out | apply below_alloc | apply pw_below_drewN | apply below_drew1 | refine below_set ?_ GE740.out) | exact HB.out))) : w.heap.size ≤ gb749)); have n8_ := Aside0.mk ((by rw [hg]; exact (below_size (by repeat (first | (with_reducible first | exact HB.out | apply below_alloc | apply pw_below_drewN | apply below_drew1 | refine below_set ?_ GE740.out) | exact HB.out))) : w.heap.size ≤ gb749)); have n9_ := Aside0.mk ((by rw [hg]; exact Nat.ne_of_lt (blk_lt (g := gb740) (o := .cells #[.bool t732, .slice Ao26 t733.length co26, .slice Ao27 t736.length co27] 25 (0, 0)) (by exact BK740.out)) : gb740 ≠ gb749)); have n10_ := Aside0.mk ((by rw [hg]; exact Nat.ne_of_gt (blk_lt (g := gb740) (o := .cells #[.bool t732, .slice Ao26 t733.length co26, .slice Ao27 t736.length co27] 25 (0, 0)) (by exact BK740.out)) : gb749 ≠ gb740)); clear HO735; clear HO738; clear HO744; clear HO747; clear BK740; clear HB; have HO735 := n0_; have HO738 := n1_; have HO744 := n2_; have HO747 := n3_; have BK740 := n4_; have HB := n5_; have BK749 := n6_; have GW749 := n7_; have GE749 := n8_; have NB740_749 := n9_; have NB749_740 := n10_; clear n0_ n1_ n2_ n3_ n4_ n5_ n6_ n7_ n8_ n9_ n10_; clear hb hbox hg; have hnb30 := NB749_740.out; have hnc30 := NB740_749.out; have hcz31_0 : w29.cell? ⟨gb749, 0, none⟩ = some (.bool false) := (blk_cell BK749.out 0).trans rfl; have hcz31_1 : w29.cell? ⟨gb749, 1, none⟩ = some (.slice none 0 0) := (blk_cell BK749.out 1).trans rfl; have hcz31_2 : w29.cell? ⟨gb749, 2, none⟩ = some (.slice none 0 0) := (blk_cell BK749.out 2).trans rfl; have hfz31_0 := blk_frozen BK749.out 0; have hfz31_1 := blk_frozen BK749.out 1; have hfz31_2 := blk_frozen BK749.out 2; obtain ⟨Ao32, co32, eo32⟩ := Kd.R_slice HO744.out; subst eo32; obtain ⟨Ao33, co33, eo33⟩ := Kd.R_slice HO747.out; subst eo33; have hcz34_0 : w29.cell? ⟨gb740, 0, none⟩ = some (.bool t732) := (blk_cell BK740.out 0).trans rfl; have hcz34_1 : w29.cell? ⟨gb740, 1, none⟩ = some (.slice Ao26 t733.length co26) := (blk_cell BK740.out 1).trans rfl; have hcz34_2 : w29.cell? ⟨gb740, 2, none⟩ = some (.slice Ao27 t736.length co27) := (blk_cell BK740.out 2).trans rfl; have hfz34_0 := blk_frozen BK740.out 0; have hfz34_1 := blk_frozen BK740.out 1; have hfz34_2 := blk_frozen BK740.out 2) | (go_at_call 15; (with_reducible refine (fluxionref03_Is.calls kj5 t741 _ _ t742 _ _ t745 t732 _ _ t733 _ _ t736 true _ ?side1 ?side2 ?side3 ?side4 ?side5 ?side6 ?side7 ?side8 A20.out).mono ?_); (case side1 => refine (Kd.R_reads' (e := 3) (base := w.heap.size) (ok := fun k_ => some k_ ≠ (.slice Ao33 t745.length co33 : Value).ownBlock) (n := t742.length) (c := co32) ?_).2.2; exact (by exact (Kd.R_mono (Kd.R_far (p := ⟨gb749, 2, none⟩) (Kd.R_far (p := ⟨gb749, 1, none⟩) (Kd.R_far (p := ⟨gb749, 0, none⟩) (Kd.R_types HO744.out BK749.out (by decide)) (fun _ hk => hk.2) (.bool t741)) (fun _ hk => hk.2) (.slice Ao32 t742.length co32)) (fun _ hk => hk.2) (.slice Ao33 t745.length co33)) (fun _ h_ => h_.1)))); (case side2 => exact (Kd.R_reads' HO744.out).2.1); (case side3 => refine (Kd.R_reads' (e := 3) (base := w.heap.size) (ok := fun k_ => some k_ ≠ (.slice Ao32 t742.length co32 : Value).ownBlock) (n := t745.length) (c := co33) ?_).2.2; exact (by exact (Kd.R_mono (Kd.R_far (p := ⟨gb749, 2, none⟩) (Kd.R_far (p := ⟨gb749, 1, none⟩) (Kd.R_far (p := ⟨gb749, 0, none⟩) (Kd.R_types HO747.out BK749.out (by decide)) (fun _ hk => hk.2) (.bool t741)) (fun _ hk => hk.2) (.slice Ao32 t742.length co32)) (fun _ hk => hk.2) (.slice Ao33 t745.length co33)) (fun _ h_ => h_.1)))); (case side4 => exact (Kd.R_reads' HO747.out).2.1); (case side5 => refine (Kd.R_reads' (e := 56) (base := w.heap.size) (ok := fun k_ => some k_ ≠ (.slice Ao27 t736.length co27 : Value).ownBlock) (n := t733.length) (c := co26) ?_).2.2; exact (by exact (Kd.R_mono (Kd.R_far (p := ⟨gb749, 2, none⟩) (Kd.R_far (p := ⟨gb749, 1, none⟩) (Kd.R_far (p := ⟨gb749, 0, none⟩) (Kd.R_types HO735.out BK749.out (by decide)) (fun _ hk => hk.2) (.bool t741)) (fun _ hk => hk.2) (.slice Ao32 t742.length co32)) (fun _ hk => hk.2) (.slice Ao33 t745.length co33)) (fun _ h_ => h_.1)))); (case side6 => exact (Kd.R_reads' HO735.out).2.1); (case side7 => refine (Kd.R_reads' (e := 56) (base := w.heap.size) (ok := fun k_ => some k_ ≠ (.slice Ao26 t733.length co26 : Value).ownBlock) (n := t736.length) (c := co27) ?_).2.2; exact (by exact (Kd.R_mono (Kd.R_far (p := ⟨gb749, 2, none⟩) (Kd.R_far (p := ⟨gb749, 1, none⟩) (Kd.R_far (p := ⟨gb749, 0, none⟩) (Kd.R_types HO738.out BK749.out (by decide)) (fun _ hk => hk.2) (.bool t741)) (fun _ hk => hk.2) (.slice Ao32 t742.length co32)) (fun _ hk => hk.2) (.slice Ao33 t745.length co33)) (fun _ h_ => h_.1)))); (case side8 => exact (Kd.R_reads' HO738.out).2.1); rintro e w35 ⟨rfl, hb⟩; have n0_ := Aside0.mk (Kd.R_below (by exact (Kd.R_mono (Kd.R_far (p := ⟨gb749, 2, none⟩) (Kd.R_far (p := ⟨gb749, 1, none⟩) (Kd.R_far (p := ⟨gb749, 0, none⟩) (Kd.R_types HO735.out BK749.out (by decide)) (fun _ hk => hk.2) (.bool t741)) (fun _ hk => hk.2) (.slice Ao32 t742.length co32)) (fun _ hk => hk.2) (.slice Ao33 t745.length co33)) (fun _ h_ => h_.1))) hb); have n1_ := Aside0.mk (Kd.R_below (by exact (Kd.R_mono (Kd.R_far (p := ⟨gb749, 2, none⟩) (Kd.R_far (p := ⟨gb749, 1, none⟩) (Kd.R_far (p := ⟨gb749, 0, none⟩) (Kd.R_types HO738.out BK749.out (by decide)) (fun _ hk => hk.2) (.bool t741)) (fun _ hk => hk.2) (.slice Ao32 t742.length co32)) (fun _ hk => hk.2) (.slice Ao33 t745.length co33)) (fun _ h_ => h_.1))) hb); have n2_ := Aside0.mk (Kd.R_below (by exact (Kd.R_mono (Kd.R_far (p := ⟨gb749, 2, none⟩) (Kd.R_far (p := ⟨gb749, 1, none⟩) (Kd.R_far (p := ⟨gb749, 0, none⟩) (Kd.R_types HO744.out BK749.out (by decide)) (fun _ hk => hk.2) (.bool t741)) (fun _ hk => hk.2) (.slice Ao32 t742.length co32)) (fun _ hk => hk.2) (.slice Ao33 t745.length co33)) (fun _ h_ => h_.1))) hb); have n3_ := Aside0.mk (Kd.R_below (by exact (Kd.R_mono (Kd.R_far (p := ⟨gb749, 2, none⟩) (Kd.R_far (p := ⟨gb749, 1, none⟩) (Kd.R_far (p := ⟨gb749, 0, none⟩) (Kd.R_types HO747.out BK749.out (by decide)) (fun _ hk => hk.2) (.bool t741)) (fun _ hk => hk.2) (.slice Ao32 t742.length co32)) (fun _ hk => hk.2) (.slice Ao33 t745.length co33)) (fun _ h_ => h_.1))) hb); have n4_ := Aside0.mk (blk_below (g := gb740) (o := .cells #[.bool t732, .slice Ao26 t733.length co26, .slice Ao27 t736.length co27] 25 (0, 0)) (by refine blk_far ?_ NB740_749.out _; refine blk_far ?_ NB740_749.out _; refine blk_far ?_ NB740_749.out _; exact BK740.out) hb); have n5_ := Aside0.mk (blk_below (g := gb749) (o := .cells #[.bool t741, .slice Ao32 t742.length co32, .slice Ao33 t745.length co33] 32 (0, 0)) (by refine blk_put (cs := #[.bool t741, .slice Ao32 t742.length co32, .slice none 0 0]) ?_ 2 _ rfl; refine blk_put (cs := #[.bool t741, .slice none 0 0, .slice none 0 0]) ?_ 1 _ rfl; refine blk_put (cs := #[.bool false, .slice none 0 0, .slice none 0 0]) ?_ 0 _ rfl; exact BK749.out) hb); have n6_ := Aside0.mk (below_step (by repeat (first | (with_reducible first | exact HB.out | apply below_alloc | apply pw_below_drewN | apply below_drew1 | refine below_set ?_ GE740.out | refine below_set ?_ GE749.out) | exact HB.out)) hb); clear HO735; clear HO738; clear HO744; clear HO747; clear BK740; clear BK749; clear HB; have HO735 := n0_; have HO738 := n1_; have HO744 := n2_; have HO747 := n3_; have BK740 := n4_; have BK749 := n5_; have HB := n6_; clear n0_ n1_ n2_ n3_ n4_ n5_ n6_; (try clear hb); (try clear hb2); (try clear hk); (try clear hi)) | (go_at_call 27; (with_reducible refine (fluxionlaw16_known.calls kj5  t751 _ A22.out ?side1).mono ?_); (case side1 => exact LaidT.below hL (by repeat (first | (with_reducible first | exact HB.out | apply below_alloc | apply pw_below_drewN | apply below_drew1 | refine below_set ?_ GE740.out | refine below_set ?_ GE749.out) | exact HB.out))); rintro e w36 ⟨rfl, hb⟩; have n0_ := Aside0.mk (Kd.R_below (by exact HO735.out) hb); have n1_ := Aside0.mk (Kd.R_below (by exact HO738.out) hb); have n2_ := Aside0.mk (Kd.R_below (by exact HO744.out) hb); have n3_ := Aside0.mk (Kd.R_below (by exact HO747.out) hb); have n4_ := Aside0.mk (blk_below (g := gb740) (o := .cells #[.bool t732, .slice Ao26 t733.length co26, .slice Ao27 t736.length co27] 25 (0, 0)) (by exact BK740.out) hb); have n5_ := Aside0.mk (blk_below (g := gb749) (o := .cells #[.bool t741, .slice Ao32 t742.length co32, .slice Ao33 t745.length co33] 32 (0, 0)) (by exact BK749.out) hb); have n6_ := Aside0.mk (below_step (by repeat (first | (with_reducible first | exact HB.out | apply below_alloc | apply pw_below_drewN | apply below_drew1 | refine below_set ?_ GE740.out | refine below_set ?_ GE749.out) | exact HB.out)) hb); clear HO735; clear HO738; clear HO744; clear HO747; clear BK740; clear BK749; clear HB; have HO735 := n0_; have HO738 := n1_; have HO744 := n2_; have HO747 := n3_; have BK740 := n4_; have BK749 := n5_; have HB := n6_; clear n0_ n1_ n2_ n3_ n4_ n5_ n6_; (try clear hb); (try clear hb2); (try clear hk); (try clear hi)))
                go_ret
                exact ⟨by first | rfl | (simp [errW_none, errW_some] <;> rfl) | (simp [*, errW_none, errW_some] <;> rfl), by repeat (first | (with_reducible first | exact HB.out | apply below_alloc | apply pw_below_drewN | apply below_drew1 | refine below_set ?_ GE740.out | refine below_set ?_ GE749.out) | exact HB.out)⟩
              · replace c21 := Bool.eq_false_iff.mpr c21
                subst c21
                have H1 : (some false) = some r := by rw [if_neg (show ¬ (false = true) by decide)] at H; exact H
                clear H
                have H := H1
                clear H1
                obtain rfl := Option.some.inj H
                go_wp2_with (first | ((with_reducible refine gate_callee (f := 28) rfl ?_); refine goesL_ (some 59) rfl rfl Tryz.func28 (by kernel_rfl) rfl #[.string a0] rfl (by (try simp only [List.map_toArray, List.map_cons, List.map_nil]); first | done | rfl | (simp only [List.length_drop, List.length_take]; rfl)) ?_; (with_reducible refine (lex_Rat.calls kj5 a0 t732 t733 t736 t739 _ A16.out ?side1).mono ?_); (case side1 => exact LaidT.below hL (by repeat (first | (with_reducible first | exact HB.out | apply below_alloc | apply pw_below_drewN | apply below_drew1) | exact HB.out))); rintro e w37 ⟨v734, v737, rfl, ho0, ho1, hb⟩; refine ⟨_, rfl, ?_⟩; have n0_ := Aside0.mk (Kd.R_lower ho0 (below_size (by repeat (first | (with_reducible first | exact HB.out | apply below_alloc | apply pw_below_drewN | apply below_drew1) | exact HB.out)))); have n1_ := Aside0.mk (Kd.R_lower ho1 (below_size (by repeat (first | (with_reducible first | exact HB.out | apply below_alloc | apply pw_below_drewN | apply below_drew1) | exact HB.out)))); have n2_ := Aside0.mk (below_step (by repeat (first | (with_reducible first | exact HB.out | apply below_alloc | apply pw_below_drewN | apply below_drew1) | exact HB.out)) hb); clear HB; have HO735 := n0_; have HO738 := n1_; have HB := n2_; clear n0_ n1_ n2_; (try clear hb); (try clear hb2); (try clear hk); (try clear hi); (try clear ho0); (try clear ho1)) | ((with_reducible refine gate_dst (N := 11) rfl ?_); (try (refine gate_guard (by rfl) ?_; dsimp only)); refine box_event ?hg (N := 11) ?hd (cs := #[.bool false, .slice none 0 0, .slice none 0 0]) (t := 25) ?hr ?_; (case hd => rfl); (case hg => rfl); (case hr => first | (go_simp; done) | (go_simp; rfl)); intro gb740 hg w38 hbox hb; have n0_ := Aside0.mk (Kd.R_below (by exact HO735.out) hb); have n1_ := Aside0.mk (Kd.R_below (by exact HO738.out) hb); have n2_ := Aside0.mk (below_step (by repeat (first | (with_reducible first | exact HB.out | apply below_alloc | apply pw_below_drewN | apply below_drew1) | exact HB.out)) hb); have n3_ := Aside0.mk (hbox); have n4_ := Aside0.mk ((by rw [hg]; exact (below_size (by repeat (first | (with_reducible first | exact HB.out | apply below_alloc | apply pw_below_drewN | apply below_drew1) | exact HB.out))) : w.heap.size ≤ gb740)); have n5_ := Aside0.mk ((by rw [hg]; exact (below_size (by repeat (first | (with_reducible first | exact HB.out | apply below_alloc | apply pw_below_drewN | apply below_drew1) | exact HB.out))) : w.heap.size ≤ gb740)); clear HO735; clear HO738; clear HB; have HO735 := n0_; have HO738 := n1_; have HB := n2_; have BK740 := n3_; have GW740 := n4_; have GE740 := n5_; clear n0_ n1_ n2_ n3_ n4_ n5_; clear hb hbox hg; have hcz39_0 : w38.cell? ⟨gb740, 0, none⟩ = some (.bool false) := (blk_cell BK740.out 0).trans rfl; have hcz39_1 : w38.cell? ⟨gb740, 1, none⟩ = some (.slice none 0 0) := (blk_cell BK740.out 1).trans rfl; have hcz39_2 : w38.cell? ⟨gb740, 2, none⟩ = some (.slice none 0 0) := (blk_cell BK740.out 2).trans rfl; have hfz39_0 := blk_frozen BK740.out 0; have hfz39_1 := blk_frozen BK740.out 1; have hfz39_2 := blk_frozen BK740.out 2; obtain ⟨Ao40, co40, eo40⟩ := Kd.R_slice HO735.out; subst eo40; obtain ⟨Ao41, co41, eo41⟩ := Kd.R_slice HO738.out; subst eo41) | ((with_reducible refine gate_callee (f := 13) rfl ?_); refine goesL_ (some 64) rfl rfl Tryz.func13 (by kernel_rfl) rfl #[.string a0] rfl (by (try simp only [List.map_toArray, List.map_cons, List.map_nil]); first | done | rfl | (simp only [List.length_drop, List.length_take]; rfl)) ?_; (with_reducible refine (fluxionref04_ParseRat.calls kj5 a0 t741 t742 t745 t748 _ A17.out).mono ?_); rintro e w42 ⟨v743, v746, rfl, ho0, ho1, hb⟩; refine ⟨_, rfl, ?_⟩; have n0_ := Aside0.mk (Kd.R_below (by exact (Kd.R_mono (Kd.R_far (p := ⟨gb740, 2, none⟩) (Kd.R_far (p := ⟨gb740, 1, none⟩) (Kd.R_far (p := ⟨gb740, 0, none⟩) (Kd.R_types HO735.out BK740.out (by decide)) (fun _ hk => hk.2) (.bool t732)) (fun _ hk => hk.2) (.slice Ao40 t733.length co40)) (fun _ hk => hk.2) (.slice Ao41 t736.length co41)) (fun _ h_ => h_.1))) hb); have n1_ := Aside0.mk (Kd.R_below (by exact (Kd.R_mono (Kd.R_far (p := ⟨gb740, 2, none⟩) (Kd.R_far (p := ⟨gb740, 1, none⟩) (Kd.R_far (p := ⟨gb740, 0, none⟩) (Kd.R_types HO738.out BK740.out (by decide)) (fun _ hk => hk.2) (.bool t732)) (fun _ hk => hk.2) (.slice Ao40 t733.length co40)) (fun _ hk => hk.2) (.slice Ao41 t736.length co41)) (fun _ h_ => h_.1))) hb); have n2_ := Aside0.mk (Kd.R_lower ho0 (below_size (by repeat (first | (with_reducible first | exact HB.out | apply below_alloc | apply pw_below_drewN | apply below_drew1 | refine below_set ?_ GE740.out) | exact HB.out)))); have n3_ := Aside0.mk (Kd.R_lower ho1 (below_size (by repeat (first | (with_reducible first | exact HB.out | apply below_alloc | apply pw_below_drewN | apply below_drew1 | refine below_set ?_ GE740.out) | exact HB.out)))); have n4_ := Aside0.mk (blk_below (g := gb740) (o := .cells #[.bool t732, .slice Ao40 t733.length co40, .slice Ao41 t736.length co41] 25 (0, 0)) (by refine blk_put (cs := #[.bool t732, .slice Ao40 t733.length co40, .slice none 0 0]) ?_ 2 _ rfl; refine blk_put (cs := #[.bool t732, .slice none 0 0, .slice none 0 0]) ?_ 1 _ rfl; refine blk_put (cs := #[.bool false, .slice none 0 0, .slice none 0 0]) ?_ 0 _ rfl; exact BK740.out) hb); have n5_ := Aside0.mk (below_step (by repeat (first | (with_reducible first | exact HB.out | apply below_alloc | apply pw_below_drewN | apply below_drew1 | refine below_set ?_ GE740.out) | exact HB.out)) hb); clear HO735; clear HO738; clear BK740; clear HB; have HO735 := n0_; have HO738 := n1_; have HO744 := n2_; have HO747 := n3_; have BK740 := n4_; have HB := n5_; clear n0_ n1_ n2_ n3_ n4_ n5_; (try clear hb); (try clear hb2); (try clear hk); (try clear hi); (try clear ho0); (try clear ho1)) | ((with_reducible refine gate_dst (N := 13) rfl ?_); (try (refine gate_guard (by rfl) ?_; dsimp only)); refine box_event ?hg (N := 13) ?hd (cs := #[.bool false, .slice none 0 0, .slice none 0 0]) (t := 32) ?hr ?_; (case hd => rfl); (case hg => rfl); (case hr => first | (go_simp; done) | (go_simp; rfl)); intro gb749 hg w43 hbox hb; have n0_ := Aside0.mk (Kd.R_below (by exact HO735.out) hb); have n1_ := Aside0.mk (Kd.R_below (by exact HO738.out) hb); have n2_ := Aside0.mk (Kd.R_below (by exact HO744.out) hb); have n3_ := Aside0.mk (Kd.R_below (by exact HO747.out) hb); have n4_ := Aside0.mk (blk_below (g := gb740) (o := .cells #[.bool t732, .slice Ao40 t733.length co40, .slice Ao41 t736.length co41] 25 (0, 0)) (by exact BK740.out) hb); have n5_ := Aside0.mk (below_step (by repeat (first | (with_reducible first | exact HB.out | apply below_alloc | apply pw_below_drewN | apply below_drew1 | refine below_set ?_ GE740.out) | exact HB.out)) hb); have n6_ := Aside0.mk (hbox); have n7_ := Aside0.mk ((by rw [hg]; exact (below_size (by repeat (first | (with_reducible first | exact HB.out | apply below_alloc | apply pw_below_drewN | apply below_drew1 | refine below_set ?_ GE740.out) | exact HB.out))) : w.heap.size ≤ gb749)); have n8_ := Aside0.mk ((by rw [hg]; exact (below_size (by repeat (first | (with_reducible first | exact HB.out | apply below_alloc | apply pw_below_drewN | apply below_drew1 | refine below_set ?_ GE740.out) | exact HB.out))) : w.heap.size ≤ gb749)); have n9_ := Aside0.mk ((by rw [hg]; exact Nat.ne_of_lt (blk_lt (g := gb740) (o := .cells #[.bool t732, .slice Ao40 t733.length co40, .slice Ao41 t736.length co41] 25 (0, 0)) (by exact BK740.out)) : gb740 ≠ gb749)); have n10_ := Aside0.mk ((by rw [hg]; exact Nat.ne_of_gt (blk_lt (g := gb740) (o := .cells #[.bool t732, .slice Ao40 t733.length co40, .slice Ao41 t736.length co41] 25 (0, 0)) (by exact BK740.out)) : gb749 ≠ gb740)); clear HO735; clear HO738; clear HO744; clear HO747; clear BK740; clear HB; have HO735 := n0_; have HO738 := n1_; have HO744 := n2_; have HO747 := n3_; have BK740 := n4_; have HB := n5_; have BK749 := n6_; have GW749 := n7_; have GE749 := n8_; have NB740_749 := n9_; have NB749_740 := n10_; clear n0_ n1_ n2_ n3_ n4_ n5_ n6_ n7_ n8_ n9_ n10_; clear hb hbox hg; have hnb44 := NB749_740.out; have hnc44 := NB740_749.out; have hcz45_0 : w43.cell? ⟨gb749, 0, none⟩ = some (.bool false) := (blk_cell BK749.out 0).trans rfl; have hcz45_1 : w43.cell? ⟨gb749, 1, none⟩ = some (.slice none 0 0) := (blk_cell BK749.out 1).trans rfl; have hcz45_2 : w43.cell? ⟨gb749, 2, none⟩ = some (.slice none 0 0) := (blk_cell BK749.out 2).trans rfl; have hfz45_0 := blk_frozen BK749.out 0; have hfz45_1 := blk_frozen BK749.out 1; have hfz45_2 := blk_frozen BK749.out 2; obtain ⟨Ao46, co46, eo46⟩ := Kd.R_slice HO744.out; subst eo46; obtain ⟨Ao47, co47, eo47⟩ := Kd.R_slice HO747.out; subst eo47; have hcz48_0 : w43.cell? ⟨gb740, 0, none⟩ = some (.bool t732) := (blk_cell BK740.out 0).trans rfl; have hcz48_1 : w43.cell? ⟨gb740, 1, none⟩ = some (.slice Ao40 t733.length co40) := (blk_cell BK740.out 1).trans rfl; have hcz48_2 : w43.cell? ⟨gb740, 2, none⟩ = some (.slice Ao41 t736.length co41) := (blk_cell BK740.out 2).trans rfl; have hfz48_0 := blk_frozen BK740.out 0; have hfz48_1 := blk_frozen BK740.out 1; have hfz48_2 := blk_frozen BK740.out 2) | (go_at_call 15; (with_reducible refine (fluxionref03_Is.calls kj5 t741 _ _ t742 _ _ t745 t732 _ _ t733 _ _ t736 false _ ?side1 ?side2 ?side3 ?side4 ?side5 ?side6 ?side7 ?side8 A20.out).mono ?_); (case side1 => refine (Kd.R_reads' (e := 3) (base := w.heap.size) (ok := fun k_ => some k_ ≠ (.slice Ao47 t745.length co47 : Value).ownBlock) (n := t742.length) (c := co46) ?_).2.2; exact (by exact (Kd.R_mono (Kd.R_far (p := ⟨gb749, 2, none⟩) (Kd.R_far (p := ⟨gb749, 1, none⟩) (Kd.R_far (p := ⟨gb749, 0, none⟩) (Kd.R_types HO744.out BK749.out (by decide)) (fun _ hk => hk.2) (.bool t741)) (fun _ hk => hk.2) (.slice Ao46 t742.length co46)) (fun _ hk => hk.2) (.slice Ao47 t745.length co47)) (fun _ h_ => h_.1)))); (case side2 => exact (Kd.R_reads' HO744.out).2.1); (case side3 => refine (Kd.R_reads' (e := 3) (base := w.heap.size) (ok := fun k_ => some k_ ≠ (.slice Ao46 t742.length co46 : Value).ownBlock) (n := t745.length) (c := co47) ?_).2.2; exact (by exact (Kd.R_mono (Kd.R_far (p := ⟨gb749, 2, none⟩) (Kd.R_far (p := ⟨gb749, 1, none⟩) (Kd.R_far (p := ⟨gb749, 0, none⟩) (Kd.R_types HO747.out BK749.out (by decide)) (fun _ hk => hk.2) (.bool t741)) (fun _ hk => hk.2) (.slice Ao46 t742.length co46)) (fun _ hk => hk.2) (.slice Ao47 t745.length co47)) (fun _ h_ => h_.1)))); (case side4 => exact (Kd.R_reads' HO747.out).2.1); (case side5 => refine (Kd.R_reads' (e := 56) (base := w.heap.size) (ok := fun k_ => some k_ ≠ (.slice Ao41 t736.length co41 : Value).ownBlock) (n := t733.length) (c := co40) ?_).2.2; exact (by exact (Kd.R_mono (Kd.R_far (p := ⟨gb749, 2, none⟩) (Kd.R_far (p := ⟨gb749, 1, none⟩) (Kd.R_far (p := ⟨gb749, 0, none⟩) (Kd.R_types HO735.out BK749.out (by decide)) (fun _ hk => hk.2) (.bool t741)) (fun _ hk => hk.2) (.slice Ao46 t742.length co46)) (fun _ hk => hk.2) (.slice Ao47 t745.length co47)) (fun _ h_ => h_.1)))); (case side6 => exact (Kd.R_reads' HO735.out).2.1); (case side7 => refine (Kd.R_reads' (e := 56) (base := w.heap.size) (ok := fun k_ => some k_ ≠ (.slice Ao40 t733.length co40 : Value).ownBlock) (n := t736.length) (c := co41) ?_).2.2; exact (by exact (Kd.R_mono (Kd.R_far (p := ⟨gb749, 2, none⟩) (Kd.R_far (p := ⟨gb749, 1, none⟩) (Kd.R_far (p := ⟨gb749, 0, none⟩) (Kd.R_types HO738.out BK749.out (by decide)) (fun _ hk => hk.2) (.bool t741)) (fun _ hk => hk.2) (.slice Ao46 t742.length co46)) (fun _ hk => hk.2) (.slice Ao47 t745.length co47)) (fun _ h_ => h_.1)))); (case side8 => exact (Kd.R_reads' HO738.out).2.1); rintro e w49 ⟨rfl, hb⟩; have n0_ := Aside0.mk (Kd.R_below (by exact (Kd.R_mono (Kd.R_far (p := ⟨gb749, 2, none⟩) (Kd.R_far (p := ⟨gb749, 1, none⟩) (Kd.R_far (p := ⟨gb749, 0, none⟩) (Kd.R_types HO735.out BK749.out (by decide)) (fun _ hk => hk.2) (.bool t741)) (fun _ hk => hk.2) (.slice Ao46 t742.length co46)) (fun _ hk => hk.2) (.slice Ao47 t745.length co47)) (fun _ h_ => h_.1))) hb); have n1_ := Aside0.mk (Kd.R_below (by exact (Kd.R_mono (Kd.R_far (p := ⟨gb749, 2, none⟩) (Kd.R_far (p := ⟨gb749, 1, none⟩) (Kd.R_far (p := ⟨gb749, 0, none⟩) (Kd.R_types HO738.out BK749.out (by decide)) (fun _ hk => hk.2) (.bool t741)) (fun _ hk => hk.2) (.slice Ao46 t742.length co46)) (fun _ hk => hk.2) (.slice Ao47 t745.length co47)) (fun _ h_ => h_.1))) hb); have n2_ := Aside0.mk (Kd.R_below (by exact (Kd.R_mono (Kd.R_far (p := ⟨gb749, 2, none⟩) (Kd.R_far (p := ⟨gb749, 1, none⟩) (Kd.R_far (p := ⟨gb749, 0, none⟩) (Kd.R_types HO744.out BK749.out (by decide)) (fun _ hk => hk.2) (.bool t741)) (fun _ hk => hk.2) (.slice Ao46 t742.length co46)) (fun _ hk => hk.2) (.slice Ao47 t745.length co47)) (fun _ h_ => h_.1))) hb); have n3_ := Aside0.mk (Kd.R_below (by exact (Kd.R_mono (Kd.R_far (p := ⟨gb749, 2, none⟩) (Kd.R_far (p := ⟨gb749, 1, none⟩) (Kd.R_far (p := ⟨gb749, 0, none⟩) (Kd.R_types HO747.out BK749.out (by decide)) (fun _ hk => hk.2) (.bool t741)) (fun _ hk => hk.2) (.slice Ao46 t742.length co46)) (fun _ hk => hk.2) (.slice Ao47 t745.length co47)) (fun _ h_ => h_.1))) hb); have n4_ := Aside0.mk (blk_below (g := gb740) (o := .cells #[.bool t732, .slice Ao40 t733.length co40, .slice Ao41 t736.length co41] 25 (0, 0)) (by refine blk_far ?_ NB740_749.out _; refine blk_far ?_ NB740_749.out _; refine blk_far ?_ NB740_749.out _; exact BK740.out) hb); have n5_ := Aside0.mk (blk_below (g := gb749) (o := .cells #[.bool t741, .slice Ao46 t742.length co46, .slice Ao47 t745.length co47] 32 (0, 0)) (by refine blk_put (cs := #[.bool t741, .slice Ao46 t742.length co46, .slice none 0 0]) ?_ 2 _ rfl; refine blk_put (cs := #[.bool t741, .slice none 0 0, .slice none 0 0]) ?_ 1 _ rfl; refine blk_put (cs := #[.bool false, .slice none 0 0, .slice none 0 0]) ?_ 0 _ rfl; exact BK749.out) hb); have n6_ := Aside0.mk (below_step (by repeat (first | (with_reducible first | exact HB.out | apply below_alloc | apply pw_below_drewN | apply below_drew1 | refine below_set ?_ GE740.out | refine below_set ?_ GE749.out) | exact HB.out)) hb); clear HO735; clear HO738; clear HO744; clear HO747; clear BK740; clear BK749; clear HB; have HO735 := n0_; have HO738 := n1_; have HO744 := n2_; have HO747 := n3_; have BK740 := n4_; have BK749 := n5_; have HB := n6_; clear n0_ n1_ n2_ n3_ n4_ n5_ n6_; (try clear hb); (try clear hb2); (try clear hk); (try clear hi)))
                go_ret
                exact ⟨by first | rfl | (simp [errW_none, errW_some] <;> rfl) | (simp [*, errW_none, errW_some] <;> rfl), by repeat (first | (with_reducible first | exact HB.out | apply below_alloc | apply pw_below_drewN | apply below_drew1 | refine below_set ?_ GE740.out | refine below_set ?_ GE749.out) | exact HB.out)⟩
            · rw [if_neg c19] at H
              have c19b0 : (t739 == 0) = false := beq_eq_false_iff_ne.mpr c19
              have c19b1 : (t739 != 0) = true := bne_iff_ne.mpr c19
              obtain rfl := Option.some.inj H
              go_wp2_with (first | ((with_reducible refine gate_callee (f := 28) rfl ?_); refine goesL_ (some 59) rfl rfl Tryz.func28 (by kernel_rfl) rfl #[.string a0] rfl (by (try simp only [List.map_toArray, List.map_cons, List.map_nil]); first | done | rfl | (simp only [List.length_drop, List.length_take]; rfl)) ?_; (with_reducible refine (lex_Rat.calls kj5 a0 t732 t733 t736 t739 _ A16.out ?side1).mono ?_); (case side1 => exact LaidT.below hL (by repeat (first | (with_reducible first | exact HB.out | apply below_alloc | apply pw_below_drewN | apply below_drew1) | exact HB.out))); rintro e w50 ⟨v734, v737, rfl, ho0, ho1, hb⟩; refine ⟨_, rfl, ?_⟩; have n0_ := Aside0.mk (Kd.R_lower ho0 (below_size (by repeat (first | (with_reducible first | exact HB.out | apply below_alloc | apply pw_below_drewN | apply below_drew1) | exact HB.out)))); have n1_ := Aside0.mk (Kd.R_lower ho1 (below_size (by repeat (first | (with_reducible first | exact HB.out | apply below_alloc | apply pw_below_drewN | apply below_drew1) | exact HB.out)))); have n2_ := Aside0.mk (below_step (by repeat (first | (with_reducible first | exact HB.out | apply below_alloc | apply pw_below_drewN | apply below_drew1) | exact HB.out)) hb); clear HB; have HO735 := n0_; have HO738 := n1_; have HB := n2_; clear n0_ n1_ n2_; (try clear hb); (try clear hb2); (try clear hk); (try clear hi); (try clear ho0); (try clear ho1)) | ((with_reducible refine gate_dst (N := 11) rfl ?_); (try (refine gate_guard (by rfl) ?_; dsimp only)); refine box_event ?hg (N := 11) ?hd (cs := #[.bool false, .slice none 0 0, .slice none 0 0]) (t := 25) ?hr ?_; (case hd => rfl); (case hg => rfl); (case hr => first | (go_simp; done) | (go_simp; rfl)); intro gb740 hg w51 hbox hb; have n0_ := Aside0.mk (Kd.R_below (by exact HO735.out) hb); have n1_ := Aside0.mk (Kd.R_below (by exact HO738.out) hb); have n2_ := Aside0.mk (below_step (by repeat (first | (with_reducible first | exact HB.out | apply below_alloc | apply pw_below_drewN | apply below_drew1) | exact HB.out)) hb); have n3_ := Aside0.mk (hbox); have n4_ := Aside0.mk ((by rw [hg]; exact (below_size (by repeat (first | (with_reducible first | exact HB.out | apply below_alloc | apply pw_below_drewN | apply below_drew1) | exact HB.out))) : w.heap.size ≤ gb740)); have n5_ := Aside0.mk ((by rw [hg]; exact (below_size (by repeat (first | (with_reducible first | exact HB.out | apply below_alloc | apply pw_below_drewN | apply below_drew1) | exact HB.out))) : w.heap.size ≤ gb740)); clear HO735; clear HO738; clear HB; have HO735 := n0_; have HO738 := n1_; have HB := n2_; have BK740 := n3_; have GW740 := n4_; have GE740 := n5_; clear n0_ n1_ n2_ n3_ n4_ n5_; clear hb hbox hg; have hcz52_0 : w51.cell? ⟨gb740, 0, none⟩ = some (.bool false) := (blk_cell BK740.out 0).trans rfl; have hcz52_1 : w51.cell? ⟨gb740, 1, none⟩ = some (.slice none 0 0) := (blk_cell BK740.out 1).trans rfl; have hcz52_2 : w51.cell? ⟨gb740, 2, none⟩ = some (.slice none 0 0) := (blk_cell BK740.out 2).trans rfl; have hfz52_0 := blk_frozen BK740.out 0; have hfz52_1 := blk_frozen BK740.out 1; have hfz52_2 := blk_frozen BK740.out 2; obtain ⟨Ao53, co53, eo53⟩ := Kd.R_slice HO735.out; subst eo53; obtain ⟨Ao54, co54, eo54⟩ := Kd.R_slice HO738.out; subst eo54) | ((with_reducible refine gate_callee (f := 13) rfl ?_); refine goesL_ (some 64) rfl rfl Tryz.func13 (by kernel_rfl) rfl #[.string a0] rfl (by (try simp only [List.map_toArray, List.map_cons, List.map_nil]); first | done | rfl | (simp only [List.length_drop, List.length_take]; rfl)) ?_; (with_reducible refine (fluxionref04_ParseRat.calls kj5 a0 t741 t742 t745 t748 _ A17.out).mono ?_); rintro e w55 ⟨v743, v746, rfl, ho0, ho1, hb⟩; refine ⟨_, rfl, ?_⟩; have n0_ := Aside0.mk (Kd.R_below (by exact (Kd.R_mono (Kd.R_far (p := ⟨gb740, 2, none⟩) (Kd.R_far (p := ⟨gb740, 1, none⟩) (Kd.R_far (p := ⟨gb740, 0, none⟩) (Kd.R_types HO735.out BK740.out (by decide)) (fun _ hk => hk.2) (.bool t732)) (fun _ hk => hk.2) (.slice Ao53 t733.length co53)) (fun _ hk => hk.2) (.slice Ao54 t736.length co54)) (fun _ h_ => h_.1))) hb); have n1_ := Aside0.mk (Kd.R_below (by exact (Kd.R_mono (Kd.R_far (p := ⟨gb740, 2, none⟩) (Kd.R_far (p := ⟨gb740, 1, none⟩) (Kd.R_far (p := ⟨gb740, 0, none⟩) (Kd.R_types HO738.out BK740.out (by decide)) (fun _ hk => hk.2) (.bool t732)) (fun _ hk => hk.2) (.slice Ao53 t733.length co53)) (fun _ hk => hk.2) (.slice Ao54 t736.length co54)) (fun _ h_ => h_.1))) hb); have n2_ := Aside0.mk (Kd.R_lower ho0 (below_size (by repeat (first | (with_reducible first | exact HB.out | apply below_alloc | apply pw_below_drewN | apply below_drew1 | refine below_set ?_ GE740.out) | exact HB.out)))); have n3_ := Aside0.mk (Kd.R_lower ho1 (below_size (by repeat (first | (with_reducible first | exact HB.out | apply below_alloc | apply pw_below_drewN | apply below_drew1 | refine below_set ?_ GE740.out) | exact HB.out)))); have n4_ := Aside0.mk (blk_below (g := gb740) (o := .cells #[.bool t732, .slice Ao53 t733.length co53, .slice Ao54 t736.length co54] 25 (0, 0)) (by refine blk_put (cs := #[.bool t732, .slice Ao53 t733.length co53, .slice none 0 0]) ?_ 2 _ rfl; refine blk_put (cs := #[.bool t732, .slice none 0 0, .slice none 0 0]) ?_ 1 _ rfl; refine blk_put (cs := #[.bool false, .slice none 0 0, .slice none 0 0]) ?_ 0 _ rfl; exact BK740.out) hb); have n5_ := Aside0.mk (below_step (by repeat (first | (with_reducible first | exact HB.out | apply below_alloc | apply pw_below_drewN | apply below_drew1 | refine below_set ?_ GE740.out) | exact HB.out)) hb); clear HO735; clear HO738; clear BK740; clear HB; have HO735 := n0_; have HO738 := n1_; have HO744 := n2_; have HO747 := n3_; have BK740 := n4_; have HB := n5_; clear n0_ n1_ n2_ n3_ n4_ n5_; (try clear hb); (try clear hb2); (try clear hk); (try clear hi); (try clear ho0); (try clear ho1)) | ((with_reducible refine gate_dst (N := 13) rfl ?_); (try (refine gate_guard (by rfl) ?_; dsimp only)); refine box_event ?hg (N := 13) ?hd (cs := #[.bool false, .slice none 0 0, .slice none 0 0]) (t := 32) ?hr ?_; (case hd => rfl); (case hg => rfl); (case hr => first | (go_simp; done) | (go_simp; rfl)); intro gb749 hg w56 hbox hb; have n0_ := Aside0.mk (Kd.R_below (by exact HO735.out) hb); have n1_ := Aside0.mk (Kd.R_below (by exact HO738.out) hb); have n2_ := Aside0.mk (Kd.R_below (by exact HO744.out) hb); have n3_ := Aside0.mk (Kd.R_below (by exact HO747.out) hb); have n4_ := Aside0.mk (blk_below (g := gb740) (o := .cells #[.bool t732, .slice Ao53 t733.length co53, .slice Ao54 t736.length co54] 25 (0, 0)) (by exact BK740.out) hb); have n5_ := Aside0.mk (below_step (by repeat (first | (with_reducible first | exact HB.out | apply below_alloc | apply pw_below_drewN | apply below_drew1 | refine below_set ?_ GE740.out) | exact HB.out)) hb); have n6_ := Aside0.mk (hbox); have n7_ := Aside0.mk ((by rw [hg]; exact (below_size (by repeat (first | (with_reducible first | exact HB.out | apply below_alloc | apply pw_below_drewN | apply below_drew1 | refine below_set ?_ GE740.out) | exact HB.out))) : w.heap.size ≤ gb749)); have n8_ := Aside0.mk ((by rw [hg]; exact (below_size (by repeat (first | (with_reducible first | exact HB.out | apply below_alloc | apply pw_below_drewN | apply below_drew1 | refine below_set ?_ GE740.out) | exact HB.out))) : w.heap.size ≤ gb749)); have n9_ := Aside0.mk ((by rw [hg]; exact Nat.ne_of_lt (blk_lt (g := gb740) (o := .cells #[.bool t732, .slice Ao53 t733.length co53, .slice Ao54 t736.length co54] 25 (0, 0)) (by exact BK740.out)) : gb740 ≠ gb749)); have n10_ := Aside0.mk ((by rw [hg]; exact Nat.ne_of_gt (blk_lt (g := gb740) (o := .cells #[.bool t732, .slice Ao53 t733.length co53, .slice Ao54 t736.length co54] 25 (0, 0)) (by exact BK740.out)) : gb749 ≠ gb740)); clear HO735; clear HO738; clear HO744; clear HO747; clear BK740; clear HB; have HO735 := n0_; have HO738 := n1_; have HO744 := n2_; have HO747 := n3_; have BK740 := n4_; have HB := n5_; have BK749 := n6_; have GW749 := n7_; have GE749 := n8_; have NB740_749 := n9_; have NB749_740 := n10_; clear n0_ n1_ n2_ n3_ n4_ n5_ n6_ n7_ n8_ n9_ n10_; clear hb hbox hg; have hnb57 := NB749_740.out; have hnc57 := NB740_749.out; have hcz58_0 : w56.cell? ⟨gb749, 0, none⟩ = some (.bool false) := (blk_cell BK749.out 0).trans rfl; have hcz58_1 : w56.cell? ⟨gb749, 1, none⟩ = some (.slice none 0 0) := (blk_cell BK749.out 1).trans rfl; have hcz58_2 : w56.cell? ⟨gb749, 2, none⟩ = some (.slice none 0 0) := (blk_cell BK749.out 2).trans rfl; have hfz58_0 := blk_frozen BK749.out 0; have hfz58_1 := blk_frozen BK749.out 1; have hfz58_2 := blk_frozen BK749.out 2; obtain ⟨Ao59, co59, eo59⟩ := Kd.R_slice HO744.out; subst eo59; obtain ⟨Ao60, co60, eo60⟩ := Kd.R_slice HO747.out; subst eo60))
              go_ret
              exact ⟨by first | rfl | (simp [errW_none, errW_some] <;> rfl) | (simp [*, errW_none, errW_some] <;> rfl), by repeat (first | (with_reducible first | exact HB.out | apply below_alloc | apply pw_below_drewN | apply below_drew1 | refine below_set ?_ GE740.out | refine below_set ?_ GE749.out) | exact HB.out)⟩
          · rw [if_neg c18] at H
            have c18b0 : (t748 == 0) = false := beq_eq_false_iff_ne.mpr c18
            have c18b1 : (t748 != 0) = true := bne_iff_ne.mpr c18
            by_cases c61 : t739 = t748
            · rw [if_pos c61] at H
              have c61b0 : (t739 == t748) = true := beq_iff_eq.mpr c61
              have c61b1 : (t739 != t748) = false := bne_eq_false_iff_eq.mpr c61
              clear c61
              by_cases c62 : t732 = true
              · subst c62
                have H1 : (some false) = some r := by rw [if_pos rfl] at H; exact H
                clear H
                have H := H1
                clear H1
                obtain rfl := Option.some.inj H
                go_wp2_with (first | ((with_reducible refine gate_callee (f := 28) rfl ?_); refine goesL_ (some 59) rfl rfl Tryz.func28 (by kernel_rfl) rfl #[.string a0] rfl (by (try simp only [List.map_toArray, List.map_cons, List.map_nil]); first | done | rfl | (simp only [List.length_drop, List.length_take]; rfl)) ?_; (with_reducible refine (lex_Rat.calls kj5 a0 true t733 t736 t739 _ A16.out ?side1).mono ?_); (case side1 => exact LaidT.below hL (by repeat (first | (with_reducible first | exact HB.out | apply below_alloc | apply pw_below_drewN | apply below_drew1) | exact HB.out))); rintro e w63 ⟨v734, v737, rfl, ho0, ho1, hb⟩; refine ⟨_, rfl, ?_⟩; have n0_ := Aside0.mk (Kd.R_lower ho0 (below_size (by repeat (first | (with_reducible first | exact HB.out | apply below_alloc | apply pw_below_drewN | apply below_drew1) | exact HB.out)))); have n1_ := Aside0.mk (Kd.R_lower ho1 (below_size (by repeat (first | (with_reducible first | exact HB.out | apply below_alloc | apply pw_below_drewN | apply below_drew1) | exact HB.out)))); have n2_ := Aside0.mk (below_step (by repeat (first | (with_reducible first | exact HB.out | apply below_alloc | apply pw_below_drewN | apply below_drew1) | exact HB.out)) hb); clear HB; have HO735 := n0_; have HO738 := n1_; have HB := n2_; clear n0_ n1_ n2_; (try clear hb); (try clear hb2); (try clear hk); (try clear hi); (try clear ho0); (try clear ho1)) | ((with_reducible refine gate_dst (N := 11) rfl ?_); (try (refine gate_guard (by rfl) ?_; dsimp only)); refine box_event ?hg (N := 11) ?hd (cs := #[.bool false, .slice none 0 0, .slice none 0 0]) (t := 25) ?hr ?_; (case hd => rfl); (case hg => rfl); (case hr => first | (go_simp; done) | (go_simp; rfl)); intro gb740 hg w64 hbox hb; have n0_ := Aside0.mk (Kd.R_below (by exact HO735.out) hb); have n1_ := Aside0.mk (Kd.R_below (by exact HO738.out) hb); have n2_ := Aside0.mk (below_step (by repeat (first | (with_reducible first | exact HB.out | apply below_alloc | apply pw_below_drewN | apply below_drew1) | exact HB.out)) hb); have n3_ := Aside0.mk (hbox); have n4_ := Aside0.mk ((by rw [hg]; exact (below_size (by repeat (first | (with_reducible first | exact HB.out | apply below_alloc | apply pw_below_drewN | apply below_drew1) | exact HB.out))) : w.heap.size ≤ gb740)); have n5_ := Aside0.mk ((by rw [hg]; exact (below_size (by repeat (first | (with_reducible first | exact HB.out | apply below_alloc | apply pw_below_drewN | apply below_drew1) | exact HB.out))) : w.heap.size ≤ gb740)); clear HO735; clear HO738; clear HB; have HO735 := n0_; have HO738 := n1_; have HB := n2_; have BK740 := n3_; have GW740 := n4_; have GE740 := n5_; clear n0_ n1_ n2_ n3_ n4_ n5_; clear hb hbox hg; have hcz65_0 : w64.cell? ⟨gb740, 0, none⟩ = some (.bool false) := (blk_cell BK740.out 0).trans rfl; have hcz65_1 : w64.cell? ⟨gb740, 1, none⟩ = some (.slice none 0 0) := (blk_cell BK740.out 1).trans rfl; have hcz65_2 : w64.cell? ⟨gb740, 2, none⟩ = some (.slice none 0 0) := (blk_cell BK740.out 2).trans rfl; have hfz65_0 := blk_frozen BK740.out 0; have hfz65_1 := blk_frozen BK740.out 1; have hfz65_2 := blk_frozen BK740.out 2; obtain ⟨Ao66, co66, eo66⟩ := Kd.R_slice HO735.out; subst eo66; obtain ⟨Ao67, co67, eo67⟩ := Kd.R_slice HO738.out; subst eo67) | ((with_reducible refine gate_callee (f := 13) rfl ?_); refine goesL_ (some 64) rfl rfl Tryz.func13 (by kernel_rfl) rfl #[.string a0] rfl (by (try simp only [List.map_toArray, List.map_cons, List.map_nil]); first | done | rfl | (simp only [List.length_drop, List.length_take]; rfl)) ?_; (with_reducible refine (fluxionref04_ParseRat.calls kj5 a0 t741 t742 t745 t748 _ A17.out).mono ?_); rintro e w68 ⟨v743, v746, rfl, ho0, ho1, hb⟩; refine ⟨_, rfl, ?_⟩; have n0_ := Aside0.mk (Kd.R_below (by exact (Kd.R_mono (Kd.R_far (p := ⟨gb740, 2, none⟩) (Kd.R_far (p := ⟨gb740, 1, none⟩) (Kd.R_far (p := ⟨gb740, 0, none⟩) (Kd.R_types HO735.out BK740.out (by decide)) (fun _ hk => hk.2) (.bool true)) (fun _ hk => hk.2) (.slice Ao66 t733.length co66)) (fun _ hk => hk.2) (.slice Ao67 t736.length co67)) (fun _ h_ => h_.1))) hb); have n1_ := Aside0.mk (Kd.R_below (by exact (Kd.R_mono (Kd.R_far (p := ⟨gb740, 2, none⟩) (Kd.R_far (p := ⟨gb740, 1, none⟩) (Kd.R_far (p := ⟨gb740, 0, none⟩) (Kd.R_types HO738.out BK740.out (by decide)) (fun _ hk => hk.2) (.bool true)) (fun _ hk => hk.2) (.slice Ao66 t733.length co66)) (fun _ hk => hk.2) (.slice Ao67 t736.length co67)) (fun _ h_ => h_.1))) hb); have n2_ := Aside0.mk (Kd.R_lower ho0 (below_size (by repeat (first | (with_reducible first | exact HB.out | apply below_alloc | apply pw_below_drewN | apply below_drew1 | refine below_set ?_ GE740.out) | exact HB.out)))); have n3_ := Aside0.mk (Kd.R_lower ho1 (below_size (by repeat (first | (with_reducible first | exact HB.out | apply below_alloc | apply pw_below_drewN | apply below_drew1 | refine below_set ?_ GE740.out) | exact HB.out)))); have n4_ := Aside0.mk (blk_below (g := gb740) (o := .cells #[.bool true, .slice Ao66 t733.length co66, .slice Ao67 t736.length co67] 25 (0, 0)) (by refine blk_put (cs := #[.bool true, .slice Ao66 t733.length co66, .slice none 0 0]) ?_ 2 _ rfl; refine blk_put (cs := #[.bool true, .slice none 0 0, .slice none 0 0]) ?_ 1 _ rfl; refine blk_put (cs := #[.bool false, .slice none 0 0, .slice none 0 0]) ?_ 0 _ rfl; exact BK740.out) hb); have n5_ := Aside0.mk (below_step (by repeat (first | (with_reducible first | exact HB.out | apply below_alloc | apply pw_below_drewN | apply below_drew1 | refine below_set ?_ GE740.out) | exact HB.out)) hb); clear HO735; clear HO738; clear BK740; clear HB; have HO735 := n0_; have HO738 := n1_; have HO744 := n2_; have HO747 := n3_; have BK740 := n4_; have HB := n5_; clear n0_ n1_ n2_ n3_ n4_ n5_; (try clear hb); (try clear hb2); (try clear hk); (try clear hi); (try clear ho0); (try clear ho1)) | ((with_reducible refine gate_dst (N := 13) rfl ?_); (try (refine gate_guard (by rfl) ?_; dsimp only)); refine box_event ?hg (N := 13) ?hd (cs := #[.bool false, .slice none 0 0, .slice none 0 0]) (t := 32) ?hr ?_; (case hd => rfl); (case hg => rfl); (case hr => first | (go_simp; done) | (go_simp; rfl)); intro gb749 hg w69 hbox hb; have n0_ := Aside0.mk (Kd.R_below (by exact HO735.out) hb); have n1_ := Aside0.mk (Kd.R_below (by exact HO738.out) hb); have n2_ := Aside0.mk (Kd.R_below (by exact HO744.out) hb); have n3_ := Aside0.mk (Kd.R_below (by exact HO747.out) hb); have n4_ := Aside0.mk (blk_below (g := gb740) (o := .cells #[.bool true, .slice Ao66 t733.length co66, .slice Ao67 t736.length co67] 25 (0, 0)) (by exact BK740.out) hb); have n5_ := Aside0.mk (below_step (by repeat (first | (with_reducible first | exact HB.out | apply below_alloc | apply pw_below_drewN | apply below_drew1 | refine below_set ?_ GE740.out) | exact HB.out)) hb); have n6_ := Aside0.mk (hbox); have n7_ := Aside0.mk ((by rw [hg]; exact (below_size (by repeat (first | (with_reducible first | exact HB.out | apply below_alloc | apply pw_below_drewN | apply below_drew1 | refine below_set ?_ GE740.out) | exact HB.out))) : w.heap.size ≤ gb749)); have n8_ := Aside0.mk ((by rw [hg]; exact (below_size (by repeat (first | (with_reducible first | exact HB.out | apply below_alloc | apply pw_below_drewN | apply below_drew1 | refine below_set ?_ GE740.out) | exact HB.out))) : w.heap.size ≤ gb749)); have n9_ := Aside0.mk ((by rw [hg]; exact Nat.ne_of_lt (blk_lt (g := gb740) (o := .cells #[.bool true, .slice Ao66 t733.length co66, .slice Ao67 t736.length co67] 25 (0, 0)) (by exact BK740.out)) : gb740 ≠ gb749)); have n10_ := Aside0.mk ((by rw [hg]; exact Nat.ne_of_gt (blk_lt (g := gb740) (o := .cells #[.bool true, .slice Ao66 t733.length co66, .slice Ao67 t736.length co67] 25 (0, 0)) (by exact BK740.out)) : gb749 ≠ gb740)); clear HO735; clear HO738; clear HO744; clear HO747; clear BK740; clear HB; have HO735 := n0_; have HO738 := n1_; have HO744 := n2_; have HO747 := n3_; have BK740 := n4_; have HB := n5_; have BK749 := n6_; have GW749 := n7_; have GE749 := n8_; have NB740_749 := n9_; have NB749_740 := n10_; clear n0_ n1_ n2_ n3_ n4_ n5_ n6_ n7_ n8_ n9_ n10_; clear hb hbox hg; have hnb70 := NB749_740.out; have hnc70 := NB740_749.out; have hcz71_0 : w69.cell? ⟨gb749, 0, none⟩ = some (.bool false) := (blk_cell BK749.out 0).trans rfl; have hcz71_1 : w69.cell? ⟨gb749, 1, none⟩ = some (.slice none 0 0) := (blk_cell BK749.out 1).trans rfl; have hcz71_2 : w69.cell? ⟨gb749, 2, none⟩ = some (.slice none 0 0) := (blk_cell BK749.out 2).trans rfl; have hfz71_0 := blk_frozen BK749.out 0; have hfz71_1 := blk_frozen BK749.out 1; have hfz71_2 := blk_frozen BK749.out 2; obtain ⟨Ao72, co72, eo72⟩ := Kd.R_slice HO744.out; subst eo72; obtain ⟨Ao73, co73, eo73⟩ := Kd.R_slice HO747.out; subst eo73; have hcz74_0 : w69.cell? ⟨gb740, 0, none⟩ = some (.bool true) := (blk_cell BK740.out 0).trans rfl; have hcz74_1 : w69.cell? ⟨gb740, 1, none⟩ = some (.slice Ao66 t733.length co66) := (blk_cell BK740.out 1).trans rfl; have hcz74_2 : w69.cell? ⟨gb740, 2, none⟩ = some (.slice Ao67 t736.length co67) := (blk_cell BK740.out 2).trans rfl; have hfz74_0 := blk_frozen BK740.out 0; have hfz74_1 := blk_frozen BK740.out 1; have hfz74_2 := blk_frozen BK740.out 2))
                go_ret
                exact ⟨by first | rfl | (simp [errW_none, errW_some] <;> rfl) | (simp [*, errW_none, errW_some] <;> rfl), by repeat (first | (with_reducible first | exact HB.out | apply below_alloc | apply pw_below_drewN | apply below_drew1 | refine below_set ?_ GE740.out | refine below_set ?_ GE749.out) | exact HB.out)⟩
              · replace c62 := Bool.eq_false_iff.mpr c62
                subst c62
                have H1 : (if (t733.length : Int) = 0 then (if (t736.length : Int) = 0 then ((fluxionlaw16_known.f kj5).bind fun t752 => (some t752)) else (some false)) else (some false)) = some r := by rw [if_neg (show ¬ (false = true) by decide)] at H; exact H
                clear H
                have H := H1
                clear H1
                by_cases c75 : (t733.length : Int) = 0
                · rw [if_pos c75] at H
                  have c75b0 : ((t733.length : Int) == 0) = true := beq_iff_eq.mpr c75
                  have c75b1 : ((t733.length : Int) != 0) = false := bne_eq_false_iff_eq.mpr c75
                  clear c75
                  by_cases c76 : (t736.length : Int) = 0
                  · rw [if_pos c76] at H
                    have c76b0 : ((t736.length : Int) == 0) = true := beq_iff_eq.mpr c76
                    have c76b1 : ((t736.length : Int) != 0) = false := bne_eq_false_iff_eq.mpr c76
                    clear c76
                    replace H := Option.bind_eq_some_iff.mp H
                    obtain ⟨t752, A770, H⟩ := H
                    try dsimp only at H
                    have A77 := Aside0.mk A770
                    clear A770
                    obtain rfl := Option.some.inj H
                    go_wp2_with (first | ((with_reducible refine gate_callee (f := 28) rfl ?_); refine goesL_ (some 59) rfl rfl Tryz.func28 (by kernel_rfl) rfl #[.string a0] rfl (by (try simp only [List.map_toArray, List.map_cons, List.map_nil]); first | done | rfl | (simp only [List.length_drop, List.length_take]; rfl)) ?_; (with_reducible refine (lex_Rat.calls kj5 a0 false t733 t736 t739 _ A16.out ?side1).mono ?_); (case side1 => exact LaidT.below hL (by repeat (first | (with_reducible first | exact HB.out | apply below_alloc | apply pw_below_drewN | apply below_drew1) | exact HB.out))); rintro e w78 ⟨v734, v737, rfl, ho0, ho1, hb⟩; refine ⟨_, rfl, ?_⟩; have n0_ := Aside0.mk (Kd.R_lower ho0 (below_size (by repeat (first | (with_reducible first | exact HB.out | apply below_alloc | apply pw_below_drewN | apply below_drew1) | exact HB.out)))); have n1_ := Aside0.mk (Kd.R_lower ho1 (below_size (by repeat (first | (with_reducible first | exact HB.out | apply below_alloc | apply pw_below_drewN | apply below_drew1) | exact HB.out)))); have n2_ := Aside0.mk (below_step (by repeat (first | (with_reducible first | exact HB.out | apply below_alloc | apply pw_below_drewN | apply below_drew1) | exact HB.out)) hb); clear HB; have HO735 := n0_; have HO738 := n1_; have HB := n2_; clear n0_ n1_ n2_; (try clear hb); (try clear hb2); (try clear hk); (try clear hi); (try clear ho0); (try clear ho1)) | ((with_reducible refine gate_dst (N := 11) rfl ?_); (try (refine gate_guard (by rfl) ?_; dsimp only)); refine box_event ?hg (N := 11) ?hd (cs := #[.bool false, .slice none 0 0, .slice none 0 0]) (t := 25) ?hr ?_; (case hd => rfl); (case hg => rfl); (case hr => first | (go_simp; done) | (go_simp; rfl)); intro gb740 hg w79 hbox hb; have n0_ := Aside0.mk (Kd.R_below (by exact HO735.out) hb); have n1_ := Aside0.mk (Kd.R_below (by exact HO738.out) hb); have n2_ := Aside0.mk (below_step (by repeat (first | (with_reducible first | exact HB.out | apply below_alloc | apply pw_below_drewN | apply below_drew1) | exact HB.out)) hb); have n3_ := Aside0.mk (hbox); have n4_ := Aside0.mk ((by rw [hg]; exact (below_size (by repeat (first | (with_reducible first | exact HB.out | apply below_alloc | apply pw_below_drewN | apply below_drew1) | exact HB.out))) : w.heap.size ≤ gb740)); have n5_ := Aside0.mk ((by rw [hg]; exact (below_size (by repeat (first | (with_reducible first | exact HB.out | apply below_alloc | apply pw_below_drewN | apply below_drew1) | exact HB.out))) : w.heap.size ≤ gb740)); clear HO735; clear HO738; clear HB; have HO735 := n0_; have HO738 := n1_; have HB := n2_; have BK740 := n3_; have GW740 := n4_; have GE740 := n5_; clear n0_ n1_ n2_ n3_ n4_ n5_; clear hb hbox hg; have hcz80_0 : w79.cell? ⟨gb740, 0, none⟩ = some (.bool false) := (blk_cell BK740.out 0).trans rfl; have hcz80_1 : w79.cell? ⟨gb740, 1, none⟩ = some (.slice none 0 0) := (blk_cell BK740.out 1).trans rfl; have hcz80_2 : w79.cell? ⟨gb740, 2, none⟩ = some (.slice none 0 0) := (blk_cell BK740.out 2).trans rfl; have hfz80_0 := blk_frozen BK740.out 0; have hfz80_1 := blk_frozen BK740.out 1; have hfz80_2 := blk_frozen BK740.out 2; obtain ⟨Ao81, co81, eo81⟩ := Kd.R_slice HO735.out; subst eo81; obtain ⟨Ao82, co82, eo82⟩ := Kd.R_slice HO738.out; subst eo82) | ((with_reducible refine gate_callee (f := 13) rfl ?_); refine goesL_ (some 64) rfl rfl Tryz.func13 (by kernel_rfl) rfl #[.string a0] rfl (by (try simp only [List.map_toArray, List.map_cons, List.map_nil]); first | done | rfl | (simp only [List.length_drop, List.length_take]; rfl)) ?_; (with_reducible refine (fluxionref04_ParseRat.calls kj5 a0 t741 t742 t745 t748 _ A17.out).mono ?_); rintro e w83 ⟨v743, v746, rfl, ho0, ho1, hb⟩; refine ⟨_, rfl, ?_⟩; have n0_ := Aside0.mk (Kd.R_below (by exact (Kd.R_mono (Kd.R_far (p := ⟨gb740, 2, none⟩) (Kd.R_far (p := ⟨gb740, 1, none⟩) (Kd.R_far (p := ⟨gb740, 0, none⟩) (Kd.R_types HO735.out BK740.out (by decide)) (fun _ hk => hk.2) (.bool false)) (fun _ hk => hk.2) (.slice Ao81 t733.length co81)) (fun _ hk => hk.2) (.slice Ao82 t736.length co82)) (fun _ h_ => h_.1))) hb); have n1_ := Aside0.mk (Kd.R_below (by exact (Kd.R_mono (Kd.R_far (p := ⟨gb740, 2, none⟩) (Kd.R_far (p := ⟨gb740, 1, none⟩) (Kd.R_far (p := ⟨gb740, 0, none⟩) (Kd.R_types HO738.out BK740.out (by decide)) (fun _ hk => hk.2) (.bool false)) (fun _ hk => hk.2) (.slice Ao81 t733.length co81)) (fun _ hk => hk.2) (.slice Ao82 t736.length co82)) (fun _ h_ => h_.1))) hb); have n2_ := Aside0.mk (Kd.R_lower ho0 (below_size (by repeat (first | (with_reducible first | exact HB.out | apply below_alloc | apply pw_below_drewN | apply below_drew1 | refine below_set ?_ GE740.out) | exact HB.out)))); have n3_ := Aside0.mk (Kd.R_lower ho1 (below_size (by repeat (first | (with_reducible first | exact HB.out | apply below_alloc | apply pw_below_drewN | apply below_drew1 | refine below_set ?_ GE740.out) | exact HB.out)))); have n4_ := Aside0.mk (blk_below (g := gb740) (o := .cells #[.bool false, .slice Ao81 t733.length co81, .slice Ao82 t736.length co82] 25 (0, 0)) (by refine blk_put (cs := #[.bool false, .slice Ao81 t733.length co81, .slice none 0 0]) ?_ 2 _ rfl; refine blk_put (cs := #[.bool false, .slice none 0 0, .slice none 0 0]) ?_ 1 _ rfl; refine blk_put (cs := #[.bool false, .slice none 0 0, .slice none 0 0]) ?_ 0 _ rfl; exact BK740.out) hb); have n5_ := Aside0.mk (below_step (by repeat (first | (with_reducible first | exact HB.out | apply below_alloc | apply pw_below_drewN | apply below_drew1 | refine below_set ?_ GE740.out) | exact HB.out)) hb); clear HO735; clear HO738; clear BK740; clear HB; have HO735 := n0_; have HO738 := n1_; have HO744 := n2_; have HO747 := n3_; have BK740 := n4_; have HB := n5_; clear n0_ n1_ n2_ n3_ n4_ n5_; (try clear hb); (try clear hb2); (try clear hk); (try clear hi); (try clear ho0); (try clear ho1)) | ((with_reducible refine gate_dst (N := 13) rfl ?_); (try (refine gate_guard (by rfl) ?_; dsimp only)); refine box_event ?hg (N := 13) ?hd (cs := #[.bool false, .slice none 0 0, .slice none 0 0]) (t := 32) ?hr ?_; (case hd => rfl); (case hg => rfl); (case hr => first | (go_simp; done) | (go_simp; rfl)); intro gb749 hg w84 hbox hb; have n0_ := Aside0.mk (Kd.R_below (by exact HO735.out) hb); have n1_ := Aside0.mk (Kd.R_below (by exact HO738.out) hb); have n2_ := Aside0.mk (Kd.R_below (by exact HO744.out) hb); have n3_ := Aside0.mk (Kd.R_below (by exact HO747.out) hb); have n4_ := Aside0.mk (blk_below (g := gb740) (o := .cells #[.bool false, .slice Ao81 t733.length co81, .slice Ao82 t736.length co82] 25 (0, 0)) (by exact BK740.out) hb); have n5_ := Aside0.mk (below_step (by repeat (first | (with_reducible first | exact HB.out | apply below_alloc | apply pw_below_drewN | apply below_drew1 | refine below_set ?_ GE740.out) | exact HB.out)) hb); have n6_ := Aside0.mk (hbox); have n7_ := Aside0.mk ((by rw [hg]; exact (below_size (by repeat (first | (with_reducible first | exact HB.out | apply below_alloc | apply pw_below_drewN | apply below_drew1 | refine below_set ?_ GE740.out) | exact HB.out))) : w.heap.size ≤ gb749)); have n8_ := Aside0.mk ((by rw [hg]; exact (below_size (by repeat (first | (with_reducible first | exact HB.out | apply below_alloc | apply pw_below_drewN | apply below_drew1 | refine below_set ?_ GE740.out) | exact HB.out))) : w.heap.size ≤ gb749)); have n9_ := Aside0.mk ((by rw [hg]; exact Nat.ne_of_lt (blk_lt (g := gb740) (o := .cells #[.bool false, .slice Ao81 t733.length co81, .slice Ao82 t736.length co82] 25 (0, 0)) (by exact BK740.out)) : gb740 ≠ gb749)); have n10_ := Aside0.mk ((by rw [hg]; exact Nat.ne_of_gt (blk_lt (g := gb740) (o := .cells #[.bool false, .slice Ao81 t733.length co81, .slice Ao82 t736.length co82] 25 (0, 0)) (by exact BK740.out)) : gb749 ≠ gb740)); clear HO735; clear HO738; clear HO744; clear HO747; clear BK740; clear HB; have HO735 := n0_; have HO738 := n1_; have HO744 := n2_; have HO747 := n3_; have BK740 := n4_; have HB := n5_; have BK749 := n6_; have GW749 := n7_; have GE749 := n8_; have NB740_749 := n9_; have NB749_740 := n10_; clear n0_ n1_ n2_ n3_ n4_ n5_ n6_ n7_ n8_ n9_ n10_; clear hb hbox hg; have hnb85 := NB749_740.out; have hnc85 := NB740_749.out; have hcz86_0 : w84.cell? ⟨gb749, 0, none⟩ = some (.bool false) := (blk_cell BK749.out 0).trans rfl; have hcz86_1 : w84.cell? ⟨gb749, 1, none⟩ = some (.slice none 0 0) := (blk_cell BK749.out 1).trans rfl; have hcz86_2 : w84.cell? ⟨gb749, 2, none⟩ = some (.slice none 0 0) := (blk_cell BK749.out 2).trans rfl; have hfz86_0 := blk_frozen BK749.out 0; have hfz86_1 := blk_frozen BK749.out 1; have hfz86_2 := blk_frozen BK749.out 2; obtain ⟨Ao87, co87, eo87⟩ := Kd.R_slice HO744.out; subst eo87; obtain ⟨Ao88, co88, eo88⟩ := Kd.R_slice HO747.out; subst eo88; have hcz89_0 : w84.cell? ⟨gb740, 0, none⟩ = some (.bool false) := (blk_cell BK740.out 0).trans rfl; have hcz89_1 : w84.cell? ⟨gb740, 1, none⟩ = some (.slice Ao81 t733.length co81) := (blk_cell BK740.out 1).trans rfl; have hcz89_2 : w84.cell? ⟨gb740, 2, none⟩ = some (.slice Ao82 t736.length co82) := (blk_cell BK740.out 2).trans rfl; have hfz89_0 := blk_frozen BK740.out 0; have hfz89_1 := blk_frozen BK740.out 1; have hfz89_2 := blk_frozen BK740.out 2) | (go_at_call 27; (with_reducible refine (fluxionlaw16_known.calls kj5  t752 _ A77.out ?side1).mono ?_); (case side1 => exact LaidT.below hL (by repeat (first | (with_reducible first | exact HB.out | apply below_alloc | apply pw_below_drewN | apply below_drew1 | refine below_set ?_ GE740.out | refine below_set ?_ GE749.out) | exact HB.out))); rintro e w90 ⟨rfl, hb⟩; have n0_ := Aside0.mk (Kd.R_below (by exact (Kd.R_mono (Kd.R_far (p := ⟨gb749, 2, none⟩) (Kd.R_far (p := ⟨gb749, 1, none⟩) (Kd.R_far (p := ⟨gb749, 0, none⟩) (Kd.R_types HO735.out BK749.out (by decide)) (fun _ hk => hk.2) (.bool t741)) (fun _ hk => hk.2) (.slice Ao87 t742.length co87)) (fun _ hk => hk.2) (.slice Ao88 t745.length co88)) (fun _ h_ => h_.1))) hb); have n1_ := Aside0.mk (Kd.R_below (by exact (Kd.R_mono (Kd.R_far (p := ⟨gb749, 2, none⟩) (Kd.R_far (p := ⟨gb749, 1, none⟩) (Kd.R_far (p := ⟨gb749, 0, none⟩) (Kd.R_types HO738.out BK749.out (by decide)) (fun _ hk => hk.2) (.bool t741)) (fun _ hk => hk.2) (.slice Ao87 t742.length co87)) (fun _ hk => hk.2) (.slice Ao88 t745.length co88)) (fun _ h_ => h_.1))) hb); have n2_ := Aside0.mk (Kd.R_below (by exact (Kd.R_mono (Kd.R_far (p := ⟨gb749, 2, none⟩) (Kd.R_far (p := ⟨gb749, 1, none⟩) (Kd.R_far (p := ⟨gb749, 0, none⟩) (Kd.R_types HO744.out BK749.out (by decide)) (fun _ hk => hk.2) (.bool t741)) (fun _ hk => hk.2) (.slice Ao87 t742.length co87)) (fun _ hk => hk.2) (.slice Ao88 t745.length co88)) (fun _ h_ => h_.1))) hb); have n3_ := Aside0.mk (Kd.R_below (by exact (Kd.R_mono (Kd.R_far (p := ⟨gb749, 2, none⟩) (Kd.R_far (p := ⟨gb749, 1, none⟩) (Kd.R_far (p := ⟨gb749, 0, none⟩) (Kd.R_types HO747.out BK749.out (by decide)) (fun _ hk => hk.2) (.bool t741)) (fun _ hk => hk.2) (.slice Ao87 t742.length co87)) (fun _ hk => hk.2) (.slice Ao88 t745.length co88)) (fun _ h_ => h_.1))) hb); have n4_ := Aside0.mk (blk_below (g := gb740) (o := .cells #[.bool false, .slice Ao81 t733.length co81, .slice Ao82 t736.length co82] 25 (0, 0)) (by refine blk_far ?_ NB740_749.out _; refine blk_far ?_ NB740_749.out _; refine blk_far ?_ NB740_749.out _; exact BK740.out) hb); have n5_ := Aside0.mk (blk_below (g := gb749) (o := .cells #[.bool t741, .slice Ao87 t742.length co87, .slice Ao88 t745.length co88] 32 (0, 0)) (by refine blk_put (cs := #[.bool t741, .slice Ao87 t742.length co87, .slice none 0 0]) ?_ 2 _ rfl; refine blk_put (cs := #[.bool t741, .slice none 0 0, .slice none 0 0]) ?_ 1 _ rfl; refine blk_put (cs := #[.bool false, .slice none 0 0, .slice none 0 0]) ?_ 0 _ rfl; exact BK749.out) hb); have n6_ := Aside0.mk (below_step (by repeat (first | (with_reducible first | exact HB.out | apply below_alloc | apply pw_below_drewN | apply below_drew1 | refine below_set ?_ GE740.out | refine below_set ?_ GE749.out) | exact HB.out)) hb); clear HO735; clear HO738; clear HO744; clear HO747; clear BK740; clear BK749; clear HB; have HO735 := n0_; have HO738 := n1_; have HO744 := n2_; have HO747 := n3_; have BK740 := n4_; have BK749 := n5_; have HB := n6_; clear n0_ n1_ n2_ n3_ n4_ n5_ n6_; (try clear hb); (try clear hb2); (try clear hk); (try clear hi)))
                    go_ret
                    exact ⟨by first | rfl | (simp [errW_none, errW_some] <;> rfl) | (simp [*, errW_none, errW_some] <;> rfl), by repeat (first | (with_reducible first | exact HB.out | apply below_alloc | apply pw_below_drewN | apply below_drew1 | refine below_set ?_ GE740.out | refine below_set ?_ GE749.out) | exact HB.out)⟩
                  · rw [if_neg c76] at H
                    have c76b0 : ((t736.length : Int) == 0) = false := beq_eq_false_iff_ne.mpr c76
                    have c76b1 : ((t736.length : Int) != 0) = true := bne_iff_ne.mpr c76
                    have c76b2 : ¬ (t736 = []) := fun h_ => c76 (by rw [h_]; rfl)
                    obtain rfl := Option.some.inj H
                    go_wp2_with (first | ((with_reducible refine gate_callee (f := 28) rfl ?_); refine goesL_ (some 59) rfl rfl Tryz.func28 (by kernel_rfl) rfl #[.string a0] rfl (by (try simp only [List.map_toArray, List.map_cons, List.map_nil]); first | done | rfl | (simp only [List.length_drop, List.length_take]; rfl)) ?_; (with_reducible refine (lex_Rat.calls kj5 a0 false t733 t736 t739 _ A16.out ?side1).mono ?_); (case side1 => exact LaidT.below hL (by repeat (first | (with_reducible first | exact HB.out | apply below_alloc | apply pw_below_drewN | apply below_drew1) | exact HB.out))); rintro e w91 ⟨v734, v737, rfl, ho0, ho1, hb⟩; refine ⟨_, rfl, ?_⟩; have n0_ := Aside0.mk (Kd.R_lower ho0 (below_size (by repeat (first | (with_reducible first | exact HB.out | apply below_alloc | apply pw_below_drewN | apply below_drew1) | exact HB.out)))); have n1_ := Aside0.mk (Kd.R_lower ho1 (below_size (by repeat (first | (with_reducible first | exact HB.out | apply below_alloc | apply pw_below_drewN | apply below_drew1) | exact HB.out)))); have n2_ := Aside0.mk (below_step (by repeat (first | (with_reducible first | exact HB.out | apply below_alloc | apply pw_below_drewN | apply below_drew1) | exact HB.out)) hb); clear HB; have HO735 := n0_; have HO738 := n1_; have HB := n2_; clear n0_ n1_ n2_; (try clear hb); (try clear hb2); (try clear hk); (try clear hi); (try clear ho0); (try clear ho1)) | ((with_reducible refine gate_dst (N := 11) rfl ?_); (try (refine gate_guard (by rfl) ?_; dsimp only)); refine box_event ?hg (N := 11) ?hd (cs := #[.bool false, .slice none 0 0, .slice none 0 0]) (t := 25) ?hr ?_; (case hd => rfl); (case hg => rfl); (case hr => first | (go_simp; done) | (go_simp; rfl)); intro gb740 hg w92 hbox hb; have n0_ := Aside0.mk (Kd.R_below (by exact HO735.out) hb); have n1_ := Aside0.mk (Kd.R_below (by exact HO738.out) hb); have n2_ := Aside0.mk (below_step (by repeat (first | (with_reducible first | exact HB.out | apply below_alloc | apply pw_below_drewN | apply below_drew1) | exact HB.out)) hb); have n3_ := Aside0.mk (hbox); have n4_ := Aside0.mk ((by rw [hg]; exact (below_size (by repeat (first | (with_reducible first | exact HB.out | apply below_alloc | apply pw_below_drewN | apply below_drew1) | exact HB.out))) : w.heap.size ≤ gb740)); have n5_ := Aside0.mk ((by rw [hg]; exact (below_size (by repeat (first | (with_reducible first | exact HB.out | apply below_alloc | apply pw_below_drewN | apply below_drew1) | exact HB.out))) : w.heap.size ≤ gb740)); clear HO735; clear HO738; clear HB; have HO735 := n0_; have HO738 := n1_; have HB := n2_; have BK740 := n3_; have GW740 := n4_; have GE740 := n5_; clear n0_ n1_ n2_ n3_ n4_ n5_; clear hb hbox hg; have hcz93_0 : w92.cell? ⟨gb740, 0, none⟩ = some (.bool false) := (blk_cell BK740.out 0).trans rfl; have hcz93_1 : w92.cell? ⟨gb740, 1, none⟩ = some (.slice none 0 0) := (blk_cell BK740.out 1).trans rfl; have hcz93_2 : w92.cell? ⟨gb740, 2, none⟩ = some (.slice none 0 0) := (blk_cell BK740.out 2).trans rfl; have hfz93_0 := blk_frozen BK740.out 0; have hfz93_1 := blk_frozen BK740.out 1; have hfz93_2 := blk_frozen BK740.out 2; obtain ⟨Ao94, co94, eo94⟩ := Kd.R_slice HO735.out; subst eo94; obtain ⟨Ao95, co95, eo95⟩ := Kd.R_slice HO738.out; subst eo95) | ((with_reducible refine gate_callee (f := 13) rfl ?_); refine goesL_ (some 64) rfl rfl Tryz.func13 (by kernel_rfl) rfl #[.string a0] rfl (by (try simp only [List.map_toArray, List.map_cons, List.map_nil]); first | done | rfl | (simp only [List.length_drop, List.length_take]; rfl)) ?_; (with_reducible refine (fluxionref04_ParseRat.calls kj5 a0 t741 t742 t745 t748 _ A17.out).mono ?_); rintro e w96 ⟨v743, v746, rfl, ho0, ho1, hb⟩; refine ⟨_, rfl, ?_⟩; have n0_ := Aside0.mk (Kd.R_below (by exact (Kd.R_mono (Kd.R_far (p := ⟨gb740, 2, none⟩) (Kd.R_far (p := ⟨gb740, 1, none⟩) (Kd.R_far (p := ⟨gb740, 0, none⟩) (Kd.R_types HO735.out BK740.out (by decide)) (fun _ hk => hk.2) (.bool false)) (fun _ hk => hk.2) (.slice Ao94 t733.length co94)) (fun _ hk => hk.2) (.slice Ao95 t736.length co95)) (fun _ h_ => h_.1))) hb); have n1_ := Aside0.mk (Kd.R_below (by exact (Kd.R_mono (Kd.R_far (p := ⟨gb740, 2, none⟩) (Kd.R_far (p := ⟨gb740, 1, none⟩) (Kd.R_far (p := ⟨gb740, 0, none⟩) (Kd.R_types HO738.out BK740.out (by decide)) (fun _ hk => hk.2) (.bool false)) (fun _ hk => hk.2) (.slice Ao94 t733.length co94)) (fun _ hk => hk.2) (.slice Ao95 t736.length co95)) (fun _ h_ => h_.1))) hb); have n2_ := Aside0.mk (Kd.R_lower ho0 (below_size (by repeat (first | (with_reducible first | exact HB.out | apply below_alloc | apply pw_below_drewN | apply below_drew1 | refine below_set ?_ GE740.out) | exact HB.out)))); have n3_ := Aside0.mk (Kd.R_lower ho1 (below_size (by repeat (first | (with_reducible first | exact HB.out | apply below_alloc | apply pw_below_drewN | apply below_drew1 | refine below_set ?_ GE740.out) | exact HB.out)))); have n4_ := Aside0.mk (blk_below (g := gb740) (o := .cells #[.bool false, .slice Ao94 t733.length co94, .slice Ao95 t736.length co95] 25 (0, 0)) (by refine blk_put (cs := #[.bool false, .slice Ao94 t733.length co94, .slice none 0 0]) ?_ 2 _ rfl; refine blk_put (cs := #[.bool false, .slice none 0 0, .slice none 0 0]) ?_ 1 _ rfl; refine blk_put (cs := #[.bool false, .slice none 0 0, .slice none 0 0]) ?_ 0 _ rfl; exact BK740.out) hb); have n5_ := Aside0.mk (below_step (by repeat (first | (with_reducible first | exact HB.out | apply below_alloc | apply pw_below_drewN | apply below_drew1 | refine below_set ?_ GE740.out) | exact HB.out)) hb); clear HO735; clear HO738; clear BK740; clear HB; have HO735 := n0_; have HO738 := n1_; have HO744 := n2_; have HO747 := n3_; have BK740 := n4_; have HB := n5_; clear n0_ n1_ n2_ n3_ n4_ n5_; (try clear hb); (try clear hb2); (try clear hk); (try clear hi); (try clear ho0); (try clear ho1)) | ((with_reducible refine gate_dst (N := 13) rfl ?_); (try (refine gate_guard (by rfl) ?_; dsimp only)); refine box_event ?hg (N := 13) ?hd (cs := #[.bool false, .slice none 0 0, .slice none 0 0]) (t := 32) ?hr ?_; (case hd => rfl); (case hg => rfl); (case hr => first | (go_simp; done) | (go_simp; rfl)); intro gb749 hg w97 hbox hb; have n0_ := Aside0.mk (Kd.R_below (by exact HO735.out) hb); have n1_ := Aside0.mk (Kd.R_below (by exact HO738.out) hb); have n2_ := Aside0.mk (Kd.R_below (by exact HO744.out) hb); have n3_ := Aside0.mk (Kd.R_below (by exact HO747.out) hb); have n4_ := Aside0.mk (blk_below (g := gb740) (o := .cells #[.bool false, .slice Ao94 t733.length co94, .slice Ao95 t736.length co95] 25 (0, 0)) (by exact BK740.out) hb); have n5_ := Aside0.mk (below_step (by repeat (first | (with_reducible first | exact HB.out | apply below_alloc | apply pw_below_drewN | apply below_drew1 | refine below_set ?_ GE740.out) | exact HB.out)) hb); have n6_ := Aside0.mk (hbox); have n7_ := Aside0.mk ((by rw [hg]; exact (below_size (by repeat (first | (with_reducible first | exact HB.out | apply below_alloc | apply pw_below_drewN | apply below_drew1 | refine below_set ?_ GE740.out) | exact HB.out))) : w.heap.size ≤ gb749)); have n8_ := Aside0.mk ((by rw [hg]; exact (below_size (by repeat (first | (with_reducible first | exact HB.out | apply below_alloc | apply pw_below_drewN | apply below_drew1 | refine below_set ?_ GE740.out) | exact HB.out))) : w.heap.size ≤ gb749)); have n9_ := Aside0.mk ((by rw [hg]; exact Nat.ne_of_lt (blk_lt (g := gb740) (o := .cells #[.bool false, .slice Ao94 t733.length co94, .slice Ao95 t736.length co95] 25 (0, 0)) (by exact BK740.out)) : gb740 ≠ gb749)); have n10_ := Aside0.mk ((by rw [hg]; exact Nat.ne_of_gt (blk_lt (g := gb740) (o := .cells #[.bool false, .slice Ao94 t733.length co94, .slice Ao95 t736.length co95] 25 (0, 0)) (by exact BK740.out)) : gb749 ≠ gb740)); clear HO735; clear HO738; clear HO744; clear HO747; clear BK740; clear HB; have HO735 := n0_; have HO738 := n1_; have HO744 := n2_; have HO747 := n3_; have BK740 := n4_; have HB := n5_; have BK749 := n6_; have GW749 := n7_; have GE749 := n8_; have NB740_749 := n9_; have NB749_740 := n10_; clear n0_ n1_ n2_ n3_ n4_ n5_ n6_ n7_ n8_ n9_ n10_; clear hb hbox hg; have hnb98 := NB749_740.out; have hnc98 := NB740_749.out; have hcz99_0 : w97.cell? ⟨gb749, 0, none⟩ = some (.bool false) := (blk_cell BK749.out 0).trans rfl; have hcz99_1 : w97.cell? ⟨gb749, 1, none⟩ = some (.slice none 0 0) := (blk_cell BK749.out 1).trans rfl; have hcz99_2 : w97.cell? ⟨gb749, 2, none⟩ = some (.slice none 0 0) := (blk_cell BK749.out 2).trans rfl; have hfz99_0 := blk_frozen BK749.out 0; have hfz99_1 := blk_frozen BK749.out 1; have hfz99_2 := blk_frozen BK749.out 2; obtain ⟨Ao100, co100, eo100⟩ := Kd.R_slice HO744.out; subst eo100; obtain ⟨Ao101, co101, eo101⟩ := Kd.R_slice HO747.out; subst eo101; have hcz102_0 : w97.cell? ⟨gb740, 0, none⟩ = some (.bool false) := (blk_cell BK740.out 0).trans rfl; have hcz102_1 : w97.cell? ⟨gb740, 1, none⟩ = some (.slice Ao94 t733.length co94) := (blk_cell BK740.out 1).trans rfl; have hcz102_2 : w97.cell? ⟨gb740, 2, none⟩ = some (.slice Ao95 t736.length co95) := (blk_cell BK740.out 2).trans rfl; have hfz102_0 := blk_frozen BK740.out 0; have hfz102_1 := blk_frozen BK740.out 1; have hfz102_2 := blk_frozen BK740.out 2))
                    go_ret
                    exact ⟨by first | rfl | (simp [errW_none, errW_some] <;> rfl) | (simp [*, errW_none, errW_some] <;> rfl), by repeat (first | (with_reducible first | exact HB.out | apply below_alloc | apply pw_below_drewN | apply below_drew1 | refine below_set ?_ GE740.out | refine below_set ?_ GE749.out) | exact HB.out)⟩
                · rw [if_neg c75] at H
                  have c75b0 : ((t733.length : Int) == 0) = false := beq_eq_false_iff_ne.mpr c75
                  have c75b1 : ((t733.length : Int) != 0) = true := bne_iff_ne.mpr c75
                  have c75b2 : ¬ (t733 = []) := fun h_ => c75 (by rw [h_]; rfl)
                  obtain rfl := Option.some.inj H
                  go_wp2_with (first | ((with_reducible refine gate_callee (f := 28) rfl ?_); refine goesL_ (some 59) rfl rfl Tryz.func28 (by kernel_rfl) rfl #[.string a0] rfl (by (try simp only [List.map_toArray, List.map_cons, List.map_nil]); first | done | rfl | (simp only [List.length_drop, List.length_take]; rfl)) ?_; (with_reducible refine (lex_Rat.calls kj5 a0 false t733 t736 t739 _ A16.out ?side1).mono ?_); (case side1 => exact LaidT.below hL (by repeat (first | (with_reducible first | exact HB.out | apply below_alloc | apply pw_below_drewN | apply below_drew1) | exact HB.out))); rintro e w103 ⟨v734, v737, rfl, ho0, ho1, hb⟩; refine ⟨_, rfl, ?_⟩; have n0_ := Aside0.mk (Kd.R_lower ho0 (below_size (by repeat (first | (with_reducible first | exact HB.out | apply below_alloc | apply pw_below_drewN | apply below_drew1) | exact HB.out)))); have n1_ := Aside0.mk (Kd.R_lower ho1 (below_size (by repeat (first | (with_reducible first | exact HB.out | apply below_alloc | apply pw_below_drewN | apply below_drew1) | exact HB.out)))); have n2_ := Aside0.mk (below_step (by repeat (first | (with_reducible first | exact HB.out | apply below_alloc | apply pw_below_drewN | apply below_drew1) | exact HB.out)) hb); clear HB; have HO735 := n0_; have HO738 := n1_; have HB := n2_; clear n0_ n1_ n2_; (try clear hb); (try clear hb2); (try clear hk); (try clear hi); (try clear ho0); (try clear ho1)) | ((with_reducible refine gate_dst (N := 11) rfl ?_); (try (refine gate_guard (by rfl) ?_; dsimp only)); refine box_event ?hg (N := 11) ?hd (cs := #[.bool false, .slice none 0 0, .slice none 0 0]) (t := 25) ?hr ?_; (case hd => rfl); (case hg => rfl); (case hr => first | (go_simp; done) | (go_simp; rfl)); intro gb740 hg w104 hbox hb; have n0_ := Aside0.mk (Kd.R_below (by exact HO735.out) hb); have n1_ := Aside0.mk (Kd.R_below (by exact HO738.out) hb); have n2_ := Aside0.mk (below_step (by repeat (first | (with_reducible first | exact HB.out | apply below_alloc | apply pw_below_drewN | apply below_drew1) | exact HB.out)) hb); have n3_ := Aside0.mk (hbox); have n4_ := Aside0.mk ((by rw [hg]; exact (below_size (by repeat (first | (with_reducible first | exact HB.out | apply below_alloc | apply pw_below_drewN | apply below_drew1) | exact HB.out))) : w.heap.size ≤ gb740)); have n5_ := Aside0.mk ((by rw [hg]; exact (below_size (by repeat (first | (with_reducible first | exact HB.out | apply below_alloc | apply pw_below_drewN | apply below_drew1) | exact HB.out))) : w.heap.size ≤ gb740)); clear HO735; clear HO738; clear HB; have HO735 := n0_; have HO738 := n1_; have HB := n2_; have BK740 := n3_; have GW740 := n4_; have GE740 := n5_; clear n0_ n1_ n2_ n3_ n4_ n5_; clear hb hbox hg; have hcz105_0 : w104.cell? ⟨gb740, 0, none⟩ = some (.bool false) := (blk_cell BK740.out 0).trans rfl; have hcz105_1 : w104.cell? ⟨gb740, 1, none⟩ = some (.slice none 0 0) := (blk_cell BK740.out 1).trans rfl; have hcz105_2 : w104.cell? ⟨gb740, 2, none⟩ = some (.slice none 0 0) := (blk_cell BK740.out 2).trans rfl; have hfz105_0 := blk_frozen BK740.out 0; have hfz105_1 := blk_frozen BK740.out 1; have hfz105_2 := blk_frozen BK740.out 2; obtain ⟨Ao106, co106, eo106⟩ := Kd.R_slice HO735.out; subst eo106; obtain ⟨Ao107, co107, eo107⟩ := Kd.R_slice HO738.out; subst eo107) | ((with_reducible refine gate_callee (f := 13) rfl ?_); refine goesL_ (some 64) rfl rfl Tryz.func13 (by kernel_rfl) rfl #[.string a0] rfl (by (try simp only [List.map_toArray, List.map_cons, List.map_nil]); first | done | rfl | (simp only [List.length_drop, List.length_take]; rfl)) ?_; (with_reducible refine (fluxionref04_ParseRat.calls kj5 a0 t741 t742 t745 t748 _ A17.out).mono ?_); rintro e w108 ⟨v743, v746, rfl, ho0, ho1, hb⟩; refine ⟨_, rfl, ?_⟩; have n0_ := Aside0.mk (Kd.R_below (by exact (Kd.R_mono (Kd.R_far (p := ⟨gb740, 2, none⟩) (Kd.R_far (p := ⟨gb740, 1, none⟩) (Kd.R_far (p := ⟨gb740, 0, none⟩) (Kd.R_types HO735.out BK740.out (by decide)) (fun _ hk => hk.2) (.bool false)) (fun _ hk => hk.2) (.slice Ao106 t733.length co106)) (fun _ hk => hk.2) (.slice Ao107 t736.length co107)) (fun _ h_ => h_.1))) hb); have n1_ := Aside0.mk (Kd.R_below (by exact (Kd.R_mono (Kd.R_far (p := ⟨gb740, 2, none⟩) (Kd.R_far (p := ⟨gb740, 1, none⟩) (Kd.R_far (p := ⟨gb740, 0, none⟩) (Kd.R_types HO738.out BK740.out (by decide)) (fun _ hk => hk.2) (.bool false)) (fun _ hk => hk.2) (.slice Ao106 t733.length co106)) (fun _ hk => hk.2) (.slice Ao107 t736.length co107)) (fun _ h_ => h_.1))) hb); have n2_ := Aside0.mk (Kd.R_lower ho0 (below_size (by repeat (first | (with_reducible first | exact HB.out | apply below_alloc | apply pw_below_drewN | apply below_drew1 | refine below_set ?_ GE740.out) | exact HB.out)))); have n3_ := Aside0.mk (Kd.R_lower ho1 (below_size (by repeat (first | (with_reducible first | exact HB.out | apply below_alloc | apply pw_below_drewN | apply below_drew1 | refine below_set ?_ GE740.out) | exact HB.out)))); have n4_ := Aside0.mk (blk_below (g := gb740) (o := .cells #[.bool false, .slice Ao106 t733.length co106, .slice Ao107 t736.length co107] 25 (0, 0)) (by refine blk_put (cs := #[.bool false, .slice Ao106 t733.length co106, .slice none 0 0]) ?_ 2 _ rfl; refine blk_put (cs := #[.bool false, .slice none 0 0, .slice none 0 0]) ?_ 1 _ rfl; refine blk_put (cs := #[.bool false, .slice none 0 0, .slice none 0 0]) ?_ 0 _ rfl; exact BK740.out) hb); have n5_ := Aside0.mk (below_step (by repeat (first | (with_reducible first | exact HB.out | apply below_alloc | apply pw_below_drewN | apply below_drew1 | refine below_set ?_ GE740.out) | exact HB.out)) hb); clear HO735; clear HO738; clear BK740; clear HB; have HO735 := n0_; have HO738 := n1_; have HO744 := n2_; have HO747 := n3_; have BK740 := n4_; have HB := n5_; clear n0_ n1_ n2_ n3_ n4_ n5_; (try clear hb); (try clear hb2); (try clear hk); (try clear hi); (try clear ho0); (try clear ho1)) | ((with_reducible refine gate_dst (N := 13) rfl ?_); (try (refine gate_guard (by rfl) ?_; dsimp only)); refine box_event ?hg (N := 13) ?hd (cs := #[.bool false, .slice none 0 0, .slice none 0 0]) (t := 32) ?hr ?_; (case hd => rfl); (case hg => rfl); (case hr => first | (go_simp; done) | (go_simp; rfl)); intro gb749 hg w109 hbox hb; have n0_ := Aside0.mk (Kd.R_below (by exact HO735.out) hb); have n1_ := Aside0.mk (Kd.R_below (by exact HO738.out) hb); have n2_ := Aside0.mk (Kd.R_below (by exact HO744.out) hb); have n3_ := Aside0.mk (Kd.R_below (by exact HO747.out) hb); have n4_ := Aside0.mk (blk_below (g := gb740) (o := .cells #[.bool false, .slice Ao106 t733.length co106, .slice Ao107 t736.length co107] 25 (0, 0)) (by exact BK740.out) hb); have n5_ := Aside0.mk (below_step (by repeat (first | (with_reducible first | exact HB.out | apply below_alloc | apply pw_below_drewN | apply below_drew1 | refine below_set ?_ GE740.out) | exact HB.out)) hb); have n6_ := Aside0.mk (hbox); have n7_ := Aside0.mk ((by rw [hg]; exact (below_size (by repeat (first | (with_reducible first | exact HB.out | apply below_alloc | apply pw_below_drewN | apply below_drew1 | refine below_set ?_ GE740.out) | exact HB.out))) : w.heap.size ≤ gb749)); have n8_ := Aside0.mk ((by rw [hg]; exact (below_size (by repeat (first | (with_reducible first | exact HB.out | apply below_alloc | apply pw_below_drewN | apply below_drew1 | refine below_set ?_ GE740.out) | exact HB.out))) : w.heap.size ≤ gb749)); have n9_ := Aside0.mk ((by rw [hg]; exact Nat.ne_of_lt (blk_lt (g := gb740) (o := .cells #[.bool false, .slice Ao106 t733.length co106, .slice Ao107 t736.length co107] 25 (0, 0)) (by exact BK740.out)) : gb740 ≠ gb749)); have n10_ := Aside0.mk ((by rw [hg]; exact Nat.ne_of_gt (blk_lt (g := gb740) (o := .cells #[.bool false, .slice Ao106 t733.length co106, .slice Ao107 t736.length co107] 25 (0, 0)) (by exact BK740.out)) : gb749 ≠ gb740)); clear HO735; clear HO738; clear HO744; clear HO747; clear BK740; clear HB; have HO735 := n0_; have HO738 := n1_; have HO744 := n2_; have HO747 := n3_; have BK740 := n4_; have HB := n5_; have BK749 := n6_; have GW749 := n7_; have GE749 := n8_; have NB740_749 := n9_; have NB749_740 := n10_; clear n0_ n1_ n2_ n3_ n4_ n5_ n6_ n7_ n8_ n9_ n10_; clear hb hbox hg; have hnb110 := NB749_740.out; have hnc110 := NB740_749.out; have hcz111_0 : w109.cell? ⟨gb749, 0, none⟩ = some (.bool false) := (blk_cell BK749.out 0).trans rfl; have hcz111_1 : w109.cell? ⟨gb749, 1, none⟩ = some (.slice none 0 0) := (blk_cell BK749.out 1).trans rfl; have hcz111_2 : w109.cell? ⟨gb749, 2, none⟩ = some (.slice none 0 0) := (blk_cell BK749.out 2).trans rfl; have hfz111_0 := blk_frozen BK749.out 0; have hfz111_1 := blk_frozen BK749.out 1; have hfz111_2 := blk_frozen BK749.out 2; obtain ⟨Ao112, co112, eo112⟩ := Kd.R_slice HO744.out; subst eo112; obtain ⟨Ao113, co113, eo113⟩ := Kd.R_slice HO747.out; subst eo113; have hcz114_0 : w109.cell? ⟨gb740, 0, none⟩ = some (.bool false) := (blk_cell BK740.out 0).trans rfl; have hcz114_1 : w109.cell? ⟨gb740, 1, none⟩ = some (.slice Ao106 t733.length co106) := (blk_cell BK740.out 1).trans rfl; have hcz114_2 : w109.cell? ⟨gb740, 2, none⟩ = some (.slice Ao107 t736.length co107) := (blk_cell BK740.out 2).trans rfl; have hfz114_0 := blk_frozen BK740.out 0; have hfz114_1 := blk_frozen BK740.out 1; have hfz114_2 := blk_frozen BK740.out 2))
                  go_ret
                  exact ⟨by first | rfl | (simp [errW_none, errW_some] <;> rfl) | (simp [*, errW_none, errW_some] <;> rfl), by repeat (first | (with_reducible first | exact HB.out | apply below_alloc | apply pw_below_drewN | apply below_drew1 | refine below_set ?_ GE740.out | refine below_set ?_ GE749.out) | exact HB.out)⟩
            · rw [if_neg c61] at H
              have c61b0 : (t739 == t748) = false := beq_eq_false_iff_ne.mpr c61
              have c61b1 : (t739 != t748) = true := bne_iff_ne.mpr c61
              obtain rfl := Option.some.inj H
              go_wp2_with (first | ((with_reducible refine gate_callee (f := 28) rfl ?_); refine goesL_ (some 59) rfl rfl Tryz.func28 (by kernel_rfl) rfl #[.string a0] rfl (by (try simp only [List.map_toArray, List.map_cons, List.map_nil]); first | done | rfl | (simp only [List.length_drop, List.length_take]; rfl)) ?_; (with_reducible refine (lex_Rat.calls kj5 a0 t732 t733 t736 t739 _ A16.out ?side1).mono ?_); (case side1 => exact LaidT.below hL (by repeat (first | (with_reducible first | exact HB.out | apply below_alloc | apply pw_below_drewN | apply below_drew1) | exact HB.out))); rintro e w115 ⟨v734, v737, rfl, ho0, ho1, hb⟩; refine ⟨_, rfl, ?_⟩; have n0_ := Aside0.mk (Kd.R_lower ho0 (below_size (by repeat (first | (with_reducible first | exact HB.out | apply below_alloc | apply pw_below_drewN | apply below_drew1) | exact HB.out)))); have n1_ := Aside0.mk (Kd.R_lower ho1 (below_size (by repeat (first | (with_reducible first | exact HB.out | apply below_alloc | apply pw_below_drewN | apply below_drew1) | exact HB.out)))); have n2_ := Aside0.mk (below_step (by repeat (first | (with_reducible first | exact HB.out | apply below_alloc | apply pw_below_drewN | apply below_drew1) | exact HB.out)) hb); clear HB; have HO735 := n0_; have HO738 := n1_; have HB := n2_; clear n0_ n1_ n2_; (try clear hb); (try clear hb2); (try clear hk); (try clear hi); (try clear ho0); (try clear ho1)) | ((with_reducible refine gate_dst (N := 11) rfl ?_); (try (refine gate_guard (by rfl) ?_; dsimp only)); refine box_event ?hg (N := 11) ?hd (cs := #[.bool false, .slice none 0 0, .slice none 0 0]) (t := 25) ?hr ?_; (case hd => rfl); (case hg => rfl); (case hr => first | (go_simp; done) | (go_simp; rfl)); intro gb740 hg w116 hbox hb; have n0_ := Aside0.mk (Kd.R_below (by exact HO735.out) hb); have n1_ := Aside0.mk (Kd.R_below (by exact HO738.out) hb); have n2_ := Aside0.mk (below_step (by repeat (first | (with_reducible first | exact HB.out | apply below_alloc | apply pw_below_drewN | apply below_drew1) | exact HB.out)) hb); have n3_ := Aside0.mk (hbox); have n4_ := Aside0.mk ((by rw [hg]; exact (below_size (by repeat (first | (with_reducible first | exact HB.out | apply below_alloc | apply pw_below_drewN | apply below_drew1) | exact HB.out))) : w.heap.size ≤ gb740)); have n5_ := Aside0.mk ((by rw [hg]; exact (below_size (by repeat (first | (with_reducible first | exact HB.out | apply below_alloc | apply pw_below_drewN | apply below_drew1) | exact HB.out))) : w.heap.size ≤ gb740)); clear HO735; clear HO738; clear HB; have HO735 := n0_; have HO738 := n1_; have HB := n2_; have BK740 := n3_; have GW740 := n4_; have GE740 := n5_; clear n0_ n1_ n2_ n3_ n4_ n5_; clear hb hbox hg; have hcz117_0 : w116.cell? ⟨gb740, 0, none⟩ = some (.bool false) := (blk_cell BK740.out 0).trans rfl; have hcz117_1 : w116.cell? ⟨gb740, 1, none⟩ = some (.slice none 0 0) := (blk_cell BK740.out 1).trans rfl; have hcz117_2 : w116.cell? ⟨gb740, 2, none⟩ = some (.slice none 0 0) := (blk_cell BK740.out 2).trans rfl; have hfz117_0 := blk_frozen BK740.out 0; have hfz117_1 := blk_frozen BK740.out 1; have hfz117_2 := blk_frozen BK740.out 2; obtain ⟨Ao118, co118, eo118⟩ := Kd.R_slice HO735.out; subst eo118; obtain ⟨Ao119, co119, eo119⟩ := Kd.R_slice HO738.out; subst eo119) | ((with_reducible refine gate_callee (f := 13) rfl ?_); refine goesL_ (some 64) rfl rfl Tryz.func13 (by kernel_rfl) rfl #[.string a0] rfl (by (try simp only [List.map_toArray, List.map_cons, List.map_nil]); first | done | rfl | (simp only [List.length_drop, List.length_take]; rfl)) ?_; (with_reducible refine (fluxionref04_ParseRat.calls kj5 a0 t741 t742 t745 t748 _ A17.out).mono ?_); rintro e w120 ⟨v743, v746, rfl, ho0, ho1, hb⟩; refine ⟨_, rfl, ?_⟩; have n0_ := Aside0.mk (Kd.R_below (by exact (Kd.R_mono (Kd.R_far (p := ⟨gb740, 2, none⟩) (Kd.R_far (p := ⟨gb740, 1, none⟩) (Kd.R_far (p := ⟨gb740, 0, none⟩) (Kd.R_types HO735.out BK740.out (by decide)) (fun _ hk => hk.2) (.bool t732)) (fun _ hk => hk.2) (.slice Ao118 t733.length co118)) (fun _ hk => hk.2) (.slice Ao119 t736.length co119)) (fun _ h_ => h_.1))) hb); have n1_ := Aside0.mk (Kd.R_below (by exact (Kd.R_mono (Kd.R_far (p := ⟨gb740, 2, none⟩) (Kd.R_far (p := ⟨gb740, 1, none⟩) (Kd.R_far (p := ⟨gb740, 0, none⟩) (Kd.R_types HO738.out BK740.out (by decide)) (fun _ hk => hk.2) (.bool t732)) (fun _ hk => hk.2) (.slice Ao118 t733.length co118)) (fun _ hk => hk.2) (.slice Ao119 t736.length co119)) (fun _ h_ => h_.1))) hb); have n2_ := Aside0.mk (Kd.R_lower ho0 (below_size (by repeat (first | (with_reducible first | exact HB.out | apply below_alloc | apply pw_below_drewN | apply below_drew1 | refine below_set ?_ GE740.out) | exact HB.out)))); have n3_ := Aside0.mk (Kd.R_lower ho1 (below_size (by repeat (first | (with_reducible first | exact HB.out | apply below_alloc | apply pw_below_drewN | apply below_drew1 | refine below_set ?_ GE740.out) | exact HB.out)))); have n4_ := Aside0.mk (blk_below (g := gb740) (o := .cells #[.bool t732, .slice Ao118 t733.length co118, .slice Ao119 t736.length co119] 25 (0, 0)) (by refine blk_put (cs := #[.bool t732, .slice Ao118 t733.length co118, .slice none 0 0]) ?_ 2 _ rfl; refine blk_put (cs := #[.bool t732, .slice none 0 0, .slice none 0 0]) ?_ 1 _ rfl; refine blk_put (cs := #[.bool false, .slice none 0 0, .slice none 0 0]) ?_ 0 _ rfl; exact BK740.out) hb); have n5_ := Aside0.mk (below_step (by repeat (first | (with_reducible first | exact HB.out | apply below_alloc | apply pw_below_drewN | apply below_drew1 | refine below_set ?_ GE740.out) | exact HB.out)) hb); clear HO735; clear HO738; clear BK740; clear HB; have HO735 := n0_; have HO738 := n1_; have HO744 := n2_; have HO747 := n3_; have BK740 := n4_; have HB := n5_; clear n0_ n1_ n2_ n3_ n4_ n5_; (try clear hb); (try clear hb2); (try clear hk); (try clear hi); (try clear ho0); (try clear ho1)) | ((with_reducible refine gate_dst (N := 13) rfl ?_); (try (refine gate_guard (by rfl) ?_; dsimp only)); refine box_event ?hg (N := 13) ?hd (cs := #[.bool false, .slice none 0 0, .slice none 0 0]) (t := 32) ?hr ?_; (case hd => rfl); (case hg => rfl); (case hr => first | (go_simp; done) | (go_simp; rfl)); intro gb749 hg w121 hbox hb; have n0_ := Aside0.mk (Kd.R_below (by exact HO735.out) hb); have n1_ := Aside0.mk (Kd.R_below (by exact HO738.out) hb); have n2_ := Aside0.mk (Kd.R_below (by exact HO744.out) hb); have n3_ := Aside0.mk (Kd.R_below (by exact HO747.out) hb); have n4_ := Aside0.mk (blk_below (g := gb740) (o := .cells #[.bool t732, .slice Ao118 t733.length co118, .slice Ao119 t736.length co119] 25 (0, 0)) (by exact BK740.out) hb); have n5_ := Aside0.mk (below_step (by repeat (first | (with_reducible first | exact HB.out | apply below_alloc | apply pw_below_drewN | apply below_drew1 | refine below_set ?_ GE740.out) | exact HB.out)) hb); have n6_ := Aside0.mk (hbox); have n7_ := Aside0.mk ((by rw [hg]; exact (below_size (by repeat (first | (with_reducible first | exact HB.out | apply below_alloc | apply pw_below_drewN | apply below_drew1 | refine below_set ?_ GE740.out) | exact HB.out))) : w.heap.size ≤ gb749)); have n8_ := Aside0.mk ((by rw [hg]; exact (below_size (by repeat (first | (with_reducible first | exact HB.out | apply below_alloc | apply pw_below_drewN | apply below_drew1 | refine below_set ?_ GE740.out) | exact HB.out))) : w.heap.size ≤ gb749)); have n9_ := Aside0.mk ((by rw [hg]; exact Nat.ne_of_lt (blk_lt (g := gb740) (o := .cells #[.bool t732, .slice Ao118 t733.length co118, .slice Ao119 t736.length co119] 25 (0, 0)) (by exact BK740.out)) : gb740 ≠ gb749)); have n10_ := Aside0.mk ((by rw [hg]; exact Nat.ne_of_gt (blk_lt (g := gb740) (o := .cells #[.bool t732, .slice Ao118 t733.length co118, .slice Ao119 t736.length co119] 25 (0, 0)) (by exact BK740.out)) : gb749 ≠ gb740)); clear HO735; clear HO738; clear HO744; clear HO747; clear BK740; clear HB; have HO735 := n0_; have HO738 := n1_; have HO744 := n2_; have HO747 := n3_; have BK740 := n4_; have HB := n5_; have BK749 := n6_; have GW749 := n7_; have GE749 := n8_; have NB740_749 := n9_; have NB749_740 := n10_; clear n0_ n1_ n2_ n3_ n4_ n5_ n6_ n7_ n8_ n9_ n10_; clear hb hbox hg; have hnb122 := NB749_740.out; have hnc122 := NB740_749.out; have hcz123_0 : w121.cell? ⟨gb749, 0, none⟩ = some (.bool false) := (blk_cell BK749.out 0).trans rfl; have hcz123_1 : w121.cell? ⟨gb749, 1, none⟩ = some (.slice none 0 0) := (blk_cell BK749.out 1).trans rfl; have hcz123_2 : w121.cell? ⟨gb749, 2, none⟩ = some (.slice none 0 0) := (blk_cell BK749.out 2).trans rfl; have hfz123_0 := blk_frozen BK749.out 0; have hfz123_1 := blk_frozen BK749.out 1; have hfz123_2 := blk_frozen BK749.out 2; obtain ⟨Ao124, co124, eo124⟩ := Kd.R_slice HO744.out; subst eo124; obtain ⟨Ao125, co125, eo125⟩ := Kd.R_slice HO747.out; subst eo125))
              go_ret
              exact ⟨by first | rfl | (simp [errW_none, errW_some] <;> rfl) | (simp [*, errW_none, errW_some] <;> rfl), by repeat (first | (with_reducible first | exact HB.out | apply below_alloc | apply pw_below_drewN | apply below_drew1 | refine below_set ?_ GE740.out | refine below_set ?_ GE749.out) | exact HB.out)⟩

end Go.Proofs.YtpncflaoikeidaaGreatDoor.P
namespace Go.Proofs.YtpncflaoikeidaaGreatDoor.H
open Go.RowKit Go.Lib Go.Proofs.YtpncflaoikeidaaGreatDoorW.PrintWords Go.Proofs.YtpncflaoikeidaaGreatDoorW.PrintLast Go.Proofs.YtpncflaoikeidaaGreatDoorW.PrintMore Go.Proofs.YtpncflaoikeidaaGreatDoor.P
theorem hd_bt (s : ByteArray) (p : UInt8) (h : 0 < s.size) : bt s 0 = (p.toNat : Int) ↔ hdB p s.data.toList = true := by
  have hl := size_len s
  cases hc : s.data.toList with
  | nil => rw [hc] at hl; simp at hl; omega
  | cons c m =>
    have e : s = ⟨(c :: m).toArray⟩ := by rw [bytes_of s, hc]
    have hb : bt s 0 = (c.toNat : Int) := by
      rw [e]; exact bt_list (l := c :: m) (i := 0) (by simp)
    rw [hb]
    unfold hdB
    rw [List.head?_cons, beq_iff_eq, Option.some.injEq]
    constructor
    · intro h; exact UInt8.toNat_inj.1 (by omega)
    · intro h; rw [h]
theorem RN_zero {l : List UInt8} : ((RN l).2 = 0 ∧ (RN l).1 = 0) ↔ l = [48] := by
  unfold RN
  constructor
  · rintro ⟨h1, h2⟩
    by_cases h : natB l = true
    · rw [if_pos h] at h1 h2
      by_cases h3 : 2147483647 < dv l
      · rw [if_pos h3] at h1; cases h1
      · rw [if_neg h3] at h2
        simp only at h2
        have h4 : dv l = 0 := by omega
        have := dec_dv h
        rw [h4, decDigits_one (by decide)] at this
        exact this.symm
    · rw [if_neg h] at h1; cases h1
  · intro h
    subst h
    have h1 : natB [48] = true := by decide
    have h2 : dv [48] = 0 := by rw [dv_one]; rfl
    rw [if_pos h1, h2, if_neg (by decide)]
    exact ⟨rfl, rfl⟩
theorem refInt_f (s : ByteArray) (k : Nat) (hz : s.size < 9000000000000000) (hk : s.size + 200 < k) : fluxionref16_Int.f k s = some (IN s.data.toList) := by
  obtain ⟨k, rfl⟩ : ∃ k2, k = k2 + 1 := ⟨k - 1, by omega⟩
  have hs := size_len s
  have h0 : fluxionref16_Int.f (k + 1) s = fluxionref16_Int.j0 (k + 1) s (hdB 45 s.data.toList) := by
    unfold fluxionref16_Int.f
    by_cases h : 0 < s.size
    · rw [if_pos (by omega), if_pos (by omega)]
      congr 1
      have := hd_bt s 45 h
      rw [Bool.eq_iff_iff, beq_iff_eq]
      exact this
    · rw [if_neg (by omega)]
      have : s.data.toList = [] := List.eq_nil_of_length_eq_zero (by omega)
      rw [this]; rfl
  rw [h0, fluxionref16_Int.j0]
  unfold IN
  by_cases hn : hdB 45 s.data.toList = true
  · have hp : 0 < s.data.toList.length := by
      cases hl : s.data.toList with
      | nil => rw [hl] at hn; cases hn
      | cons c m => simp
    have ht : (s.extract 1 s.size).data.toList = s.data.toList.drop 1 := ext_tail s 1
    have hsz : (s.extract 1 s.size).size = s.size - 1 := by rw [← size_len, ht, List.length_drop, hs]
    have rn := refNum_f (s.extract 1 s.size) k (by omega) (by omega) (by omega)
    rw [ht] at rn
    obtain ⟨q1, q2⟩ := RN_range (s.data.toList.drop 1)
    have hz0 := RN_zero (l := s.data.toList.drop 1)
    rw [if_pos hn, if_pos hn, if_pos (by omega), rn, Option.bind_some]
    obtain ⟨x, hx⟩ : ∃ x, RN (s.data.toList.drop 1) = x := ⟨_, rfl⟩
    rw [hx] at q1 q2 hz0 ⊢
    by_cases h2 : x.2 = 0
    · rw [if_pos h2]
      by_cases h1 : x.1 = 0
      · rw [if_pos h1, if_pos (hz0.1 ⟨h2, h1⟩)]
      · rw [if_neg h1, if_neg (fun h => h1 (hz0.2 h).2), neg_w q1 q2]
    · rw [if_neg h2, if_neg (fun h => h2 (hz0.2 h).1), neg_w q1 q2]
  · rw [if_neg hn, if_neg hn, refNum_f s k hz (by omega) (by omega), Option.bind_some]
theorem refRef_f (s : ByteArray) (k : Nat) (hz : s.size < 9000000000000000) (hk : s.size + 200 < k) : fluxionref16_Ref.f k s = some (FN s.data.toList) := by
  have hs := size_len s
  unfold fluxionref16_Ref.f FN
  by_cases h0 : s.size = 0
  · have : s.data.toList = [] := List.eq_nil_of_length_eq_zero (by omega)
    rw [if_pos (by omega), this]; rfl
  · have hb : bt s 0 = 37 ↔ hdB 37 s.data.toList = true := hd_bt s 37 (by omega)
    rw [if_neg (by omega), if_pos (by omega)]
    by_cases hn : hdB 37 s.data.toList = true
    · have ht : (s.extract 1 s.size).data.toList = s.data.toList.drop 1 := ext_tail s 1
      have hsz : (s.extract 1 s.size).size = s.size - 1 := by rw [← size_len, ht, List.length_drop, hs]
      have rn := refNum_f (s.extract 1 s.size) k (by omega) (by omega) (by omega)
      rw [ht] at rn
      rw [if_pos (hb.2 hn), if_pos (by omega), rn, Option.bind_some, if_pos hn]
    · rw [if_neg (fun h => hn (hb.1 h)), if_neg hn]
theorem num16_f (k : Nat) (l : List UInt8) (n e : Int) (hl : l.length ≤ 100) (h : IN l = (n, e)) : fluxionlaw16_number.f (k + 1) ⟨l.toArray⟩ n e = some true := by
  unfold fluxionlaw16_number.f
  rw [lexInt_f k _ (by rw [bytes_size]; omega), Option.bind_some, bytes_data, h, if_pos rfl]
  simp
theorem cut10 (l : List UInt8) (h : l.length < 4294967281) : strings_Cut.f ⟨l.toArray⟩ ⟨#[10]⟩ = some (⟨(Lib.cut l [10]).1.toArray⟩, ⟨(Lib.cut l [10]).2.1.toArray⟩, (Lib.cut l [10]).2.2) := by
  unfold strings_Cut.f
  rw [bytes_size, if_pos h]
theorem same16_f (k : Nat) : ∀ (l : List ByteArray) (i n : Nat), i ≤ l.length → l.length ≤ 100 → l.length - i < n → fluxionref16_SameTexts.l0 n l l (i : Int) = some true
  | _, _, 0, _, _, h => by omega
  | l, i, n + 1, hi, hl, hn => by
    rw [fluxionref16_SameTexts.l0]
    by_cases h : i < l.length
    · have w : wrap64 ((i : Int) + 1) = ((i + 1 : Nat) : Int) := by rw [wrap_small (by omega) (by omega)]; omega
      rw [if_pos (by omega), if_pos (by omega), if_pos (by omega), if_pos rfl, w]
      clear w
      exact same16_f k l (i + 1) n (by omega) hl (by omega)
    · rw [if_neg (by omega)]
theorem known16_f (k : Nat) (hk : 1000 ≤ k) : fluxionlaw16_known.f k = some true := by
  obtain ⟨k, rfl⟩ : ∃ k2, k = k2 + 500 := ⟨k - 500, by omega⟩
  have c1 : Lib.cut [97, 10, 10] [10] = ([97], [10], true) := by decide
  have c2 : Lib.cut [10] [10] = ([], [], true) := by decide
  have c3 : Lib.cut [97] [10] = ([97], [], false) := by decide
  have q1 := cut10 [97, 10, 10] (by decide)
  have q2 := cut10 [10] (by decide)
  have q3 := cut10 [97] (by decide)
  rw [c1] at q1
  rw [c2] at q2
  rw [c3] at q3
  have t1 : (⟨([97, 10, 10] : List UInt8).toArray⟩ : ByteArray).toList ≠ [] := by rw [bytes_list]; decide
  have t2 : (⟨([10] : List UInt8).toArray⟩ : ByteArray).toList ≠ [] := by rw [bytes_list]; decide
  have t3 : (⟨([97] : List UInt8).toArray⟩ : ByteArray).toList ≠ [] := by rw [bytes_list]; decide
  have t4 : (⟨([] : List UInt8).toArray⟩ : ByteArray).toList = [] := by rw [bytes_list]
  have l1 : lex_Lines.f (k + 500) ⟨#[97, 10, 10]⟩ = some ([⟨#[97]⟩, ⟨#[]⟩], 0) := by
    show lex_Lines.l0 (k + 497 + 3) ⟨([97, 10, 10] : List UInt8).toArray⟩ [] = _
    rw [lex_Lines.l0, if_neg t1, q1, Option.bind_some, if_pos rfl, if_pos (by decide), lex_Lines.l0, if_neg t2, q2, Option.bind_some, if_pos rfl, if_pos (by decide), lex_Lines.l0, if_pos t4]
    rfl
  have l2 : lex_Lines.f (k + 500) ⟨#[97]⟩ = some ([], 19) := by
    show lex_Lines.l0 (k + 499 + 1) ⟨([97] : List UInt8).toArray⟩ [] = _
    rw [lex_Lines.l0, if_neg t3, q3, Option.bind_some, if_neg (by decide)]
  have s1 : lex_Split.f ⟨#[97, 32, 98]⟩ = some ([⟨#[97]⟩, ⟨#[98]⟩], 0) := by unfold lex_Split.f; rw [if_pos rfl]
  have s2 : lex_Split.f ⟨#[97, 32, 32, 98]⟩ = some ([], 19) := by unfold lex_Split.f; rw [if_neg (by decide), if_pos rfl]
  have s3 : lex_Split.f ⟨#[32, 97]⟩ = some ([], 19) := by unfold lex_Split.f; rw [if_neg (by decide), if_neg (by decide), if_pos rfl]
  have r1 : lex_Ref.f ⟨#[37, 55]⟩ = some (7, 0) := by
    rw [lexRef_f _ (by decide)]; decide
  have r2 : lex_Ref.f ⟨#[37, 45, 49]⟩ = some (0, 19) := by
    rw [lexRef_f _ (by decide)]; decide
  have m1 : fluxionref16_SameTexts.f (k + 500) ([⟨#[97]⟩, ⟨#[]⟩] : List ByteArray) [⟨#[97]⟩, ⟨#[]⟩] = some true := by
    unfold fluxionref16_SameTexts.f; rw [if_pos rfl]; exact same16_f 0 _ 0 (k + 500) (by decide) (by decide) (by simp)
  have m2 : fluxionref16_SameTexts.f (k + 500) ([⟨#[97]⟩, ⟨#[98]⟩] : List ByteArray) [⟨#[97]⟩, ⟨#[98]⟩] = some true := by
    unfold fluxionref16_SameTexts.f; rw [if_pos rfl]; exact same16_f 0 _ 0 (k + 500) (by decide) (by decide) (by simp)
  have n1 : fluxionlaw16_number.f (k + 500) ⟨#[45, 49, 50]⟩ (-12) 0 = some true := num16_f (k + 499) [45, 49, 50] _ _ (by decide) (by decide)
  have n2 : fluxionlaw16_number.f (k + 500) ⟨#[45, 48]⟩ 0 19 = some true := num16_f (k + 499) [45, 48] _ _ (by decide) (by decide)
  have n3 : fluxionlaw16_number.f (k + 500) ⟨#[48, 49]⟩ 0 19 = some true := num16_f (k + 499) [48, 49] _ _ (by decide) (by decide)
  have n4 : fluxionlaw16_number.f (k + 500) ⟨#[50, 49, 52, 55, 52, 56, 51, 54, 52, 56]⟩ 0 14 = some true := num16_f (k + 499) [50, 49, 52, 55, 52, 56, 51, 54, 52, 56] _ _ (by decide) (by decide)
  have nat1 : ∀ l : List UInt8, l.length ≤ 100 → lex_natural.f ⟨l.toArray⟩ = some (natB l) := fun l h => by unfold lex_natural.f; rw [bytes_size, if_pos (by omega)]
  have pl : ∀ l : List UInt8, l.length ≤ 100 → lex_plain.f ⟨l.toArray⟩ = some (okB l l.length && decide (0 < l.length) && decide (l.length ≤ 32)) := fun l h => by unfold lex_plain.f; rw [bytes_size, if_pos (by omega)]
  have hid : ∀ l : List UInt8, l.length ≤ 32 → lex_Hidden.f ⟨l.toArray⟩ = some (hdB 126 l && natB (l.drop 1)) := fun l h => by
    unfold lex_Hidden.f
    rw [cutP_f, Option.bind_some]
    simp only
    cases hq : hdB 126 l with
    | false => rw [if_neg (by decide)]; rfl
    | true =>
      rw [if_pos rfl, if_pos rfl, nat1 _ (by rw [List.length_drop]; omega), Option.bind_some, Bool.true_and]
      cases natB (l.drop 1) with
      | false => rw [if_neg (by decide)]
      | true => rw [if_pos rfl, bytes_size, decide_eq_true (by omega)]
  have nm : ∀ l : List UInt8, l.length ≤ 32 → lex_Name.f ⟨l.toArray⟩ = some (if (okB l l.length && decide (0 < l.length) && decide (l.length ≤ 32)) = true then 0 else if (hdB 126 l && natB (l.drop 1)) = true then 0 else 15) := fun l h => by
    unfold lex_Name.f
    rw [pl l (by omega), Option.bind_some, hid l h]
    split
    · rfl
    · rw [Option.bind_some]
      split <;> rfl
  have a1 : lex_Name.f ⟨#[120, 95, 49]⟩ = some 0 := (nm [120, 95, 49] (by decide)).trans (by decide)
  have a2 : lex_Name.f ⟨#[126, 48]⟩ = some 0 := (nm [126, 48] (by decide)).trans (by decide)
  have a3 : lex_Name.f ⟨#[126, 48, 49]⟩ = some 15 := (nm [126, 48, 49] (by decide)).trans (by decide)
  have a4 : lex_Name.f ⟨#[88]⟩ = some 15 := (nm [88] (by decide)).trans (by decide)
  unfold fluxionlaw16_known.f
  rw [l1, l2, s1, s2, s3, r1, r2, n1, n2, n3, n4, a1, a2, a3, a4]
  simp only [Option.bind_some]
  rw [m1, m2]
  simp
theorem numbers_law (s : ByteArray) (hz : s.size ≤ 140737488351232) : ∃ k, fluxionlaw16_LexNumbers.f k s = some true := by
  obtain ⟨Kb, hK⟩ := big_bound
  refine ⟨5002600011 + Kb + s.size + 2, ?_⟩
  obtain ⟨k, hk⟩ : ∃ k, 5002600011 + Kb + s.size = k := ⟨_, rfl⟩
  rw [hk]
  have kn : fluxionlaw16_known.f (k + 1) = some true := known16_f (k + 1) (by omega)
  have rest : fluxionlaw16_LexNumbers.j0 (k + 2) s false = some true := by
    rw [fluxionlaw16_LexNumbers.j0, if_neg (by decide), kn]
    by_cases h1 : 120 < s.size
    · rw [if_pos (by omega)]; rfl
    · have hp := parseRat_f k s (by omega)
      have hr : lex_Rat.f (k + 1) s = some ((PR s.data.toList).1.1, limbs (PR s.data.toList).1.2.1, limbs (PR s.data.toList).1.2.2, (PR s.data.toList).2) := by
        unfold lex_Rat.f; rw [hp]; rfl
      rw [if_neg (by omega), hr, Option.bind_some, refParseRat_f s (k + 1) Kb (by omega) hK (by omega), Option.bind_some]
      simp only
      by_cases he : (PR s.data.toList).2 = 0
      · obtain ⟨g, a, b, hx, ha, hb⟩ := PR_ok he
        obtain ⟨l1, l2⟩ := red_limbs g (m := 32) (notbig_limbs ha) (notbig_limbs hb) (by decide)
        rw [← hx] at l1 l2
        rw [if_pos he, if_pos he, refIsR_f _ _ _ _ (by omega) (by omega) (by omega), Option.bind_some, if_pos rfl]
        rfl
      · have hb := PR_bad he
        rw [if_neg he, if_pos trivial, hb, limbs_zero]
        rfl
  unfold fluxionlaw16_LexNumbers.f
  rw [lexInt_f (k + 1) s hz, Option.bind_some, refInt_f s (k + 2) (by omega) (by omega), Option.bind_some, lexRef_f s hz, Option.bind_some, refRef_f s (k + 2) (by omega) (by omega), Option.bind_some, if_pos rfl, if_pos rfl, if_pos rfl]
  rw [show ((FN s.data.toList).2 != (FN s.data.toList).2) = false by simp]
  exact rest
end Go.Proofs.YtpncflaoikeidaaGreatDoor.H
