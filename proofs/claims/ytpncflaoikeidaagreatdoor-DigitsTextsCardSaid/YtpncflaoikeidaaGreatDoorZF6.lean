/- TEXTS OF THIS CLAIM, GATHERED: words printed by the kit, functions printed over the translation, contracts and plain laws by hand. -/
import Derived.Test.YtpncflaoikeidaaGreatDoorZF5
namespace Go.Proofs.YtpncflaoikeidaaGreatDoor.H
open Go.RowKit Go.Lib Go.Proofs.YtpncflaoikeidaaGreatDoorW.PrintWords Go.Proofs.YtpncflaoikeidaaGreatDoorW.PrintLast Go.Proofs.YtpncflaoikeidaaGreatDoorW.PrintMore Go.Proofs.YtpncflaoikeidaaGreatDoor.P
theorem c4_nval_len {l : List Int} (hl : okl l) : (c4 (nval l)).length ≤ 3 * l.length := c4_limbs (nval_lt hl)
theorem c4_red_len (g : Bool) (n d : Nat) {m : Nat} (h1 : (c4 n).length < m) (h2 : (c4 d).length < m) (hm : 1 < m) : (c4 (redN g n d).2.1).length < m ∧ (c4 (redN g n d).2.2).length < m := by
  obtain ⟨q1, q2⟩ := redN_le g n d
  have p1 := c4_le_len q1
  have p2 := c4_le_len q2
  refine ⟨by omega, ?_⟩
  rcases Nat.le_total d 1 with h | h
  · rw [Nat.max_eq_right h, c4_one, List.length_singleton] at p2; omega
  · rw [Nat.max_eq_left h] at p2; omega
theorem big_small {n : Nat} (h : n < 4294967296) : big n = false := by
  have h1 := mt (big_len n).1 (by have := limbs_length_le 1 n (by omega); omega)
  simpa using h1
theorem ratT_small (g : Bool) {n d : Nat} (hn : n < 10) (hd : d < 10) : ratT (g, n, d) = (if g = true then [45] else []) ++ ([UInt8.ofNat (48 + n)] ++ (if d = 1 then [] else [47, UInt8.ofNat (48 + d)])) := by
  unfold ratT; rw [decDigits_one hn, decDigits_one hd]
theorem PR_six {l : List UInt8} (g : Bool) (n d : Nat) (h1 : natB (cutB (restB l)).1 = true) (h2 : natB (denB (cutB (restB l))) = true) (h3 : dv (cutB (restB l)).1 < 4294967296) (h4 : dv (denB (cutB (restB l))) < 4294967296)
    (hx : redN (negB l) (dv (cutB (restB l)).1) (dv (denB (cutB (restB l)))) = (g, n, d)) (hn : n < 10) (hd : d < 10) (h5 : (if g = true then [45] else []) ++ ([UInt8.ofNat (48 + n)] ++ (if d = 1 then [] else [47, UInt8.ofNat (48 + d)])) ≠ l) : PR l = ((false, 0, 0), 6) := by
  unfold PR
  rw [h1, h2, big_small h3, big_small h4, hx, ratT_small g hn hd, if_neg h5]
  rfl
theorem PR_nineteen {l : List UInt8} (h : (natB (cutB (restB l)).1 && natB (denB (cutB (restB l)))) = false) : PR l = ((false, 0, 0), 19) := by
  unfold PR; rw [h]; rfl
theorem falls_f (k : Nat) (l : List UInt8) (e : Int) (hs : l.length ≤ 140737488351232) (h : PR l = ((false, 0, 0), e)) : fluxionlaw04_falls.f (k + 1) ⟨l.toArray⟩ e = some true := by
  unfold fluxionlaw04_falls.f
  rw [parseRat_f k ⟨l.toArray⟩ hs, Option.bind_some, bytes_data, h]
  simp only
  rw [if_pos trivial, if_neg (by decide), limbs_zero]
  rfl
theorem PN_bad {l : List UInt8} (h : natB l = false) : PN l = (0, 19) := by unfold PN; rw [h]; rfl
theorem okl_small {x : Nat} (h : x < 4294967296) : okl [((x : Nat) : Int)] := okl_cons.2 ⟨by omega, okl_nil⟩
theorem redN_small {g : Bool} {n d : Nat} (h : Nat.gcd n d = 1) (hn : n ≠ 0) (hd : d ≠ 0) : redN g n d = (g, n, d) := by
  unfold redN; rw [if_neg (fun hc => hc.elim hn hd), h, Nat.div_one, Nat.div_one]
theorem known04_f (k : Nat) : fluxionlaw04_known.f (k + 1) = some true := by
  unfold fluxionlaw04_known.f
  have p1 : digits_ParseNat.f (⟨#[48, 48, 55]⟩ : ByteArray) = some (limbs 0, 19) := by
    rw [parseNat_f, show (⟨#[48, 48, 55]⟩ : ByteArray).data.toList = [48, 48, 55] from rfl, PN_bad (by decide)]
  have p2 : digits_ParseNat.f (⟨#[49, 120]⟩ : ByteArray) = some (limbs 0, 19) := by
    rw [parseNat_f, show (⟨#[49, 120]⟩ : ByteArray).data.toList = [49, 120] from rfl, PN_bad (by decide)]
  have p3 : digits_ParseNat.f (⟨#[]⟩ : ByteArray) = some (limbs 0, 19) := by
    rw [parseNat_f, show (⟨#[]⟩ : ByteArray).data.toList = [] from rfl, PN_bad (by decide)]
  have p4 : digits_Nat.f ([0, 1] : List Int) = some ⟨([52, 50, 57, 52, 57, 54, 55, 50, 57, 54] : List UInt8).toArray⟩ := by
    unfold digits_Nat.f
    have hv : nval [0, 1] = dv [52, 50, 57, 52, 57, 54, 55, 50, 57, 54] := by decide
    rw [if_pos ⟨okl_cons.2 ⟨by decide, okl_cons.2 ⟨by decide, okl_nil⟩⟩, by decide⟩, hv, dec_dv (by decide)]
  have p5 : digits_Rat.f (k + 1) true ([3] : List Int) ([4] : List Int) = some ⟨([45, 51, 47, 52] : List UInt8).toArray⟩ := by
    rw [digRat_f k true (l1 := [3]) (l2 := [4]) (okl_small (x := 3) (by decide)) (okl_small (x := 4) (by decide)) (by decide) (by decide), show nval [3] = 3 from rfl, show nval [4] = 4 from rfl, redN_small (by decide) (by decide) (by decide), ratT_small true (by decide) (by decide)]
    rfl
  have p6 : digits_Rat.f (k + 1) false ([7] : List Int) ([1] : List Int) = some ⟨([55] : List UInt8).toArray⟩ := by
    rw [digRat_f k false (l1 := [7]) (l2 := [1]) (okl_small (x := 7) (by decide)) (okl_small (x := 1) (by decide)) (by decide) (by decide), show nval [7] = 7 from rfl, show nval [1] = 1 from rfl, redN_small (by decide) (by decide) (by decide), ratT_small false (by decide) (by decide)]
    rfl
  have q1 : fluxionlaw04_falls.f (k + 1) (⟨#[50, 47, 52]⟩ : ByteArray) 6 = some true := falls_f k [50, 47, 52] 6 (by decide) (PR_six false 1 2 (by decide) (by decide) (by decide) (by decide) (by decide) (by decide) (by decide) (by decide))
  have q2 : fluxionlaw04_falls.f (k + 1) (⟨#[51, 47, 49]⟩ : ByteArray) 6 = some true := falls_f k [51, 47, 49] 6 (by decide) (PR_six false 3 1 (by decide) (by decide) (by decide) (by decide) (by decide) (by decide) (by decide) (by decide))
  have q3 : fluxionlaw04_falls.f (k + 1) (⟨#[45, 48]⟩ : ByteArray) 6 = some true := falls_f k [45, 48] 6 (by decide) (PR_six false 0 1 (by decide) (by decide) (by decide) (by decide) (by decide) (by decide) (by decide) (by decide))
  have q4 : fluxionlaw04_falls.f (k + 1) (⟨#[48, 47, 51]⟩ : ByteArray) 6 = some true := falls_f k [48, 47, 51] 6 (by decide) (PR_six false 0 1 (by decide) (by decide) (by decide) (by decide) (by decide) (by decide) (by decide) (by decide))
  have q5 : fluxionlaw04_falls.f (k + 1) (⟨#[49, 47, 48]⟩ : ByteArray) 6 = some true := falls_f k [49, 47, 48] 6 (by decide) (PR_six false 0 1 (by decide) (by decide) (by decide) (by decide) (by decide) (by decide) (by decide) (by decide))
  have q6 : fluxionlaw04_falls.f (k + 1) (⟨#[48, 49, 47, 50]⟩ : ByteArray) 19 = some true := falls_f k [48, 49, 47, 50] 19 (by decide) (PR_nineteen (by decide))
  have q7 : fluxionlaw04_falls.f (k + 1) (⟨#[49, 47]⟩ : ByteArray) 19 = some true := falls_f k [49, 47] 19 (by decide) (PR_nineteen (by decide))
  have q8 : fluxionlaw04_falls.f (k + 1) (⟨#[45, 47, 50]⟩ : ByteArray) 19 = some true := falls_f k [45, 47, 50] 19 (by decide) (PR_nineteen (by decide))
  have q9 : fluxionlaw04_falls.f (k + 1) (⟨#[49, 47, 45, 50]⟩ : ByteArray) 19 = some true := falls_f k [49, 47, 45, 50] 19 (by decide) (PR_nineteen (by decide))
  have q10 : fluxionlaw04_falls.f (k + 1) (⟨#[43, 49]⟩ : ByteArray) 19 = some true := falls_f k [43, 49] 19 (by decide) (PR_nineteen (by decide))
  rw [p1, p2, p3, p4, p5, p6, q1, q2, q3, q4, q5, q6, q7, q8, q9, q10]
  simp only [Option.bind_some, bytes_list]
  simp
end Go.Proofs.YtpncflaoikeidaaGreatDoor.H
namespace Go.Proofs.YtpncflaoikeidaaGreatDoor.P
open Go.RowKit Go.Proofs.YtpncflaoikeidaaGreatDoorW.PrintWords Go.Proofs.YtpncflaoikeidaaGreatDoorW.PrintLast Go.Proofs.YtpncflaoikeidaaGreatDoorW.PrintMore
attribute [local go_sem] max2_int max_two
set_option linter.unusedVariables false
set_option linter.unusedSimpArgs false
def fluxionref01_Short.l0 : Nat → List Int → Int → List Int → Int → Int → Option (List Int × Int)
  | 0, _, _, _, _, _ => none
  | k + 1, x0, x1, x6, x7, x8 => if x8 ≥ 0 then (if 0 ≤ x8 then (if x8 < (x0.length : Int) then (if x1 = 0 then (none) else (if x8 < (x6.length : Int) then (fluxionref01_Short.l0 k x0 x1 (x6.set (x8 : Int).toNat (wrap64 (Int.tdiv (wrap64 ((wrap64 (x7 * 10000)) + (rd x0 x8))) x1))) (Int.tmod (wrap64 ((wrap64 (x7 * 10000)) + (rd x0 x8))) x1) (wrap64 (x8 - 1))) else (none))) else (none)) else (none)) else ((fluxionref01_trim.f k x6).bind fun t480 => (some (t480, x7)))
def fluxionref01_Short.f (k : Nat) (l0 : List Int) (a1 : Int) : Option (List Int × Int) := if 0 ≤ (l0.length : Int) then (if ((l0.length : Int) : Int).toNat ≤ 35184372088832 then (fluxionref01_Short.l0 k l0 a1 (List.replicate ((l0.length : Int) : Int).toNat 0) 0 (wrap64 ((l0.length : Int) - 1))) else (none)) else (none)
set_option maxHeartbeats 8000000 in
set_option maxRecDepth 100000 in
theorem fluxionref01_Short.calls (k : Nat) (A0 : Option Addr) (c0 : Nat) (l0 : List Int) (a1 : Int) (r1 : List Int) (r2 : Int) (w : World) (hr0 : Kd.C (Kd.int .i64) w A0 l0.length l0) (hc0 : l0.length ≤ c0) (h : fluxionref01_Short.f k l0 a1 = some (r1, r2)) :
    Calls Tryz.prog 49 #[.slice A0 l0.length c0, .int .i64 a1] w fun e w' => ∃ v0_ : Value, e = .returned (.tuple #[v0_, .int .i64 r2]) ∧ Kd.R (Kd.int .i64) 3 w' w.heap.size (fun _ => True) v0_ r1 ∧ Below w.heap.size w w' := by
  have HR0 := Aside0.mk hr0
  have HC0 := Aside0.mk hc0
  clear hr0 hc0
  have HB := Aside0.mk (Below.refl w.heap.size w)
  have H : (if 0 ≤ (l0.length : Int) then (if ((l0.length : Int) : Int).toNat ≤ 35184372088832 then (fluxionref01_Short.l0 k l0 a1 (List.replicate ((l0.length : Int) : Int).toNat 0) 0 (wrap64 ((l0.length : Int) - 1))) else (none)) else (none)) = some (r1, r2) := h
  clear h
  by_cases c3 : 0 ≤ (l0.length : Int)
  · rw [if_pos c3] at H
    have c3b0 := eq_true c3
    have c3b1 : decide (0 ≤ (l0.length : Int)) = true := decide_eq_true c3
    clear c3
    by_cases c4 : ((l0.length : Int) : Int).toNat ≤ 35184372088832
    · rw [if_pos c4] at H
      have c4b0 := eq_true c4
      have c4b1 : decide (((l0.length : Int) : Int).toNat ≤ 35184372088832) = true := decide_eq_true c4
      clear c4
      obtain ⟨y475, hy475⟩ : ∃ y_ : List Int, y_ = (List.replicate ((l0.length : Int) : Int).toNat 0) := ⟨_, rfl⟩
      replace H : (fluxionref01_Short.l0 k l0 a1 y475 0 (wrap64 ((l0.length : Int) - 1))) = some (r1, r2) := by first | (rw [hy475]; with_reducible exact H) | (have H2_ := (Option.bind_some _ _).symm.trans H; rw [hy475]; with_reducible exact H2_) | (have H2_ := (Option.bind_some _ _).symm.trans H; with_reducible exact H2_) | with_reducible exact H | (rw [hy475]; exact H) | exact H
      have Ny475 := Aside0.mk hy475
      clear hy475
      have H' := Aside0.mk H
      clear H
      go_enter Tryz.func49, Tryz.ntmps49
      go_wp2_with (first | ((with_reducible refine gate_dst (N := 12) rfl ?_); refine Kd.R_make (Kd.int .i64) _ 3 rfl (N := 12) rfl 30 _ _ rfl (l0.length : Int) rfl rfl Tryz.underlying30 (.int .i64 0) 8 info3 rfl (by decide) (by omega) 0 (ok := fun _ => True) (okp := fun _ => True) rfl (fun _ hk => hk) trivial (of_decide_eq_true (by first | (with_reducible assumption) | assumption)) (Nat.le_trans (Nat.mul_le_mul_right _ (of_decide_eq_true (by first | (with_reducible assumption) | assumption) : (l0.length : Int).toNat ≤ 35184372088832)) (by omega)) (Below.refl _ _) (Nat.le_refl _) ?_; intro v476 w5 ho6 hb hg_ hnew_; clear hg_ hnew_; (first | rw [← Ny475.out] at ho6 | (simp only [Int.reduceToNat] at ho6; rw [← Ny475.out] at ho6)); have n0_ := Aside0.mk (Kd.R_lower ho6 (below_size (by repeat (first | (with_reducible first | exact HB.out | apply below_alloc | apply pw_below_drewN | apply below_drew1) | exact HB.out)))); have n1_ := Aside0.mk (below_step (by repeat (first | (with_reducible first | exact HB.out | apply below_alloc | apply pw_below_drewN | apply below_drew1) | exact HB.out)) hb); clear HB; have HO477 := n0_; have HB := n1_; clear n0_ n1_; clear hb ho6))
      go_loopg [7, 8] k (fun kq v7 v8 w' => ∃ (x6_1 : List Int) (x7_1 : Int) (x8_1 : Int), v7 = .int .i64 x7_1 ∧ v8 = .int .i64 x8_1 ∧ Aside0 (fluxionref01_Short.l0 kq l0 a1 x6_1 x7_1 x8_1 = some (r1, r2)) ∧ Aside0 (kq ≤ k) ∧ Aside0 (Kd.R (Kd.int .i64) 3 w' w.heap.size (fun _ => True) v476 x6_1) ∧ Aside0 (Below w.heap.size w w'))
      case atStart => exact ⟨(y475), (0), (wrap64 ((l0.length : Int) - 1)), (by first | rfl | (simp; done) | (simp [*]; done)), (by first | rfl | (simp; done) | (simp [*]; done)), H', ⟨Nat.le_refl _⟩, ⟨by exact HO477.out⟩, ⟨by repeat (first | (with_reducible first | exact HB.out | apply below_alloc | apply pw_below_drewN | apply below_drew1) | exact HB.out)⟩⟩
      case round =>
        clear H'
        try clear p2
        try clear c3
        try clear c3b0
        try clear c3b1
        try clear c4
        try clear c4b0
        try clear c4b1
        try clear p6
        obtain ⟨x6_1, x7_1, x8_1, rfl, rfl, HA, HK1, HO_6, HB⟩ := hrel
        cases gk with
        | zero => exact absurd HA.out (by simp [fluxionref01_Short.l0])
        | succ k1 =>
          have H := HA.out
          clear HA
          simp only [fluxionref01_Short.l0] at H
          by_cases c7 : x8_1 ≥ 0
          · rw [if_pos c7] at H
            have c7b0 : decide (0 ≤ x8_1) = true := decide_eq_true c7
            clear c7
            by_cases c8 : 0 ≤ x8_1
            · rw [if_pos c8] at H
              have c8b0 : decide (0 ≤ x8_1) = true := decide_eq_true c8
              clear c8
              by_cases c9 : x8_1 < (l0.length : Int)
              · rw [if_pos c9] at H
                have c9b0 : decide (x8_1 < (l0.length : Int)) = true := decide_eq_true c9
                clear c9
                by_cases c10 : a1 = 0
                · rw [if_pos c10] at H
                  exact absurd H (by simp)
                · rw [if_neg c10] at H
                  have c10b0 : (a1 == 0) = false := beq_eq_false_iff_ne.mpr c10
                  have c10b1 : (a1 != 0) = true := bne_iff_ne.mpr c10
                  by_cases c11 : x8_1 < (x6_1.length : Int)
                  · rw [if_pos c11] at H
                    have c11b0 : decide (x8_1 < (x6_1.length : Int)) = true := decide_eq_true c11
                    clear c11
                    obtain ⟨y479, hy479⟩ : ∃ y_ : List Int, y_ = (x6_1.set (x8_1 : Int).toNat (wrap64 (Int.tdiv (wrap64 ((wrap64 (x7_1 * 10000)) + (rd l0 x8_1))) a1))) := ⟨_, rfl⟩
                    replace H : (fluxionref01_Short.l0 k1 l0 a1 y479 (Int.tmod (wrap64 ((wrap64 (x7_1 * 10000)) + (rd l0 x8_1))) a1) (wrap64 (x8_1 - 1))) = some (r1, r2) := by first | (rw [hy479]; with_reducible exact H) | (have H2_ := (Option.bind_some _ _).symm.trans H; rw [hy479]; with_reducible exact H2_) | (have H2_ := (Option.bind_some _ _).symm.trans H; with_reducible exact H2_) | with_reducible exact H | (rw [hy479]; exact H) | exact H
                    have Ny479 := Aside0.mk hy479
                    clear hy479
                    have H' := Aside0.mk H
                    clear H
                    have p478 : 0 ≤ (x8_1 : Int) := of_decide_eq_true (by first | (with_reducible assumption) | assumption)
                    have q478 : x8_1 < (l0.length : Int) := of_decide_eq_true (by first | (with_reducible assumption) | assumption)
                    obtain ⟨ad478, e478, hx478_0⟩ := Kd.at_int HR0.out x8_1 p478 q478
                    cases e478
                    replace hx478_0 := (HB.out.cell (World.block_lt_of_cell? w _ hx478_0)).trans hx478_0
                    replace p478 := eq_true p478
                    replace q478 := eq_true q478
                    have p12 : 0 ≤ (x8_1 : Int) := of_decide_eq_true (by first | (with_reducible assumption) | assumption)
                    have q12 : (x8_1 : Int) < ((x6_1.length : Int) : Int) := of_decide_eq_true (by first | (with_reducible assumption) | assumption)
                    obtain ⟨go12, co12, eo12, gb12, gl12, cl12, HG12⟩ := Kd.R_form HO_6.out (by omega)
                    (first | cases eo12 | (injection eo12 with ea_ en_ ec_; (first | subst ea_ | (injection ea_ with ea_; subst ea_)); subst ec_; clear en_))
                    have GB12 := Aside0.mk gb12
                    have GG12 := Aside0.mk HG12
                    clear gb12 gl12 HG12
                    obtain ⟨hx12_0, hf12_0⟩ := Kd.R_celln 0 HO_6.out (x8_1 : Int) p12 q12
                    replace p12 := eq_true p12
                    replace q12 := eq_true q12
                    have HP13 := Kd.R_putg HO_6.out (x8_1 : Int) (wrap64 (Int.tdiv (wrap64 ((wrap64 (x7_1 * 10000)) + (rd l0 x8_1))) a1))
                    go_wp2_with (first | ((with_reducible refine gate_store (t := 3) (p := 32) rfl ?_); refine store_event (t := 3) (p := 32) (v := ?vo_w14) (w1 := (wr.setCell ⟨go12, (x8_1 : Int).toNat, none⟩ (.int .i64 (wrap64 (Int.tdiv (wrap64 ((wrap64 (x7_1 * 10000)) + (rd l0 x8_1))) a1))))) ?hg ?ho ?hn ?hr ?_; (case ho => rfl); (case hg => rfl); (case hn => rfl); (case hr => first | (go_simp; done) | (go_simp; rfl)); intro w14 hw; have hg : wr.grownBy w14 (some go12) := (by rw [hw]; exact HP13.2); have hp_ : Kd.R (Kd.int .i64) 3 w14 w.heap.size (fun _ => True) (.slice (some ⟨go12, 0, none⟩) x6_1.length co12) y479 := (by rw [hw, Ny479.out]; exact HP13.1); clear HP13; have n0_ := Aside0.mk (hp_); have n1_ := Aside0.mk ((by rw [hw]; exact below_set (HB.out) GB12.out : Below w.heap.size w w14)); clear HO_6; clear HB; have HO_6 := n0_; have HB := n1_; clear n0_ n1_; clear hg hw hp_))
                    go_roundg k1
                    case measure => have := HK1.out; omega
                    case rel => exact ⟨(y479), (Int.tmod (wrap64 ((wrap64 (x7_1 * 10000)) + (rd l0 x8_1))) a1), (wrap64 (x8_1 - 1)), (by first | rfl | (simp; done) | (simp [*]; done)), (by first | rfl | (simp; done) | (simp [*]; done)), H', ⟨by have := HK1.out; omega⟩, ⟨by exact HO_6.out⟩, ⟨by repeat (first | (with_reducible first | exact HB.out | apply below_alloc | apply pw_below_drewN | apply below_drew1) | exact HB.out)⟩⟩
                  · rw [if_neg c11] at H
                    exact absurd H (by simp)
              · rw [if_neg c9] at H
                exact absurd H (by simp)
            · rw [if_neg c8] at H
              exact absurd H (by simp)
          · rw [if_neg c7] at H
            have c7b0 : decide (0 ≤ x8_1) = false := decide_eq_false c7
            clear c7
            replace H := Option.bind_eq_some_iff.mp H
            obtain ⟨t480, A150, H⟩ := H
            try dsimp only at H
            have A15 := Aside0.mk A150
            clear A150
            simp only [Option.some.injEq, Prod.mk.injEq] at H
            obtain ⟨rfl, rfl⟩ := H
            obtain ⟨Ao16, co16, eo16⟩ := Kd.R_slice HO_6.out
            subst eo16
            go_wp2_with (first | ((with_reducible refine gate_callee (f := 88) rfl ?_); refine goesL_ (some 37) rfl rfl Tryz.func88 (by kernel_rfl) rfl #[.slice Ao16 x6_1.length co16] rfl (by (try simp only [List.map_toArray, List.map_cons, List.map_nil]); first | done | rfl | (simp only [List.length_drop, List.length_take]; rfl)) ?_; (with_reducible refine (fluxionref01_trim.calls k1 (fun k_ => some k_ = (.slice Ao16 x6_1.length co16 : Value).ownBlock) (.slice Ao16 x6_1.length co16) x6_1 t480 w _ ?side1 ?side2 A15.out).mono ?_); (case side1 => repeat (first | (with_reducible first | exact HB.out | apply below_alloc | apply pw_below_drewN | apply below_drew1) | exact HB.out)); (case side2 => exact Kd.R_tight rfl HO_6.out); rintro e w17 ⟨v481, rfl, ho0, hb, hkp⟩; refine ⟨_, rfl, ?_⟩; have n0_ := Aside0.mk (Kd.R_mono (ok' := fun k_ => True) ho0 (fun k_ hk_ => trivial)); have n1_ := Aside0.mk (hb); clear HB; clear HO_6; have HO482 := n0_; have HB := n1_; clear n0_ n1_; (try clear hb); (try clear hkp); (try clear ho0)))
            go_ret2
            exact ⟨_, by first | rfl | (simp [errW_none, errW_some] <;> rfl) | (simp [*, errW_none, errW_some] <;> rfl), by exact HO482.out, by repeat (first | (with_reducible first | exact HB.out | apply below_alloc | apply pw_below_drewN | apply below_drew1) | exact HB.out)⟩
    · rw [if_neg c4] at H
      exact absurd H (by simp)
  · rw [if_neg c3] at H
    exact absurd H (by simp)

def fluxionref01_Bits.l0 : Nat → List Int → Int → Option (Int)
  | 0, _, _ => none
  | k + 1, x0, x3 => if (x0.length : Int) > 0 then ((fluxionref01_Short.f k x0 2).bind fun bt483 => (fluxionref01_Bits.l0 k bt483.1 (wrap64 (x3 + 1)))) else (some x3)
def fluxionref01_Bits.f (k : Nat) (l0 : List Int) : Option (Int) := fluxionref01_Bits.l0 k l0 0
set_option maxHeartbeats 8000000 in
set_option maxRecDepth 100000 in
theorem fluxionref01_Bits.calls (k : Nat) (P0_ : Nat → Prop) (A0 : Option Addr) (c0 : Nat) (l0 : List Int) (r : Int) (w : World) (hs0 : Kd.V (Kd.int .i64) 3 w w.heap.size (fun k_ => P0_ k_) (.slice A0 l0.length c0) l0) (h : fluxionref01_Bits.f k l0 = some r) :
    Calls Tryz.prog 18 #[.slice A0 l0.length c0] w fun e w' => e = .returned (.int .i64 r) ∧ Below w.heap.size w w' := by
  have HO0 := Aside0.mk (show Kd.V (Kd.int .i64) 3 w w.heap.size (fun k_ => (P0_ k_ ∨ w.heap.size ≤ k_)) (.slice A0 l0.length c0) l0 from Kd.V_mono hs0 (fun k_ hk => .inl hk))
  have HB := Aside0.mk (Below.refl w.heap.size w)
  have H : (fluxionref01_Bits.l0 k l0 0) = some r := h
  clear h
  have H' := Aside0.mk H
  clear H
  go_enter Tryz.func18, Tryz.ntmps18
  go_wp2
  go_loopg [0, 3] k (fun kq v0 v3 w' => ∃ (x0_1 : List Int) (x3_1 : Int), v3 = .int .i64 x3_1 ∧ Aside0 (fluxionref01_Bits.l0 kq x0_1 x3_1 = some r) ∧ Aside0 (kq ≤ k) ∧ Aside0 (Kd.V (Kd.int .i64) 3 w' w.heap.size (fun k_ => (P0_ k_ ∨ w.heap.size ≤ k_)) v0 x0_1) ∧ Aside0 (Below w.heap.size w w'))
  case atStart => exact ⟨(l0), (0), (by first | rfl | (simp; done) | (simp [*]; done)), H', ⟨Nat.le_refl _⟩, ⟨by (with_reducible repeat (first | apply Kd.V_alloc | apply Kd.V_drewN | apply Kd.V_drew)); exact HO0.out⟩, ⟨by repeat (first | (with_reducible first | exact HB.out | apply below_alloc | apply pw_below_drewN | apply below_drew1) | exact HB.out)⟩⟩
  case round =>
    clear H'
    try clear c1
    obtain ⟨x0_1, x3_1, rfl, HA, HK1, HO_0, HB⟩ := hrel
    cases gk with
    | zero => exact absurd HA.out (by simp [fluxionref01_Bits.l0])
    | succ k1 =>
      have H := HA.out
      clear HA
      simp only [fluxionref01_Bits.l0] at H
      by_cases c2 : (x0_1.length : Int) > 0
      · rw [if_pos c2] at H
        have c2b0 : decide (0 < (x0_1.length : Int)) = true := decide_eq_true c2
        have c2b1 : decide (0 < x0_1.length) = true := decide_eq_true (by omega)
        clear c2
        replace H := Option.bind_eq_some_iff.mp H
        obtain ⟨⟨t483, t484⟩, A30, H⟩ := H
        try dsimp only at H
        have A3 := Aside0.mk A30
        clear A30
        have H' := Aside0.mk H
        clear H
        obtain ⟨Ao4, co4, eo4⟩ := Kd.V_slice HO_0.out
        subst eo4
        go_wp2_with (first | ((with_reducible refine gate_callee (f := 49) rfl ?_); refine goesL_ (some 11) rfl rfl Tryz.func49 (by kernel_rfl) rfl #[.slice Ao4 x0_1.length co4, .int .i64 2] rfl (by (try simp only [List.map_toArray, List.map_cons, List.map_nil]); first | done | rfl | (simp only [List.length_drop, List.length_take]; rfl)) ?_; (with_reducible refine (fluxionref01_Short.calls k1 _ _ x0_1 2 t483 t484 _ ?side1 ?side2 A3.out).mono ?_); (case side1 => repeat (first | exact (Kd.V_reads' HO_0.out).2.2 | (with_reducible refine Kd.C_alloc ?_ _) | (with_reducible refine Kd.C_drewN ?_ _) | (with_reducible refine Kd.C_drew ?_))); (case side2 => exact (Kd.V_reads' HO_0.out).2.1); rintro e w5 ⟨v485, rfl, ho0, hb⟩; refine ⟨_, rfl, ?_⟩; have n0_ := Aside0.mk (Kd.V_elder' (by (with_reducible repeat (first | apply Kd.V_alloc | apply Kd.V_drewN | apply Kd.V_drew)); exact HO_0.out) (Kd.R_base ho0) hb); have n1_ := Aside0.mk (Kd.R_lower (Kd.R_newM (M := fun k_ => (w.heap.size ≤ k_)) ho0 (below_size (by repeat (first | (with_reducible first | exact HB.out | apply below_alloc | apply pw_below_drewN | apply below_drew1) | exact HB.out))) (fun k_ h_ => h_)) (below_size (by repeat (first | (with_reducible first | exact HB.out | apply below_alloc | apply pw_below_drewN | apply below_drew1) | exact HB.out)))); have n2_ := Aside0.mk (below_step (by repeat (first | (with_reducible first | exact HB.out | apply below_alloc | apply pw_below_drewN | apply below_drew1) | exact HB.out)) hb); clear HO_0; clear HB; have HO_0 := n0_; have HO486 := n1_; have HB := n2_; clear n0_ n1_ n2_; (try clear hb); (try clear hb2); (try clear hk); (try clear hi); (try clear ho0)))
        go_roundg k1
        case measure => have := HK1.out; omega
        case rel => exact ⟨(t483), (wrap64 (x3_1 + 1)), (by first | rfl | (simp; done) | (simp [*]; done)), H', ⟨by have := HK1.out; omega⟩, ⟨Kd.V_mono (Kd.R_V (by exact Kd.R_mono HO486.out (fun _ hk => hk.1))) (fun k_ hk => by first | exact ⟨(.inr (hk.1)), hk.2⟩ | exact (.inr (hk)))⟩, ⟨by repeat (first | (with_reducible first | exact HB.out | apply below_alloc | apply pw_below_drewN | apply below_drew1) | exact HB.out)⟩⟩
      · rw [if_neg c2] at H
        have c2b0 : decide (0 < (x0_1.length : Int)) = false := decide_eq_false c2
        have c2b1 : decide (0 < x0_1.length) = false := decide_eq_false (by omega)
        clear c2
        obtain rfl := Option.some.inj H
        obtain ⟨Ao6, co6, eo6⟩ := Kd.V_slice HO_0.out
        subst eo6
        go_wp2
        go_ret
        exact ⟨by first | rfl | (simp [errW_none, errW_some] <;> rfl) | (simp [*, errW_none, errW_some] <;> rfl), by repeat (first | (with_reducible first | exact HB.out | apply below_alloc | apply pw_below_drewN | apply below_drew1) | exact HB.out)⟩

def fluxionref04_number.l0 : Nat → ByteArray → List Int → Int → Option (List Int)
  | 0, _, _, _ => none
  | k + 1, x0, x3, x4 => if x4 < (x0.size : Int) then ((fluxionref01_Times.f k x3 10).bind fun t487 => (if 0 ≤ x4 then ((fluxionref01_Small.f k (wrap64 ((wrap64 (bt x0 x4)) - 48))).bind fun t490 => ((fluxionref01_Add.f k t487 t490).bind fun t493 => (fluxionref04_number.l0 k x0 t493 (wrap64 (x4 + 1))))) else (none))) else (some x3)
def fluxionref04_number.f (k : Nat) (a0 : ByteArray) : Option (List Int) := fluxionref04_number.l0 k a0 ([] : List Int) 0
def fluxionref04_number.T5 : Bool × List (List Nat × List Nat) := (true, [([], []), ([0], [0]), ([], []), ([], []), ([2, 3], [2, 3]), ([4], [4]), ([5], [5]), ([6, 1], [6]), ([1, 7, 7], [1, 7]), ([8, 8, 0, 1, 2, 3, 4, 5, 6, 7, 8], [0, 8])])
def fluxionref04_number.B5 : List Nat := [0, 1, 0, 0, 12, 28, 60, 127, 255, 511]
theorem fluxionref04_number.tab5 : rtab .any (opsOf Tryz.f78 5) = fluxionref04_number.T5 := by kernel_rfl
theorem fluxionref04_number.bits5 : waitsOk fluxionref04_number.T5.2 fluxionref04_number.B5 = true := by kernel_rfl
set_option maxHeartbeats 8000000 in
set_option maxRecDepth 100000 in
theorem fluxionref04_number.calls (k : Nat) (a0 : ByteArray) (r : List Int) (w : World) (h : fluxionref04_number.f k a0 = some r) :
    Calls Tryz.prog 78 #[.string a0] w fun e w' => ∃ v0_ : Value, e = .returned (v0_) ∧ Kd.R (Kd.int .i64) 3 w' w.heap.size (fun _ => True) v0_ r ∧ Below w.heap.size w w' := by
  have HB := Aside0.mk (Below.refl w.heap.size w)
  have H : (fluxionref04_number.l0 k a0 ([] : List Int) 0) = some r := h
  clear h
  have H' := Aside0.mk H
  clear H
  go_enter Tryz.func78, Tryz.ntmps78
  go_wp2
  go_loopg [3, 4] k (fun kq v3 v4 w' => ∃ (x3_1 : List Int) (x4_1 : Int), v4 = .int .i64 x4_1 ∧ Aside0 (fluxionref04_number.l0 kq a0 x3_1 x4_1 = some r) ∧ Aside0 (kq ≤ k) ∧ Aside0 (Kd.R (Kd.int .i64) 3 w' w.heap.size (fun _ => True) v3 x3_1) ∧ Aside0 (Below w.heap.size w w'))
  case atStart => exact ⟨(([] : List Int)), (0), (by first | rfl | (simp; done) | (simp [*]; done)), H', ⟨Nat.le_refl _⟩, ⟨by first | exact Kd.R_nil _ _ _ _ _ | exact Kd.N_nil _ _ _ _ _ | exact Kd.V_nil _ _ _ _ _ | exact Kd.Q_nil _ _ _ _ _ | exact Kd.S_nil _ _ _ _ _⟩, ⟨by repeat (first | (with_reducible first | exact HB.out | apply below_alloc | apply pw_below_drewN | apply below_drew1) | exact HB.out)⟩⟩
  case round =>
    clear H'
    obtain ⟨x3_1, x4_1, rfl, HA, HK1, HO_3, HB⟩ := hrel
    cases gk with
    | zero => exact absurd HA.out (by simp [fluxionref04_number.l0])
    | succ k1 =>
      have H := HA.out
      clear HA
      simp only [fluxionref04_number.l0] at H
      by_cases c2 : x4_1 < (a0.size : Int)
      · rw [if_pos c2] at H
        have c2b0 : decide (x4_1 < (a0.size : Int)) = true := decide_eq_true c2
        clear c2
        replace H := Option.bind_eq_some_iff.mp H
        obtain ⟨t487, A30, H⟩ := H
        try dsimp only at H
        have A3 := Aside0.mk A30
        clear A30
        by_cases c4 : 0 ≤ x4_1
        · rw [if_pos c4] at H
          have c4b0 : decide (0 ≤ x4_1) = true := decide_eq_true c4
          clear c4
          replace H := Option.bind_eq_some_iff.mp H
          obtain ⟨t490, A60, H⟩ := H
          try dsimp only at H
          have A6 := Aside0.mk A60
          clear A60
          replace H := Option.bind_eq_some_iff.mp H
          obtain ⟨t493, A70, H⟩ := H
          try dsimp only at H
          have A7 := Aside0.mk A70
          clear A70
          have H' := Aside0.mk H
          clear H
          try go_wp2
          have n0_ := Aside0.mk (Kd.R_drew HO_3.out)
          have n1_ := Aside0.mk (below_drew1 HB.out)
          clear HO_3
          clear HB
          have HO_3 := n0_
          have HB := n1_
          clear n0_ n1_
          have p5 : 0 ≤ (x4_1 : Int) := of_decide_eq_true (by first | (with_reducible assumption) | assumption)
          have q5 : x4_1 < (a0.size : Int) := of_decide_eq_true (by first | (with_reducible assumption) | assumption)
          have hx5 := bt_at a0 x4_1
          replace p5 := eq_true p5
          replace q5 := eq_true q5
          obtain ⟨Ao9, co9, eo9⟩ := Kd.R_slice HO_3.out
          (first | subst eo9 | (injection eo9 with f1_ f2_ f3_; have f4_ := f1_.symm; have f5_ := f3_.symm; clear f1_ f2_ f3_; subst f4_; subst f5_))
          refine start_ (n := 10) (S := fun w' => True) (ds := []) #[false, false, false, false, false, false, false, false, false, false] (by kernel_rfl) rfl rfl trivial (fun hHeld => ?_); refine with_tabW fluxionref04_number.tab5 fluxionref04_number.bits5 (fun HT_ HW_ => ?_)
          generalize wr.drew = w8 at HO_3 HB hHeld ⊢
          refine pure_ (i := 0) (N := some 11) (v := ?_) (a' := ?_) #[true, false, false, false, false, false, false, false, false, false] rfl rfl (any_of HT_.out (by kernel_rfl)) (fun _ _ _ h => h) (Or.inl ⟨by rfl, ?_⟩) ?_ ?_
          rotate_left
          · intro w'
            go_simp
            with_reducible rfl
          rotate_left
          · simp only [Act.put, List.setIfInBounds_toArray, List.set_cons_zero, List.set_cons_succ, i64_w, i32_w]
            rfl
          refine pure_ (i := 2) (N := some 13) (v := ?_) (a' := ?_) #[true, false, true, false, false, false, false, false, false, false] rfl rfl (any_of HT_.out (by kernel_rfl)) (fun _ _ _ h => h) (Or.inl ⟨by rfl, ?_⟩) ?_ ?_
          rotate_left
          · intro w'
            go_simp
            with_reducible rfl
          rotate_left
          · simp only [Act.put, List.setIfInBounds_toArray, List.set_cons_zero, List.set_cons_succ, i64_w, i32_w]
            rfl
          refine pure_ (i := 3) (N := some 14) (v := ?_) (a' := ?_) #[true, false, true, true, false, false, false, false, false, false] rfl rfl (any_of HT_.out (by kernel_rfl)) (fun _ _ _ h => h) (Or.inl ⟨by rfl, ?_⟩) ?_ ?_
          rotate_left
          · intro w'
            go_simp
            with_reducible rfl
          rotate_left
          · simp only [Act.put, List.setIfInBounds_toArray, List.set_cons_zero, List.set_cons_succ, i64_w, i32_w]
            rfl
          refine take_ (i := 4) (N := some 15) (v := ?_) (a' := ?_) #[true, false, true, true, true, false, false, false, false, false] rfl rfl (take_ofW HT_.out HW_.out (by kernel_rfl)) (fun _ _ _ h => h) (Or.inl ⟨by rfl, ?_⟩) hHeld ?_ ?_
          rotate_left
          · intro w' _
            go_simp
            with_reducible rfl
          rotate_left
          · simp only [Act.put, List.setIfInBounds_toArray, List.set_cons_zero, List.set_cons_succ, i64_w, i32_w]
            rfl
          refine pure_ (i := 5) (N := some 16) (v := ?_) (a' := ?_) #[true, false, true, true, true, true, false, false, false, false] rfl rfl (any_of HT_.out (by kernel_rfl)) (fun _ _ _ h => h) (Or.inl ⟨by rfl, ?_⟩) ?_ ?_
          rotate_left
          · intro w'
            go_simp
            with_reducible rfl
          rotate_left
          · simp only [Act.put, List.setIfInBounds_toArray, List.set_cons_zero, List.set_cons_succ, i64_w, i32_w]
            rfl
          refine pure_ (i := 6) (N := some 17) (v := ?_) (a' := ?_) #[true, false, true, true, true, true, true, false, false, false] rfl rfl (any_of HT_.out (by kernel_rfl)) (fun _ _ _ h => h) (Or.inl ⟨by rfl, ?_⟩) ?_ ?_
          rotate_left
          · intro w'
            go_simp
            with_reducible rfl
          rotate_left
          · simp only [Act.put, List.setIfInBounds_toArray, List.set_cons_zero, List.set_cons_succ, i64_w, i32_w]
            rfl
          refine one_ (i := 1) (N := some 12) #[true, true, true, true, true, true, true, false, false, false] rfl rfl (one_of HT_.out (by kernel_rfl)) (by decide) (fun K hK => ?_)
          refine goes_ Tryz.func51 (by kernel_rfl) rfl #[.slice Ao9 x3_1.length co9, .int .i64 10] (by rfl) rfl rfl (by (try simp only [List.map_toArray, List.map_cons, List.map_nil]); first | done | rfl | (simp only [List.length_drop, List.length_take]; rfl)) ?_
          with_reducible refine (fluxionref01_Times.calls k1 _ _ x3_1 10 t487 _ ?side1 ?side2 A3.out).mono ?_
          (case side1 => repeat (first | exact (Kd.R_reads' HO_3.out).2.2 | (with_reducible refine Kd.C_alloc ?_ _) | (with_reducible refine Kd.C_drewN ?_ _) | (with_reducible refine Kd.C_drew ?_)))
          (case side2 => exact (Kd.R_reads' HO_3.out).2.1)
          rintro e w10 ⟨v488, rfl, ho0, hb⟩
          refine ⟨_, rfl, ?_⟩
          have n0_ := Aside0.mk (Kd.R_elder' (by exact HO_3.out) (Kd.R_base ho0) hb)
          have n1_ := Aside0.mk (Kd.R_lower (Kd.R_new' ho0 (Kd.R_lt (by exact HO_3.out))) (below_size (by repeat (first | (with_reducible first | exact HB.out | apply below_alloc | apply pw_below_drewN | apply below_drew1) | exact HB.out))))
          have n2_ := Aside0.mk (below_step (by repeat (first | (with_reducible first | exact HB.out | apply below_alloc | apply pw_below_drewN | apply below_drew1) | exact HB.out)) hb)
          clear HO_3
          clear HB
          have HO_3 := n0_
          have HO489 := n1_
          have HB := n2_
          clear n0_ n1_ n2_
          (try clear hb)
          (try clear hb2)
          (try clear hk)
          (try clear hi)
          (try clear ho0)
          refine hK.out _ _ trivial (fun hHeld => ?_)
          clear hK K
          refine norm_ (a' := ?_) ?_ ?_
          rotate_left
          · show Act.put _ (some 12) _ = _
            simp only [Act.put, List.setIfInBounds_toArray, List.set_cons_zero, List.set_cons_succ, i64_w, i32_w]
            rfl
          refine one_ (i := 7) (N := some 18) #[true, true, true, true, true, true, true, true, false, false] rfl rfl (one_of HT_.out (by kernel_rfl)) (by decide) (fun K hK => ?_)
          refine goes_ Tryz.func52 (by kernel_rfl) rfl #[.int .i64 (wrap64 ((wrap64 (bt a0 x4_1)) - 48))] (by rfl) rfl rfl (by (try simp only [List.map_toArray, List.map_cons, List.map_nil]); first | done | rfl | (simp only [List.length_drop, List.length_take]; rfl)) ?_
          with_reducible refine (fluxionref01_Small.calls k1 (wrap64 ((wrap64 (bt a0 x4_1)) - 48)) t490 _ A6.out).mono ?_
          rintro e w11 ⟨v491, rfl, ho0, hb⟩
          refine ⟨_, rfl, ?_⟩
          have n0_ := Aside0.mk (Kd.R_elder' (by exact HO_3.out) (Kd.R_base ho0) hb)
          have n1_ := Aside0.mk (Kd.R_elder' (by exact HO489.out) (Kd.R_base ho0) hb)
          have n2_ := Aside0.mk (Kd.R_lower (Kd.R_new' (Kd.R_new' ho0 (Kd.R_lt (by exact HO_3.out))) (Kd.R_lt (by exact HO489.out))) (below_size (by repeat (first | (with_reducible first | exact HB.out | apply below_alloc | apply pw_below_drewN | apply below_drew1) | exact HB.out))))
          have n3_ := Aside0.mk (below_step (by repeat (first | (with_reducible first | exact HB.out | apply below_alloc | apply pw_below_drewN | apply below_drew1) | exact HB.out)) hb)
          clear HO_3
          clear HO489
          clear HB
          have HO_3 := n0_
          have HO489 := n1_
          have HO492 := n2_
          have HB := n3_
          clear n0_ n1_ n2_ n3_
          (try clear hb)
          (try clear hb2)
          (try clear hk)
          (try clear hi)
          (try clear ho0)
          obtain ⟨Ao12, co12, eo12⟩ := Kd.R_slice HO489.out
          (first | subst eo12 | (injection eo12 with f1_ f2_ f3_; have f4_ := f1_.symm; have f5_ := f3_.symm; clear f1_ f2_ f3_; subst f4_; subst f5_))
          obtain ⟨Ao13, co13, eo13⟩ := Kd.R_slice HO492.out
          (first | subst eo13 | (injection eo13 with f1_ f2_ f3_; have f4_ := f1_.symm; have f5_ := f3_.symm; clear f1_ f2_ f3_; subst f4_; subst f5_))
          refine hK.out _ _ trivial (fun hHeld => ?_)
          clear hK K
          refine norm_ (a' := ?_) ?_ ?_
          rotate_left
          · show Act.put _ (some 18) _ = _
            simp only [Act.put, List.setIfInBounds_toArray, List.set_cons_zero, List.set_cons_succ, i64_w, i32_w]
            rfl
          refine one_ (i := 8) (N := some 19) #[true, true, true, true, true, true, true, true, true, false] rfl rfl (one_of HT_.out (by kernel_rfl)) (by decide) (fun K hK => ?_)
          refine goes_ Tryz.func50 (by kernel_rfl) rfl #[.slice Ao12 t487.length co12, .slice Ao13 t490.length co13] (by rfl) rfl rfl (by (try simp only [List.map_toArray, List.map_cons, List.map_nil]); first | done | rfl | (simp only [List.length_drop, List.length_take]; rfl)) ?_
          with_reducible refine (fluxionref01_Add.calls k1 _ _ t487 _ _ t490 t493 _ ?side1 ?side2 ?side3 ?side4 A7.out).mono ?_
          (case side1 => repeat (first | exact (Kd.R_reads' HO489.out).2.2 | (with_reducible refine Kd.C_alloc ?_ _) | (with_reducible refine Kd.C_drewN ?_ _) | (with_reducible refine Kd.C_drew ?_)))
          (case side2 => exact (Kd.R_reads' HO489.out).2.1)
          (case side3 => repeat (first | exact (Kd.R_reads' HO492.out).2.2 | (with_reducible refine Kd.C_alloc ?_ _) | (with_reducible refine Kd.C_drewN ?_ _) | (with_reducible refine Kd.C_drew ?_)))
          (case side4 => exact (Kd.R_reads' HO492.out).2.1)
          rintro e w14 ⟨v494, rfl, ho0, hb⟩
          refine ⟨_, rfl, ?_⟩
          have n0_ := Aside0.mk (Kd.R_elder' (by exact HO_3.out) (Kd.R_base ho0) hb)
          have n1_ := Aside0.mk (Kd.R_elder' (by exact HO489.out) (Kd.R_base ho0) hb)
          have n2_ := Aside0.mk (Kd.R_elder' (by exact HO492.out) (Kd.R_base ho0) hb)
          have n3_ := Aside0.mk (Kd.R_lower (Kd.R_new' (Kd.R_new' (Kd.R_new' ho0 (Kd.R_lt (by exact HO_3.out))) (Kd.R_lt (by exact HO489.out))) (Kd.R_lt (by exact HO492.out))) (below_size (by repeat (first | (with_reducible first | exact HB.out | apply below_alloc | apply pw_below_drewN | apply below_drew1) | exact HB.out))))
          have n4_ := Aside0.mk (below_step (by repeat (first | (with_reducible first | exact HB.out | apply below_alloc | apply pw_below_drewN | apply below_drew1) | exact HB.out)) hb)
          clear HO_3
          clear HO489
          clear HO492
          clear HB
          have HO_3 := n0_
          have HO489 := n1_
          have HO492 := n2_
          have HO495 := n3_
          have HB := n4_
          clear n0_ n1_ n2_ n3_ n4_
          (try clear hb)
          (try clear hb2)
          (try clear hk)
          (try clear hi)
          (try clear ho0)
          refine hK.out _ _ trivial (fun hHeld => ?_)
          clear hK K
          refine norm_ (a' := ?_) ?_ ?_
          rotate_left
          · show Act.put _ (some 19) _ = _
            simp only [Act.put, List.setIfInBounds_toArray, List.set_cons_zero, List.set_cons_succ, i64_w, i32_w]
            rfl
          refine pure_ (i := 9) (N := some 3) (v := ?_) (a' := ?_) #[true, true, true, true, true, true, true, true, true, true] rfl rfl (any_of HT_.out (by kernel_rfl)) (fun _ _ _ h => h) (Or.inl ⟨by rfl, ?_⟩) ?_ ?_
          rotate_left
          · intro w'
            go_simp
            with_reducible rfl
          rotate_left
          · simp only [Act.put, List.setIfInBounds_toArray, List.set_cons_zero, List.set_cons_succ, i64_w, i32_w]
            rfl
          refine done_ (done_of HT_.out (by kernel_rfl)) ?_
          try go_wp2
          go_roundg k1
          case measure => have := HK1.out; omega
          case rel => exact ⟨(t493), (wrap64 (x4_1 + 1)), (by first | rfl | (simp; done) | (simp [*]; done)), H', ⟨by have := HK1.out; omega⟩, ⟨by exact Kd.R_mono HO495.out (fun _ hk => trivial)⟩, ⟨by repeat (first | (with_reducible first | exact HB.out | apply below_alloc | apply pw_below_drewN | apply below_drew1) | exact HB.out)⟩⟩
        · rw [if_neg c4] at H
          exact absurd H (by simp)
      · rw [if_neg c2] at H
        have c2b0 : decide (x4_1 < (a0.size : Int)) = false := decide_eq_false c2
        clear c2
        obtain rfl := Option.some.inj H
        go_wp2
        go_ret
        exact ⟨_, by first | rfl | (simp [errW_none, errW_some] <;> rfl) | (simp [*, errW_none, errW_some] <;> rfl), by exact HO_3.out, by repeat (first | (with_reducible first | exact HB.out | apply below_alloc | apply pw_below_drewN | apply below_drew1) | exact HB.out)⟩

def fluxionref04_ParseNat.f (k : Nat) (a0 : ByteArray) : Option (List Int × Int) := (fluxionref04_natural.f k a0).bind fun t496 => (if t496 = true then (if (a0.size : Int) > 400 then (some (([] : List Int), 14)) else ((fluxionref04_number.f k a0).bind fun t497 => ((fluxionref01_Bits.f k t497).bind fun t500 => (if t500 > 1024 then (some (([] : List Int), 14)) else (some (t497, 0)))))) else (some (([] : List Int), 19)))
set_option maxHeartbeats 8000000 in
set_option maxRecDepth 100000 in
theorem fluxionref04_ParseNat.calls (k : Nat) (a0 : ByteArray) (r1 : List Int) (r2 : Int) (w : World) (h : fluxionref04_ParseNat.f k a0 = some (r1, r2)) :
    Calls Tryz.prog 41 #[.string a0] w fun e w' => ∃ v0_ : Value, e = .returned (.tuple #[v0_, .int .i64 r2]) ∧ Kd.R (Kd.int .i64) 3 w' w.heap.size (fun _ => True) v0_ r1 ∧ Below w.heap.size w w' := by
  have HB := Aside0.mk (Below.refl w.heap.size w)
  have H : ((fluxionref04_natural.f k a0).bind fun t496 => (if t496 = true then (if (a0.size : Int) > 400 then (some (([] : List Int), 14)) else ((fluxionref04_number.f k a0).bind fun t497 => ((fluxionref01_Bits.f k t497).bind fun t500 => (if t500 > 1024 then (some (([] : List Int), 14)) else (some (t497, 0)))))) else (some (([] : List Int), 19)))) = some (r1, r2) := h
  clear h
  replace H := Option.bind_eq_some_iff.mp H
  obtain ⟨t496, A20, H⟩ := H
  try dsimp only at H
  have A2 := Aside0.mk A20
  clear A20
  by_cases c3 : t496 = true
  · subst c3
    have H1 : (if (a0.size : Int) > 400 then (some (([] : List Int), 14)) else ((fluxionref04_number.f k a0).bind fun t497 => ((fluxionref01_Bits.f k t497).bind fun t500 => (if t500 > 1024 then (some (([] : List Int), 14)) else (some (t497, 0)))))) = some (r1, r2) := by rw [if_pos rfl] at H; exact H
    clear H
    have H := H1
    clear H1
    by_cases c4 : (a0.size : Int) > 400
    · rw [if_pos c4] at H
      have c4b0 : decide (400 < (a0.size : Int)) = true := decide_eq_true c4
      have c4b1 : decide (400 < a0.size) = true := decide_eq_true (by omega)
      clear c4
      simp only [Option.some.injEq, Prod.mk.injEq] at H
      obtain ⟨rfl, rfl⟩ := H
      go_enter Tryz.func41, Tryz.ntmps41
      go_wp2_with (first | ((with_reducible refine gate_callee (f := 40) rfl ?_); refine goesL_ (some 6) rfl rfl Tryz.func40 (by kernel_rfl) rfl #[.string a0] rfl (by (try simp only [List.map_toArray, List.map_cons, List.map_nil]); first | done | rfl | (simp only [List.length_drop, List.length_take]; rfl)) ?_; (with_reducible refine (fluxionref04_natural.calls k a0 true _ A2.out).mono ?_); rintro e w' ⟨rfl, ⟨nd, rfl⟩⟩; refine ⟨_, rfl, ?_⟩))
      go_ret2
      exact ⟨_, by first | rfl | (simp [errW_none, errW_some] <;> rfl) | (simp [*, errW_none, errW_some] <;> rfl), by first | exact Kd.R_nil _ _ _ _ _ | exact Kd.N_nil _ _ _ _ _ | exact Kd.V_nil _ _ _ _ _ | exact Kd.Q_nil _ _ _ _ _ | exact Kd.S_nil _ _ _ _ _, by repeat (first | (with_reducible first | exact HB.out | apply below_alloc | apply pw_below_drewN | apply below_drew1) | exact HB.out)⟩
    · rw [if_neg c4] at H
      have c4b0 : decide (400 < (a0.size : Int)) = false := decide_eq_false c4
      have c4b1 : decide (400 < a0.size) = false := decide_eq_false (by omega)
      clear c4
      replace H := Option.bind_eq_some_iff.mp H
      obtain ⟨t497, A50, H⟩ := H
      try dsimp only at H
      have A5 := Aside0.mk A50
      clear A50
      replace H := Option.bind_eq_some_iff.mp H
      obtain ⟨t500, A60, H⟩ := H
      try dsimp only at H
      have A6 := Aside0.mk A60
      clear A60
      by_cases c7 : t500 > 1024
      · rw [if_pos c7] at H
        have c7b0 : decide (1024 < t500) = true := decide_eq_true c7
        clear c7
        simp only [Option.some.injEq, Prod.mk.injEq] at H
        obtain ⟨rfl, rfl⟩ := H
        go_enter Tryz.func41, Tryz.ntmps41
        go_wp2_with (first | ((with_reducible refine gate_callee (f := 40) rfl ?_); refine goesL_ (some 6) rfl rfl Tryz.func40 (by kernel_rfl) rfl #[.string a0] rfl (by (try simp only [List.map_toArray, List.map_cons, List.map_nil]); first | done | rfl | (simp only [List.length_drop, List.length_take]; rfl)) ?_; (with_reducible refine (fluxionref04_natural.calls k a0 true _ A2.out).mono ?_); rintro e w' ⟨rfl, ⟨nd, rfl⟩⟩; refine ⟨_, rfl, ?_⟩) | ((with_reducible refine gate_callee (f := 78) rfl ?_); refine goesL_ (some 12) rfl rfl Tryz.func78 (by kernel_rfl) rfl #[.string a0] rfl (by (try simp only [List.map_toArray, List.map_cons, List.map_nil]); first | done | rfl | (simp only [List.length_drop, List.length_take]; rfl)) ?_; (with_reducible refine (fluxionref04_number.calls k a0 t497 _ A5.out).mono ?_); rintro e w8 ⟨v498, rfl, ho0, hb⟩; refine ⟨_, rfl, ?_⟩; have n0_ := Aside0.mk (Kd.R_lower ho0 (below_size (by repeat (first | (with_reducible first | exact HB.out | apply below_alloc | apply pw_below_drewN | apply below_drew1) | exact HB.out)))); have n1_ := Aside0.mk (below_step (by repeat (first | (with_reducible first | exact HB.out | apply below_alloc | apply pw_below_drewN | apply below_drew1) | exact HB.out)) hb); clear HB; have HO499 := n0_; have HB := n1_; clear n0_ n1_; (try clear hb); (try clear hb2); (try clear hk); (try clear hi); (try clear ho0); obtain ⟨Ao9, co9, eo9⟩ := Kd.R_slice HO499.out; subst eo9) | ((with_reducible refine gate_callee (f := 18) rfl ?_); refine goesL_ (some 14) rfl rfl Tryz.func18 (by kernel_rfl) rfl #[.slice Ao9 t497.length co9] rfl (by (try simp only [List.map_toArray, List.map_cons, List.map_nil]); first | done | rfl | (simp only [List.length_drop, List.length_take]; rfl)) ?_; (with_reducible refine (fluxionref01_Bits.calls k (fun k_ => some k_ = (.slice Ao9 t497.length co9 : Value).ownBlock) _ _ t497 t500 _ ?side1 A6.out).mono ?_); (case side1 => exact Kd.R_V (Kd.R_tight rfl (HO499.out))); rintro e w10 ⟨rfl, hb⟩; refine ⟨_, rfl, ?_⟩; have n0_ := Aside0.mk (Kd.R_below (by exact HO499.out) hb); have n1_ := Aside0.mk (below_step (by repeat (first | (with_reducible first | exact HB.out | apply below_alloc | apply pw_below_drewN | apply below_drew1) | exact HB.out)) hb); clear HO499; clear HB; have HO499 := n0_; have HB := n1_; clear n0_ n1_; (try clear hb); (try clear hb2); (try clear hk); (try clear hi)))
        go_ret2
        exact ⟨_, by first | rfl | (simp [errW_none, errW_some] <;> rfl) | (simp [*, errW_none, errW_some] <;> rfl), by first | exact Kd.R_nil _ _ _ _ _ | exact Kd.N_nil _ _ _ _ _ | exact Kd.V_nil _ _ _ _ _ | exact Kd.Q_nil _ _ _ _ _ | exact Kd.S_nil _ _ _ _ _, by repeat (first | (with_reducible first | exact HB.out | apply below_alloc | apply pw_below_drewN | apply below_drew1) | exact HB.out)⟩
      · rw [if_neg c7] at H
        have c7b0 : decide (1024 < t500) = false := decide_eq_false c7
        clear c7
        simp only [Option.some.injEq, Prod.mk.injEq] at H
        obtain ⟨rfl, rfl⟩ := H
        go_enter Tryz.func41, Tryz.ntmps41
        go_wp2_with (first | ((with_reducible refine gate_callee (f := 40) rfl ?_); refine goesL_ (some 6) rfl rfl Tryz.func40 (by kernel_rfl) rfl #[.string a0] rfl (by (try simp only [List.map_toArray, List.map_cons, List.map_nil]); first | done | rfl | (simp only [List.length_drop, List.length_take]; rfl)) ?_; (with_reducible refine (fluxionref04_natural.calls k a0 true _ A2.out).mono ?_); rintro e w' ⟨rfl, ⟨nd, rfl⟩⟩; refine ⟨_, rfl, ?_⟩) | ((with_reducible refine gate_callee (f := 78) rfl ?_); refine goesL_ (some 12) rfl rfl Tryz.func78 (by kernel_rfl) rfl #[.string a0] rfl (by (try simp only [List.map_toArray, List.map_cons, List.map_nil]); first | done | rfl | (simp only [List.length_drop, List.length_take]; rfl)) ?_; (with_reducible refine (fluxionref04_number.calls k a0 t497 _ A5.out).mono ?_); rintro e w11 ⟨v498, rfl, ho0, hb⟩; refine ⟨_, rfl, ?_⟩; have n0_ := Aside0.mk (Kd.R_lower ho0 (below_size (by repeat (first | (with_reducible first | exact HB.out | apply below_alloc | apply pw_below_drewN | apply below_drew1) | exact HB.out)))); have n1_ := Aside0.mk (below_step (by repeat (first | (with_reducible first | exact HB.out | apply below_alloc | apply pw_below_drewN | apply below_drew1) | exact HB.out)) hb); clear HB; have HO499 := n0_; have HB := n1_; clear n0_ n1_; (try clear hb); (try clear hb2); (try clear hk); (try clear hi); (try clear ho0); obtain ⟨Ao12, co12, eo12⟩ := Kd.R_slice HO499.out; subst eo12) | ((with_reducible refine gate_callee (f := 18) rfl ?_); refine goesL_ (some 14) rfl rfl Tryz.func18 (by kernel_rfl) rfl #[.slice Ao12 t497.length co12] rfl (by (try simp only [List.map_toArray, List.map_cons, List.map_nil]); first | done | rfl | (simp only [List.length_drop, List.length_take]; rfl)) ?_; (with_reducible refine (fluxionref01_Bits.calls k (fun k_ => some k_ = (.slice Ao12 t497.length co12 : Value).ownBlock) _ _ t497 t500 _ ?side1 A6.out).mono ?_); (case side1 => exact Kd.R_V (Kd.R_tight rfl (HO499.out))); rintro e w13 ⟨rfl, hb⟩; refine ⟨_, rfl, ?_⟩; have n0_ := Aside0.mk (Kd.R_below (by exact HO499.out) hb); have n1_ := Aside0.mk (below_step (by repeat (first | (with_reducible first | exact HB.out | apply below_alloc | apply pw_below_drewN | apply below_drew1) | exact HB.out)) hb); clear HO499; clear HB; have HO499 := n0_; have HB := n1_; clear n0_ n1_; (try clear hb); (try clear hb2); (try clear hk); (try clear hi)))
        go_ret2
        exact ⟨_, by first | rfl | (simp [errW_none, errW_some] <;> rfl) | (simp [*, errW_none, errW_some] <;> rfl), by exact HO499.out, by repeat (first | (with_reducible first | exact HB.out | apply below_alloc | apply pw_below_drewN | apply below_drew1) | exact HB.out)⟩
  · replace c3 := Bool.eq_false_iff.mpr c3
    subst c3
    have H1 : (some (([] : List Int), 19)) = some (r1, r2) := by rw [if_neg (show ¬ (false = true) by decide)] at H; exact H
    clear H
    have H := H1
    clear H1
    simp only [Option.some.injEq, Prod.mk.injEq] at H
    obtain ⟨rfl, rfl⟩ := H
    go_enter Tryz.func41, Tryz.ntmps41
    go_wp2_with (first | ((with_reducible refine gate_callee (f := 40) rfl ?_); refine goesL_ (some 6) rfl rfl Tryz.func40 (by kernel_rfl) rfl #[.string a0] rfl (by (try simp only [List.map_toArray, List.map_cons, List.map_nil]); first | done | rfl | (simp only [List.length_drop, List.length_take]; rfl)) ?_; (with_reducible refine (fluxionref04_natural.calls k a0 false _ A2.out).mono ?_); rintro e w' ⟨rfl, ⟨nd, rfl⟩⟩; refine ⟨_, rfl, ?_⟩))
    go_ret2
    exact ⟨_, by first | rfl | (simp [errW_none, errW_some] <;> rfl) | (simp [*, errW_none, errW_some] <;> rfl), by first | exact Kd.R_nil _ _ _ _ _ | exact Kd.N_nil _ _ _ _ _ | exact Kd.V_nil _ _ _ _ _ | exact Kd.Q_nil _ _ _ _ _ | exact Kd.S_nil _ _ _ _ _, by repeat (first | (with_reducible first | exact HB.out | apply below_alloc | apply pw_below_drewN | apply below_drew1) | exact HB.out)⟩

def fluxionref01_Canonical.f (l0 : List Int) : Option (Bool) := if (l0.length : Int) = 0 then (some true) else (if 0 ≤ (wrap64 ((l0.length : Int) - 1)) then (if (wrap64 ((l0.length : Int) - 1)) < (l0.length : Int) then (some ((rd l0 (wrap64 ((l0.length : Int) - 1))) != 0)) else (none)) else (none))
set_option maxHeartbeats 8000000 in
set_option maxRecDepth 100000 in
theorem fluxionref01_Canonical.calls (A0 : Option Addr) (c0 : Nat) (l0 : List Int) (r : Bool) (w : World) (hr0 : Kd.C (Kd.int .u32) w A0 l0.length l0) (hc0 : l0.length ≤ c0) (h : fluxionref01_Canonical.f l0 = some r) :
    Calls Tryz.prog 53 #[.slice A0 l0.length c0] w fun e w' => e = .returned (.bool r) ∧ Drawn0 w w' := by
  have HR0 := Aside0.mk hr0
  have HC0 := Aside0.mk hc0
  clear hr0 hc0
  have H : (if (l0.length : Int) = 0 then (some true) else (if 0 ≤ (wrap64 ((l0.length : Int) - 1)) then (if (wrap64 ((l0.length : Int) - 1)) < (l0.length : Int) then (some ((rd l0 (wrap64 ((l0.length : Int) - 1))) != 0)) else (none)) else (none))) = some r := h
  clear h
  by_cases c2 : (l0.length : Int) = 0
  · rw [if_pos c2] at H
    have c2b0 : ((l0.length : Int) == 0) = true := beq_iff_eq.mpr c2
    have c2b1 : ((l0.length : Int) != 0) = false := bne_eq_false_iff_eq.mpr c2
    clear c2
    obtain rfl := Option.some.inj H
    go_enter Tryz.func53, Tryz.ntmps53
    go_wp2
    go_ret
    exact ⟨by first | rfl | (simp; done) | (simp [*]; done), by repeat (first | exact Drawn0.refl _ | apply Drawn0.step)⟩
  · rw [if_neg c2] at H
    have c2b0 : ((l0.length : Int) == 0) = false := beq_eq_false_iff_ne.mpr c2
    have c2b1 : ((l0.length : Int) != 0) = true := bne_iff_ne.mpr c2
    have c2b2 : ¬ (l0 = []) := fun h_ => c2 (by rw [h_]; rfl)
    obtain ⟨ji3, hji3⟩ : ∃ j_ : Int, (wrap64 ((l0.length : Int) - 1)) = j_ := ⟨_, rfl⟩
    first | rewrite [hji3] at H | simp only [hji3] at H
    have hji3w : (IntKind.i64.wrap ((l0.length : Int) - 1)) = ji3 := (i64_w _).trans hji3
    by_cases c4 : 0 ≤ (ji3)
    · rw [if_pos c4] at H
      have c4b0 : decide (0 ≤ (ji3)) = true := decide_eq_true c4
      clear c4
      by_cases c5 : (ji3) < (l0.length : Int)
      · rw [if_pos c5] at H
        have c5b0 : decide ((ji3) < (l0.length : Int)) = true := decide_eq_true c5
        clear c5
        obtain rfl := Option.some.inj H
        have p524 : 0 ≤ ((ji3) : Int) := of_decide_eq_true (by first | (with_reducible assumption) | assumption)
        have q524 : (ji3) < (l0.length : Int) := of_decide_eq_true (by first | (with_reducible assumption) | assumption)
        obtain ⟨ad524, e524, hx524_0⟩ := Kd.at_int HR0.out (ji3) p524 q524
        cases e524
        replace p524 := eq_true p524
        replace q524 := eq_true q524
        go_enter Tryz.func53, Tryz.ntmps53
        go_wp2
        go_ret
        exact ⟨by first | rfl | (simp; done) | (simp only [← hji3] <;> (first | rfl | simp)) | (simp [*]; done), by repeat (first | exact Drawn0.refl _ | apply Drawn0.step)⟩
      · rw [if_neg c5] at H
        exact absurd H (by simp)
    · rw [if_neg c4] at H
      exact absurd H (by simp)

def fluxionref01_Is.f (k : Nat) (l0 : List Int) (l1 : List Int) : Option (Bool) := (fluxionref01_Canonical.f l1).bind fun t525 => (if t525 = true then ((fluxionref01_Of.f k l1).bind fun t526 => ((fluxionref01_Cmp.f k t526 l0).bind fun t529 => (some (t529 == 0)))) else (some false))
set_option maxHeartbeats 8000000 in
set_option maxRecDepth 100000 in
theorem fluxionref01_Is.calls (k : Nat) (A0 : Option Addr) (c0 : Nat) (l0 : List Int) (A1 : Option Addr) (c1 : Nat) (l1 : List Int) (r : Bool) (w : World) (hr0 : Kd.C (Kd.int .i64) w A0 l0.length l0) (hc0 : l0.length ≤ c0) (hr1 : Kd.C (Kd.int .u32) w A1 l1.length l1) (hc1 : l1.length ≤ c1) (h : fluxionref01_Is.f k l0 l1 = some r) :
    Calls Tryz.prog 20 #[.slice A0 l0.length c0, .slice A1 l1.length c1] w fun e w' => e = .returned (.bool r) ∧ Below w.heap.size w w' := by
  have HR0 := Aside0.mk hr0
  have HC0 := Aside0.mk hc0
  clear hr0 hc0
  have HR1 := Aside0.mk hr1
  have HC1 := Aside0.mk hc1
  clear hr1 hc1
  have HB := Aside0.mk (Below.refl w.heap.size w)
  have H : ((fluxionref01_Canonical.f l1).bind fun t525 => (if t525 = true then ((fluxionref01_Of.f k l1).bind fun t526 => ((fluxionref01_Cmp.f k t526 l0).bind fun t529 => (some (t529 == 0)))) else (some false))) = some r := h
  clear h
  replace H := Option.bind_eq_some_iff.mp H
  obtain ⟨t525, A30, H⟩ := H
  try dsimp only at H
  have A3 := Aside0.mk A30
  clear A30
  by_cases c4 : t525 = true
  · subst c4
    have H1 : ((fluxionref01_Of.f k l1).bind fun t526 => ((fluxionref01_Cmp.f k t526 l0).bind fun t529 => (some (t529 == 0)))) = some r := by rw [if_pos rfl] at H; exact H
    clear H
    have H := H1
    clear H1
    replace H := Option.bind_eq_some_iff.mp H
    obtain ⟨t526, A50, H⟩ := H
    try dsimp only at H
    have A5 := Aside0.mk A50
    clear A50
    replace H := Option.bind_eq_some_iff.mp H
    obtain ⟨t529, A60, H⟩ := H
    try dsimp only at H
    have A6 := Aside0.mk A60
    clear A60
    obtain rfl := Option.some.inj H
    go_enter Tryz.func20, Tryz.ntmps20
    go_wp2_with (first | ((with_reducible refine gate_callee (f := 53) rfl ?_); refine goesL_ (some 6) rfl rfl Tryz.func53 (by kernel_rfl) rfl #[.slice A1 l1.length c1] rfl (by (try simp only [List.map_toArray, List.map_cons, List.map_nil]); first | done | rfl | (simp only [List.length_drop, List.length_take]; rfl)) ?_; (with_reducible refine (fluxionref01_Canonical.calls _ _ l1 true _ ?side1 ?side2 A3.out).mono ?_); (case side1 => repeat (first | exact HR1.out | (with_reducible refine Kd.C_alloc ?_ _) | (with_reducible refine Kd.C_drewN ?_ _) | (with_reducible refine Kd.C_drew ?_))); (case side2 => exact HC1.out); rintro e w' ⟨rfl, ⟨nd, rfl⟩⟩; refine ⟨_, rfl, ?_⟩) | (go_at_call 19; (with_reducible refine (fluxionref01_Of.calls k _ _ l1 t526 _ ?side1 ?side2 A5.out).mono ?_); (case side1 => repeat (first | exact HR1.out | (with_reducible refine Kd.C_alloc ?_ _) | (with_reducible refine Kd.C_drewN ?_ _) | (with_reducible refine Kd.C_drew ?_))); (case side2 => exact HC1.out); rintro e w7 ⟨v527, rfl, ho0, hb⟩; have n0_ := Aside0.mk (Kd.R_lower ho0 (below_size (by repeat (first | (with_reducible first | exact HB.out | apply below_alloc | apply pw_below_drewN | apply below_drew1) | exact HB.out)))); have n1_ := Aside0.mk (below_step (by repeat (first | (with_reducible first | exact HB.out | apply below_alloc | apply pw_below_drewN | apply below_drew1) | exact HB.out)) hb); clear HB; have HO528 := n0_; have HB := n1_; clear n0_ n1_; (try clear hb); (try clear hb2); (try clear hk); (try clear hi); (try clear ho0); obtain ⟨Ao8, co8, eo8⟩ := Kd.R_slice HO528.out; subst eo8) | (go_at_call 22; (with_reducible refine (fluxionref01_Cmp.calls k _ _ t526 _ _ l0 t529 _ ?side1 ?side2 ?side3 ?side4 A6.out).mono ?_); (case side1 => repeat (first | exact (Kd.R_reads' HO528.out).2.2 | (with_reducible refine Kd.C_alloc ?_ _) | (with_reducible refine Kd.C_drewN ?_ _) | (with_reducible refine Kd.C_drew ?_))); (case side2 => exact (Kd.R_reads' HO528.out).2.1); (case side3 => repeat (first | exact (Kd.C_below HR0.out HB.out) | (with_reducible refine Kd.C_alloc ?_ _) | (with_reducible refine Kd.C_drewN ?_ _) | (with_reducible refine Kd.C_drew ?_))); (case side4 => exact HC0.out); rintro e w' ⟨rfl, ⟨nd, rfl⟩⟩))
    go_ret
    exact ⟨by first | rfl | (simp [errW_none, errW_some] <;> rfl) | (simp [*, errW_none, errW_some] <;> rfl), by repeat (first | (with_reducible first | exact HB.out | apply below_alloc | apply pw_below_drewN | apply below_drew1) | exact HB.out)⟩
  · replace c4 := Bool.eq_false_iff.mpr c4
    subst c4
    have H1 : (some false) = some r := by rw [if_neg (show ¬ (false = true) by decide)] at H; exact H
    clear H
    have H := H1
    clear H1
    obtain rfl := Option.some.inj H
    go_enter Tryz.func20, Tryz.ntmps20
    go_wp2_with (first | ((with_reducible refine gate_callee (f := 53) rfl ?_); refine goesL_ (some 6) rfl rfl Tryz.func53 (by kernel_rfl) rfl #[.slice A1 l1.length c1] rfl (by (try simp only [List.map_toArray, List.map_cons, List.map_nil]); first | done | rfl | (simp only [List.length_drop, List.length_take]; rfl)) ?_; (with_reducible refine (fluxionref01_Canonical.calls _ _ l1 false _ ?side1 ?side2 A3.out).mono ?_); (case side1 => repeat (first | exact HR1.out | (with_reducible refine Kd.C_alloc ?_ _) | (with_reducible refine Kd.C_drewN ?_ _) | (with_reducible refine Kd.C_drew ?_))); (case side2 => exact HC1.out); rintro e w' ⟨rfl, ⟨nd, rfl⟩⟩; refine ⟨_, rfl, ?_⟩))
    go_ret
    exact ⟨by first | rfl | (simp [errW_none, errW_some] <;> rfl) | (simp [*, errW_none, errW_some] <;> rfl), by repeat (first | (with_reducible first | exact HB.out | apply below_alloc | apply pw_below_drewN | apply below_drew1) | exact HB.out)⟩

def fluxionref03_Is.f (k : Nat) (a0_0 : Bool) (l0_1 : List Int) (l0_2 : List Int) (a1_0 : Bool) (l1_1 : List Int) (l1_2 : List Int) : Option (Bool) := if (a1_0 == a0_0) = true then ((fluxionref01_Is.f k l0_1 l1_1).bind fun t532 => (if t532 = true then ((fluxionref01_Is.f k l0_2 l1_2).bind fun t533 => (some t533)) else (some false))) else (some false)
set_option maxHeartbeats 8000000 in
set_option maxRecDepth 100000 in
theorem fluxionref03_Is.calls (k : Nat) (a0_0 : Bool) (A0_1 : Option Addr) (c0_1 : Nat) (l0_1 : List Int) (A0_2 : Option Addr) (c0_2 : Nat) (l0_2 : List Int) (a1_0 : Bool) (A1_1 : Option Addr) (c1_1 : Nat) (l1_1 : List Int) (A1_2 : Option Addr) (c1_2 : Nat) (l1_2 : List Int) (r : Bool) (w : World) (hr0_1 : Kd.C (Kd.int .i64) w A0_1 l0_1.length l0_1) (hc0_1 : l0_1.length ≤ c0_1) (hr0_2 : Kd.C (Kd.int .i64) w A0_2 l0_2.length l0_2) (hc0_2 : l0_2.length ≤ c0_2) (hr1_1 : Kd.C (Kd.int .u32) w A1_1 l1_1.length l1_1) (hc1_1 : l1_1.length ≤ c1_1) (hr1_2 : Kd.C (Kd.int .u32) w A1_2 l1_2.length l1_2) (hc1_2 : l1_2.length ≤ c1_2) (h : fluxionref03_Is.f k a0_0 l0_1 l0_2 a1_0 l1_1 l1_2 = some r) :
    Calls Tryz.prog 15 #[.agg #[.bool a0_0, .slice A0_1 l0_1.length c0_1, .slice A0_2 l0_2.length c0_2], .agg #[.bool a1_0, .slice A1_1 l1_1.length c1_1, .slice A1_2 l1_2.length c1_2]] w fun e w' => e = .returned (.bool r) ∧ Below w.heap.size w w' := by
  have hu32 := Tryz.underlying32
  have hu25 := Tryz.underlying25
  have HR0_1 := Aside0.mk hr0_1
  have HC0_1 := Aside0.mk hc0_1
  clear hr0_1 hc0_1
  have HR0_2 := Aside0.mk hr0_2
  have HC0_2 := Aside0.mk hc0_2
  clear hr0_2 hc0_2
  have HR1_1 := Aside0.mk hr1_1
  have HC1_1 := Aside0.mk hc1_1
  clear hr1_1 hc1_1
  have HR1_2 := Aside0.mk hr1_2
  have HC1_2 := Aside0.mk hc1_2
  clear hr1_2 hc1_2
  have HB := Aside0.mk (Below.refl w.heap.size w)
  have H : (if (a1_0 == a0_0) = true then ((fluxionref01_Is.f k l0_1 l1_1).bind fun t532 => (if t532 = true then ((fluxionref01_Is.f k l0_2 l1_2).bind fun t533 => (some t533)) else (some false))) else (some false)) = some r := h
  clear h
  by_cases c3 : (a1_0 == a0_0) = true
  · rw [if_pos c3] at H
    have c3b0 : (a1_0 == a0_0) = true := c3
    (try (have c3b1 : decide (a1_0 = a0_0) = true := by simpa using c3))
    (try (have c3b2 : (a1_0 == a0_0) = true := by simpa using c3))
    clear c3
    replace H := Option.bind_eq_some_iff.mp H
    obtain ⟨t532, A40, H⟩ := H
    try dsimp only at H
    have A4 := Aside0.mk A40
    clear A40
    by_cases c5 : t532 = true
    · subst c5
      have H1 : ((fluxionref01_Is.f k l0_2 l1_2).bind fun t533 => (some t533)) = some r := by rw [if_pos rfl] at H; exact H
      clear H
      have H := H1
      clear H1
      replace H := Option.bind_eq_some_iff.mp H
      obtain ⟨t533, A60, H⟩ := H
      try dsimp only at H
      have A6 := Aside0.mk A60
      clear A60
      obtain rfl := Option.some.inj H
      go_enter Tryz.func15, Tryz.ntmps15
      go_wp2_with (first | ((with_reducible refine gate_dst (N := 2) rfl ?_); refine box_event ?hg (N := 2) ?hd (cs := #[.bool a0_0, .slice A0_1 l0_1.length c0_1, .slice A0_2 l0_2.length c0_2]) (t := 32) ?hr ?_; (case hd => rfl); (case hg => rfl); (case hr => first | (go_simp; done) | (go_simp; rfl)); intro gb530 hg w7 hbox hb; have n0_ := Aside0.mk (below_step (by repeat (first | (with_reducible first | exact HB.out | apply below_alloc | apply pw_below_drewN | apply below_drew1) | exact HB.out)) hb); have n1_ := Aside0.mk (hbox); have n2_ := Aside0.mk ((by rw [hg]; exact (below_size (by repeat (first | (with_reducible first | exact HB.out | apply below_alloc | apply pw_below_drewN | apply below_drew1) | exact HB.out))) : w.heap.size ≤ gb530)); have n3_ := Aside0.mk ((by rw [hg]; exact (below_size (by repeat (first | (with_reducible first | exact HB.out | apply below_alloc | apply pw_below_drewN | apply below_drew1) | exact HB.out))) : w.heap.size ≤ gb530)); clear HB; have HB := n0_; have BK530 := n1_; have GW530 := n2_; have GE530 := n3_; clear n0_ n1_ n2_ n3_; clear hb hbox hg) | ((with_reducible refine gate_dst (N := 3) rfl ?_); refine box_event ?hg (N := 3) ?hd (cs := #[.bool a1_0, .slice A1_1 l1_1.length c1_1, .slice A1_2 l1_2.length c1_2]) (t := 25) ?hr ?_; (case hd => rfl); (case hg => rfl); (case hr => first | (go_simp; done) | (go_simp; rfl)); intro gb531 hg w8 hbox hb; have n0_ := Aside0.mk (blk_below (g := gb530) (o := .cells #[.bool a0_0, .slice A0_1 l0_1.length c0_1, .slice A0_2 l0_2.length c0_2] 32 (0, 0)) (by exact BK530.out) hb); have n1_ := Aside0.mk (below_step (by repeat (first | (with_reducible first | exact HB.out | apply below_alloc | apply pw_below_drewN | apply below_drew1 | refine below_set ?_ GE530.out) | exact HB.out)) hb); have n2_ := Aside0.mk (hbox); have n3_ := Aside0.mk ((by rw [hg]; exact (below_size (by repeat (first | (with_reducible first | exact HB.out | apply below_alloc | apply pw_below_drewN | apply below_drew1 | refine below_set ?_ GE530.out) | exact HB.out))) : w.heap.size ≤ gb531)); have n4_ := Aside0.mk ((by rw [hg]; exact (below_size (by repeat (first | (with_reducible first | exact HB.out | apply below_alloc | apply pw_below_drewN | apply below_drew1 | refine below_set ?_ GE530.out) | exact HB.out))) : w.heap.size ≤ gb531)); have n5_ := Aside0.mk ((by rw [hg]; exact Nat.ne_of_lt (blk_lt (g := gb530) (o := .cells #[.bool a0_0, .slice A0_1 l0_1.length c0_1, .slice A0_2 l0_2.length c0_2] 32 (0, 0)) (by exact BK530.out)) : gb530 ≠ gb531)); have n6_ := Aside0.mk ((by rw [hg]; exact Nat.ne_of_gt (blk_lt (g := gb530) (o := .cells #[.bool a0_0, .slice A0_1 l0_1.length c0_1, .slice A0_2 l0_2.length c0_2] 32 (0, 0)) (by exact BK530.out)) : gb531 ≠ gb530)); clear BK530; clear HB; have BK530 := n0_; have HB := n1_; have BK531 := n2_; have GW531 := n3_; have GE531 := n4_; have NB530_531 := n5_; have NB531_530 := n6_; clear n0_ n1_ n2_ n3_ n4_ n5_ n6_; clear hb hbox hg; have hnb9 := NB531_530.out; have hnc9 := NB530_531.out; have hcz10_0 : w8.cell? ⟨gb531, 0, none⟩ = some (.bool a1_0) := (blk_cell BK531.out 0).trans rfl; have hcz10_1 : w8.cell? ⟨gb531, 1, none⟩ = some (.slice A1_1 l1_1.length c1_1) := (blk_cell BK531.out 1).trans rfl; have hcz10_2 : w8.cell? ⟨gb531, 2, none⟩ = some (.slice A1_2 l1_2.length c1_2) := (blk_cell BK531.out 2).trans rfl; have hfz10_0 := blk_frozen BK531.out 0; have hfz10_1 := blk_frozen BK531.out 1; have hfz10_2 := blk_frozen BK531.out 2; have hcz11_0 : w8.cell? ⟨gb530, 0, none⟩ = some (.bool a0_0) := (blk_cell BK530.out 0).trans rfl; have hcz11_1 : w8.cell? ⟨gb530, 1, none⟩ = some (.slice A0_1 l0_1.length c0_1) := (blk_cell BK530.out 1).trans rfl; have hcz11_2 : w8.cell? ⟨gb530, 2, none⟩ = some (.slice A0_2 l0_2.length c0_2) := (blk_cell BK530.out 2).trans rfl; have hfz11_0 := blk_frozen BK530.out 0; have hfz11_1 := blk_frozen BK530.out 1; have hfz11_2 := blk_frozen BK530.out 2) | (go_at_call 20; (with_reducible refine (fluxionref01_Is.calls k _ _ l0_1 _ _ l1_1 true _ ?side1 ?side2 ?side3 ?side4 A4.out).mono ?_); (case side1 => repeat (first | exact (Kd.C_below HR0_1.out HB.out) | (with_reducible refine Kd.C_alloc ?_ _) | (with_reducible refine Kd.C_drewN ?_ _) | (with_reducible refine Kd.C_drew ?_))); (case side2 => exact HC0_1.out); (case side3 => repeat (first | exact (Kd.C_below HR1_1.out HB.out) | (with_reducible refine Kd.C_alloc ?_ _) | (with_reducible refine Kd.C_drewN ?_ _) | (with_reducible refine Kd.C_drew ?_))); (case side4 => exact HC1_1.out); rintro e w12 ⟨rfl, hb⟩; have n0_ := Aside0.mk (blk_below (g := gb530) (o := .cells #[.bool a0_0, .slice A0_1 l0_1.length c0_1, .slice A0_2 l0_2.length c0_2] 32 (0, 0)) (by exact BK530.out) hb); have n1_ := Aside0.mk (blk_below (g := gb531) (o := .cells #[.bool a1_0, .slice A1_1 l1_1.length c1_1, .slice A1_2 l1_2.length c1_2] 25 (0, 0)) (by exact BK531.out) hb); have n2_ := Aside0.mk (below_step (by repeat (first | (with_reducible first | exact HB.out | apply below_alloc | apply pw_below_drewN | apply below_drew1 | refine below_set ?_ GE530.out | refine below_set ?_ GE531.out) | exact HB.out)) hb); clear BK530; clear BK531; clear HB; have BK530 := n0_; have BK531 := n1_; have HB := n2_; clear n0_ n1_ n2_; (try clear hb); (try clear hb2); (try clear hk); (try clear hi); have hcz13_0 : w12.cell? ⟨gb530, 0, none⟩ = some (.bool a0_0) := (blk_cell BK530.out 0).trans rfl; have hcz13_1 : w12.cell? ⟨gb530, 1, none⟩ = some (.slice A0_1 l0_1.length c0_1) := (blk_cell BK530.out 1).trans rfl; have hcz13_2 : w12.cell? ⟨gb530, 2, none⟩ = some (.slice A0_2 l0_2.length c0_2) := (blk_cell BK530.out 2).trans rfl; have hfz13_0 := blk_frozen BK530.out 0; have hfz13_1 := blk_frozen BK530.out 1; have hfz13_2 := blk_frozen BK530.out 2; have hcz14_0 : w12.cell? ⟨gb531, 0, none⟩ = some (.bool a1_0) := (blk_cell BK531.out 0).trans rfl; have hcz14_1 : w12.cell? ⟨gb531, 1, none⟩ = some (.slice A1_1 l1_1.length c1_1) := (blk_cell BK531.out 1).trans rfl; have hcz14_2 : w12.cell? ⟨gb531, 2, none⟩ = some (.slice A1_2 l1_2.length c1_2) := (blk_cell BK531.out 2).trans rfl; have hfz14_0 := blk_frozen BK531.out 0; have hfz14_1 := blk_frozen BK531.out 1; have hfz14_2 := blk_frozen BK531.out 2) | (go_at_call 20; (with_reducible refine (fluxionref01_Is.calls k _ _ l0_2 _ _ l1_2 t533 _ ?side1 ?side2 ?side3 ?side4 A6.out).mono ?_); (case side1 => repeat (first | exact (Kd.C_below HR0_2.out HB.out) | (with_reducible refine Kd.C_alloc ?_ _) | (with_reducible refine Kd.C_drewN ?_ _) | (with_reducible refine Kd.C_drew ?_))); (case side2 => exact HC0_2.out); (case side3 => repeat (first | exact (Kd.C_below HR1_2.out HB.out) | (with_reducible refine Kd.C_alloc ?_ _) | (with_reducible refine Kd.C_drewN ?_ _) | (with_reducible refine Kd.C_drew ?_))); (case side4 => exact HC1_2.out); rintro e w15 ⟨rfl, hb⟩; have n0_ := Aside0.mk (blk_below (g := gb530) (o := .cells #[.bool a0_0, .slice A0_1 l0_1.length c0_1, .slice A0_2 l0_2.length c0_2] 32 (0, 0)) (by exact BK530.out) hb); have n1_ := Aside0.mk (blk_below (g := gb531) (o := .cells #[.bool a1_0, .slice A1_1 l1_1.length c1_1, .slice A1_2 l1_2.length c1_2] 25 (0, 0)) (by exact BK531.out) hb); have n2_ := Aside0.mk (below_step (by repeat (first | (with_reducible first | exact HB.out | apply below_alloc | apply pw_below_drewN | apply below_drew1 | refine below_set ?_ GE530.out | refine below_set ?_ GE531.out) | exact HB.out)) hb); clear BK530; clear BK531; clear HB; have BK530 := n0_; have BK531 := n1_; have HB := n2_; clear n0_ n1_ n2_; (try clear hb); (try clear hb2); (try clear hk); (try clear hi)))
      go_ret
      exact ⟨by first | rfl | (simp [errW_none, errW_some] <;> rfl) | (simp [*, errW_none, errW_some] <;> rfl), by repeat (first | (with_reducible first | exact HB.out | apply below_alloc | apply pw_below_drewN | apply below_drew1 | refine below_set ?_ GE530.out | refine below_set ?_ GE531.out) | exact HB.out)⟩
    · replace c5 := Bool.eq_false_iff.mpr c5
      subst c5
      have H1 : (some false) = some r := by rw [if_neg (show ¬ (false = true) by decide)] at H; exact H
      clear H
      have H := H1
      clear H1
      obtain rfl := Option.some.inj H
      go_enter Tryz.func15, Tryz.ntmps15
      go_wp2_with (first | ((with_reducible refine gate_dst (N := 2) rfl ?_); refine box_event ?hg (N := 2) ?hd (cs := #[.bool a0_0, .slice A0_1 l0_1.length c0_1, .slice A0_2 l0_2.length c0_2]) (t := 32) ?hr ?_; (case hd => rfl); (case hg => rfl); (case hr => first | (go_simp; done) | (go_simp; rfl)); intro gb530 hg w16 hbox hb; have n0_ := Aside0.mk (below_step (by repeat (first | (with_reducible first | exact HB.out | apply below_alloc | apply pw_below_drewN | apply below_drew1) | exact HB.out)) hb); have n1_ := Aside0.mk (hbox); have n2_ := Aside0.mk ((by rw [hg]; exact (below_size (by repeat (first | (with_reducible first | exact HB.out | apply below_alloc | apply pw_below_drewN | apply below_drew1) | exact HB.out))) : w.heap.size ≤ gb530)); have n3_ := Aside0.mk ((by rw [hg]; exact (below_size (by repeat (first | (with_reducible first | exact HB.out | apply below_alloc | apply pw_below_drewN | apply below_drew1) | exact HB.out))) : w.heap.size ≤ gb530)); clear HB; have HB := n0_; have BK530 := n1_; have GW530 := n2_; have GE530 := n3_; clear n0_ n1_ n2_ n3_; clear hb hbox hg) | ((with_reducible refine gate_dst (N := 3) rfl ?_); refine box_event ?hg (N := 3) ?hd (cs := #[.bool a1_0, .slice A1_1 l1_1.length c1_1, .slice A1_2 l1_2.length c1_2]) (t := 25) ?hr ?_; (case hd => rfl); (case hg => rfl); (case hr => first | (go_simp; done) | (go_simp; rfl)); intro gb531 hg w17 hbox hb; have n0_ := Aside0.mk (blk_below (g := gb530) (o := .cells #[.bool a0_0, .slice A0_1 l0_1.length c0_1, .slice A0_2 l0_2.length c0_2] 32 (0, 0)) (by exact BK530.out) hb); have n1_ := Aside0.mk (below_step (by repeat (first | (with_reducible first | exact HB.out | apply below_alloc | apply pw_below_drewN | apply below_drew1 | refine below_set ?_ GE530.out) | exact HB.out)) hb); have n2_ := Aside0.mk (hbox); have n3_ := Aside0.mk ((by rw [hg]; exact (below_size (by repeat (first | (with_reducible first | exact HB.out | apply below_alloc | apply pw_below_drewN | apply below_drew1 | refine below_set ?_ GE530.out) | exact HB.out))) : w.heap.size ≤ gb531)); have n4_ := Aside0.mk ((by rw [hg]; exact (below_size (by repeat (first | (with_reducible first | exact HB.out | apply below_alloc | apply pw_below_drewN | apply below_drew1 | refine below_set ?_ GE530.out) | exact HB.out))) : w.heap.size ≤ gb531)); have n5_ := Aside0.mk ((by rw [hg]; exact Nat.ne_of_lt (blk_lt (g := gb530) (o := .cells #[.bool a0_0, .slice A0_1 l0_1.length c0_1, .slice A0_2 l0_2.length c0_2] 32 (0, 0)) (by exact BK530.out)) : gb530 ≠ gb531)); have n6_ := Aside0.mk ((by rw [hg]; exact Nat.ne_of_gt (blk_lt (g := gb530) (o := .cells #[.bool a0_0, .slice A0_1 l0_1.length c0_1, .slice A0_2 l0_2.length c0_2] 32 (0, 0)) (by exact BK530.out)) : gb531 ≠ gb530)); clear BK530; clear HB; have BK530 := n0_; have HB := n1_; have BK531 := n2_; have GW531 := n3_; have GE531 := n4_; have NB530_531 := n5_; have NB531_530 := n6_; clear n0_ n1_ n2_ n3_ n4_ n5_ n6_; clear hb hbox hg; have hnb18 := NB531_530.out; have hnc18 := NB530_531.out; have hcz19_0 : w17.cell? ⟨gb531, 0, none⟩ = some (.bool a1_0) := (blk_cell BK531.out 0).trans rfl; have hcz19_1 : w17.cell? ⟨gb531, 1, none⟩ = some (.slice A1_1 l1_1.length c1_1) := (blk_cell BK531.out 1).trans rfl; have hcz19_2 : w17.cell? ⟨gb531, 2, none⟩ = some (.slice A1_2 l1_2.length c1_2) := (blk_cell BK531.out 2).trans rfl; have hfz19_0 := blk_frozen BK531.out 0; have hfz19_1 := blk_frozen BK531.out 1; have hfz19_2 := blk_frozen BK531.out 2; have hcz20_0 : w17.cell? ⟨gb530, 0, none⟩ = some (.bool a0_0) := (blk_cell BK530.out 0).trans rfl; have hcz20_1 : w17.cell? ⟨gb530, 1, none⟩ = some (.slice A0_1 l0_1.length c0_1) := (blk_cell BK530.out 1).trans rfl; have hcz20_2 : w17.cell? ⟨gb530, 2, none⟩ = some (.slice A0_2 l0_2.length c0_2) := (blk_cell BK530.out 2).trans rfl; have hfz20_0 := blk_frozen BK530.out 0; have hfz20_1 := blk_frozen BK530.out 1; have hfz20_2 := blk_frozen BK530.out 2) | (go_at_call 20; (with_reducible refine (fluxionref01_Is.calls k _ _ l0_1 _ _ l1_1 false _ ?side1 ?side2 ?side3 ?side4 A4.out).mono ?_); (case side1 => repeat (first | exact (Kd.C_below HR0_1.out HB.out) | (with_reducible refine Kd.C_alloc ?_ _) | (with_reducible refine Kd.C_drewN ?_ _) | (with_reducible refine Kd.C_drew ?_))); (case side2 => exact HC0_1.out); (case side3 => repeat (first | exact (Kd.C_below HR1_1.out HB.out) | (with_reducible refine Kd.C_alloc ?_ _) | (with_reducible refine Kd.C_drewN ?_ _) | (with_reducible refine Kd.C_drew ?_))); (case side4 => exact HC1_1.out); rintro e w21 ⟨rfl, hb⟩; have n0_ := Aside0.mk (blk_below (g := gb530) (o := .cells #[.bool a0_0, .slice A0_1 l0_1.length c0_1, .slice A0_2 l0_2.length c0_2] 32 (0, 0)) (by exact BK530.out) hb); have n1_ := Aside0.mk (blk_below (g := gb531) (o := .cells #[.bool a1_0, .slice A1_1 l1_1.length c1_1, .slice A1_2 l1_2.length c1_2] 25 (0, 0)) (by exact BK531.out) hb); have n2_ := Aside0.mk (below_step (by repeat (first | (with_reducible first | exact HB.out | apply below_alloc | apply pw_below_drewN | apply below_drew1 | refine below_set ?_ GE530.out | refine below_set ?_ GE531.out) | exact HB.out)) hb); clear BK530; clear BK531; clear HB; have BK530 := n0_; have BK531 := n1_; have HB := n2_; clear n0_ n1_ n2_; (try clear hb); (try clear hb2); (try clear hk); (try clear hi)))
      go_ret
      exact ⟨by first | rfl | (simp [errW_none, errW_some] <;> rfl) | (simp [*, errW_none, errW_some] <;> rfl), by repeat (first | (with_reducible first | exact HB.out | apply below_alloc | apply pw_below_drewN | apply below_drew1 | refine below_set ?_ GE530.out | refine below_set ?_ GE531.out) | exact HB.out)⟩
  · rw [if_neg c3] at H
    have c3b0 : (a1_0 == a0_0) = false := by simpa using c3
    (try (have c3b1 : decide (a1_0 = a0_0) = false := by simpa using c3))
    (try (have c3b2 : (a1_0 == a0_0) = false := by simpa using c3))
    (try (have c3b3 : ¬ (a1_0 = a0_0) := by simpa using c3))
    clear c3
    obtain rfl := Option.some.inj H
    go_enter Tryz.func15, Tryz.ntmps15
    go_wp2_with (first | ((with_reducible refine gate_dst (N := 2) rfl ?_); refine box_event ?hg (N := 2) ?hd (cs := #[.bool a0_0, .slice A0_1 l0_1.length c0_1, .slice A0_2 l0_2.length c0_2]) (t := 32) ?hr ?_; (case hd => rfl); (case hg => rfl); (case hr => first | (go_simp; done) | (go_simp; rfl)); intro gb530 hg w22 hbox hb; have n0_ := Aside0.mk (below_step (by repeat (first | (with_reducible first | exact HB.out | apply below_alloc | apply pw_below_drewN | apply below_drew1) | exact HB.out)) hb); have n1_ := Aside0.mk (hbox); have n2_ := Aside0.mk ((by rw [hg]; exact (below_size (by repeat (first | (with_reducible first | exact HB.out | apply below_alloc | apply pw_below_drewN | apply below_drew1) | exact HB.out))) : w.heap.size ≤ gb530)); have n3_ := Aside0.mk ((by rw [hg]; exact (below_size (by repeat (first | (with_reducible first | exact HB.out | apply below_alloc | apply pw_below_drewN | apply below_drew1) | exact HB.out))) : w.heap.size ≤ gb530)); clear HB; have HB := n0_; have BK530 := n1_; have GW530 := n2_; have GE530 := n3_; clear n0_ n1_ n2_ n3_; clear hb hbox hg) | ((with_reducible refine gate_dst (N := 3) rfl ?_); refine box_event ?hg (N := 3) ?hd (cs := #[.bool a1_0, .slice A1_1 l1_1.length c1_1, .slice A1_2 l1_2.length c1_2]) (t := 25) ?hr ?_; (case hd => rfl); (case hg => rfl); (case hr => first | (go_simp; done) | (go_simp; rfl)); intro gb531 hg w23 hbox hb; have n0_ := Aside0.mk (blk_below (g := gb530) (o := .cells #[.bool a0_0, .slice A0_1 l0_1.length c0_1, .slice A0_2 l0_2.length c0_2] 32 (0, 0)) (by exact BK530.out) hb); have n1_ := Aside0.mk (below_step (by repeat (first | (with_reducible first | exact HB.out | apply below_alloc | apply pw_below_drewN | apply below_drew1 | refine below_set ?_ GE530.out) | exact HB.out)) hb); have n2_ := Aside0.mk (hbox); have n3_ := Aside0.mk ((by rw [hg]; exact (below_size (by repeat (first | (with_reducible first | exact HB.out | apply below_alloc | apply pw_below_drewN | apply below_drew1 | refine below_set ?_ GE530.out) | exact HB.out))) : w.heap.size ≤ gb531)); have n4_ := Aside0.mk ((by rw [hg]; exact (below_size (by repeat (first | (with_reducible first | exact HB.out | apply below_alloc | apply pw_below_drewN | apply below_drew1 | refine below_set ?_ GE530.out) | exact HB.out))) : w.heap.size ≤ gb531)); have n5_ := Aside0.mk ((by rw [hg]; exact Nat.ne_of_lt (blk_lt (g := gb530) (o := .cells #[.bool a0_0, .slice A0_1 l0_1.length c0_1, .slice A0_2 l0_2.length c0_2] 32 (0, 0)) (by exact BK530.out)) : gb530 ≠ gb531)); have n6_ := Aside0.mk ((by rw [hg]; exact Nat.ne_of_gt (blk_lt (g := gb530) (o := .cells #[.bool a0_0, .slice A0_1 l0_1.length c0_1, .slice A0_2 l0_2.length c0_2] 32 (0, 0)) (by exact BK530.out)) : gb531 ≠ gb530)); clear BK530; clear HB; have BK530 := n0_; have HB := n1_; have BK531 := n2_; have GW531 := n3_; have GE531 := n4_; have NB530_531 := n5_; have NB531_530 := n6_; clear n0_ n1_ n2_ n3_ n4_ n5_ n6_; clear hb hbox hg; have hnb24 := NB531_530.out; have hnc24 := NB530_531.out; have hcz25_0 : w23.cell? ⟨gb531, 0, none⟩ = some (.bool a1_0) := (blk_cell BK531.out 0).trans rfl; have hcz25_1 : w23.cell? ⟨gb531, 1, none⟩ = some (.slice A1_1 l1_1.length c1_1) := (blk_cell BK531.out 1).trans rfl; have hcz25_2 : w23.cell? ⟨gb531, 2, none⟩ = some (.slice A1_2 l1_2.length c1_2) := (blk_cell BK531.out 2).trans rfl; have hfz25_0 := blk_frozen BK531.out 0; have hfz25_1 := blk_frozen BK531.out 1; have hfz25_2 := blk_frozen BK531.out 2; have hcz26_0 : w23.cell? ⟨gb530, 0, none⟩ = some (.bool a0_0) := (blk_cell BK530.out 0).trans rfl; have hcz26_1 : w23.cell? ⟨gb530, 1, none⟩ = some (.slice A0_1 l0_1.length c0_1) := (blk_cell BK530.out 1).trans rfl; have hcz26_2 : w23.cell? ⟨gb530, 2, none⟩ = some (.slice A0_2 l0_2.length c0_2) := (blk_cell BK530.out 2).trans rfl; have hfz26_0 := blk_frozen BK530.out 0; have hfz26_1 := blk_frozen BK530.out 1; have hfz26_2 := blk_frozen BK530.out 2))
    go_ret
    exact ⟨by first | rfl | (simp [errW_none, errW_some] <;> rfl) | (simp [*, errW_none, errW_some] <;> rfl), by repeat (first | (with_reducible first | exact HB.out | apply below_alloc | apply pw_below_drewN | apply below_drew1 | refine below_set ?_ GE530.out | refine below_set ?_ GE531.out) | exact HB.out)⟩

end Go.Proofs.YtpncflaoikeidaaGreatDoor.P
namespace Go.Proofs.YtpncflaoikeidaaGreatDoor.H
open Go.RowKit Go.Lib Go.Proofs.YtpncflaoikeidaaGreatDoorW.PrintWords Go.Proofs.YtpncflaoikeidaaGreatDoorW.PrintLast Go.Proofs.YtpncflaoikeidaaGreatDoorW.PrintMore Go.Proofs.YtpncflaoikeidaaGreatDoor.P
theorem half_w {T : Nat} (h : T < 100000) : wrap64 (Int.tdiv (T : Int) 2) = ((T / 2 : Nat) : Int) := by
  rw [Int.tdiv_eq_ediv_of_nonneg (by omega)]
  have e : (T : Int) / 2 = ((T / 2 : Nat) : Int) := by omega
  rw [e]; exact wrap_small (by omega) (by omega)
theorem half_m (T : Nat) : Int.tmod (T : Int) 2 = ((T % 2 : Nat) : Int) := by rw [Int.tmod_eq_emod_of_nonneg (by omega)]; omega
theorem short2_l0 (a n : Nat) (hn : n = (c4 a).length) (ha : n < 300000) (K : Nat) (hK : 300000 ≤ K) : ∀ (i k : Nat) (q : List Int), i ≤ n → Dm a 2 i n q → K + i < k →
    fluxionref01_Short.l0 k (c4 a) 2 q ((a / 10000 ^ i % 2 : Nat) : Int) ((i : Int) - 1) = some (c4 (a / 2), ((a % 2 : Nat) : Int))
  | _, 0, _, _, _, hk => by omega
  | 0, k + 1, q, _, h, hk => by
    have h1 := h.eq
    have hl := h.len
    rw [Nat.pow_zero, Nat.one_mul, Nat.div_one] at h1
    rw [fluxionref01_Short.l0, if_neg (by omega), trim1_f h.ok (by omega) (by omega), Option.bind_some, h1, Nat.pow_zero, Nat.div_one]
  | i + 1, k + 1, q, hi, h, hk => by
    have ra := rd_c4 a i
    obtain ⟨A, hA⟩ : ∃ A, a / 10000 ^ (i + 1) = A := ⟨_, rfl⟩
    obtain ⟨x, hx⟩ : ∃ x, a / 10000 ^ i % 10000 = x := ⟨_, rfl⟩
    have hxl : x < 10000 := by rw [← hx]; exact Nat.mod_lt _ (by decide)
    have hA' : a / 10000 ^ i = 10000 * A + x := by rw [← hA, ← hx, div_pow_succ]; exact (Nat.div_add_mod _ _).symm
    rw [hx] at ra
    obtain ⟨s1, s2, s3⟩ := div_step (A := A) (b := 2) (by decide) hxl
    obtain ⟨R, hR⟩ : ∃ R, A % 2 = R := ⟨_, rfl⟩
    have hRb : R < 2 := by rw [← hR]; exact Nat.mod_lt _ (by decide)
    rw [hR] at s1 s2 s3
    have hd : (x + 10000 * R) / 2 < 10000 := Nat.div_lt_of_lt_mul s3
    have NX := h.next (by omega) hd hA hA' s1
    have hql := h.len
    have HA' := Aside0.mk hA'
    clear h hA' hx s1 s3
    have EW : Aside0 (wrap64 ((i : Int) - 1) = (i : Int) - 1) := ⟨by clear ra s2 NX hA; unfold wrap64; omega⟩
    have E1 : Aside0 (wrap64 (wrap64 (((R : Nat) : Int) * 10000) + ((x : Nat) : Int)) = ((x + 10000 * R : Nat) : Int)) := ⟨by clear ra s2 NX hA hR hd; rw [wrap_small (x := (R : Int) * 10000) (by omega) (by omega), wrap_small (by omega) (by omega)]; omega⟩
    have E2 : Aside0 (wrap64 (Int.tdiv (((x + 10000 * R : Nat)) : Int) 2) = (((x + 10000 * R) / 2 : Nat) : Int)) := ⟨half_w (by clear ra s2 NX hA hR hd; omega)⟩
    have E3 : Aside0 (Int.tmod (((x + 10000 * R : Nat)) : Int) 2 = (((x + 10000 * R) % 2 : Nat) : Int)) := ⟨half_m _⟩
    have e0 : (((i + 1 : Nat) : Int) - 1) = (i : Int) := by omega
    have b1 : (i : Int) < ((c4 a).length : Int) := by omega
    have b2 : (i : Int) < (q.length : Int) := by omega
    rw [fluxionref01_Short.l0, e0, hA, hR, if_pos (Int.natCast_nonneg _), if_pos (Int.natCast_nonneg _), if_pos b1, if_neg (by decide), if_pos b2, ra, E1.out, E2.out, E3.out, EW.out, Int.toNat_natCast, ← s2, ← HA'.out]
    exact short2_l0 a n hn ha K hK i k _ (by omega) NX (by omega)
theorem short2_f (a k : Nat) (ha : (c4 a).length < 300000) (hk : 700000 ≤ k) : fluxionref01_Short.f k (c4 a) 2 = some (c4 (a / 2), ((a % 2 : Nat) : Int)) := by
  obtain ⟨n, hn⟩ : ∃ n, (c4 a).length = n := ⟨_, rfl⟩
  have ht : a / 10000 ^ n = 0 := by rw [← hn]; exact c4_top a
  have D : Dm a 2 n n (List.replicate n 0) := ⟨ok4_zeros n, List.length_replicate, by rw [v4_zeros, ht, Nat.zero_div, Nat.mul_zero], fun j _ => zeros_get n j⟩
  have h := short2_l0 a n hn.symm (by omega) 300000 (Nat.le_refl _) n k _ (Nat.le_refl _) D (by omega)
  rw [ht] at h
  have EW : Aside0 (wrap64 ((n : Int) - 1) = (n : Int) - 1) := ⟨by clear h D ht; unfold wrap64; omega⟩
  unfold fluxionref01_Short.f
  rw [hn, if_pos (Int.natCast_nonneg _), Int.toNat_natCast, if_pos (by omega), EW.out]
  exact h
theorem nbits_half {n : Nat} (h : n ≠ 0) : nbits n = nbits (n / 2) + 1 := by
  obtain ⟨K, hK⟩ : ∃ K, nbits (n / 2) = K := ⟨_, rfl⟩
  rw [hK]
  have h1 : n / 2 < 2 ^ K := Nat.lt_of_not_le fun hc => by have := (nbits_gt (n / 2) K).2 hc; omega
  rcases Nat.eq_zero_or_pos K with h0 | h0
  · subst h0
    refine nbits_of h ?_ ?_
    · rw [Nat.pow_zero]; omega
    · rw [Nat.pow_zero] at h1; rw [Nat.zero_add, Nat.pow_one]; omega
  · obtain ⟨J, rfl⟩ : ∃ J, K = J + 1 := ⟨K - 1, by omega⟩
    have h2 := (nbits_gt (n / 2) J).1 (by omega)
    refine nbits_of h ?_ ?_
    · rw [Nat.pow_succ]; omega
    · rw [Nat.pow_succ]; omega
theorem bits_l0 (K : Nat) (hK : 700000 ≤ K) : ∀ (B n b k : Nat), n < 2 ^ B → B < 100000 → (c4 n).length < 300000 → b + B < 1000000 → K + B < k → fluxionref01_Bits.l0 k (c4 n) (b : Int) = some ((b + nbits n : Nat) : Int)
  | _, _, _, 0, _, _, _, _, h => by omega
  | B, n, b, k + 1, hn, hB, hl, hb, hk => by
    rw [fluxionref01_Bits.l0]
    by_cases h0 : n = 0
    · subst h0; rw [c4_zero, if_neg (by decide), (nbits_zero 0).2 rfl]; rfl
    · have hp := mt (c4_len0 n).1 h0
      cases B with
      | zero => rw [Nat.pow_zero] at hn; omega
      | succ B =>
        have hh : n / 2 < 2 ^ B := by rw [Nat.pow_succ] at hn; omega
        have hlen := c4_le_len (Nat.div_le_self n 2)
        rw [nbits_half h0]
        obtain ⟨m, hm⟩ : ∃ m, n / 2 = m := ⟨_, rfl⟩
        have hsf := short2_f n k hl (by clear hn hh; omega)
        rw [hm] at hh hlen hsf ⊢
        have EW : Aside0 (wrap64 ((b : Int) + 1) = ((b + 1 : Nat) : Int)) := ⟨by clear hn hh hsf; unfold wrap64; omega⟩
        rw [if_pos (by clear hn hh hsf; omega), hsf, Option.bind_some, EW.out]
        simp only
        rw [bits_l0 K hK B m (b + 1) k hh (by clear hn hh hsf; omega) (by clear hn hh hsf; omega) (by clear hn hh hsf; omega) (by clear hn hh hsf; omega), Nat.add_assoc, Nat.add_comm 1]
theorem refBits_f (n B k : Nat) (hn : n < 2 ^ B) (hB : B < 100000) (hl : (c4 n).length < 300000) (hk : 900000 ≤ k) : fluxionref01_Bits.f k (c4 n) = some ((nbits n : Nat) : Int) := by
  unfold fluxionref01_Bits.f
  have := bits_l0 700000 (Nat.le_refl _) B n 0 k hn hB hl (by omega) (by omega)
  rw [Nat.zero_add] at this
  exact this
theorem byte_w {x : Nat} (h0 : 48 ≤ x) (h1 : x ≤ 57) : wrap64 (wrap64 ((x : Nat) : Int) - 48) = ((x - 48 : Nat) : Int) := by
  rw [wrap_small (x := (x : Int)) (by omega) (by omega), wrap_small (x := (x : Int) - 48) (by omega) (by omega)]; omega
theorem number_l0 (s : ByteArray) (l : List UInt8) (hl : s.data.toList = l) (hz : l.length ≤ 400) (hd : l.all digB = true) (K : Nat) (hK : 5000000000 ≤ K) : ∀ (j i k v : Nat), i + j = l.length → v < 10 ^ i → K + j < k →
    fluxionref04_number.l0 k s (c4 v) (i : Int) = some (c4 (dvF (l.drop i) v))
  | _, _, 0, _, _, _, h => by omega
  | 0, i, k + 1, v, hi, _, _ => by
    have hs := size_len s
    rw [hl] at hs
    rw [fluxionref04_number.l0, if_neg (by omega), List.drop_of_length_le (by omega), dvF_nil]
  | j + 1, i, k + 1, v, hi, hv, hk => by
    have hs := size_len s
    rw [hl] at hs
    have hb : bt s (i : Int) = ((l[i]'(by omega)).toNat : Int) := by
      rw [bytes_of s, hl]; exact bt_list (by omega)
    have hdr : l.drop i = l[i]'(by omega) :: l.drop (i + 1) := List.drop_eq_getElem_cons (by omega)
    have hdi : digB (l[i]'(by omega)) = true := List.all_eq_true.1 hd _ (List.getElem_mem _)
    obtain ⟨c, hc⟩ : ∃ c, l[i]'(by omega) = c := ⟨_, rfl⟩
    rw [hc] at hb hdr hdi
    have hdg := (digB_iff c).1 hdi
    have hde := dgv_eq c
    have hv2 : 10 * v + dgv c < 10 ^ (i + 1) := by rw [Nat.pow_succ]; omega
    have e10 : (10 : Nat) ^ (i + 1) ≤ 10000 ^ (i + 1) := Nat.pow_le_pow_left (by decide) _
    have L1 := c4_length_le (i + 1) (10 * v + dgv c) (Nat.lt_of_lt_of_le hv2 e10)
    have L2 := c4_le_len (show v * 10 ≤ 10 * v + dgv c by omega)
    have L3 := c4_le_len (show v ≤ v * 10 by omega)
    have w1 : wrap64 ((i : Int) + 1) = ((i + 1 : Nat) : Int) := by clear hv hv2 e10; unfold wrap64; omega
    have w2 : wrap64 (wrap64 ((c.toNat : Nat) : Int) - 48) = ((dgv c : Nat) : Int) := by
      rw [hde]; exact byte_w hdg.1 hdg.2
    have HV2 := Aside0.mk hv2
    have W1 := Aside0.mk w1
    have W2 := Aside0.mk w2
    clear w1 w2
    clear hv e10 hv2
    have q1 : 2 * (c4 v).length + 100 ≤ k := by omega
    have q2 : (c4 v).length < 800000 := by omega
    have tf := times_f v 10 k (by decide) q2 q1
    rw [show (((10 : Nat) : Int)) = 10 from rfl] at tf
    have sf := small_f (dgv c) k (by omega) (by omega)
    have e2 : v * 10 + dgv c = 10 * v + dgv c := by omega
    have af := add4_f (v * 10) (dgv c) k (by rw [e2]; omega) (by rw [e2]; omega)
    have b1 : (i : Int) < (s.size : Int) := by omega
    rw [fluxionref04_number.l0, if_pos b1, tf, Option.bind_some, if_pos (Int.natCast_nonneg _), hb, W2.out, sf, Option.bind_some, af, Option.bind_some, W1.out, hdr, dvF_cons, e2]
    exact number_l0 s l hl hz hd K hK j (i + 1) k _ (by omega) HV2.out (by omega)
theorem refNumber_f (s : ByteArray) (k : Nat) (hz : s.size ≤ 400) (hd : s.data.toList.all digB = true) (hk : 5000001000 ≤ k) : fluxionref04_number.f k s = some (c4 (dv s.data.toList)) := by
  have hs := size_len s
  unfold fluxionref04_number.f
  have := number_l0 s _ rfl (by omega) hd 5000000000 (Nat.le_refl _) s.data.toList.length 0 k 0 (by omega) (by decide) (by omega)
  rw [List.drop_zero, c4_zero] at this
  exact this
theorem dv_bits {E : Nat} (hE : E = 1600) {l : List UInt8} (hd : l.all digB = true) (hl : l.length ≤ 400) : dv l < 2 ^ E ∧ (c4 (dv l)).length ≤ 400 := by
  have h1 := dv_lt l hd
  constructor
  · refine Nat.lt_of_lt_of_le h1 (Nat.le_trans (Nat.pow_le_pow_left (show 10 ≤ 2 ^ 4 by decide) _) ?_)
    rw [← Nat.pow_mul]
    have h16 : 4 * l.length ≤ E := by clear h1; omega
    exact Nat.pow_le_pow_right (by decide) h16
  · have := c4_length_le l.length (dv l) (Nat.lt_of_lt_of_le h1 (Nat.pow_le_pow_left (by decide) _))
    omega
theorem refParseNat_f (s : ByteArray) (k : Nat) (hz : s.size < 150000000000000) (hsk : s.size < k) (hk : 5000001000 ≤ k) : fluxionref04_ParseNat.f k s = some (c4 (PN s.data.toList).1, (PN s.data.toList).2) := by
  have hs := size_len s
  unfold fluxionref04_ParseNat.f
  rw [refNatural_f s k hz hsk, Option.bind_some]
  unfold PN
  by_cases h : natB s.data.toList = true
  · rw [if_pos h, if_pos h]
    by_cases hl : 400 < s.size
    · rw [if_pos (by omega), if_pos (big_long h (by omega)), c4_zero]
    · have hd := ((natB_iff _).1 h).1
      have hl4 : s.data.toList.length ≤ 400 := by omega
      obtain ⟨E, hE⟩ : ∃ E : Nat, E = 1600 := ⟨_, rfl⟩
      have h2 := (dv_bits hE hd hl4).2
      have rb := refBits_f _ E k (dv_bits hE hd hl4).1 (by omega) (by omega) (by omega)
      rw [if_neg (by omega), refNumber_f s k (by omega) hd hk, Option.bind_some, rb, Option.bind_some]
      unfold big
      by_cases hb : 1024 < nbits (dv s.data.toList)
      · rw [if_pos (by omega), if_pos (decide_eq_true hb), c4_zero]
      · rw [if_neg (by omega), if_neg (by rw [decide_eq_false hb]; decide)]
  · rw [if_neg h, if_neg h, c4_zero]
theorem limbs_last {n : Nat} (h : n ≠ 0) : rd (limbs n) (((limbs n).length : Int) - 1) ≠ 0 := by
  intro hc
  have hne : limbs n ≠ [] := by
    intro h0
    have := nval_limbs n
    rw [h0] at this
    exact h this.symm
  have hp : 0 < (limbs n).length := List.length_pos_iff.2 hne
  have e : limbs n = (limbs n).dropLast ++ [(limbs n).getLast hne] := (List.dropLast_concat_getLast hne).symm
  have hg : rd (limbs n) (((limbs n).length : Int) - 1) = (limbs n).getLast hne := by
    unfold rd
    rw [show (((limbs n).length : Int) - 1).toNat = (limbs n).length - 1 by omega, List.getLast_eq_getElem, List.getD_eq_getElem?_getD, List.getElem?_eq_getElem (by omega)]
    rfl
  rw [hg] at hc
  have h1 := trim_limbs (okl_limbs n)
  rw [nval_limbs] at h1
  have h2 : topN (limbs n) = topN (limbs n).dropLast := by
    conv => lhs; rw [e]
    rw [topN_snoc, if_pos hc]
  have h3 := topN_le (limbs n).dropLast
  have h4 := congrArg List.length h1
  rw [List.length_take, h2] at h4
  rw [List.length_dropLast] at h3
  omega
theorem canon_f (n : Nat) (hl : (limbs n).length < 1000000) : fluxionref01_Canonical.f (limbs n) = some true := by
  unfold fluxionref01_Canonical.f
  by_cases h : n = 0
  · subst h; rw [limbs_zero]; rfl
  · have h1 := limbs_last h
    have hp : (limbs n).length ≠ 0 := by
      intro h0
      have := nval_limbs n
      rw [List.eq_nil_of_length_eq_zero h0] at this
      exact h this.symm
    have w : wrap64 (((limbs n).length : Int) - 1) = ((limbs n).length : Int) - 1 := by unfold wrap64; omega
    rw [w, if_neg (by omega), if_pos (by omega), if_pos (by omega)]
    congr 1
    exact bne_iff_ne.2 h1
theorem refIs_f (n k : Nat) (hl : (limbs n).length < 90000) (hk : 5000400000 ≤ k) : fluxionref01_Is.f k (c4 n) (limbs n) = some true := by
  have h := c4_nval_len (okl_limbs n)
  rw [nval_limbs] at h
  unfold fluxionref01_Is.f
  rw [canon_f n (by omega), Option.bind_some, if_pos rfl, of_f (okl_limbs n) (by omega) (by omega), Option.bind_some, nval_limbs, cmp_f n n k (by omega) (by omega), Option.bind_some]
  unfold cmpN
  rw [if_neg (Nat.lt_irrefl _), if_neg (Nat.lt_irrefl _)]
  rfl
theorem refIsR_f (g : Bool) (n d k : Nat) (hn : (limbs n).length < 90000) (hd : (limbs d).length < 90000) (hk : 5000400000 ≤ k) : fluxionref03_Is.f k g (c4 n) (c4 d) g (limbs n) (limbs d) = some true := by
  unfold fluxionref03_Is.f
  rw [refIs_f n k hn hk, refIs_f d k hd hk]
  simp
end Go.Proofs.YtpncflaoikeidaaGreatDoor.H
namespace Go.Proofs.YtpncflaoikeidaaGreatDoor.P
open Go.RowKit Go.Proofs.YtpncflaoikeidaaGreatDoorW.PrintWords Go.Proofs.YtpncflaoikeidaaGreatDoorW.PrintLast Go.Proofs.YtpncflaoikeidaaGreatDoorW.PrintMore
attribute [local go_sem] max2_int max_two
set_option linter.unusedVariables false
set_option linter.unusedSimpArgs false
mutual
def fluxionref04_ParseRat.j0 : Nat → ByteArray → Bool → Option (Bool × List Int × List Int × Int)
  | 0, _, _ => none
  | k + 1, x0, x4 => if x4 = true then (if 1 ≤ (x0.size : Int) then (fluxionref04_ParseRat.j1 k x0 x4 (x0.extract 1 x0.size)) else (none)) else (fluxionref04_ParseRat.j1 k x0 x4 x0)
def fluxionref04_ParseRat.j1 : Nat → ByteArray → Bool → ByteArray → Option (Bool × List Int × List Int × Int)
  | 0, _, _, _ => none
  | k + 1, x0, x4, x5 => (fluxionref04_cut.f k x5).bind fun bt502 => (if bt502.2.2 = true then (fluxionref04_ParseRat.j2 k x0 x4 bt502.1 bt502.2.1) else (fluxionref04_ParseRat.j2 k x0 x4 bt502.1 (⟨#[49]⟩ : ByteArray)))
def fluxionref04_ParseRat.j2 : Nat → ByteArray → Bool → ByteArray → ByteArray → Option (Bool × List Int × List Int × Int)
  | 0, _, _, _, _ => none
  | k + 1, x0, x4, x6, x7 => (fluxionref04_natural.f k x6).bind fun t505 => (if t505 = true then ((fluxionref04_natural.f k x7).bind fun t506 => (fluxionref04_ParseRat.j3 k x0 x4 x6 x7 (!t506))) else (fluxionref04_ParseRat.j3 k x0 x4 x6 x7 true))
def fluxionref04_ParseRat.j3 : Nat → ByteArray → Bool → ByteArray → ByteArray → Bool → Option (Bool × List Int × List Int × Int)
  | 0, _, _, _, _, _ => none
  | k + 1, x0, x4, x6, x7, x41 => if x41 = true then (some (false, ([] : List Int), ([] : List Int), 19)) else ((fluxionref04_ParseNat.f k x6).bind fun bt507 => ((fluxionref04_ParseNat.f k x7).bind fun bt511 => (if bt507.2 = 0 then (fluxionref04_ParseRat.j4 k x0 x4 bt507.1 bt511.1 (bt511.2 != 0)) else (fluxionref04_ParseRat.j4 k x0 x4 bt507.1 bt511.1 true))))
def fluxionref04_ParseRat.j4 : Nat → ByteArray → Bool → List Int → List Int → Bool → Option (Bool × List Int × List Int × Int)
  | 0, _, _, _, _, _ => none
  | k + 1, x0, x4, x9, x11, x58 => if x58 = true then (some (false, ([] : List Int), ([] : List Int), 14)) else ((fluxionref03_Make.f k x4 x9 x11).bind fun bt515 => ((fluxionref04_Rat.f k bt515.1 bt515.2.1 bt515.2.2).bind fun t523 => (if t523.toList = x0.toList then (some (bt515.1, bt515.2.1, bt515.2.2, 0)) else (some (false, ([] : List Int), ([] : List Int), 6)))))
end
def fluxionref04_ParseRat.f (k : Nat) (a0 : ByteArray) : Option (Bool × List Int × List Int × Int) := if (a0.size : Int) > 0 then (if 0 < (a0.size : Int) then (fluxionref04_ParseRat.j0 k a0 ((bt a0 0) == 45)) else (none)) else (fluxionref04_ParseRat.j0 k a0 false)
set_option maxHeartbeats 8000000 in
set_option maxRecDepth 100000 in
theorem fluxionref04_ParseRat.calls (k : Nat) (a0 : ByteArray) (r1 : Bool) (r2 : List Int) (r3 : List Int) (r4 : Int) (w : World) (h : fluxionref04_ParseRat.f k a0 = some (r1, r2, r3, r4)) :
    Calls Tryz.prog 13 #[.string a0] w fun e w' => ∃ v1_ v2_ : Value, e = .returned (.tuple #[.agg #[.bool r1, v1_, v2_], .int .i64 r4]) ∧ Kd.R (Kd.int .i64) 3 w' w.heap.size (fun k_ => some k_ ≠ (v2_ : Value).ownBlock) v1_ r2 ∧ Kd.R (Kd.int .i64) 3 w' w.heap.size (fun k_ => some k_ ≠ (v1_ : Value).ownBlock) v2_ r3 ∧ Below w.heap.size w w' := by
  have hu32 := Tryz.underlying32
  have HB := Aside0.mk (Below.refl w.heap.size w)
  have H : (if (a0.size : Int) > 0 then (if 0 < (a0.size : Int) then (fluxionref04_ParseRat.j0 k a0 ((bt a0 0) == 45)) else (none)) else (fluxionref04_ParseRat.j0 k a0 false)) = some (r1, r2, r3, r4) := h
  clear h
  have HC2 := Aside0.mk H
  clear H
  go_enter Tryz.func13, Tryz.ntmps13
  go_upto_region 1 with (first | ((with_reducible refine gate_dst (N := 2) rfl ?_); refine box_event ?hg (N := 2) ?hd (cs := #[.bool false, .slice none 0 0, .slice none 0 0]) (t := 32) ?hr ?_; (case hd => rfl); (case hg => rfl); (case hr => first | (go_simp; done) | (go_simp; rfl)); intro gb501 hg w3 hbox hb; have n0_ := Aside0.mk (below_step (by repeat (first | (with_reducible first | exact HB.out | apply below_alloc | apply pw_below_drewN | apply below_drew1) | exact HB.out)) hb); have n1_ := Aside0.mk (hbox); have n2_ := Aside0.mk ((by rw [hg]; exact (below_size (by repeat (first | (with_reducible first | exact HB.out | apply below_alloc | apply pw_below_drewN | apply below_drew1) | exact HB.out))) : w.heap.size ≤ gb501)); have n3_ := Aside0.mk ((by rw [hg]; exact (below_size (by repeat (first | (with_reducible first | exact HB.out | apply below_alloc | apply pw_below_drewN | apply below_drew1) | exact HB.out))) : w.heap.size ≤ gb501)); clear HB; have HB := n0_; have BK501 := n1_; have GW501 := n2_; have GE501 := n3_; clear n0_ n1_ n2_ n3_; clear hb hbox hg))
  (try simp only [Act.put, List.setIfInBounds_toArray, List.set_cons_zero, List.set_cons_succ])
  go_cut [4] (fun v4 wc => ∃ (kq : Nat) (x4_1 : Bool), v4 = .bool x4_1 ∧ Aside0 (fluxionref04_ParseRat.j0 kq a0 x4_1 = some (r1, r2, r3, r4)) ∧ Aside0 (kq ≤ k) ∧ Aside0 (wc.heap[gb501]? = some (.cells #[.bool false, (.slice none 0 0), (.slice none 0 0)] 32 (0, 0))) ∧ Aside0 (Below w.heap.size w wc))
  case first =>
    have H := HC2.out
    clear HC2
    by_cases c4 : (a0.size : Int) > 0
    · rw [if_pos c4] at H
      have c4b0 : decide (0 < (a0.size : Int)) = true := decide_eq_true c4
      have c4b1 : decide (0 < a0.size) = true := decide_eq_true (by omega)
      clear c4
      (first | rw [c4b0] | (simp only [i64_w, i32_w]; rw [c4b0]) | skip)
      by_cases c5 : 0 < (a0.size : Int)
      · rw [if_pos c5] at H
        have c5b0 : decide (0 < (a0.size : Int)) = true := decide_eq_true c5
        have c5b1 : decide (0 < a0.size) = true := decide_eq_true (by omega)
        clear c5
        have H' := Aside0.mk H
        clear H
        have p6 : 0 ≤ (0 : Int) := (by omega)
        have q6 : 0 < a0.size := (by have : (0 : Int) < (a0.size : Int) := of_decide_eq_true (by first | (with_reducible assumption) | assumption); omega)
        have hx6 : ∀ h : 0 < a0.size, ((a0[0]'h).toNat : Int) = bt a0 0 := bt_at a0 0
        clear p6
        have qi6 : (0 < (a0.size : Int)) = True := eq_true (of_decide_eq_true (by first | (with_reducible assumption) | assumption))
        replace q6 := eq_true q6
        go_wp2
        go_meet
        case rel => exact ⟨_, (((bt a0 0) == 45)), (by first | rfl | (simp; done) | (simp [*]; done)), H', ⟨by first | omega | exact Nat.le_refl _⟩, ⟨by exact BK501.out⟩, ⟨by repeat (first | (with_reducible first | exact HB.out | apply below_alloc | apply pw_below_drewN | apply below_drew1 | refine below_set ?_ GE501.out) | exact HB.out)⟩⟩
      · rw [if_neg c5] at H
        exact absurd H (by simp)
    · rw [if_neg c4] at H
      have c4b0 : decide (0 < (a0.size : Int)) = false := decide_eq_false c4
      have c4b1 : decide (0 < a0.size) = false := decide_eq_false (by omega)
      clear c4
      (first | rw [c4b0] | (simp only [i64_w, i32_w]; rw [c4b0]) | skip)
      have H' := Aside0.mk H
      clear H
      go_wp2
      go_meet
      case rel => exact ⟨_, (false), (by first | rfl | (simp; done) | (simp [*]; done)), H', ⟨by first | omega | exact Nat.le_refl _⟩, ⟨by exact BK501.out⟩, ⟨by repeat (first | (with_reducible first | exact HB.out | apply below_alloc | apply pw_below_drewN | apply below_drew1 | refine below_set ?_ GE501.out) | exact HB.out)⟩⟩
  case rest =>
    clear HC2
    try clear c1
    try clear p2
    try clear c4
    try clear c4b0
    try clear c4b1
    try clear c5
    try clear c5b0
    try clear c5b1
    try clear p6
    try clear q6
    try clear hx6
    try clear qi6
    try clear p6
    try clear q6
    obtain ⟨kq, x4_1, rfl, HA, HJ1, BK501, HB⟩ := hcut
    cases kq with
    | zero => exact absurd HA.out (by simp [fluxionref04_ParseRat.j0])
    | succ kj1 =>
      have H := HA.out
      clear HA
      simp only [fluxionref04_ParseRat.j0] at H
      have HC7 := Aside0.mk H
      clear H
      go_upto_if 23 with (fail)
      go_cut [5] (fun v5 wc => ∃ (kq : Nat) (x5_6 : ByteArray), v5 = .string x5_6 ∧ Aside0 (fluxionref04_ParseRat.j1 kq a0 x4_1 x5_6 = some (r1, r2, r3, r4)) ∧ Aside0 (kq ≤ kj1) ∧ Aside0 (wc.heap[gb501]? = some (.cells #[.bool false, (.slice none 0 0), (.slice none 0 0)] 32 (0, 0))) ∧ Aside0 (Below w.heap.size w wc))
      case first =>
        have H := HC7.out
        clear HC7
        by_cases c8 : x4_1 = true
        · subst c8
          have H1 : (if 1 ≤ (a0.size : Int) then (fluxionref04_ParseRat.j1 kj1 a0 true (a0.extract 1 a0.size)) else (none)) = some (r1, r2, r3, r4) := by rw [if_pos rfl] at H; exact H
          clear H
          have H := H1
          clear H1
          by_cases c9 : 1 ≤ (a0.size : Int)
          · rw [if_pos c9] at H
            have c9b0 := eq_true c9
            have c9b1 : decide (1 ≤ (a0.size : Int)) = true := decide_eq_true c9
            clear c9
            have H' := Aside0.mk H
            clear H
            go_wp2
            go_meet
            case rel => exact ⟨_, (a0.extract 1 a0.size), (by first | rfl | (simp; done) | (simp [*]; done)), H', ⟨by have := HJ1.out; first | omega | exact Nat.le_refl _⟩, ⟨by exact BK501.out⟩, ⟨by repeat (first | (with_reducible first | exact HB.out | apply below_alloc | apply pw_below_drewN | apply below_drew1 | refine below_set ?_ GE501.out) | exact HB.out)⟩⟩
          · rw [if_neg c9] at H
            exact absurd H (by simp)
        · replace c8 := Bool.eq_false_iff.mpr c8
          subst c8
          have H1 : (fluxionref04_ParseRat.j1 kj1 a0 false a0) = some (r1, r2, r3, r4) := by rw [if_neg (show ¬ (false = true) by decide)] at H; exact H
          clear H
          have H := H1
          clear H1
          have H' := Aside0.mk H
          clear H
          go_wp2
          go_meet
          case rel => exact ⟨_, (a0), (by first | rfl | (simp; done) | (simp [*]; done)), H', ⟨by have := HJ1.out; first | omega | exact Nat.le_refl _⟩, ⟨by exact BK501.out⟩, ⟨by repeat (first | (with_reducible first | exact HB.out | apply below_alloc | apply pw_below_drewN | apply below_drew1 | refine below_set ?_ GE501.out) | exact HB.out)⟩⟩
      case rest =>
        clear HC7
        try clear c1
        try clear p2
        try clear c4
        try clear c4b0
        try clear c4b1
        try clear c5
        try clear c5b0
        try clear c5b1
        try clear p6
        try clear q6
        try clear hx6
        try clear qi6
        try clear c8
        try clear c9
        try clear c9b0
        try clear c9b1
        try clear p2
        try clear p6
        try clear q6
        obtain ⟨kq, x5_6, rfl, HA, HJ6, BK501, HB⟩ := hcut
        cases kq with
        | zero => exact absurd HA.out (by simp [fluxionref04_ParseRat.j1])
        | succ kj6 =>
          have H := HA.out
          clear HA
          simp only [fluxionref04_ParseRat.j1] at H
          replace H := Option.bind_eq_some_iff.mp H
          obtain ⟨⟨t502, t503, t504⟩, A100, H⟩ := H
          try dsimp only at H
          have A10 := Aside0.mk A100
          clear A100
          have HC11 := Aside0.mk H
          clear H
          go_upto_if 33 with (first | ((with_reducible refine gate_callee (f := 39) rfl ?_); refine goesL_ (some 28) rfl rfl Tryz.func39 (by kernel_rfl) rfl #[.string x5_6] rfl (by (try simp only [List.map_toArray, List.map_cons, List.map_nil]); first | done | rfl | (simp only [List.length_drop, List.length_take]; rfl)) ?_; (with_reducible refine (fluxionref04_cut.calls kj6 x5_6 t502 t503 t504 _ A10.out).mono ?_); rintro e w' ⟨rfl, ⟨nd, rfl⟩⟩; refine ⟨_, rfl, ?_⟩))
          (try simp only [Act.put, List.setIfInBounds_toArray, List.set_cons_zero, List.set_cons_succ])
          go_cut [7] (fun v7 wc => ∃ (kq : Nat) (x7_10 : ByteArray), v7 = .string x7_10 ∧ Aside0 (fluxionref04_ParseRat.j2 kq a0 x4_1 t502 x7_10 = some (r1, r2, r3, r4)) ∧ Aside0 (kq ≤ kj6) ∧ Aside0 (wc.heap[gb501]? = some (.cells #[.bool false, (.slice none 0 0), (.slice none 0 0)] 32 (0, 0))) ∧ Aside0 (Below w.heap.size w wc))
          case first =>
            have H := HC11.out
            clear HC11
            by_cases c12 : t504 = true
            · subst c12
              have H1 : (fluxionref04_ParseRat.j2 kj6 a0 x4_1 t502 t503) = some (r1, r2, r3, r4) := by rw [if_pos rfl] at H; exact H
              clear H
              have H := H1
              clear H1
              have H' := Aside0.mk H
              clear H
              go_wp2
              go_meet
              case rel => exact ⟨_, (t503), (by first | rfl | (simp; done) | (simp [*]; done)), H', ⟨by have := HJ1.out; have := HJ6.out; first | omega | exact Nat.le_refl _⟩, ⟨by exact BK501.out⟩, ⟨by repeat (first | (with_reducible first | exact HB.out | apply below_alloc | apply pw_below_drewN | apply below_drew1 | refine below_set ?_ GE501.out) | exact HB.out)⟩⟩
            · replace c12 := Bool.eq_false_iff.mpr c12
              subst c12
              have H1 : (fluxionref04_ParseRat.j2 kj6 a0 x4_1 t502 (⟨#[49]⟩ : ByteArray)) = some (r1, r2, r3, r4) := by rw [if_neg (show ¬ (false = true) by decide)] at H; exact H
              clear H
              have H := H1
              clear H1
              have H' := Aside0.mk H
              clear H
              go_wp2
              go_meet
              case rel => exact ⟨_, ((⟨#[49]⟩ : ByteArray)), (by first | rfl | (simp; done) | (simp [*]; done)), H', ⟨by have := HJ1.out; have := HJ6.out; first | omega | exact Nat.le_refl _⟩, ⟨by exact BK501.out⟩, ⟨by repeat (first | (with_reducible first | exact HB.out | apply below_alloc | apply pw_below_drewN | apply below_drew1 | refine below_set ?_ GE501.out) | exact HB.out)⟩⟩
          case rest =>
            clear HC11
            try clear c1
            try clear p2
            try clear c3
            try clear c4
            try clear c4b0
            try clear c4b1
            try clear c5
            try clear c5b0
            try clear c5b1
            try clear p6
            try clear q6
            try clear hx6
            try clear qi6
            try clear c8
            try clear c9
            try clear c9b0
            try clear c9b1
            try clear c12
            try clear p2
            try clear p6
            try clear q6
            obtain ⟨kq, x7_10, rfl, HA, HJ10, BK501, HB⟩ := hcut
            cases kq with
            | zero => exact absurd HA.out (by simp [fluxionref04_ParseRat.j2])
            | succ kj10 =>
              have H := HA.out
              clear HA
              simp only [fluxionref04_ParseRat.j2] at H
              have HC13 := Aside0.mk H
              clear H
              go_upto_region 8 with (fail)
              go_cut [41] (fun v41 wc => ∃ (kq : Nat) (x41_12 : Bool), v41 = .bool x41_12 ∧ Aside0 (fluxionref04_ParseRat.j3 kq a0 x4_1 t502 x7_10 x41_12 = some (r1, r2, r3, r4)) ∧ Aside0 (kq ≤ kj10) ∧ Aside0 (wc.heap[gb501]? = some (.cells #[.bool false, (.slice none 0 0), (.slice none 0 0)] 32 (0, 0))) ∧ Aside0 (Below w.heap.size w wc))
              case first =>
                have H := HC13.out
                clear HC13
                replace H := Option.bind_eq_some_iff.mp H
                obtain ⟨t505, A140, H⟩ := H
                try dsimp only at H
                have A14 := Aside0.mk A140
                clear A140
                by_cases c15 : t505 = true
                · subst c15
                  have H1 : ((fluxionref04_natural.f kj10 x7_10).bind fun t506 => (fluxionref04_ParseRat.j3 kj10 a0 x4_1 t502 x7_10 (!t506))) = some (r1, r2, r3, r4) := by rw [if_pos rfl] at H; exact H
                  clear H
                  have H := H1
                  clear H1
                  replace H := Option.bind_eq_some_iff.mp H
                  obtain ⟨t506, A160, H⟩ := H
                  try dsimp only at H
                  have A16 := Aside0.mk A160
                  clear A160
                  have H' := Aside0.mk H
                  clear H
                  go_wp2_with (first | ((with_reducible refine gate_callee (f := 40) rfl ?_); refine goesL_ (some 35) rfl rfl Tryz.func40 (by kernel_rfl) rfl #[.string t502] rfl (by (try simp only [List.map_toArray, List.map_cons, List.map_nil]); first | done | rfl | (simp only [List.length_drop, List.length_take]; rfl)) ?_; (with_reducible refine (fluxionref04_natural.calls kj10 t502 true _ A14.out).mono ?_); rintro e w' ⟨rfl, ⟨nd, rfl⟩⟩; refine ⟨_, rfl, ?_⟩) | (go_at_call 40; (with_reducible refine (fluxionref04_natural.calls kj10 x7_10 t506 _ A16.out).mono ?_); rintro e w' ⟨rfl, ⟨nd, rfl⟩⟩))
                  go_meet
                  case rel => exact ⟨_, (!t506), (by first | rfl | (simp; done) | (simp [*]; done)), H', ⟨by have := HJ1.out; have := HJ6.out; have := HJ10.out; first | omega | exact Nat.le_refl _⟩, ⟨by exact BK501.out⟩, ⟨by repeat (first | (with_reducible first | exact HB.out | apply below_alloc | apply pw_below_drewN | apply below_drew1 | refine below_set ?_ GE501.out) | exact HB.out)⟩⟩
                · replace c15 := Bool.eq_false_iff.mpr c15
                  subst c15
                  have H1 : (fluxionref04_ParseRat.j3 kj10 a0 x4_1 t502 x7_10 true) = some (r1, r2, r3, r4) := by rw [if_neg (show ¬ (false = true) by decide)] at H; exact H
                  clear H
                  have H := H1
                  clear H1
                  have H' := Aside0.mk H
                  clear H
                  go_wp2_with (first | ((with_reducible refine gate_callee (f := 40) rfl ?_); refine goesL_ (some 35) rfl rfl Tryz.func40 (by kernel_rfl) rfl #[.string t502] rfl (by (try simp only [List.map_toArray, List.map_cons, List.map_nil]); first | done | rfl | (simp only [List.length_drop, List.length_take]; rfl)) ?_; (with_reducible refine (fluxionref04_natural.calls kj10 t502 false _ A14.out).mono ?_); rintro e w' ⟨rfl, ⟨nd, rfl⟩⟩; refine ⟨_, rfl, ?_⟩))
                  go_meet
                  case rel => exact ⟨_, (true), (by first | rfl | (simp; done) | (simp [*]; done)), H', ⟨by have := HJ1.out; have := HJ6.out; have := HJ10.out; first | omega | exact Nat.le_refl _⟩, ⟨by exact BK501.out⟩, ⟨by repeat (first | (with_reducible first | exact HB.out | apply below_alloc | apply pw_below_drewN | apply below_drew1 | refine below_set ?_ GE501.out) | exact HB.out)⟩⟩
              case rest =>
                clear HC13
                try clear c1
                try clear p2
                try clear c3
                try clear c4
                try clear c4b0
                try clear c4b1
                try clear c5
                try clear c5b0
                try clear c5b1
                try clear p6
                try clear q6
                try clear hx6
                try clear qi6
                try clear c8
                try clear c9
                try clear c9b0
                try clear c9b1
                try clear c12
                try clear c13
                try clear c15
                try clear p2
                try clear p6
                try clear q6
                obtain ⟨kq, x41_12, rfl, HA, HJ12, BK501, HB⟩ := hcut
                cases kq with
                | zero => exact absurd HA.out (by simp [fluxionref04_ParseRat.j3])
                | succ kj12 =>
                  have H := HA.out
                  clear HA
                  simp only [fluxionref04_ParseRat.j3] at H
                  by_cases c17 : x41_12 = true
                  · subst c17
                    have H1 : (some (false, ([] : List Int), ([] : List Int), 19)) = some (r1, r2, r3, r4) := by rw [if_pos rfl] at H; exact H
                    clear H
                    have H := H1
                    clear H1
                    simp only [Option.some.injEq, Prod.mk.injEq] at H
                    obtain ⟨rfl, rfl, rfl, rfl⟩ := H
                    have hcz18_0 : wc.cell? ⟨gb501, 0, none⟩ = some (.bool false) := (blk_cell BK501.out 0).trans rfl
                    have hcz18_1 : wc.cell? ⟨gb501, 1, none⟩ = some (.slice none 0 0) := (blk_cell BK501.out 1).trans rfl
                    have hcz18_2 : wc.cell? ⟨gb501, 2, none⟩ = some (.slice none 0 0) := (blk_cell BK501.out 2).trans rfl
                    have hfz18_0 := blk_frozen BK501.out 0
                    have hfz18_1 := blk_frozen BK501.out 1
                    have hfz18_2 := blk_frozen BK501.out 2
                    go_wp2
                    refine bodyPost_ret (results_ct rfl _ _ gb501 32 #[.bool false, .slice none 0 0, .slice none 0 0] (0, 0) _ rfl (by refine blk_put (cs := #[.bool false, .slice none 0 0, .slice none 0 0]) ?_ 2 _ rfl; refine blk_put (cs := #[.bool false, .slice none 0 0, .slice none 0 0]) ?_ 1 _ rfl; refine blk_put (cs := #[.bool false, .slice none 0 0, .slice none 0 0]) ?_ 0 _ rfl; exact BK501.out) Tryz.underlying32 rfl (by kernel_rfl)) rfl ?_
                    exact ⟨_, _, by first | rfl | (simp [errW_none, errW_some] <;> rfl) | (simp [*, errW_none, errW_some] <;> rfl), by first | exact Kd.R_nil _ _ _ _ _ | exact Kd.N_nil _ _ _ _ _ | exact Kd.V_nil _ _ _ _ _ | exact Kd.Q_nil _ _ _ _ _ | exact Kd.S_nil _ _ _ _ _, by first | exact Kd.R_nil _ _ _ _ _ | exact Kd.N_nil _ _ _ _ _ | exact Kd.V_nil _ _ _ _ _ | exact Kd.Q_nil _ _ _ _ _ | exact Kd.S_nil _ _ _ _ _, by repeat (first | (with_reducible first | exact HB.out | apply below_alloc | apply pw_below_drewN | apply below_drew1 | refine below_set ?_ GE501.out) | exact HB.out)⟩
                  · replace c17 := Bool.eq_false_iff.mpr c17
                    subst c17
                    have H1 : ((fluxionref04_ParseNat.f kj12 t502).bind fun bt507 => ((fluxionref04_ParseNat.f kj12 x7_10).bind fun bt511 => (if bt507.2 = 0 then (fluxionref04_ParseRat.j4 kj12 a0 x4_1 bt507.1 bt511.1 (bt511.2 != 0)) else (fluxionref04_ParseRat.j4 kj12 a0 x4_1 bt507.1 bt511.1 true)))) = some (r1, r2, r3, r4) := by rw [if_neg (show ¬ (false = true) by decide)] at H; exact H
                    clear H
                    have H := H1
                    clear H1
                    replace H := Option.bind_eq_some_iff.mp H
                    obtain ⟨⟨t507, t508⟩, A190, H⟩ := H
                    try dsimp only at H
                    have A19 := Aside0.mk A190
                    clear A190
                    replace H := Option.bind_eq_some_iff.mp H
                    obtain ⟨⟨t511, t512⟩, A200, H⟩ := H
                    try dsimp only at H
                    have A20 := Aside0.mk A200
                    clear A200
                    have HC21 := Aside0.mk H
                    clear H
                    go_upto_region 12 with (first | ((with_reducible refine gate_callee (f := 41) rfl ?_); refine goesL_ (some 45) rfl rfl Tryz.func41 (by kernel_rfl) rfl #[.string t502] rfl (by (try simp only [List.map_toArray, List.map_cons, List.map_nil]); first | done | rfl | (simp only [List.length_drop, List.length_take]; rfl)) ?_; (with_reducible refine (fluxionref04_ParseNat.calls kj12 t502 t507 t508 _ A19.out).mono ?_); rintro e w22 ⟨v509, rfl, ho0, hb⟩; refine ⟨_, rfl, ?_⟩; have n0_ := Aside0.mk (Kd.R_lower ho0 (below_size (by repeat (first | (with_reducible first | exact HB.out | apply below_alloc | apply pw_below_drewN | apply below_drew1 | refine below_set ?_ GE501.out) | exact HB.out)))); have n1_ := Aside0.mk (blk_below (g := gb501) (o := .cells #[.bool false, .slice none 0 0, .slice none 0 0] 32 (0, 0)) (by exact BK501.out) hb); have n2_ := Aside0.mk (below_step (by repeat (first | (with_reducible first | exact HB.out | apply below_alloc | apply pw_below_drewN | apply below_drew1 | refine below_set ?_ GE501.out) | exact HB.out)) hb); clear BK501; clear HB; have HO510 := n0_; have BK501 := n1_; have HB := n2_; clear n0_ n1_ n2_; (try clear hb); (try clear hb2); (try clear hk); (try clear hi); (try clear ho0)) | ((with_reducible refine gate_callee (f := 41) rfl ?_); refine goesL_ (some 50) rfl rfl Tryz.func41 (by kernel_rfl) rfl #[.string x7_10] rfl (by (try simp only [List.map_toArray, List.map_cons, List.map_nil]); first | done | rfl | (simp only [List.length_drop, List.length_take]; rfl)) ?_; (with_reducible refine (fluxionref04_ParseNat.calls kj12 x7_10 t511 t512 _ A20.out).mono ?_); rintro e w23 ⟨v513, rfl, ho0, hb⟩; refine ⟨_, rfl, ?_⟩; have n0_ := Aside0.mk (Kd.R_elder' (by exact HO510.out) (Kd.R_base ho0) hb); have n1_ := Aside0.mk (Kd.R_lower (Kd.R_new' ho0 (Kd.R_lt (by exact HO510.out))) (below_size (by repeat (first | (with_reducible first | exact HB.out | apply below_alloc | apply pw_below_drewN | apply below_drew1 | refine below_set ?_ GE501.out) | exact HB.out)))); have n2_ := Aside0.mk (blk_below (g := gb501) (o := .cells #[.bool false, .slice none 0 0, .slice none 0 0] 32 (0, 0)) (by exact BK501.out) hb); have n3_ := Aside0.mk (below_step (by repeat (first | (with_reducible first | exact HB.out | apply below_alloc | apply pw_below_drewN | apply below_drew1 | refine below_set ?_ GE501.out) | exact HB.out)) hb); clear HO510; clear BK501; clear HB; have HO510 := n0_; have HO514 := n1_; have BK501 := n2_; have HB := n3_; clear n0_ n1_ n2_ n3_; (try clear hb); (try clear hb2); (try clear hk); (try clear hi); (try clear ho0)))
                    (try simp only [Act.put, List.setIfInBounds_toArray, List.set_cons_zero, List.set_cons_succ])
                    go_cut [58] (fun v58 wc => ∃ (kq : Nat) (x58_20 : Bool), v58 = .bool x58_20 ∧ Aside0 (fluxionref04_ParseRat.j4 kq a0 x4_1 t507 t511 x58_20 = some (r1, r2, r3, r4)) ∧ Aside0 (kq ≤ kj12) ∧ Aside0 (Kd.R (Kd.int .i64) 3 wc w.heap.size (fun k_ => some k_ ≠ (v513 : Value).ownBlock) v509 t507) ∧ Aside0 (Kd.R (Kd.int .i64) 3 wc w.heap.size (fun k_ => some k_ ≠ (v509 : Value).ownBlock) v513 t511) ∧ Aside0 (wc.heap[gb501]? = some (.cells #[.bool false, (.slice none 0 0), (.slice none 0 0)] 32 (0, 0))) ∧ Aside0 (Below w.heap.size w wc))
                    case first =>
                      have H := HC21.out
                      clear HC21
                      by_cases c24 : t508 = 0
                      · rw [if_pos c24] at H
                        have c24b0 : (t508 == 0) = true := beq_iff_eq.mpr c24
                        have c24b1 : (t508 != 0) = false := bne_eq_false_iff_eq.mpr c24
                        clear c24
                        (first | rw [c24b0] | (simp only [i64_w, i32_w]; rw [c24b0]) | skip)
                        have H' := Aside0.mk H
                        clear H
                        go_wp2
                        go_meet
                        case rel => exact ⟨_, ((t512 != 0)), (by first | rfl | (simp; done) | (simp [*]; done)), H', ⟨by have := HJ1.out; have := HJ6.out; have := HJ10.out; have := HJ12.out; first | omega | exact Nat.le_refl _⟩, ⟨by exact Kd.R_mono HO510.out (fun _ hk => hk.2)⟩, ⟨by exact Kd.R_mono HO514.out (fun _ hk => hk.2)⟩, ⟨by exact BK501.out⟩, ⟨by repeat (first | (with_reducible first | exact HB.out | apply below_alloc | apply pw_below_drewN | apply below_drew1 | refine below_set ?_ GE501.out) | exact HB.out)⟩⟩
                      · rw [if_neg c24] at H
                        have c24b0 : (t508 == 0) = false := beq_eq_false_iff_ne.mpr c24
                        have c24b1 : (t508 != 0) = true := bne_iff_ne.mpr c24
                        (first | rw [c24b0] | (simp only [i64_w, i32_w]; rw [c24b0]) | skip)
                        have H' := Aside0.mk H
                        clear H
                        go_wp2
                        go_meet
                        case rel => exact ⟨_, (true), (by first | rfl | (simp; done) | (simp [*]; done)), H', ⟨by have := HJ1.out; have := HJ6.out; have := HJ10.out; have := HJ12.out; first | omega | exact Nat.le_refl _⟩, ⟨by exact Kd.R_mono HO510.out (fun _ hk => hk.2)⟩, ⟨by exact Kd.R_mono HO514.out (fun _ hk => hk.2)⟩, ⟨by exact BK501.out⟩, ⟨by repeat (first | (with_reducible first | exact HB.out | apply below_alloc | apply pw_below_drewN | apply below_drew1 | refine below_set ?_ GE501.out) | exact HB.out)⟩⟩
                    case rest =>
                      clear HC21
                      try clear c1
                      try clear c2
                      try clear p2
                      try clear c3
                      try clear c4
                      try clear c4b0
                      try clear c4b1
                      try clear c5
                      try clear c5b0
                      try clear c5b1
                      try clear p6
                      try clear q6
                      try clear hx6
                      try clear qi6
                      try clear c8
                      try clear c9
                      try clear c9b0
                      try clear c9b1
                      try clear c12
                      try clear c13
                      try clear c15
                      try clear c17
                      try clear c24
                      try clear c24b0
                      try clear c24b1
                      try clear hcz18_0
                      try clear hcz18_1
                      try clear hcz18_2
                      try clear hfz18_0
                      try clear hfz18_1
                      try clear hfz18_2
                      try clear p2
                      try clear p6
                      try clear q6
                      obtain ⟨kq, x58_20, rfl, HA, HJ20, HO_9, HO_11, BK501, HB⟩ := hcut
                      cases kq with
                      | zero => exact absurd HA.out (by simp [fluxionref04_ParseRat.j4])
                      | succ kj20 =>
                        have H := HA.out
                        clear HA
                        simp only [fluxionref04_ParseRat.j4] at H
                        by_cases c25 : x58_20 = true
                        · subst c25
                          have H1 : (some (false, ([] : List Int), ([] : List Int), 14)) = some (r1, r2, r3, r4) := by rw [if_pos rfl] at H; exact H
                          clear H
                          have H := H1
                          clear H1
                          simp only [Option.some.injEq, Prod.mk.injEq] at H
                          obtain ⟨rfl, rfl, rfl, rfl⟩ := H
                          have hcz26_0 : wc.cell? ⟨gb501, 0, none⟩ = some (.bool false) := (blk_cell BK501.out 0).trans rfl
                          have hcz26_1 : wc.cell? ⟨gb501, 1, none⟩ = some (.slice none 0 0) := (blk_cell BK501.out 1).trans rfl
                          have hcz26_2 : wc.cell? ⟨gb501, 2, none⟩ = some (.slice none 0 0) := (blk_cell BK501.out 2).trans rfl
                          have hfz26_0 := blk_frozen BK501.out 0
                          have hfz26_1 := blk_frozen BK501.out 1
                          have hfz26_2 := blk_frozen BK501.out 2
                          go_wp2
                          refine bodyPost_ret (results_ct rfl _ _ gb501 32 #[.bool false, .slice none 0 0, .slice none 0 0] (0, 0) _ rfl (by refine blk_put (cs := #[.bool false, .slice none 0 0, .slice none 0 0]) ?_ 2 _ rfl; refine blk_put (cs := #[.bool false, .slice none 0 0, .slice none 0 0]) ?_ 1 _ rfl; refine blk_put (cs := #[.bool false, .slice none 0 0, .slice none 0 0]) ?_ 0 _ rfl; exact BK501.out) Tryz.underlying32 rfl (by kernel_rfl)) rfl ?_
                          exact ⟨_, _, by first | rfl | (simp [errW_none, errW_some] <;> rfl) | (simp [*, errW_none, errW_some] <;> rfl), by first | exact Kd.R_nil _ _ _ _ _ | exact Kd.N_nil _ _ _ _ _ | exact Kd.V_nil _ _ _ _ _ | exact Kd.Q_nil _ _ _ _ _ | exact Kd.S_nil _ _ _ _ _, by first | exact Kd.R_nil _ _ _ _ _ | exact Kd.N_nil _ _ _ _ _ | exact Kd.V_nil _ _ _ _ _ | exact Kd.Q_nil _ _ _ _ _ | exact Kd.S_nil _ _ _ _ _, by repeat (first | (with_reducible first | exact HB.out | apply below_alloc | apply pw_below_drewN | apply below_drew1 | refine below_set ?_ GE501.out) | exact HB.out)⟩
                        · replace c25 := Bool.eq_false_iff.mpr c25
                          subst c25
                          have H1 : ((fluxionref03_Make.f kj20 x4_1 t507 t511).bind fun bt515 => ((fluxionref04_Rat.f kj20 bt515.1 bt515.2.1 bt515.2.2).bind fun t523 => (if t523.toList = a0.toList then (some (bt515.1, bt515.2.1, bt515.2.2, 0)) else (some (false, ([] : List Int), ([] : List Int), 6))))) = some (r1, r2, r3, r4) := by rw [if_neg (show ¬ (false = true) by decide)] at H; exact H
                          clear H
                          have H := H1
                          clear H1
                          replace H := Option.bind_eq_some_iff.mp H
                          obtain ⟨⟨t515, t516, t519⟩, A270, H⟩ := H
                          try dsimp only at H
                          have A27 := Aside0.mk A270
                          clear A270
                          replace H := Option.bind_eq_some_iff.mp H
                          obtain ⟨t523, A280, H⟩ := H
                          try dsimp only at H
                          have A28 := Aside0.mk A280
                          clear A280
                          by_cases c29 : t523.toList = a0.toList
                          · rw [if_pos c29] at H
                            have c29b0 : (t523.toList == a0.toList) = true := beq_iff_eq.mpr c29
                            have c29b1 : (t523.toList != a0.toList) = false := bne_eq_false_iff_eq.mpr c29
                            clear c29
                            simp only [Option.some.injEq, Prod.mk.injEq] at H
                            obtain ⟨rfl, rfl, rfl, rfl⟩ := H
                            obtain ⟨Ao30, co30, eo30⟩ := Kd.R_slice HO_9.out
                            subst eo30
                            obtain ⟨Ao31, co31, eo31⟩ := Kd.R_slice HO_11.out
                            subst eo31
                            go_wp2_with (first | ((with_reducible refine gate_callee (f := 33) rfl ?_); refine goesL_ (some 63) rfl rfl Tryz.func33 (by kernel_rfl) rfl #[.bool x4_1, .slice Ao30 t507.length co30, .slice Ao31 t511.length co31] rfl (by (try simp only [List.map_toArray, List.map_cons, List.map_nil]); first | done | rfl | (simp only [List.length_drop, List.length_take]; rfl)) ?_; (with_reducible refine (fluxionref03_Make.calls kj20 x4_1 _ _ t507 _ _ t511 t515 t516 t519 _ ?side1 ?side2 ?side3 ?side4 A27.out).mono ?_); (case side1 => repeat (first | exact (Kd.R_reads' HO_9.out).2.2 | (with_reducible refine Kd.C_alloc ?_ _) | (with_reducible refine Kd.C_drewN ?_ _) | (with_reducible refine Kd.C_drew ?_))); (case side2 => exact (Kd.R_reads' HO_9.out).2.1); (case side3 => repeat (first | exact (Kd.R_reads' HO_11.out).2.2 | (with_reducible refine Kd.C_alloc ?_ _) | (with_reducible refine Kd.C_drewN ?_ _) | (with_reducible refine Kd.C_drew ?_))); (case side4 => exact (Kd.R_reads' HO_11.out).2.1); rintro e w32 ⟨v517, v520, rfl, ho0, ho1, hb⟩; refine ⟨_, rfl, ?_⟩; have n0_ := Aside0.mk (Kd.R_mono (Kd.R_told (Kd.R_told (Kd.R_old (by exact HO_9.out) hb) (Kd.R_base ho0)) (Kd.R_base ho1)) (fun _ h_ => h_.1)); have n1_ := Aside0.mk (Kd.R_mono (Kd.R_told (Kd.R_told (Kd.R_old (by exact HO_11.out) hb) (Kd.R_base ho0)) (Kd.R_base ho1)) (fun _ h_ => h_.1)); have n2_ := Aside0.mk (Kd.R_lower (Kd.R_new' (Kd.R_new' ho0 (Kd.R_lt (by exact HO_9.out))) (Kd.R_lt (by exact HO_11.out))) (below_size (by repeat (first | (with_reducible first | exact HB.out | apply below_alloc | apply pw_below_drewN | apply below_drew1 | refine below_set ?_ GE501.out) | exact HB.out)))); have n3_ := Aside0.mk (Kd.R_lower (Kd.R_new' (Kd.R_new' ho1 (Kd.R_lt (by exact HO_9.out))) (Kd.R_lt (by exact HO_11.out))) (below_size (by repeat (first | (with_reducible first | exact HB.out | apply below_alloc | apply pw_below_drewN | apply below_drew1 | refine below_set ?_ GE501.out) | exact HB.out)))); have n4_ := Aside0.mk (blk_below (g := gb501) (o := .cells #[.bool false, .slice none 0 0, .slice none 0 0] 32 (0, 0)) (by exact BK501.out) hb); have n5_ := Aside0.mk (below_step (by repeat (first | (with_reducible first | exact HB.out | apply below_alloc | apply pw_below_drewN | apply below_drew1 | refine below_set ?_ GE501.out) | exact HB.out)) hb); clear HO_9; clear HO_11; clear BK501; clear HB; have HO_9 := n0_; have HO_11 := n1_; have HO518 := n2_; have HO521 := n3_; have BK501 := n4_; have HB := n5_; clear n0_ n1_ n2_ n3_ n4_ n5_; (try clear hb); (try clear hb2); (try clear hk); (try clear hi); (try clear ho0); (try clear ho1)) | ((with_reducible refine gate_dst (N := 13) rfl ?_); refine box_event ?hg (N := 13) ?hd (cs := #[.bool false, .slice none 0 0, .slice none 0 0]) (t := 32) ?hr ?_; (case hd => rfl); (case hg => rfl); (case hr => first | (go_simp; done) | (go_simp; rfl)); intro gb522 hg w33 hbox hb; have n0_ := Aside0.mk (Kd.R_below (by exact HO_9.out) hb); have n1_ := Aside0.mk (Kd.R_below (by exact HO_11.out) hb); have n2_ := Aside0.mk (Kd.R_below (by exact HO518.out) hb); have n3_ := Aside0.mk (Kd.R_below (by exact HO521.out) hb); have n4_ := Aside0.mk (blk_below (g := gb501) (o := .cells #[.bool false, .slice none 0 0, .slice none 0 0] 32 (0, 0)) (by exact BK501.out) hb); have n5_ := Aside0.mk (below_step (by repeat (first | (with_reducible first | exact HB.out | apply below_alloc | apply pw_below_drewN | apply below_drew1 | refine below_set ?_ GE501.out) | exact HB.out)) hb); have n6_ := Aside0.mk (hbox); have n7_ := Aside0.mk ((by rw [hg]; exact (below_size (by repeat (first | (with_reducible first | exact HB.out | apply below_alloc | apply pw_below_drewN | apply below_drew1 | refine below_set ?_ GE501.out) | exact HB.out))) : w.heap.size ≤ gb522)); have n8_ := Aside0.mk ((by rw [hg]; exact (below_size (by repeat (first | (with_reducible first | exact HB.out | apply below_alloc | apply pw_below_drewN | apply below_drew1 | refine below_set ?_ GE501.out) | exact HB.out))) : w.heap.size ≤ gb522)); have n9_ := Aside0.mk ((by rw [hg]; exact Nat.ne_of_lt (blk_lt (g := gb501) (o := .cells #[.bool false, .slice none 0 0, .slice none 0 0] 32 (0, 0)) (by exact BK501.out)) : gb501 ≠ gb522)); have n10_ := Aside0.mk ((by rw [hg]; exact Nat.ne_of_gt (blk_lt (g := gb501) (o := .cells #[.bool false, .slice none 0 0, .slice none 0 0] 32 (0, 0)) (by exact BK501.out)) : gb522 ≠ gb501)); clear HO_9; clear HO_11; clear HO518; clear HO521; clear BK501; clear HB; have HO_9 := n0_; have HO_11 := n1_; have HO518 := n2_; have HO521 := n3_; have BK501 := n4_; have HB := n5_; have BK522 := n6_; have GW522 := n7_; have GE522 := n8_; have NB501_522 := n9_; have NB522_501 := n10_; clear n0_ n1_ n2_ n3_ n4_ n5_ n6_ n7_ n8_ n9_ n10_; clear hb hbox hg; have hnb34 := NB522_501.out; have hnc34 := NB501_522.out; have hcz35_0 : w33.cell? ⟨gb522, 0, none⟩ = some (.bool false) := (blk_cell BK522.out 0).trans rfl; have hcz35_1 : w33.cell? ⟨gb522, 1, none⟩ = some (.slice none 0 0) := (blk_cell BK522.out 1).trans rfl; have hcz35_2 : w33.cell? ⟨gb522, 2, none⟩ = some (.slice none 0 0) := (blk_cell BK522.out 2).trans rfl; have hfz35_0 := blk_frozen BK522.out 0; have hfz35_1 := blk_frozen BK522.out 1; have hfz35_2 := blk_frozen BK522.out 2; obtain ⟨Ao36, co36, eo36⟩ := Kd.R_slice HO518.out; subst eo36; obtain ⟨Ao37, co37, eo37⟩ := Kd.R_slice HO521.out; subst eo37) | ((with_reducible refine gate_callee (f := 10) rfl ?_); refine goesL_ (some 65) rfl rfl Tryz.func10 (by kernel_rfl) rfl #[.agg #[.bool t515, .slice Ao36 t516.length co36, .slice Ao37 t519.length co37]] rfl (by (try simp only [List.map_toArray, List.map_cons, List.map_nil]); first | done | rfl | (simp only [List.length_drop, List.length_take]; rfl)) ?_; (with_reducible refine (fluxionref04_Rat.calls kj20 t515 _ _ t516 _ _ t519 t523 _ ?side1 ?side2 ?side3 ?side4 A28.out).mono ?_); (case side1 => refine (Kd.R_reads' (e := 3) (base := w.heap.size) (ok := fun k_ => ((some k_ ≠ (.slice Ao37 t519.length co37 : Value).ownBlock ∧ some k_ ≠ (.slice Ao30 t507.length co30 : Value).ownBlock) ∧ some k_ ≠ (.slice Ao31 t511.length co31 : Value).ownBlock)) (n := t516.length) (c := co36) ?_).2.2; exact (by exact (Kd.R_mono (Kd.R_far (p := ⟨gb522, 2, none⟩) (Kd.R_far (p := ⟨gb522, 1, none⟩) (Kd.R_far (p := ⟨gb522, 0, none⟩) (Kd.R_types HO518.out BK522.out (by decide)) (fun _ hk => hk.2) (.bool t515)) (fun _ hk => hk.2) (.slice Ao36 t516.length co36)) (fun _ hk => hk.2) (.slice Ao37 t519.length co37)) (fun _ h_ => h_.1)))); (case side2 => exact (Kd.R_reads' HO518.out).2.1); (case side3 => refine (Kd.R_reads' (e := 3) (base := w.heap.size) (ok := fun k_ => ((some k_ ≠ (.slice Ao36 t516.length co36 : Value).ownBlock ∧ some k_ ≠ (.slice Ao30 t507.length co30 : Value).ownBlock) ∧ some k_ ≠ (.slice Ao31 t511.length co31 : Value).ownBlock)) (n := t519.length) (c := co37) ?_).2.2; exact (by exact (Kd.R_mono (Kd.R_far (p := ⟨gb522, 2, none⟩) (Kd.R_far (p := ⟨gb522, 1, none⟩) (Kd.R_far (p := ⟨gb522, 0, none⟩) (Kd.R_types HO521.out BK522.out (by decide)) (fun _ hk => hk.2) (.bool t515)) (fun _ hk => hk.2) (.slice Ao36 t516.length co36)) (fun _ hk => hk.2) (.slice Ao37 t519.length co37)) (fun _ h_ => h_.1)))); (case side4 => exact (Kd.R_reads' HO521.out).2.1); rintro e w38 ⟨rfl, hb⟩; refine ⟨_, rfl, ?_⟩; have n0_ := Aside0.mk (Kd.R_below (by exact (Kd.R_mono (Kd.R_far (p := ⟨gb522, 2, none⟩) (Kd.R_far (p := ⟨gb522, 1, none⟩) (Kd.R_far (p := ⟨gb522, 0, none⟩) (Kd.R_types HO_9.out BK522.out (by decide)) (fun _ hk => hk.2) (.bool t515)) (fun _ hk => hk.2) (.slice Ao36 t516.length co36)) (fun _ hk => hk.2) (.slice Ao37 t519.length co37)) (fun _ h_ => h_.1))) hb); have n1_ := Aside0.mk (Kd.R_below (by exact (Kd.R_mono (Kd.R_far (p := ⟨gb522, 2, none⟩) (Kd.R_far (p := ⟨gb522, 1, none⟩) (Kd.R_far (p := ⟨gb522, 0, none⟩) (Kd.R_types HO_11.out BK522.out (by decide)) (fun _ hk => hk.2) (.bool t515)) (fun _ hk => hk.2) (.slice Ao36 t516.length co36)) (fun _ hk => hk.2) (.slice Ao37 t519.length co37)) (fun _ h_ => h_.1))) hb); have n2_ := Aside0.mk (Kd.R_below (by exact (Kd.R_mono (Kd.R_far (p := ⟨gb522, 2, none⟩) (Kd.R_far (p := ⟨gb522, 1, none⟩) (Kd.R_far (p := ⟨gb522, 0, none⟩) (Kd.R_types HO518.out BK522.out (by decide)) (fun _ hk => hk.2) (.bool t515)) (fun _ hk => hk.2) (.slice Ao36 t516.length co36)) (fun _ hk => hk.2) (.slice Ao37 t519.length co37)) (fun _ h_ => h_.1))) hb); have n3_ := Aside0.mk (Kd.R_below (by exact (Kd.R_mono (Kd.R_far (p := ⟨gb522, 2, none⟩) (Kd.R_far (p := ⟨gb522, 1, none⟩) (Kd.R_far (p := ⟨gb522, 0, none⟩) (Kd.R_types HO521.out BK522.out (by decide)) (fun _ hk => hk.2) (.bool t515)) (fun _ hk => hk.2) (.slice Ao36 t516.length co36)) (fun _ hk => hk.2) (.slice Ao37 t519.length co37)) (fun _ h_ => h_.1))) hb); have n4_ := Aside0.mk (blk_below (g := gb501) (o := .cells #[.bool false, .slice none 0 0, .slice none 0 0] 32 (0, 0)) (by refine blk_far ?_ NB501_522.out _; refine blk_far ?_ NB501_522.out _; refine blk_far ?_ NB501_522.out _; exact BK501.out) hb); have n5_ := Aside0.mk (blk_below (g := gb522) (o := .cells #[.bool t515, .slice Ao36 t516.length co36, .slice Ao37 t519.length co37] 32 (0, 0)) (by refine blk_put (cs := #[.bool t515, .slice Ao36 t516.length co36, .slice none 0 0]) ?_ 2 _ rfl; refine blk_put (cs := #[.bool t515, .slice none 0 0, .slice none 0 0]) ?_ 1 _ rfl; refine blk_put (cs := #[.bool false, .slice none 0 0, .slice none 0 0]) ?_ 0 _ rfl; exact BK522.out) hb); have n6_ := Aside0.mk (below_step (by repeat (first | (with_reducible first | exact HB.out | apply below_alloc | apply pw_below_drewN | apply below_drew1 | refine below_set ?_ GE501.out | refine below_set ?_ GE522.out) | exact HB.out)) hb); clear HO_9; clear HO_11; clear HO518; clear HO521; clear BK501; clear BK522; clear HB; have HO_9 := n0_; have HO_11 := n1_; have HO518 := n2_; have HO521 := n3_; have BK501 := n4_; have BK522 := n5_; have HB := n6_; clear n0_ n1_ n2_ n3_ n4_ n5_ n6_; (try clear hb); (try clear hb2); (try clear hk); (try clear hi); have hcz39_0 : w38.cell? ⟨gb522, 0, none⟩ = some (.bool t515) := (blk_cell BK522.out 0).trans rfl; have hcz39_1 : w38.cell? ⟨gb522, 1, none⟩ = some (.slice Ao36 t516.length co36) := (blk_cell BK522.out 1).trans rfl; have hcz39_2 : w38.cell? ⟨gb522, 2, none⟩ = some (.slice Ao37 t519.length co37) := (blk_cell BK522.out 2).trans rfl; have hfz39_0 := blk_frozen BK522.out 0; have hfz39_1 := blk_frozen BK522.out 1; have hfz39_2 := blk_frozen BK522.out 2; have hcz40_0 : w38.cell? ⟨gb501, 0, none⟩ = some (.bool false) := (blk_cell BK501.out 0).trans rfl; have hcz40_1 : w38.cell? ⟨gb501, 1, none⟩ = some (.slice none 0 0) := (blk_cell BK501.out 1).trans rfl; have hcz40_2 : w38.cell? ⟨gb501, 2, none⟩ = some (.slice none 0 0) := (blk_cell BK501.out 2).trans rfl; have hfz40_0 := blk_frozen BK501.out 0; have hfz40_1 := blk_frozen BK501.out 1; have hfz40_2 := blk_frozen BK501.out 2))
                            refine bodyPost_ret (results_ct rfl _ _ gb501 32 #[.bool t515, .slice Ao36 t516.length co36, .slice Ao37 t519.length co37] (0, 0) _ rfl (by refine blk_put (cs := #[.bool t515, .slice Ao36 t516.length co36, .slice none 0 0]) ?_ 2 _ rfl; refine blk_put (cs := #[.bool t515, .slice none 0 0, .slice none 0 0]) ?_ 1 _ rfl; refine blk_put (cs := #[.bool false, .slice none 0 0, .slice none 0 0]) ?_ 0 _ rfl; exact BK501.out) Tryz.underlying32 rfl (by kernel_rfl)) rfl ?_
                            exact ⟨_, _, by first | rfl | (simp [errW_none, errW_some] <;> rfl) | (simp [*, errW_none, errW_some] <;> rfl), by exact Kd.R_mono (Kd.R_far (p := ⟨gb501, 2, none⟩) (Kd.R_far (p := ⟨gb501, 1, none⟩) (Kd.R_far (p := ⟨gb501, 0, none⟩) (Kd.R_types HO518.out BK501.out (by decide)) (fun _ hk => hk.2) (.bool t515)) (fun _ hk => hk.2) (.slice Ao36 t516.length co36)) (fun _ hk => hk.2) (.slice Ao37 t519.length co37)) (fun _ hk => hk.1.1.1), by exact Kd.R_mono (Kd.R_far (p := ⟨gb501, 2, none⟩) (Kd.R_far (p := ⟨gb501, 1, none⟩) (Kd.R_far (p := ⟨gb501, 0, none⟩) (Kd.R_types HO521.out BK501.out (by decide)) (fun _ hk => hk.2) (.bool t515)) (fun _ hk => hk.2) (.slice Ao36 t516.length co36)) (fun _ hk => hk.2) (.slice Ao37 t519.length co37)) (fun _ hk => hk.1.1.1), by repeat (first | (with_reducible first | exact HB.out | apply below_alloc | apply pw_below_drewN | apply below_drew1 | refine below_set ?_ GE501.out | refine below_set ?_ GE522.out) | exact HB.out)⟩
                          · rw [if_neg c29] at H
                            have c29b0 : (t523.toList == a0.toList) = false := beq_eq_false_iff_ne.mpr c29
                            have c29b1 : (t523.toList != a0.toList) = true := bne_iff_ne.mpr c29
                            simp only [Option.some.injEq, Prod.mk.injEq] at H
                            obtain ⟨rfl, rfl, rfl, rfl⟩ := H
                            obtain ⟨Ao41, co41, eo41⟩ := Kd.R_slice HO_9.out
                            subst eo41
                            obtain ⟨Ao42, co42, eo42⟩ := Kd.R_slice HO_11.out
                            subst eo42
                            go_wp2_with (first | ((with_reducible refine gate_callee (f := 33) rfl ?_); refine goesL_ (some 63) rfl rfl Tryz.func33 (by kernel_rfl) rfl #[.bool x4_1, .slice Ao41 t507.length co41, .slice Ao42 t511.length co42] rfl (by (try simp only [List.map_toArray, List.map_cons, List.map_nil]); first | done | rfl | (simp only [List.length_drop, List.length_take]; rfl)) ?_; (with_reducible refine (fluxionref03_Make.calls kj20 x4_1 _ _ t507 _ _ t511 t515 t516 t519 _ ?side1 ?side2 ?side3 ?side4 A27.out).mono ?_); (case side1 => repeat (first | exact (Kd.R_reads' HO_9.out).2.2 | (with_reducible refine Kd.C_alloc ?_ _) | (with_reducible refine Kd.C_drewN ?_ _) | (with_reducible refine Kd.C_drew ?_))); (case side2 => exact (Kd.R_reads' HO_9.out).2.1); (case side3 => repeat (first | exact (Kd.R_reads' HO_11.out).2.2 | (with_reducible refine Kd.C_alloc ?_ _) | (with_reducible refine Kd.C_drewN ?_ _) | (with_reducible refine Kd.C_drew ?_))); (case side4 => exact (Kd.R_reads' HO_11.out).2.1); rintro e w43 ⟨v517, v520, rfl, ho0, ho1, hb⟩; refine ⟨_, rfl, ?_⟩; have n0_ := Aside0.mk (Kd.R_mono (Kd.R_told (Kd.R_told (Kd.R_old (by exact HO_9.out) hb) (Kd.R_base ho0)) (Kd.R_base ho1)) (fun _ h_ => h_.1)); have n1_ := Aside0.mk (Kd.R_mono (Kd.R_told (Kd.R_told (Kd.R_old (by exact HO_11.out) hb) (Kd.R_base ho0)) (Kd.R_base ho1)) (fun _ h_ => h_.1)); have n2_ := Aside0.mk (Kd.R_lower (Kd.R_new' (Kd.R_new' ho0 (Kd.R_lt (by exact HO_9.out))) (Kd.R_lt (by exact HO_11.out))) (below_size (by repeat (first | (with_reducible first | exact HB.out | apply below_alloc | apply pw_below_drewN | apply below_drew1 | refine below_set ?_ GE501.out) | exact HB.out)))); have n3_ := Aside0.mk (Kd.R_lower (Kd.R_new' (Kd.R_new' ho1 (Kd.R_lt (by exact HO_9.out))) (Kd.R_lt (by exact HO_11.out))) (below_size (by repeat (first | (with_reducible first | exact HB.out | apply below_alloc | apply pw_below_drewN | apply below_drew1 | refine below_set ?_ GE501.out) | exact HB.out)))); have n4_ := Aside0.mk (blk_below (g := gb501) (o := .cells #[.bool false, .slice none 0 0, .slice none 0 0] 32 (0, 0)) (by exact BK501.out) hb); have n5_ := Aside0.mk (below_step (by repeat (first | (with_reducible first | exact HB.out | apply below_alloc | apply pw_below_drewN | apply below_drew1 | refine below_set ?_ GE501.out) | exact HB.out)) hb); clear HO_9; clear HO_11; clear BK501; clear HB; have HO_9 := n0_; have HO_11 := n1_; have HO518 := n2_; have HO521 := n3_; have BK501 := n4_; have HB := n5_; clear n0_ n1_ n2_ n3_ n4_ n5_; (try clear hb); (try clear hb2); (try clear hk); (try clear hi); (try clear ho0); (try clear ho1)) | ((with_reducible refine gate_dst (N := 13) rfl ?_); refine box_event ?hg (N := 13) ?hd (cs := #[.bool false, .slice none 0 0, .slice none 0 0]) (t := 32) ?hr ?_; (case hd => rfl); (case hg => rfl); (case hr => first | (go_simp; done) | (go_simp; rfl)); intro gb522 hg w44 hbox hb; have n0_ := Aside0.mk (Kd.R_below (by exact HO_9.out) hb); have n1_ := Aside0.mk (Kd.R_below (by exact HO_11.out) hb); have n2_ := Aside0.mk (Kd.R_below (by exact HO518.out) hb); have n3_ := Aside0.mk (Kd.R_below (by exact HO521.out) hb); have n4_ := Aside0.mk (blk_below (g := gb501) (o := .cells #[.bool false, .slice none 0 0, .slice none 0 0] 32 (0, 0)) (by exact BK501.out) hb); have n5_ := Aside0.mk (below_step (by repeat (first | (with_reducible first | exact HB.out | apply below_alloc | apply pw_below_drewN | apply below_drew1 | refine below_set ?_ GE501.out) | exact HB.out)) hb); have n6_ := Aside0.mk (hbox); have n7_ := Aside0.mk ((by rw [hg]; exact (below_size (by repeat (first | (with_reducible first | exact HB.out | apply below_alloc | apply pw_below_drewN | apply below_drew1 | refine below_set ?_ GE501.out) | exact HB.out))) : w.heap.size ≤ gb522)); have n8_ := Aside0.mk ((by rw [hg]; exact (below_size (by repeat (first | (with_reducible first | exact HB.out | apply below_alloc | apply pw_below_drewN | apply below_drew1 | refine below_set ?_ GE501.out) | exact HB.out))) : w.heap.size ≤ gb522)); have n9_ := Aside0.mk ((by rw [hg]; exact Nat.ne_of_lt (blk_lt (g := gb501) (o := .cells #[.bool false, .slice none 0 0, .slice none 0 0] 32 (0, 0)) (by exact BK501.out)) : gb501 ≠ gb522)); have n10_ := Aside0.mk ((by rw [hg]; exact Nat.ne_of_gt (blk_lt (g := gb501) (o := .cells #[.bool false, .slice none 0 0, .slice none 0 0] 32 (0, 0)) (by exact BK501.out)) : gb522 ≠ gb501)); clear HO_9; clear HO_11; clear HO518; clear HO521; clear BK501; clear HB; have HO_9 := n0_; have HO_11 := n1_; have HO518 := n2_; have HO521 := n3_; have BK501 := n4_; have HB := n5_; have BK522 := n6_; have GW522 := n7_; have GE522 := n8_; have NB501_522 := n9_; have NB522_501 := n10_; clear n0_ n1_ n2_ n3_ n4_ n5_ n6_ n7_ n8_ n9_ n10_; clear hb hbox hg; have hnb45 := NB522_501.out; have hnc45 := NB501_522.out; have hcz46_0 : w44.cell? ⟨gb522, 0, none⟩ = some (.bool false) := (blk_cell BK522.out 0).trans rfl; have hcz46_1 : w44.cell? ⟨gb522, 1, none⟩ = some (.slice none 0 0) := (blk_cell BK522.out 1).trans rfl; have hcz46_2 : w44.cell? ⟨gb522, 2, none⟩ = some (.slice none 0 0) := (blk_cell BK522.out 2).trans rfl; have hfz46_0 := blk_frozen BK522.out 0; have hfz46_1 := blk_frozen BK522.out 1; have hfz46_2 := blk_frozen BK522.out 2; obtain ⟨Ao47, co47, eo47⟩ := Kd.R_slice HO518.out; subst eo47; obtain ⟨Ao48, co48, eo48⟩ := Kd.R_slice HO521.out; subst eo48) | ((with_reducible refine gate_callee (f := 10) rfl ?_); refine goesL_ (some 65) rfl rfl Tryz.func10 (by kernel_rfl) rfl #[.agg #[.bool t515, .slice Ao47 t516.length co47, .slice Ao48 t519.length co48]] rfl (by (try simp only [List.map_toArray, List.map_cons, List.map_nil]); first | done | rfl | (simp only [List.length_drop, List.length_take]; rfl)) ?_; (with_reducible refine (fluxionref04_Rat.calls kj20 t515 _ _ t516 _ _ t519 t523 _ ?side1 ?side2 ?side3 ?side4 A28.out).mono ?_); (case side1 => refine (Kd.R_reads' (e := 3) (base := w.heap.size) (ok := fun k_ => ((some k_ ≠ (.slice Ao48 t519.length co48 : Value).ownBlock ∧ some k_ ≠ (.slice Ao41 t507.length co41 : Value).ownBlock) ∧ some k_ ≠ (.slice Ao42 t511.length co42 : Value).ownBlock)) (n := t516.length) (c := co47) ?_).2.2; exact (by exact (Kd.R_mono (Kd.R_far (p := ⟨gb522, 2, none⟩) (Kd.R_far (p := ⟨gb522, 1, none⟩) (Kd.R_far (p := ⟨gb522, 0, none⟩) (Kd.R_types HO518.out BK522.out (by decide)) (fun _ hk => hk.2) (.bool t515)) (fun _ hk => hk.2) (.slice Ao47 t516.length co47)) (fun _ hk => hk.2) (.slice Ao48 t519.length co48)) (fun _ h_ => h_.1)))); (case side2 => exact (Kd.R_reads' HO518.out).2.1); (case side3 => refine (Kd.R_reads' (e := 3) (base := w.heap.size) (ok := fun k_ => ((some k_ ≠ (.slice Ao47 t516.length co47 : Value).ownBlock ∧ some k_ ≠ (.slice Ao41 t507.length co41 : Value).ownBlock) ∧ some k_ ≠ (.slice Ao42 t511.length co42 : Value).ownBlock)) (n := t519.length) (c := co48) ?_).2.2; exact (by exact (Kd.R_mono (Kd.R_far (p := ⟨gb522, 2, none⟩) (Kd.R_far (p := ⟨gb522, 1, none⟩) (Kd.R_far (p := ⟨gb522, 0, none⟩) (Kd.R_types HO521.out BK522.out (by decide)) (fun _ hk => hk.2) (.bool t515)) (fun _ hk => hk.2) (.slice Ao47 t516.length co47)) (fun _ hk => hk.2) (.slice Ao48 t519.length co48)) (fun _ h_ => h_.1)))); (case side4 => exact (Kd.R_reads' HO521.out).2.1); rintro e w49 ⟨rfl, hb⟩; refine ⟨_, rfl, ?_⟩; have n0_ := Aside0.mk (Kd.R_below (by exact (Kd.R_mono (Kd.R_far (p := ⟨gb522, 2, none⟩) (Kd.R_far (p := ⟨gb522, 1, none⟩) (Kd.R_far (p := ⟨gb522, 0, none⟩) (Kd.R_types HO_9.out BK522.out (by decide)) (fun _ hk => hk.2) (.bool t515)) (fun _ hk => hk.2) (.slice Ao47 t516.length co47)) (fun _ hk => hk.2) (.slice Ao48 t519.length co48)) (fun _ h_ => h_.1))) hb); have n1_ := Aside0.mk (Kd.R_below (by exact (Kd.R_mono (Kd.R_far (p := ⟨gb522, 2, none⟩) (Kd.R_far (p := ⟨gb522, 1, none⟩) (Kd.R_far (p := ⟨gb522, 0, none⟩) (Kd.R_types HO_11.out BK522.out (by decide)) (fun _ hk => hk.2) (.bool t515)) (fun _ hk => hk.2) (.slice Ao47 t516.length co47)) (fun _ hk => hk.2) (.slice Ao48 t519.length co48)) (fun _ h_ => h_.1))) hb); have n2_ := Aside0.mk (Kd.R_below (by exact (Kd.R_mono (Kd.R_far (p := ⟨gb522, 2, none⟩) (Kd.R_far (p := ⟨gb522, 1, none⟩) (Kd.R_far (p := ⟨gb522, 0, none⟩) (Kd.R_types HO518.out BK522.out (by decide)) (fun _ hk => hk.2) (.bool t515)) (fun _ hk => hk.2) (.slice Ao47 t516.length co47)) (fun _ hk => hk.2) (.slice Ao48 t519.length co48)) (fun _ h_ => h_.1))) hb); have n3_ := Aside0.mk (Kd.R_below (by exact (Kd.R_mono (Kd.R_far (p := ⟨gb522, 2, none⟩) (Kd.R_far (p := ⟨gb522, 1, none⟩) (Kd.R_far (p := ⟨gb522, 0, none⟩) (Kd.R_types HO521.out BK522.out (by decide)) (fun _ hk => hk.2) (.bool t515)) (fun _ hk => hk.2) (.slice Ao47 t516.length co47)) (fun _ hk => hk.2) (.slice Ao48 t519.length co48)) (fun _ h_ => h_.1))) hb); have n4_ := Aside0.mk (blk_below (g := gb501) (o := .cells #[.bool false, .slice none 0 0, .slice none 0 0] 32 (0, 0)) (by refine blk_far ?_ NB501_522.out _; refine blk_far ?_ NB501_522.out _; refine blk_far ?_ NB501_522.out _; exact BK501.out) hb); have n5_ := Aside0.mk (blk_below (g := gb522) (o := .cells #[.bool t515, .slice Ao47 t516.length co47, .slice Ao48 t519.length co48] 32 (0, 0)) (by refine blk_put (cs := #[.bool t515, .slice Ao47 t516.length co47, .slice none 0 0]) ?_ 2 _ rfl; refine blk_put (cs := #[.bool t515, .slice none 0 0, .slice none 0 0]) ?_ 1 _ rfl; refine blk_put (cs := #[.bool false, .slice none 0 0, .slice none 0 0]) ?_ 0 _ rfl; exact BK522.out) hb); have n6_ := Aside0.mk (below_step (by repeat (first | (with_reducible first | exact HB.out | apply below_alloc | apply pw_below_drewN | apply below_drew1 | refine below_set ?_ GE501.out | refine below_set ?_ GE522.out) | exact HB.out)) hb); clear HO_9; clear HO_11; clear HO518; clear HO521; clear BK501; clear BK522; clear HB; have HO_9 := n0_; have HO_11 := n1_; have HO518 := n2_; have HO521 := n3_; have BK501 := n4_; have BK522 := n5_; have HB := n6_; clear n0_ n1_ n2_ n3_ n4_ n5_ n6_; (try clear hb); (try clear hb2); (try clear hk); (try clear hi); have hcz50_0 : w49.cell? ⟨gb501, 0, none⟩ = some (.bool false) := (blk_cell BK501.out 0).trans rfl; have hcz50_1 : w49.cell? ⟨gb501, 1, none⟩ = some (.slice none 0 0) := (blk_cell BK501.out 1).trans rfl; have hcz50_2 : w49.cell? ⟨gb501, 2, none⟩ = some (.slice none 0 0) := (blk_cell BK501.out 2).trans rfl; have hfz50_0 := blk_frozen BK501.out 0; have hfz50_1 := blk_frozen BK501.out 1; have hfz50_2 := blk_frozen BK501.out 2))
                            refine bodyPost_ret (results_ct rfl _ _ gb501 32 #[.bool false, .slice none 0 0, .slice none 0 0] (0, 0) _ rfl (by refine blk_put (cs := #[.bool false, .slice none 0 0, .slice none 0 0]) ?_ 2 _ rfl; refine blk_put (cs := #[.bool false, .slice none 0 0, .slice none 0 0]) ?_ 1 _ rfl; refine blk_put (cs := #[.bool false, .slice none 0 0, .slice none 0 0]) ?_ 0 _ rfl; exact BK501.out) Tryz.underlying32 rfl (by kernel_rfl)) rfl ?_
                            exact ⟨_, _, by first | rfl | (simp [errW_none, errW_some] <;> rfl) | (simp [*, errW_none, errW_some] <;> rfl), by first | exact Kd.R_nil _ _ _ _ _ | exact Kd.N_nil _ _ _ _ _ | exact Kd.V_nil _ _ _ _ _ | exact Kd.Q_nil _ _ _ _ _ | exact Kd.S_nil _ _ _ _ _, by first | exact Kd.R_nil _ _ _ _ _ | exact Kd.N_nil _ _ _ _ _ | exact Kd.V_nil _ _ _ _ _ | exact Kd.Q_nil _ _ _ _ _ | exact Kd.S_nil _ _ _ _ _, by repeat (first | (with_reducible first | exact HB.out | apply below_alloc | apply pw_below_drewN | apply below_drew1 | refine below_set ?_ GE501.out | refine below_set ?_ GE522.out) | exact HB.out)⟩

end Go.Proofs.YtpncflaoikeidaaGreatDoor.P
namespace Go.Proofs.YtpncflaoikeidaaGreatDoor.H
open Go.RowKit Go.Lib Go.Proofs.YtpncflaoikeidaaGreatDoorW.PrintWords Go.Proofs.YtpncflaoikeidaaGreatDoorW.PrintLast Go.Proofs.YtpncflaoikeidaaGreatDoorW.PrintMore Go.Proofs.YtpncflaoikeidaaGreatDoor.P
theorem notbig_limbs {n : Nat} (h : ¬ big n = true) : (limbs n).length ≤ 32 := Nat.le_of_not_lt fun hc => h ((big_len n).2 hc)
theorem notbig_c4 {n : Nat} (h : ¬ big n = true) : (c4 n).length ≤ 96 := by
  have h1 := notbig_limbs h
  have h2 := nval_lt (okl_limbs n)
  rw [nval_limbs] at h2
  have h3 := c4_limbs h2
  clear h2
  omega
theorem j4_f (s : ByteArray) (neg : Bool) (a b k : Nat) (ha : (c4 a).length ≤ 96) (hb : (c4 b).length ≤ 96) (hk : 5002600000 + b ≤ k) :
    fluxionref04_ParseRat.j4 (k + 1) s neg (c4 a) (c4 b) false = some (if ratT (redN neg a b) = s.data.toList then ((redN neg a b).1, c4 (redN neg a b).2.1, c4 (redN neg a b).2.2, 0) else (false, c4 0, c4 0, 6)) := by
  obtain ⟨c1, c2⟩ := c4_red_len neg a b (m := 100) (by omega) (by omega) (by decide)
  rw [fluxionref04_ParseRat.j4, if_neg (by decide), make2_f neg a b k (by omega) (by omega) (by omega), Option.bind_some]
  simp only
  rw [refRat_f _ _ _ _ (by omega) (by omega) (by omega), Option.bind_some, bytes_list, toList_data, c4_zero]
  by_cases h : ratT (redN neg a b) = s.data.toList
  · rw [if_pos h, if_pos h]
  · rw [if_neg h, if_neg h]
theorem j4_bad (s : ByteArray) (neg : Bool) (x y : List Int) (k : Nat) : fluxionref04_ParseRat.j4 (k + 1) s neg x y true = some (false, c4 0, c4 0, 14) := by
  rw [fluxionref04_ParseRat.j4, if_pos rfl, c4_zero]
theorem j3_f (s : ByteArray) (neg : Bool) (x y : List UInt8) (k Kb : Nat) (hx : x.length < 150000000000000) (hy : y.length < 150000000000000) (hxk : x.length < k) (hyk : y.length < k) (n1 : natB x = true) (n2 : natB y = true) (hK : ∀ n, ¬ big n = true → n < Kb) (hk : 5002600000 + Kb ≤ k) :
    fluxionref04_ParseRat.j3 (k + 2) s neg ⟨x.toArray⟩ ⟨y.toArray⟩ false = some (if (big (dv x) || big (dv y)) = true then (false, c4 0, c4 0, 14) else if ratT (redN neg (dv x) (dv y)) = s.data.toList then ((redN neg (dv x) (dv y)).1, c4 (redN neg (dv x) (dv y)).2.1, c4 (redN neg (dv x) (dv y)).2.2, 0) else (false, c4 0, c4 0, 6)) := by
  have r1 := refParseNat_f ⟨x.toArray⟩ (k + 1) hx (by rw [bytes_size]; omega) (by omega)
  have r2 := refParseNat_f ⟨y.toArray⟩ (k + 1) hy (by rw [bytes_size]; omega) (by omega)
  rw [bytes_data] at r1 r2
  rw [fluxionref04_ParseRat.j3, if_neg (by decide), r1, Option.bind_some, r2, Option.bind_some]
  unfold PN
  rw [if_pos n1, if_pos n2]
  by_cases b1 : big (dv x) = true
  · rw [if_pos b1, b1, Bool.true_or, if_pos rfl]
    simp only
    rw [if_neg (by decide), j4_bad]
  · have b1' : big (dv x) = false := by simpa using b1
    rw [if_neg b1, b1', Bool.false_or]
    simp only
    by_cases b2 : big (dv y) = true
    · rw [if_pos trivial, if_pos b2, if_pos b2]
      exact j4_bad _ _ _ _ _
    · rw [if_pos trivial, if_neg b2, if_neg b2]
      have := hK _ b2
      exact j4_f s neg _ _ k (notbig_c4 b1) (notbig_c4 b2) (by omega)
theorem refParseRat_f (s : ByteArray) (k Kb : Nat) (hz : s.size ≤ 140737488351232) (hK : ∀ n, ¬ big n = true → n < Kb) (hk : 5002600010 + Kb ≤ k) (hsk : s.size + 10 ≤ k) :
    fluxionref04_ParseRat.f k s = some ((PR s.data.toList).1.1, c4 (PR s.data.toList).1.2.1, c4 (PR s.data.toList).1.2.2, (PR s.data.toList).2) := by
  obtain ⟨k, rfl⟩ : ∃ k2, k = k2 + 5 := ⟨k - 5, by omega⟩
  have hs := size_len s
  have hrl := restB_len s.data.toList
  have h0 : fluxionref04_ParseRat.f (k + 5) s = fluxionref04_ParseRat.j0 (k + 5) s (negB s.data.toList) := by
    unfold fluxionref04_ParseRat.f
    by_cases h : 0 < s.size
    · rw [if_pos (by omega), if_pos (by omega)]
      congr 1
      cases hl : s.data.toList with
      | nil => rw [hl] at hs; simp at hs; omega
      | cons c m =>
        have e : s = ⟨(c :: m).toArray⟩ := by rw [bytes_of s, hl]
        have hb : bt s 0 = (c.toNat : Int) := by
          rw [e]; exact bt_list (l := c :: m) (i := 0) (by simp)
        rw [hb]
        unfold negB
        rw [List.head?_cons, Bool.eq_iff_iff, beq_iff_eq, beq_iff_eq, Option.some.injEq]
        constructor
        · intro h; exact UInt8.toNat_inj.1 (by have : (45 : UInt8).toNat = 45 := rfl; omega)
        · intro h; rw [h]; rfl
    · rw [if_neg (by omega)]
      have : s.data.toList = [] := List.eq_nil_of_length_eq_zero (by omega)
      rw [this]; rfl
  have h1 : fluxionref04_ParseRat.j0 (k + 5) s (negB s.data.toList) = fluxionref04_ParseRat.j1 (k + 4) s (negB s.data.toList) ⟨(restB s.data.toList).toArray⟩ := by
    rw [fluxionref04_ParseRat.j0]
    unfold restB
    by_cases h : negB s.data.toList = true
    · have hp : 0 < s.data.toList.length := by
        cases hl : s.data.toList with
        | nil => rw [hl] at h; cases h
        | cons c m => simp
      rw [if_pos h, if_pos h, if_pos (by omega), bytes_of (s.extract 1 s.size), ext_tail]
    · rw [if_neg h, if_neg h, ← bytes_of s]
  have hc := refCut_f ⟨(restB s.data.toList).toArray⟩ (k + 3) (by rw [bytes_size]; omega) (by rw [bytes_size]; omega)
  rw [bytes_data] at hc
  have hcb := cutB_back (restB s.data.toList)
  rw [h0, h1, fluxionref04_ParseRat.j1, hc, Option.bind_some]
  unfold PR
  obtain ⟨neg, hneg⟩ : ∃ neg, negB s.data.toList = neg := ⟨_, rfl⟩
  obtain ⟨rest, hrest⟩ : ∃ rest, restB s.data.toList = rest := ⟨_, rfl⟩
  rw [hneg, hrest]
  rw [hrest] at hcb hrl
  clear h0 h1 hc
  obtain ⟨c, hcc⟩ : ∃ c, cutB rest = c := ⟨_, rfl⟩
  rw [hcc] at hcb ⊢
  have l1 : c.1.length ≤ rest.length := by
    have := congrArg List.length hcb
    rw [List.length_append] at this; omega
  have l2 : (denB c).length ≤ rest.length + 1 := by
    have := congrArg List.length hcb
    unfold denB
    by_cases h : c.2.2 = true
    · rw [if_pos h]
      rw [if_pos h, List.length_append, List.length_cons] at this; omega
    · rw [if_neg h]; simp
  have h2 : (if c.2.2 = true then fluxionref04_ParseRat.j2 (k + 3) s neg ⟨c.1.toArray⟩ ⟨c.2.1.toArray⟩ else fluxionref04_ParseRat.j2 (k + 3) s neg ⟨c.1.toArray⟩ ⟨#[49]⟩) = fluxionref04_ParseRat.j2 (k + 3) s neg ⟨c.1.toArray⟩ ⟨(denB c).toArray⟩ := by
    unfold denB
    by_cases h : c.2.2 = true
    · rw [if_pos h, if_pos h]
    · rw [if_neg h, if_neg h]
  simp only
  rw [h2]
  obtain ⟨y, hy⟩ : ∃ y, denB c = y := ⟨_, rfl⟩
  rw [hy] at l2 ⊢
  have r1 := refNatural_f ⟨c.1.toArray⟩ (k + 2) (by rw [bytes_size]; omega) (by rw [bytes_size]; omega)
  have r2 := refNatural_f ⟨y.toArray⟩ (k + 2) (by rw [bytes_size]; omega) (by rw [bytes_size]; omega)
  rw [bytes_data] at r1 r2
  have bad : fluxionref04_ParseRat.j3 (k + 2) s neg ⟨c.1.toArray⟩ ⟨y.toArray⟩ true = some (false, c4 0, c4 0, 19) := by
    rw [fluxionref04_ParseRat.j3, if_pos rfl, c4_zero]
  rw [fluxionref04_ParseRat.j2, r1, Option.bind_some]
  by_cases n1 : natB c.1 = true
  · rw [if_pos n1, r2, Option.bind_some, n1, Bool.true_and]
    by_cases n2 : natB y = true
    · rw [n2, Bool.not_true, if_pos rfl, j3_f s neg c.1 y k Kb (by omega) (by omega) (by omega) (by omega) n1 n2 hK (by omega)]
      congr 1
      by_cases hb : (big (dv c.1) || big (dv y)) = true
      · rw [if_pos hb, if_pos hb]
      · rw [if_neg hb, if_neg hb]
        by_cases ht : ratT (redN neg (dv c.1) (dv y)) = s.data.toList
        · rw [if_pos ht, if_pos ht]
        · rw [if_neg ht, if_neg ht]
    · have n2' : natB y = false := by simpa using n2
      rw [n2', Bool.not_false, bad, if_neg (by decide)]
  · rw [if_neg n1, bad]
    have n1' : natB c.1 = false := by simpa using n1
    rw [n1', Bool.false_and, if_neg (by decide)]
end Go.Proofs.YtpncflaoikeidaaGreatDoor.H
namespace Go.Proofs.YtpncflaoikeidaaGreatDoor.P
open Go.RowKit Go.Proofs.YtpncflaoikeidaaGreatDoorW.PrintWords Go.Proofs.YtpncflaoikeidaaGreatDoorW.PrintLast Go.Proofs.YtpncflaoikeidaaGreatDoorW.PrintMore
attribute [local go_sem] max2_int max_two
set_option linter.unusedVariables false
set_option linter.unusedSimpArgs false
mutual
def fluxionlaw04_DigitsBack.j0 : Nat → List Int → ByteArray → Bool → Bool → List Int → List Int → Option (Bool)
  | 0, _, _, _, _, _, _ => none
  | k + 1, x0, x2, x29, x558000, x558001, x558002 => if x29 = true then ((fluxionlaw04_known.f k).bind fun t558 => (some t558)) else ((digits_Nat.f x0).bind fun t559 => ((digits_ParseNat.f t559).bind fun bt560 => ((fluxionref01_Of.f k x0).bind fun t564 => ((fluxionref01_Bits.f k t564).bind fun t567 => (if t567 > 1024 then (if bt560.2 = 14 then (if (bt560.1.length : Int) = 0 then (fluxionlaw04_DigitsBack.j1 k x2 x558000 x558001 x558002) else (some false)) else (some false)) else (if bt560.2 = 0 then ((fluxionref01_Of.f k x0).bind fun t568 => ((fluxionref01_Is.f k t568 bt560.1).bind fun t571 => (if t571 = true then (fluxionlaw04_DigitsBack.j1 k x2 x558000 x558001 x558002) else (some false)))) else (some false)))))))
def fluxionlaw04_DigitsBack.j1 : Nat → ByteArray → Bool → List Int → List Int → Option (Bool)
  | 0, _, _, _, _ => none
  | k + 1, x2, x558000, x558001, x558002 => (digits_Rat.f k x558000 x558001 x558002).bind fun t572 => ((digits_ParseRat.f k t572).bind fun bt573 => (if bt573.2.2.2 = 0 then ((fluxionref03_Of.f k x558000 x558001 x558002).bind fun bt582 => ((fluxionref03_Is.f k bt582.1 bt582.2.1 bt582.2.2 bt573.1 bt573.2.1 bt573.2.2.1).bind fun t589 => (fluxionlaw04_DigitsBack.j2 k x2 (!t589)))) else (fluxionlaw04_DigitsBack.j2 k x2 true)))
def fluxionlaw04_DigitsBack.j2 : Nat → ByteArray → Bool → Option (Bool)
  | 0, _, _ => none
  | k + 1, x2, x71 => if x71 = true then (some false) else ((digits_ParseNat.f x2).bind fun bt590 => (if bt590.2 = 0 then ((digits_Nat.f bt590.1).bind fun t594 => (fluxionlaw04_DigitsBack.j3 k x2 (t594.toList != x2.toList))) else (fluxionlaw04_DigitsBack.j3 k x2 false)))
def fluxionlaw04_DigitsBack.j3 : Nat → ByteArray → Bool → Option (Bool)
  | 0, _, _ => none
  | k + 1, x2, x84 => if x84 = true then (some false) else (if (x2.size : Int) > 120 then ((fluxionlaw04_known.f k).bind fun t595 => (some t595)) else ((digits_ParseRat.f k x2).bind fun bt596 => (if bt596.2.2.2 = 0 then ((digits_Rat.f k bt596.1 bt596.2.1 bt596.2.2.1).bind fun t605 => (if t605.toList = x2.toList then ((fluxionlaw04_known.f k).bind fun t606 => (some t606)) else (some false))) else ((fluxionlaw04_known.f k).bind fun t607 => (some t607)))))
end
def fluxionlaw04_DigitsBack.f (k : Nat) (l0 : List Int) (a1_0 : Bool) (l1_1 : List Int) (l1_2 : List Int) (a2 : ByteArray) : Option (Bool) := if (l0.length : Int) > 40 then (fluxionlaw04_DigitsBack.j0 k l0 a2 true a1_0 l1_1 l1_2) else (if (l1_1.length : Int) > 8 then (fluxionlaw04_DigitsBack.j0 k l0 a2 true a1_0 l1_1 l1_2) else (fluxionlaw04_DigitsBack.j0 k l0 a2 (decide ((l1_2.length : Int) > 8)) a1_0 l1_1 l1_2))
end Go.Proofs.YtpncflaoikeidaaGreatDoor.P
namespace Go.Proofs.YtpncflaoikeidaaGreatDoor.H
open Go.RowKit Go.Lib Go.Proofs.YtpncflaoikeidaaGreatDoorW.PrintWords Go.Proofs.YtpncflaoikeidaaGreatDoorW.PrintLast Go.Proofs.YtpncflaoikeidaaGreatDoorW.PrintMore Go.Proofs.YtpncflaoikeidaaGreatDoor.P
theorem PR_ok {l : List UInt8} (h : (PR l).2 = 0) : ∃ g a b, (PR l).1 = redN g a b ∧ ¬ big a = true ∧ ¬ big b = true := by
  unfold PR at h ⊢
  split
  · rename_i h1
    rw [if_pos h1] at h
    split
    · rename_i h2; rw [if_pos h2] at h; cases h
    · rename_i h2
      rw [if_neg h2] at h
      rw [Bool.or_eq_true] at h2
      split
      · exact ⟨_, _, _, rfl, fun hc => h2 (.inl hc), fun hc => h2 (.inr hc)⟩
      · rename_i h3; rw [if_neg h3] at h; cases h
  · rename_i h1; rw [if_neg h1] at h; cases h
theorem PR_bad {l : List UInt8} (h : (PR l).2 ≠ 0) : (PR l).1 = (false, 0, 0) := by
  unfold PR at h ⊢
  split
  · rename_i h1
    rw [if_pos h1] at h
    split
    · rfl
    · rename_i h2
      rw [if_neg h2] at h
      split
      · rename_i h3; rw [if_pos h3] at h; exact absurd rfl h
      · rfl
  · rfl
theorem red_limbs {m : Nat} (g : Bool) {a b : Nat} (ha : (limbs a).length ≤ m) (hb : (limbs b).length ≤ m) (hm : 0 < m) : (limbs (redN g a b).2.1).length ≤ m ∧ (limbs (redN g a b).2.2).length ≤ m := by
  obtain ⟨q1, q2⟩ := redN_le g a b
  have p1 := limbs_mono q1
  have p2 := limbs_mono q2
  refine ⟨by omega, ?_⟩
  rcases Nat.le_total b 1 with h | h
  · rw [Nat.max_eq_right h] at p2
    have := limbs_length_le 1 1 (by decide)
    omega
  · rw [Nat.max_eq_left h] at p2; omega
end Go.Proofs.YtpncflaoikeidaaGreatDoor.H
namespace Go.Proofs.YtpncflaoikeidaaGreatDoor.P
open Go.RowKit Go.Proofs.YtpncflaoikeidaaGreatDoorW.PrintWords Go.Proofs.YtpncflaoikeidaaGreatDoorW.PrintLast Go.Proofs.YtpncflaoikeidaaGreatDoorW.PrintMore
attribute [local go_sem] max2_int max_two
set_option linter.unusedVariables false
set_option linter.unusedSimpArgs false
def fluxionlaw04_DigitsTexts.j0 : Nat → ByteArray → Bool → Option (Bool)
  | 0, _, _ => none
  | k + 1, x0, x14 => if x14 = true then ((fluxionlaw04_known.f k).bind fun t534 => (some t534)) else ((digits_ParseRat.f k x0).bind fun bt535 => ((fluxionref04_ParseRat.f k x0).bind fun bt544 => (if bt544.2.2.2 = 0 then (if bt535.2.2.2 = 0 then ((fluxionref03_Is.f k bt544.1 bt544.2.1 bt544.2.2.1 bt535.1 bt535.2.1 bt535.2.2.1).bind fun t553 => (if t553 = true then ((fluxionlaw04_known.f k).bind fun t554 => (some t554)) else (some false))) else (some false)) else (if bt535.2.2.2 = bt544.2.2.2 then ((fluxionlaw04_falls.f k x0 bt535.2.2.2).bind fun t555 => (if t555 = true then ((fluxionlaw04_known.f k).bind fun t556 => (some t556)) else (some false))) else (some false)))))
def fluxionlaw04_DigitsTexts.f (k : Nat) (a0 : ByteArray) : Option (Bool) := if (a0.size : Int) > 120 then (fluxionlaw04_DigitsTexts.j0 k a0 (decide ((a0.size : Int) ≤ 800))) else (fluxionlaw04_DigitsTexts.j0 k a0 false)
set_option maxHeartbeats 8000000 in
set_option maxRecDepth 100000 in
theorem fluxionlaw04_DigitsTexts.calls (k : Nat) (a0 : ByteArray) (r : Bool) (w : World) (h : fluxionlaw04_DigitsTexts.f k a0 = some r) (hL : LaidT w) :
    Calls Tryz.prog 4 #[.string a0] w fun e w' => e = .returned (.bool r) ∧ Below w.heap.size w w' := by
  have hu25 := Tryz.underlying25
  have hu32 := Tryz.underlying32
  have HB := Aside0.mk (Below.refl w.heap.size w)
  have H : (if (a0.size : Int) > 120 then (fluxionlaw04_DigitsTexts.j0 k a0 (decide ((a0.size : Int) ≤ 800))) else (fluxionlaw04_DigitsTexts.j0 k a0 false)) = some r := h
  clear h
  have HC2 := Aside0.mk H
  clear H
  go_enter Tryz.func4, Tryz.ntmps4
  go_upto_region 1 with (fail)
  go_cut [14] (fun v14 wc => ∃ (kq : Nat) (x14_1 : Bool), v14 = .bool x14_1 ∧ Aside0 (fluxionlaw04_DigitsTexts.j0 kq a0 x14_1 = some r) ∧ Aside0 (kq ≤ k) ∧ Aside0 (Below w.heap.size w wc))
  case first =>
    have H := HC2.out
    clear HC2
    by_cases c3 : (a0.size : Int) > 120
    · rw [if_pos c3] at H
      have c3b0 : decide (120 < (a0.size : Int)) = true := decide_eq_true c3
      have c3b1 : decide (120 < a0.size) = true := decide_eq_true (by omega)
      clear c3
      (first | rw [c3b0] | (simp only [i64_w, i32_w]; rw [c3b0]) | skip)
      have H' := Aside0.mk H
      clear H
      go_wp2
      go_meet
      case rel => exact ⟨_, (decide ((a0.size : Int) ≤ 800)), (by first | rfl | (simp; done) | (simp [*]; done)), H', ⟨by first | omega | exact Nat.le_refl _⟩, ⟨by repeat (first | (with_reducible first | exact HB.out | apply below_alloc | apply pw_below_drewN | apply below_drew1) | exact HB.out)⟩⟩
    · rw [if_neg c3] at H
      have c3b0 : decide (120 < (a0.size : Int)) = false := decide_eq_false c3
      have c3b1 : decide (120 < a0.size) = false := decide_eq_false (by omega)
      clear c3
      (first | rw [c3b0] | (simp only [i64_w, i32_w]; rw [c3b0]) | skip)
      have H' := Aside0.mk H
      clear H
      go_wp2
      go_meet
      case rel => exact ⟨_, (false), (by first | rfl | (simp; done) | (simp [*]; done)), H', ⟨by first | omega | exact Nat.le_refl _⟩, ⟨by repeat (first | (with_reducible first | exact HB.out | apply below_alloc | apply pw_below_drewN | apply below_drew1) | exact HB.out)⟩⟩
  case rest =>
    clear HC2
    try clear p2
    try clear c3
    try clear c3b0
    try clear c3b1
    obtain ⟨kq, x14_1, rfl, HA, HJ1, HB⟩ := hcut
    cases kq with
    | zero => exact absurd HA.out (by simp [fluxionlaw04_DigitsTexts.j0])
    | succ kj1 =>
      have H := HA.out
      clear HA
      simp only [fluxionlaw04_DigitsTexts.j0] at H
      by_cases c4 : x14_1 = true
      · subst c4
        have H1 : ((fluxionlaw04_known.f kj1).bind fun t534 => (some t534)) = some r := by rw [if_pos rfl] at H; exact H
        clear H
        have H := H1
        clear H1
        replace H := Option.bind_eq_some_iff.mp H
        obtain ⟨t534, A50, H⟩ := H
        try dsimp only at H
        have A5 := Aside0.mk A50
        clear A50
        obtain rfl := Option.some.inj H
        go_wp2_with (first | ((with_reducible refine gate_callee (f := 8) rfl ?_); refine goesL_ (some 15) rfl rfl Tryz.func8 (by kernel_rfl) rfl #[] rfl (by (try simp only [List.map_toArray, List.map_cons, List.map_nil]); first | done | rfl | (simp only [List.length_drop, List.length_take]; rfl)) ?_; (with_reducible refine (fluxionlaw04_known.calls kj1  t534 _ A5.out ?side1).mono ?_); (case side1 => exact LaidT.below hL (by repeat (first | (with_reducible first | exact HB.out | apply below_alloc | apply pw_below_drewN | apply below_drew1) | exact HB.out))); rintro e w6 ⟨rfl, hb⟩; refine ⟨_, rfl, ?_⟩; have n0_ := Aside0.mk (below_step (by repeat (first | (with_reducible first | exact HB.out | apply below_alloc | apply pw_below_drewN | apply below_drew1) | exact HB.out)) hb); clear HB; have HB := n0_; clear n0_; (try clear hb); (try clear hb2); (try clear hk); (try clear hi)))
        go_ret
        exact ⟨by first | rfl | (simp [errW_none, errW_some] <;> rfl) | (simp [*, errW_none, errW_some] <;> rfl), by repeat (first | (with_reducible first | exact HB.out | apply below_alloc | apply pw_below_drewN | apply below_drew1) | exact HB.out)⟩
      · replace c4 := Bool.eq_false_iff.mpr c4
        subst c4
        have H1 : ((digits_ParseRat.f kj1 a0).bind fun bt535 => ((fluxionref04_ParseRat.f kj1 a0).bind fun bt544 => (if bt544.2.2.2 = 0 then (if bt535.2.2.2 = 0 then ((fluxionref03_Is.f kj1 bt544.1 bt544.2.1 bt544.2.2.1 bt535.1 bt535.2.1 bt535.2.2.1).bind fun t553 => (if t553 = true then ((fluxionlaw04_known.f kj1).bind fun t554 => (some t554)) else (some false))) else (some false)) else (if bt535.2.2.2 = bt544.2.2.2 then ((fluxionlaw04_falls.f kj1 a0 bt535.2.2.2).bind fun t555 => (if t555 = true then ((fluxionlaw04_known.f kj1).bind fun t556 => (some t556)) else (some false))) else (some false))))) = some r := by rw [if_neg (show ¬ (false = true) by decide)] at H; exact H
        clear H
        have H := H1
        clear H1
        replace H := Option.bind_eq_some_iff.mp H
        obtain ⟨⟨t535, t536, t539, t542⟩, A70, H⟩ := H
        try dsimp only at H
        have A7 := Aside0.mk A70
        clear A70
        replace H := Option.bind_eq_some_iff.mp H
        obtain ⟨⟨t544, t545, t548, t551⟩, A80, H⟩ := H
        try dsimp only at H
        have A8 := Aside0.mk A80
        clear A80
        by_cases c9 : t551 = 0
        · rw [if_pos c9] at H
          have c9b0 : (t551 == 0) = true := beq_iff_eq.mpr c9
          have c9b1 : (t551 != 0) = false := bne_eq_false_iff_eq.mpr c9
          clear c9
          by_cases c10 : t542 = 0
          · rw [if_pos c10] at H
            have c10b0 : (t542 == 0) = true := beq_iff_eq.mpr c10
            have c10b1 : (t542 != 0) = false := bne_eq_false_iff_eq.mpr c10
            clear c10
            replace H := Option.bind_eq_some_iff.mp H
            obtain ⟨t553, A110, H⟩ := H
            try dsimp only at H
            have A11 := Aside0.mk A110
            clear A110
            by_cases c12 : t553 = true
            · subst c12
              have H1 : ((fluxionlaw04_known.f kj1).bind fun t554 => (some t554)) = some r := by rw [if_pos rfl] at H; exact H
              clear H
              have H := H1
              clear H1
              replace H := Option.bind_eq_some_iff.mp H
              obtain ⟨t554, A130, H⟩ := H
              try dsimp only at H
              have A13 := Aside0.mk A130
              clear A130
              obtain rfl := Option.some.inj H
              go_wp2_with (first | ((with_reducible refine gate_callee (f := 12) rfl ?_); refine goesL_ (some 18) rfl rfl Tryz.func12 (by kernel_rfl) rfl #[.string a0] rfl (by (try simp only [List.map_toArray, List.map_cons, List.map_nil]); first | done | rfl | (simp only [List.length_drop, List.length_take]; rfl)) ?_; (with_reducible refine (digits_ParseRat.calls kj1 a0 t535 t536 t539 t542 _ A7.out ?side1).mono ?_); (case side1 => exact LaidT.below hL (by repeat (first | (with_reducible first | exact HB.out | apply below_alloc | apply pw_below_drewN | apply below_drew1) | exact HB.out))); rintro e w14 ⟨v537, v540, rfl, ho0, ho1, hb⟩; refine ⟨_, rfl, ?_⟩; have n0_ := Aside0.mk (Kd.R_lower ho0 (below_size (by repeat (first | (with_reducible first | exact HB.out | apply below_alloc | apply pw_below_drewN | apply below_drew1) | exact HB.out)))); have n1_ := Aside0.mk (Kd.R_lower ho1 (below_size (by repeat (first | (with_reducible first | exact HB.out | apply below_alloc | apply pw_below_drewN | apply below_drew1) | exact HB.out)))); have n2_ := Aside0.mk (below_step (by repeat (first | (with_reducible first | exact HB.out | apply below_alloc | apply pw_below_drewN | apply below_drew1) | exact HB.out)) hb); clear HB; have HO538 := n0_; have HO541 := n1_; have HB := n2_; clear n0_ n1_ n2_; (try clear hb); (try clear hb2); (try clear hk); (try clear hi); (try clear ho0); (try clear ho1)) | ((with_reducible refine gate_dst (N := 3) rfl ?_); (try (refine gate_guard (by rfl) ?_; dsimp only)); refine box_event ?hg (N := 3) ?hd (cs := #[.bool false, .slice none 0 0, .slice none 0 0]) (t := 25) ?hr ?_; (case hd => rfl); (case hg => rfl); (case hr => first | (go_simp; done) | (go_simp; rfl)); intro gb543 hg w15 hbox hb; have n0_ := Aside0.mk (Kd.R_below (by exact HO538.out) hb); have n1_ := Aside0.mk (Kd.R_below (by exact HO541.out) hb); have n2_ := Aside0.mk (below_step (by repeat (first | (with_reducible first | exact HB.out | apply below_alloc | apply pw_below_drewN | apply below_drew1) | exact HB.out)) hb); have n3_ := Aside0.mk (hbox); have n4_ := Aside0.mk ((by rw [hg]; exact (below_size (by repeat (first | (with_reducible first | exact HB.out | apply below_alloc | apply pw_below_drewN | apply below_drew1) | exact HB.out))) : w.heap.size ≤ gb543)); have n5_ := Aside0.mk ((by rw [hg]; exact (below_size (by repeat (first | (with_reducible first | exact HB.out | apply below_alloc | apply pw_below_drewN | apply below_drew1) | exact HB.out))) : w.heap.size ≤ gb543)); clear HO538; clear HO541; clear HB; have HO538 := n0_; have HO541 := n1_; have HB := n2_; have BK543 := n3_; have GW543 := n4_; have GE543 := n5_; clear n0_ n1_ n2_ n3_ n4_ n5_; clear hb hbox hg; have hcz16_0 : w15.cell? ⟨gb543, 0, none⟩ = some (.bool false) := (blk_cell BK543.out 0).trans rfl; have hcz16_1 : w15.cell? ⟨gb543, 1, none⟩ = some (.slice none 0 0) := (blk_cell BK543.out 1).trans rfl; have hcz16_2 : w15.cell? ⟨gb543, 2, none⟩ = some (.slice none 0 0) := (blk_cell BK543.out 2).trans rfl; have hfz16_0 := blk_frozen BK543.out 0; have hfz16_1 := blk_frozen BK543.out 1; have hfz16_2 := blk_frozen BK543.out 2; obtain ⟨Ao17, co17, eo17⟩ := Kd.R_slice HO538.out; subst eo17; obtain ⟨Ao18, co18, eo18⟩ := Kd.R_slice HO541.out; subst eo18) | ((with_reducible refine gate_callee (f := 13) rfl ?_); refine goesL_ (some 23) rfl rfl Tryz.func13 (by kernel_rfl) rfl #[.string a0] rfl (by (try simp only [List.map_toArray, List.map_cons, List.map_nil]); first | done | rfl | (simp only [List.length_drop, List.length_take]; rfl)) ?_; (with_reducible refine (fluxionref04_ParseRat.calls kj1 a0 t544 t545 t548 t551 _ A8.out).mono ?_); rintro e w19 ⟨v546, v549, rfl, ho0, ho1, hb⟩; refine ⟨_, rfl, ?_⟩; have n0_ := Aside0.mk (Kd.R_below (by exact (Kd.R_mono (Kd.R_far (p := ⟨gb543, 2, none⟩) (Kd.R_far (p := ⟨gb543, 1, none⟩) (Kd.R_far (p := ⟨gb543, 0, none⟩) (Kd.R_types HO538.out BK543.out (by decide)) (fun _ hk => hk.2) (.bool t535)) (fun _ hk => hk.2) (.slice Ao17 t536.length co17)) (fun _ hk => hk.2) (.slice Ao18 t539.length co18)) (fun _ h_ => h_.1))) hb); have n1_ := Aside0.mk (Kd.R_below (by exact (Kd.R_mono (Kd.R_far (p := ⟨gb543, 2, none⟩) (Kd.R_far (p := ⟨gb543, 1, none⟩) (Kd.R_far (p := ⟨gb543, 0, none⟩) (Kd.R_types HO541.out BK543.out (by decide)) (fun _ hk => hk.2) (.bool t535)) (fun _ hk => hk.2) (.slice Ao17 t536.length co17)) (fun _ hk => hk.2) (.slice Ao18 t539.length co18)) (fun _ h_ => h_.1))) hb); have n2_ := Aside0.mk (Kd.R_lower ho0 (below_size (by repeat (first | (with_reducible first | exact HB.out | apply below_alloc | apply pw_below_drewN | apply below_drew1 | refine below_set ?_ GE543.out) | exact HB.out)))); have n3_ := Aside0.mk (Kd.R_lower ho1 (below_size (by repeat (first | (with_reducible first | exact HB.out | apply below_alloc | apply pw_below_drewN | apply below_drew1 | refine below_set ?_ GE543.out) | exact HB.out)))); have n4_ := Aside0.mk (blk_below (g := gb543) (o := .cells #[.bool t535, .slice Ao17 t536.length co17, .slice Ao18 t539.length co18] 25 (0, 0)) (by refine blk_put (cs := #[.bool t535, .slice Ao17 t536.length co17, .slice none 0 0]) ?_ 2 _ rfl; refine blk_put (cs := #[.bool t535, .slice none 0 0, .slice none 0 0]) ?_ 1 _ rfl; refine blk_put (cs := #[.bool false, .slice none 0 0, .slice none 0 0]) ?_ 0 _ rfl; exact BK543.out) hb); have n5_ := Aside0.mk (below_step (by repeat (first | (with_reducible first | exact HB.out | apply below_alloc | apply pw_below_drewN | apply below_drew1 | refine below_set ?_ GE543.out) | exact HB.out)) hb); clear HO538; clear HO541; clear BK543; clear HB; have HO538 := n0_; have HO541 := n1_; have HO547 := n2_; have HO550 := n3_; have BK543 := n4_; have HB := n5_; clear n0_ n1_ n2_ n3_ n4_ n5_; (try clear hb); (try clear hb2); (try clear hk); (try clear hi); (try clear ho0); (try clear ho1)) | ((with_reducible refine gate_dst (N := 5) rfl ?_); (try (refine gate_guard (by rfl) ?_; dsimp only)); refine box_event ?hg (N := 5) ?hd (cs := #[.bool false, .slice none 0 0, .slice none 0 0]) (t := 32) ?hr ?_; (case hd => rfl); (case hg => rfl); (case hr => first | (go_simp; done) | (go_simp; rfl)); intro gb552 hg w20 hbox hb; have n0_ := Aside0.mk (Kd.R_below (by exact HO538.out) hb); have n1_ := Aside0.mk (Kd.R_below (by exact HO541.out) hb); have n2_ := Aside0.mk (Kd.R_below (by exact HO547.out) hb); have n3_ := Aside0.mk (Kd.R_below (by exact HO550.out) hb); have n4_ := Aside0.mk (blk_below (g := gb543) (o := .cells #[.bool t535, .slice Ao17 t536.length co17, .slice Ao18 t539.length co18] 25 (0, 0)) (by exact BK543.out) hb); have n5_ := Aside0.mk (below_step (by repeat (first | (with_reducible first | exact HB.out | apply below_alloc | apply pw_below_drewN | apply below_drew1 | refine below_set ?_ GE543.out) | exact HB.out)) hb); have n6_ := Aside0.mk (hbox); have n7_ := Aside0.mk ((by rw [hg]; exact (below_size (by repeat (first | (with_reducible first | exact HB.out | apply below_alloc | apply pw_below_drewN | apply below_drew1 | refine below_set ?_ GE543.out) | exact HB.out))) : w.heap.size ≤ gb552)); have n8_ := Aside0.mk ((by rw [hg]; exact (below_size (by repeat (first | (with_reducible first | exact HB.out | apply below_alloc | apply pw_below_drewN | apply below_drew1 | refine below_set ?_ GE543.out) | exact HB.out))) : w.heap.size ≤ gb552)); have n9_ := Aside0.mk ((by rw [hg]; exact Nat.ne_of_lt (blk_lt (g := gb543) (o := .cells #[.bool t535, .slice Ao17 t536.length co17, .slice Ao18 t539.length co18] 25 (0, 0)) (by exact BK543.out)) : gb543 ≠ gb552)); have n10_ := Aside0.mk ((by rw [hg]; exact Nat.ne_of_gt (blk_lt (g := gb543) (o := .cells #[.bool t535, .slice Ao17 t536.length co17, .slice Ao18 t539.length co18] 25 (0, 0)) (by exact BK543.out)) : gb552 ≠ gb543)); clear HO538; clear HO541; clear HO547; clear HO550; clear BK543; clear HB; have HO538 := n0_; have HO541 := n1_; have HO547 := n2_; have HO550 := n3_; have BK543 := n4_; have HB := n5_; have BK552 := n6_; have GW552 := n7_; have GE552 := n8_; have NB543_552 := n9_; have NB552_543 := n10_; clear n0_ n1_ n2_ n3_ n4_ n5_ n6_ n7_ n8_ n9_ n10_; clear hb hbox hg; have hnb21 := NB552_543.out; have hnc21 := NB543_552.out; have hcz22_0 : w20.cell? ⟨gb552, 0, none⟩ = some (.bool false) := (blk_cell BK552.out 0).trans rfl; have hcz22_1 : w20.cell? ⟨gb552, 1, none⟩ = some (.slice none 0 0) := (blk_cell BK552.out 1).trans rfl; have hcz22_2 : w20.cell? ⟨gb552, 2, none⟩ = some (.slice none 0 0) := (blk_cell BK552.out 2).trans rfl; have hfz22_0 := blk_frozen BK552.out 0; have hfz22_1 := blk_frozen BK552.out 1; have hfz22_2 := blk_frozen BK552.out 2; obtain ⟨Ao23, co23, eo23⟩ := Kd.R_slice HO547.out; subst eo23; obtain ⟨Ao24, co24, eo24⟩ := Kd.R_slice HO550.out; subst eo24; have hcz25_0 : w20.cell? ⟨gb543, 0, none⟩ = some (.bool t535) := (blk_cell BK543.out 0).trans rfl; have hcz25_1 : w20.cell? ⟨gb543, 1, none⟩ = some (.slice Ao17 t536.length co17) := (blk_cell BK543.out 1).trans rfl; have hcz25_2 : w20.cell? ⟨gb543, 2, none⟩ = some (.slice Ao18 t539.length co18) := (blk_cell BK543.out 2).trans rfl; have hfz25_0 := blk_frozen BK543.out 0; have hfz25_1 := blk_frozen BK543.out 1; have hfz25_2 := blk_frozen BK543.out 2) | (go_at_call 15; (with_reducible refine (fluxionref03_Is.calls kj1 t544 _ _ t545 _ _ t548 t535 _ _ t536 _ _ t539 true _ ?side1 ?side2 ?side3 ?side4 ?side5 ?side6 ?side7 ?side8 A11.out).mono ?_); (case side1 => refine (Kd.R_reads' (e := 3) (base := w.heap.size) (ok := fun k_ => some k_ ≠ (.slice Ao24 t548.length co24 : Value).ownBlock) (n := t545.length) (c := co23) ?_).2.2; exact (by exact (Kd.R_mono (Kd.R_far (p := ⟨gb552, 2, none⟩) (Kd.R_far (p := ⟨gb552, 1, none⟩) (Kd.R_far (p := ⟨gb552, 0, none⟩) (Kd.R_types HO547.out BK552.out (by decide)) (fun _ hk => hk.2) (.bool t544)) (fun _ hk => hk.2) (.slice Ao23 t545.length co23)) (fun _ hk => hk.2) (.slice Ao24 t548.length co24)) (fun _ h_ => h_.1)))); (case side2 => exact (Kd.R_reads' HO547.out).2.1); (case side3 => refine (Kd.R_reads' (e := 3) (base := w.heap.size) (ok := fun k_ => some k_ ≠ (.slice Ao23 t545.length co23 : Value).ownBlock) (n := t548.length) (c := co24) ?_).2.2; exact (by exact (Kd.R_mono (Kd.R_far (p := ⟨gb552, 2, none⟩) (Kd.R_far (p := ⟨gb552, 1, none⟩) (Kd.R_far (p := ⟨gb552, 0, none⟩) (Kd.R_types HO550.out BK552.out (by decide)) (fun _ hk => hk.2) (.bool t544)) (fun _ hk => hk.2) (.slice Ao23 t545.length co23)) (fun _ hk => hk.2) (.slice Ao24 t548.length co24)) (fun _ h_ => h_.1)))); (case side4 => exact (Kd.R_reads' HO550.out).2.1); (case side5 => refine (Kd.R_reads' (e := 56) (base := w.heap.size) (ok := fun k_ => some k_ ≠ (.slice Ao18 t539.length co18 : Value).ownBlock) (n := t536.length) (c := co17) ?_).2.2; exact (by exact (Kd.R_mono (Kd.R_far (p := ⟨gb552, 2, none⟩) (Kd.R_far (p := ⟨gb552, 1, none⟩) (Kd.R_far (p := ⟨gb552, 0, none⟩) (Kd.R_types HO538.out BK552.out (by decide)) (fun _ hk => hk.2) (.bool t544)) (fun _ hk => hk.2) (.slice Ao23 t545.length co23)) (fun _ hk => hk.2) (.slice Ao24 t548.length co24)) (fun _ h_ => h_.1)))); (case side6 => exact (Kd.R_reads' HO538.out).2.1); (case side7 => refine (Kd.R_reads' (e := 56) (base := w.heap.size) (ok := fun k_ => some k_ ≠ (.slice Ao17 t536.length co17 : Value).ownBlock) (n := t539.length) (c := co18) ?_).2.2; exact (by exact (Kd.R_mono (Kd.R_far (p := ⟨gb552, 2, none⟩) (Kd.R_far (p := ⟨gb552, 1, none⟩) (Kd.R_far (p := ⟨gb552, 0, none⟩) (Kd.R_types HO541.out BK552.out (by decide)) (fun _ hk => hk.2) (.bool t544)) (fun _ hk => hk.2) (.slice Ao23 t545.length co23)) (fun _ hk => hk.2) (.slice Ao24 t548.length co24)) (fun _ h_ => h_.1)))); (case side8 => exact (Kd.R_reads' HO541.out).2.1); rintro e w26 ⟨rfl, hb⟩; have n0_ := Aside0.mk (Kd.R_below (by exact (Kd.R_mono (Kd.R_far (p := ⟨gb552, 2, none⟩) (Kd.R_far (p := ⟨gb552, 1, none⟩) (Kd.R_far (p := ⟨gb552, 0, none⟩) (Kd.R_types HO538.out BK552.out (by decide)) (fun _ hk => hk.2) (.bool t544)) (fun _ hk => hk.2) (.slice Ao23 t545.length co23)) (fun _ hk => hk.2) (.slice Ao24 t548.length co24)) (fun _ h_ => h_.1))) hb); have n1_ := Aside0.mk (Kd.R_below (by exact (Kd.R_mono (Kd.R_far (p := ⟨gb552, 2, none⟩) (Kd.R_far (p := ⟨gb552, 1, none⟩) (Kd.R_far (p := ⟨gb552, 0, none⟩) (Kd.R_types HO541.out BK552.out (by decide)) (fun _ hk => hk.2) (.bool t544)) (fun _ hk => hk.2) (.slice Ao23 t545.length co23)) (fun _ hk => hk.2) (.slice Ao24 t548.length co24)) (fun _ h_ => h_.1))) hb); have n2_ := Aside0.mk (Kd.R_below (by exact (Kd.R_mono (Kd.R_far (p := ⟨gb552, 2, none⟩) (Kd.R_far (p := ⟨gb552, 1, none⟩) (Kd.R_far (p := ⟨gb552, 0, none⟩) (Kd.R_types HO547.out BK552.out (by decide)) (fun _ hk => hk.2) (.bool t544)) (fun _ hk => hk.2) (.slice Ao23 t545.length co23)) (fun _ hk => hk.2) (.slice Ao24 t548.length co24)) (fun _ h_ => h_.1))) hb); have n3_ := Aside0.mk (Kd.R_below (by exact (Kd.R_mono (Kd.R_far (p := ⟨gb552, 2, none⟩) (Kd.R_far (p := ⟨gb552, 1, none⟩) (Kd.R_far (p := ⟨gb552, 0, none⟩) (Kd.R_types HO550.out BK552.out (by decide)) (fun _ hk => hk.2) (.bool t544)) (fun _ hk => hk.2) (.slice Ao23 t545.length co23)) (fun _ hk => hk.2) (.slice Ao24 t548.length co24)) (fun _ h_ => h_.1))) hb); have n4_ := Aside0.mk (blk_below (g := gb543) (o := .cells #[.bool t535, .slice Ao17 t536.length co17, .slice Ao18 t539.length co18] 25 (0, 0)) (by refine blk_far ?_ NB543_552.out _; refine blk_far ?_ NB543_552.out _; refine blk_far ?_ NB543_552.out _; exact BK543.out) hb); have n5_ := Aside0.mk (blk_below (g := gb552) (o := .cells #[.bool t544, .slice Ao23 t545.length co23, .slice Ao24 t548.length co24] 32 (0, 0)) (by refine blk_put (cs := #[.bool t544, .slice Ao23 t545.length co23, .slice none 0 0]) ?_ 2 _ rfl; refine blk_put (cs := #[.bool t544, .slice none 0 0, .slice none 0 0]) ?_ 1 _ rfl; refine blk_put (cs := #[.bool false, .slice none 0 0, .slice none 0 0]) ?_ 0 _ rfl; exact BK552.out) hb); have n6_ := Aside0.mk (below_step (by repeat (first | (with_reducible first | exact HB.out | apply below_alloc | apply pw_below_drewN | apply below_drew1 | refine below_set ?_ GE543.out | refine below_set ?_ GE552.out) | exact HB.out)) hb); clear HO538; clear HO541; clear HO547; clear HO550; clear BK543; clear BK552; clear HB; have HO538 := n0_; have HO541 := n1_; have HO547 := n2_; have HO550 := n3_; have BK543 := n4_; have BK552 := n5_; have HB := n6_; clear n0_ n1_ n2_ n3_ n4_ n5_ n6_; (try clear hb); (try clear hb2); (try clear hk); (try clear hi)) | (go_at_call 8; (with_reducible refine (fluxionlaw04_known.calls kj1  t554 _ A13.out ?side1).mono ?_); (case side1 => exact LaidT.below hL (by repeat (first | (with_reducible first | exact HB.out | apply below_alloc | apply pw_below_drewN | apply below_drew1 | refine below_set ?_ GE543.out | refine below_set ?_ GE552.out) | exact HB.out))); rintro e w27 ⟨rfl, hb⟩; have n0_ := Aside0.mk (Kd.R_below (by exact HO538.out) hb); have n1_ := Aside0.mk (Kd.R_below (by exact HO541.out) hb); have n2_ := Aside0.mk (Kd.R_below (by exact HO547.out) hb); have n3_ := Aside0.mk (Kd.R_below (by exact HO550.out) hb); have n4_ := Aside0.mk (blk_below (g := gb543) (o := .cells #[.bool t535, .slice Ao17 t536.length co17, .slice Ao18 t539.length co18] 25 (0, 0)) (by exact BK543.out) hb); have n5_ := Aside0.mk (blk_below (g := gb552) (o := .cells #[.bool t544, .slice Ao23 t545.length co23, .slice Ao24 t548.length co24] 32 (0, 0)) (by exact BK552.out) hb); have n6_ := Aside0.mk (below_step (by repeat (first | (with_reducible first | exact HB.out | apply below_alloc | apply pw_below_drewN | apply below_drew1 | refine below_set ?_ GE543.out | refine below_set ?_ GE552.out) | exact HB.out)) hb); clear HO538; clear HO541; clear HO547; clear HO550; clear BK543; clear BK552; clear HB; have HO538 := n0_; have HO541 := n1_; have HO547 := n2_; have HO550 := n3_; have BK543 := n4_; have BK552 := n5_; have HB := n6_; clear n0_ n1_ n2_ n3_ n4_ n5_ n6_; (try clear hb); (try clear hb2); (try clear hk); (try clear hi)))
              go_ret
              exact ⟨by first | rfl | (simp [errW_none, errW_some] <;> rfl) | (simp [*, errW_none, errW_some] <;> rfl), by repeat (first | (with_reducible first | exact HB.out | apply below_alloc | apply pw_below_drewN | apply below_drew1 | refine below_set ?_ GE543.out | refine below_set ?_ GE552.out) | exact HB.out)⟩
            · replace c12 := Bool.eq_false_iff.mpr c12
              subst c12
              have H1 : (some false) = some r := by rw [if_neg (show ¬ (false = true) by decide)] at H; exact H
              clear H
              have H := H1
              clear H1
              obtain rfl := Option.some.inj H
              go_wp2_with (first | ((with_reducible refine gate_callee (f := 12) rfl ?_); refine goesL_ (some 18) rfl rfl Tryz.func12 (by kernel_rfl) rfl #[.string a0] rfl (by (try simp only [List.map_toArray, List.map_cons, List.map_nil]); first | done | rfl | (simp only [List.length_drop, List.length_take]; rfl)) ?_; (with_reducible refine (digits_ParseRat.calls kj1 a0 t535 t536 t539 t542 _ A7.out ?side1).mono ?_); (case side1 => exact LaidT.below hL (by repeat (first | (with_reducible first | exact HB.out | apply below_alloc | apply pw_below_drewN | apply below_drew1) | exact HB.out))); rintro e w28 ⟨v537, v540, rfl, ho0, ho1, hb⟩; refine ⟨_, rfl, ?_⟩; have n0_ := Aside0.mk (Kd.R_lower ho0 (below_size (by repeat (first | (with_reducible first | exact HB.out | apply below_alloc | apply pw_below_drewN | apply below_drew1) | exact HB.out)))); have n1_ := Aside0.mk (Kd.R_lower ho1 (below_size (by repeat (first | (with_reducible first | exact HB.out | apply below_alloc | apply pw_below_drewN | apply below_drew1) | exact HB.out)))); have n2_ := Aside0.mk (below_step (by repeat (first | (with_reducible first | exact HB.out | apply below_alloc | apply pw_below_drewN | apply below_drew1) | exact HB.out)) hb); clear HB; have HO538 := n0_; have HO541 := n1_; have HB := n2_; clear n0_ n1_ n2_; (try clear hb); (try clear hb2); (try clear hk); (try clear hi); (try clear ho0); (try clear ho1)) | ((with_reducible refine gate_dst (N := 3) rfl ?_); (try (refine gate_guard (by rfl) ?_; dsimp only)); refine box_event ?hg (N := 3) ?hd (cs := #[.bool false, .slice none 0 0, .slice none 0 0]) (t := 25) ?hr ?_; (case hd => rfl); (case hg => rfl); (case hr => first | (go_simp; done) | (go_simp; rfl)); intro gb543 hg w29 hbox hb; have n0_ := Aside0.mk (Kd.R_below (by exact HO538.out) hb); have n1_ := Aside0.mk (Kd.R_below (by exact HO541.out) hb); have n2_ := Aside0.mk (below_step (by repeat (first | (with_reducible first | exact HB.out | apply below_alloc | apply pw_below_drewN | apply below_drew1) | exact HB.out)) hb); have n3_ := Aside0.mk (hbox); have n4_ := Aside0.mk ((by rw [hg]; exact (below_size (by repeat (first | (with_reducible first | exact HB.out | apply below_alloc | apply pw_below_drewN | apply below_drew1) | exact HB.out))) : w.heap.size ≤ gb543)); have n5_ := Aside0.mk ((by rw [hg]; exact (below_size (by repeat (first | (with_reducible first | exact HB.out | apply below_alloc | apply pw_below_drewN | apply below_drew1) | exact HB.out))) : w.heap.size ≤ gb543)); clear HO538; clear HO541; clear HB; have HO538 := n0_; have HO541 := n1_; have HB := n2_; have BK543 := n3_; have GW543 := n4_; have GE543 := n5_; clear n0_ n1_ n2_ n3_ n4_ n5_; clear hb hbox hg; have hcz30_0 : w29.cell? ⟨gb543, 0, none⟩ = some (.bool false) := (blk_cell BK543.out 0).trans rfl; have hcz30_1 : w29.cell? ⟨gb543, 1, none⟩ = some (.slice none 0 0) := (blk_cell BK543.out 1).trans rfl; have hcz30_2 : w29.cell? ⟨gb543, 2, none⟩ = some (.slice none 0 0) := (blk_cell BK543.out 2).trans rfl; have hfz30_0 := blk_frozen BK543.out 0; have hfz30_1 := blk_frozen BK543.out 1; have hfz30_2 := blk_frozen BK543.out 2; obtain ⟨Ao31, co31, eo31⟩ := Kd.R_slice HO538.out; subst eo31; obtain ⟨Ao32, co32, eo32⟩ := Kd.R_slice HO541.out; subst eo32) | ((with_reducible refine gate_callee (f := 13) rfl ?_); refine goesL_ (some 23) rfl rfl Tryz.func13 (by kernel_rfl) rfl #[.string a0] rfl (by (try simp only [List.map_toArray, List.map_cons, List.map_nil]); first | done | rfl | (simp only [List.length_drop, List.length_take]; rfl)) ?_; (with_reducible refine (fluxionref04_ParseRat.calls kj1 a0 t544 t545 t548 t551 _ A8.out).mono ?_); rintro e w33 ⟨v546, v549, rfl, ho0, ho1, hb⟩; refine ⟨_, rfl, ?_⟩; have n0_ := Aside0.mk (Kd.R_below (by exact (Kd.R_mono (Kd.R_far (p := ⟨gb543, 2, none⟩) (Kd.R_far (p := ⟨gb543, 1, none⟩) (Kd.R_far (p := ⟨gb543, 0, none⟩) (Kd.R_types HO538.out BK543.out (by decide)) (fun _ hk => hk.2) (.bool t535)) (fun _ hk => hk.2) (.slice Ao31 t536.length co31)) (fun _ hk => hk.2) (.slice Ao32 t539.length co32)) (fun _ h_ => h_.1))) hb); have n1_ := Aside0.mk (Kd.R_below (by exact (Kd.R_mono (Kd.R_far (p := ⟨gb543, 2, none⟩) (Kd.R_far (p := ⟨gb543, 1, none⟩) (Kd.R_far (p := ⟨gb543, 0, none⟩) (Kd.R_types HO541.out BK543.out (by decide)) (fun _ hk => hk.2) (.bool t535)) (fun _ hk => hk.2) (.slice Ao31 t536.length co31)) (fun _ hk => hk.2) (.slice Ao32 t539.length co32)) (fun _ h_ => h_.1))) hb); have n2_ := Aside0.mk (Kd.R_lower ho0 (below_size (by repeat (first | (with_reducible first | exact HB.out | apply below_alloc | apply pw_below_drewN | apply below_drew1 | refine below_set ?_ GE543.out) | exact HB.out)))); have n3_ := Aside0.mk (Kd.R_lower ho1 (below_size (by repeat (first | (with_reducible first | exact HB.out | apply below_alloc | apply pw_below_drewN | apply below_drew1 | refine below_set ?_ GE543.out) | exact HB.out)))); have n4_ := Aside0.mk (blk_below (g := gb543) (o := .cells #[.bool t535, .slice Ao31 t536.length co31, .slice Ao32 t539.length co32] 25 (0, 0)) (by refine blk_put (cs := #[.bool t535, .slice Ao31 t536.length co31, .slice none 0 0]) ?_ 2 _ rfl; refine blk_put (cs := #[.bool t535, .slice none 0 0, .slice none 0 0]) ?_ 1 _ rfl; refine blk_put (cs := #[.bool false, .slice none 0 0, .slice none 0 0]) ?_ 0 _ rfl; exact BK543.out) hb); have n5_ := Aside0.mk (below_step (by repeat (first | (with_reducible first | exact HB.out | apply below_alloc | apply pw_below_drewN | apply below_drew1 | refine below_set ?_ GE543.out) | exact HB.out)) hb); clear HO538; clear HO541; clear BK543; clear HB; have HO538 := n0_; have HO541 := n1_; have HO547 := n2_; have HO550 := n3_; have BK543 := n4_; have HB := n5_; clear n0_ n1_ n2_ n3_ n4_ n5_; (try clear hb); (try clear hb2); (try clear hk); (try clear hi); (try clear ho0); (try clear ho1)) | ((with_reducible refine gate_dst (N := 5) rfl ?_); (try (refine gate_guard (by rfl) ?_; dsimp only)); refine box_event ?hg (N := 5) ?hd (cs := #[.bool false, .slice none 0 0, .slice none 0 0]) (t := 32) ?hr ?_; (case hd => rfl); (case hg => rfl); (case hr => first | (go_simp; done) | (go_simp; rfl)); intro gb552 hg w34 hbox hb; have n0_ := Aside0.mk (Kd.R_below (by exact HO538.out) hb); have n1_ := Aside0.mk (Kd.R_below (by exact HO541.out) hb); have n2_ := Aside0.mk (Kd.R_below (by exact HO547.out) hb); have n3_ := Aside0.mk (Kd.R_below (by exact HO550.out) hb); have n4_ := Aside0.mk (blk_below (g := gb543) (o := .cells #[.bool t535, .slice Ao31 t536.length co31, .slice Ao32 t539.length co32] 25 (0, 0)) (by exact BK543.out) hb); have n5_ := Aside0.mk (below_step (by repeat (first | (with_reducible first | exact HB.out | apply below_alloc | apply pw_below_drewN | apply below_drew1 | refine below_set ?_ GE543.out) | exact HB.out)) hb); have n6_ := Aside0.mk (hbox); have n7_ := Aside0.mk ((by rw [hg]; exact (below_size (by repeat (first | (with_reducible first | exact HB.out | apply below_alloc | apply pw_below_drewN | apply below_drew1 | refine below_set ?_ GE543.out) | exact HB.out))) : w.heap.size ≤ gb552)); have n8_ := Aside0.mk ((by rw [hg]; exact (below_size (by repeat (first | (with_reducible first | exact HB.out | apply below_alloc | apply pw_below_drewN | apply below_drew1 | refine below_set ?_ GE543.out) | exact HB.out))) : w.heap.size ≤ gb552)); have n9_ := Aside0.mk ((by rw [hg]; exact Nat.ne_of_lt (blk_lt (g := gb543) (o := .cells #[.bool t535, .slice Ao31 t536.length co31, .slice Ao32 t539.length co32] 25 (0, 0)) (by exact BK543.out)) : gb543 ≠ gb552)); have n10_ := Aside0.mk ((by rw [hg]; exact Nat.ne_of_gt (blk_lt (g := gb543) (o := .cells #[.bool t535, .slice Ao31 t536.length co31, .slice Ao32 t539.length co32] 25 (0, 0)) (by exact BK543.out)) : gb552 ≠ gb543)); clear HO538; clear HO541; clear HO547; clear HO550; clear BK543; clear HB; have HO538 := n0_; have HO541 := n1_; have HO547 := n2_; have HO550 := n3_; have BK543 := n4_; have HB := n5_; have BK552 := n6_; have GW552 := n7_; have GE552 := n8_; have NB543_552 := n9_; have NB552_543 := n10_; clear n0_ n1_ n2_ n3_ n4_ n5_ n6_ n7_ n8_ n9_ n10_; clear hb hbox hg; have hnb35 := NB552_543.out; have hnc35 := NB543_552.out; have hcz36_0 : w34.cell? ⟨gb552, 0, none⟩ = some (.bool false) := (blk_cell BK552.out 0).trans rfl; have hcz36_1 : w34.cell? ⟨gb552, 1, none⟩ = some (.slice none 0 0) := (blk_cell BK552.out 1).trans rfl; have hcz36_2 : w34.cell? ⟨gb552, 2, none⟩ = some (.slice none 0 0) := (blk_cell BK552.out 2).trans rfl; have hfz36_0 := blk_frozen BK552.out 0; have hfz36_1 := blk_frozen BK552.out 1; have hfz36_2 := blk_frozen BK552.out 2; obtain ⟨Ao37, co37, eo37⟩ := Kd.R_slice HO547.out; subst eo37; obtain ⟨Ao38, co38, eo38⟩ := Kd.R_slice HO550.out; subst eo38; have hcz39_0 : w34.cell? ⟨gb543, 0, none⟩ = some (.bool t535) := (blk_cell BK543.out 0).trans rfl; have hcz39_1 : w34.cell? ⟨gb543, 1, none⟩ = some (.slice Ao31 t536.length co31) := (blk_cell BK543.out 1).trans rfl; have hcz39_2 : w34.cell? ⟨gb543, 2, none⟩ = some (.slice Ao32 t539.length co32) := (blk_cell BK543.out 2).trans rfl; have hfz39_0 := blk_frozen BK543.out 0; have hfz39_1 := blk_frozen BK543.out 1; have hfz39_2 := blk_frozen BK543.out 2) | (go_at_call 15; (with_reducible refine (fluxionref03_Is.calls kj1 t544 _ _ t545 _ _ t548 t535 _ _ t536 _ _ t539 false _ ?side1 ?side2 ?side3 ?side4 ?side5 ?side6 ?side7 ?side8 A11.out).mono ?_); (case side1 => refine (Kd.R_reads' (e := 3) (base := w.heap.size) (ok := fun k_ => some k_ ≠ (.slice Ao38 t548.length co38 : Value).ownBlock) (n := t545.length) (c := co37) ?_).2.2; exact (by exact (Kd.R_mono (Kd.R_far (p := ⟨gb552, 2, none⟩) (Kd.R_far (p := ⟨gb552, 1, none⟩) (Kd.R_far (p := ⟨gb552, 0, none⟩) (Kd.R_types HO547.out BK552.out (by decide)) (fun _ hk => hk.2) (.bool t544)) (fun _ hk => hk.2) (.slice Ao37 t545.length co37)) (fun _ hk => hk.2) (.slice Ao38 t548.length co38)) (fun _ h_ => h_.1)))); (case side2 => exact (Kd.R_reads' HO547.out).2.1); (case side3 => refine (Kd.R_reads' (e := 3) (base := w.heap.size) (ok := fun k_ => some k_ ≠ (.slice Ao37 t545.length co37 : Value).ownBlock) (n := t548.length) (c := co38) ?_).2.2; exact (by exact (Kd.R_mono (Kd.R_far (p := ⟨gb552, 2, none⟩) (Kd.R_far (p := ⟨gb552, 1, none⟩) (Kd.R_far (p := ⟨gb552, 0, none⟩) (Kd.R_types HO550.out BK552.out (by decide)) (fun _ hk => hk.2) (.bool t544)) (fun _ hk => hk.2) (.slice Ao37 t545.length co37)) (fun _ hk => hk.2) (.slice Ao38 t548.length co38)) (fun _ h_ => h_.1)))); (case side4 => exact (Kd.R_reads' HO550.out).2.1); (case side5 => refine (Kd.R_reads' (e := 56) (base := w.heap.size) (ok := fun k_ => some k_ ≠ (.slice Ao32 t539.length co32 : Value).ownBlock) (n := t536.length) (c := co31) ?_).2.2; exact (by exact (Kd.R_mono (Kd.R_far (p := ⟨gb552, 2, none⟩) (Kd.R_far (p := ⟨gb552, 1, none⟩) (Kd.R_far (p := ⟨gb552, 0, none⟩) (Kd.R_types HO538.out BK552.out (by decide)) (fun _ hk => hk.2) (.bool t544)) (fun _ hk => hk.2) (.slice Ao37 t545.length co37)) (fun _ hk => hk.2) (.slice Ao38 t548.length co38)) (fun _ h_ => h_.1)))); (case side6 => exact (Kd.R_reads' HO538.out).2.1); (case side7 => refine (Kd.R_reads' (e := 56) (base := w.heap.size) (ok := fun k_ => some k_ ≠ (.slice Ao31 t536.length co31 : Value).ownBlock) (n := t539.length) (c := co32) ?_).2.2; exact (by exact (Kd.R_mono (Kd.R_far (p := ⟨gb552, 2, none⟩) (Kd.R_far (p := ⟨gb552, 1, none⟩) (Kd.R_far (p := ⟨gb552, 0, none⟩) (Kd.R_types HO541.out BK552.out (by decide)) (fun _ hk => hk.2) (.bool t544)) (fun _ hk => hk.2) (.slice Ao37 t545.length co37)) (fun _ hk => hk.2) (.slice Ao38 t548.length co38)) (fun _ h_ => h_.1)))); (case side8 => exact (Kd.R_reads' HO541.out).2.1); rintro e w40 ⟨rfl, hb⟩; have n0_ := Aside0.mk (Kd.R_below (by exact (Kd.R_mono (Kd.R_far (p := ⟨gb552, 2, none⟩) (Kd.R_far (p := ⟨gb552, 1, none⟩) (Kd.R_far (p := ⟨gb552, 0, none⟩) (Kd.R_types HO538.out BK552.out (by decide)) (fun _ hk => hk.2) (.bool t544)) (fun _ hk => hk.2) (.slice Ao37 t545.length co37)) (fun _ hk => hk.2) (.slice Ao38 t548.length co38)) (fun _ h_ => h_.1))) hb); have n1_ := Aside0.mk (Kd.R_below (by exact (Kd.R_mono (Kd.R_far (p := ⟨gb552, 2, none⟩) (Kd.R_far (p := ⟨gb552, 1, none⟩) (Kd.R_far (p := ⟨gb552, 0, none⟩) (Kd.R_types HO541.out BK552.out (by decide)) (fun _ hk => hk.2) (.bool t544)) (fun _ hk => hk.2) (.slice Ao37 t545.length co37)) (fun _ hk => hk.2) (.slice Ao38 t548.length co38)) (fun _ h_ => h_.1))) hb); have n2_ := Aside0.mk (Kd.R_below (by exact (Kd.R_mono (Kd.R_far (p := ⟨gb552, 2, none⟩) (Kd.R_far (p := ⟨gb552, 1, none⟩) (Kd.R_far (p := ⟨gb552, 0, none⟩) (Kd.R_types HO547.out BK552.out (by decide)) (fun _ hk => hk.2) (.bool t544)) (fun _ hk => hk.2) (.slice Ao37 t545.length co37)) (fun _ hk => hk.2) (.slice Ao38 t548.length co38)) (fun _ h_ => h_.1))) hb); have n3_ := Aside0.mk (Kd.R_below (by exact (Kd.R_mono (Kd.R_far (p := ⟨gb552, 2, none⟩) (Kd.R_far (p := ⟨gb552, 1, none⟩) (Kd.R_far (p := ⟨gb552, 0, none⟩) (Kd.R_types HO550.out BK552.out (by decide)) (fun _ hk => hk.2) (.bool t544)) (fun _ hk => hk.2) (.slice Ao37 t545.length co37)) (fun _ hk => hk.2) (.slice Ao38 t548.length co38)) (fun _ h_ => h_.1))) hb); have n4_ := Aside0.mk (blk_below (g := gb543) (o := .cells #[.bool t535, .slice Ao31 t536.length co31, .slice Ao32 t539.length co32] 25 (0, 0)) (by refine blk_far ?_ NB543_552.out _; refine blk_far ?_ NB543_552.out _; refine blk_far ?_ NB543_552.out _; exact BK543.out) hb); have n5_ := Aside0.mk (blk_below (g := gb552) (o := .cells #[.bool t544, .slice Ao37 t545.length co37, .slice Ao38 t548.length co38] 32 (0, 0)) (by refine blk_put (cs := #[.bool t544, .slice Ao37 t545.length co37, .slice none 0 0]) ?_ 2 _ rfl; refine blk_put (cs := #[.bool t544, .slice none 0 0, .slice none 0 0]) ?_ 1 _ rfl; refine blk_put (cs := #[.bool false, .slice none 0 0, .slice none 0 0]) ?_ 0 _ rfl; exact BK552.out) hb); have n6_ := Aside0.mk (below_step (by repeat (first | (with_reducible first | exact HB.out | apply below_alloc | apply pw_below_drewN | apply below_drew1 | refine below_set ?_ GE543.out | refine below_set ?_ GE552.out) | exact HB.out)) hb); clear HO538; clear HO541; clear HO547; clear HO550; clear BK543; clear BK552; clear HB; have HO538 := n0_; have HO541 := n1_; have HO547 := n2_; have HO550 := n3_; have BK543 := n4_; have BK552 := n5_; have HB := n6_; clear n0_ n1_ n2_ n3_ n4_ n5_ n6_; (try clear hb); (try clear hb2); (try clear hk); (try clear hi)))
              go_ret
              exact ⟨by first | rfl | (simp [errW_none, errW_some] <;> rfl) | (simp [*, errW_none, errW_some] <;> rfl), by repeat (first | (with_reducible first | exact HB.out | apply below_alloc | apply pw_below_drewN | apply below_drew1 | refine below_set ?_ GE543.out | refine below_set ?_ GE552.out) | exact HB.out)⟩
          · rw [if_neg c10] at H
            have c10b0 : (t542 == 0) = false := beq_eq_false_iff_ne.mpr c10
            have c10b1 : (t542 != 0) = true := bne_iff_ne.mpr c10
            obtain rfl := Option.some.inj H
            go_wp2_with (first | ((with_reducible refine gate_callee (f := 12) rfl ?_); refine goesL_ (some 18) rfl rfl Tryz.func12 (by kernel_rfl) rfl #[.string a0] rfl (by (try simp only [List.map_toArray, List.map_cons, List.map_nil]); first | done | rfl | (simp only [List.length_drop, List.length_take]; rfl)) ?_; (with_reducible refine (digits_ParseRat.calls kj1 a0 t535 t536 t539 t542 _ A7.out ?side1).mono ?_); (case side1 => exact LaidT.below hL (by repeat (first | (with_reducible first | exact HB.out | apply below_alloc | apply pw_below_drewN | apply below_drew1) | exact HB.out))); rintro e w41 ⟨v537, v540, rfl, ho0, ho1, hb⟩; refine ⟨_, rfl, ?_⟩; have n0_ := Aside0.mk (Kd.R_lower ho0 (below_size (by repeat (first | (with_reducible first | exact HB.out | apply below_alloc | apply pw_below_drewN | apply below_drew1) | exact HB.out)))); have n1_ := Aside0.mk (Kd.R_lower ho1 (below_size (by repeat (first | (with_reducible first | exact HB.out | apply below_alloc | apply pw_below_drewN | apply below_drew1) | exact HB.out)))); have n2_ := Aside0.mk (below_step (by repeat (first | (with_reducible first | exact HB.out | apply below_alloc | apply pw_below_drewN | apply below_drew1) | exact HB.out)) hb); clear HB; have HO538 := n0_; have HO541 := n1_; have HB := n2_; clear n0_ n1_ n2_; (try clear hb); (try clear hb2); (try clear hk); (try clear hi); (try clear ho0); (try clear ho1)) | ((with_reducible refine gate_dst (N := 3) rfl ?_); (try (refine gate_guard (by rfl) ?_; dsimp only)); refine box_event ?hg (N := 3) ?hd (cs := #[.bool false, .slice none 0 0, .slice none 0 0]) (t := 25) ?hr ?_; (case hd => rfl); (case hg => rfl); (case hr => first | (go_simp; done) | (go_simp; rfl)); intro gb543 hg w42 hbox hb; have n0_ := Aside0.mk (Kd.R_below (by exact HO538.out) hb); have n1_ := Aside0.mk (Kd.R_below (by exact HO541.out) hb); have n2_ := Aside0.mk (below_step (by repeat (first | (with_reducible first | exact HB.out | apply below_alloc | apply pw_below_drewN | apply below_drew1) | exact HB.out)) hb); have n3_ := Aside0.mk (hbox); have n4_ := Aside0.mk ((by rw [hg]; exact (below_size (by repeat (first | (with_reducible first | exact HB.out | apply below_alloc | apply pw_below_drewN | apply below_drew1) | exact HB.out))) : w.heap.size ≤ gb543)); have n5_ := Aside0.mk ((by rw [hg]; exact (below_size (by repeat (first | (with_reducible first | exact HB.out | apply below_alloc | apply pw_below_drewN | apply below_drew1) | exact HB.out))) : w.heap.size ≤ gb543)); clear HO538; clear HO541; clear HB; have HO538 := n0_; have HO541 := n1_; have HB := n2_; have BK543 := n3_; have GW543 := n4_; have GE543 := n5_; clear n0_ n1_ n2_ n3_ n4_ n5_; clear hb hbox hg; have hcz43_0 : w42.cell? ⟨gb543, 0, none⟩ = some (.bool false) := (blk_cell BK543.out 0).trans rfl; have hcz43_1 : w42.cell? ⟨gb543, 1, none⟩ = some (.slice none 0 0) := (blk_cell BK543.out 1).trans rfl; have hcz43_2 : w42.cell? ⟨gb543, 2, none⟩ = some (.slice none 0 0) := (blk_cell BK543.out 2).trans rfl; have hfz43_0 := blk_frozen BK543.out 0; have hfz43_1 := blk_frozen BK543.out 1; have hfz43_2 := blk_frozen BK543.out 2; obtain ⟨Ao44, co44, eo44⟩ := Kd.R_slice HO538.out; subst eo44; obtain ⟨Ao45, co45, eo45⟩ := Kd.R_slice HO541.out; subst eo45) | ((with_reducible refine gate_callee (f := 13) rfl ?_); refine goesL_ (some 23) rfl rfl Tryz.func13 (by kernel_rfl) rfl #[.string a0] rfl (by (try simp only [List.map_toArray, List.map_cons, List.map_nil]); first | done | rfl | (simp only [List.length_drop, List.length_take]; rfl)) ?_; (with_reducible refine (fluxionref04_ParseRat.calls kj1 a0 t544 t545 t548 t551 _ A8.out).mono ?_); rintro e w46 ⟨v546, v549, rfl, ho0, ho1, hb⟩; refine ⟨_, rfl, ?_⟩; have n0_ := Aside0.mk (Kd.R_below (by exact (Kd.R_mono (Kd.R_far (p := ⟨gb543, 2, none⟩) (Kd.R_far (p := ⟨gb543, 1, none⟩) (Kd.R_far (p := ⟨gb543, 0, none⟩) (Kd.R_types HO538.out BK543.out (by decide)) (fun _ hk => hk.2) (.bool t535)) (fun _ hk => hk.2) (.slice Ao44 t536.length co44)) (fun _ hk => hk.2) (.slice Ao45 t539.length co45)) (fun _ h_ => h_.1))) hb); have n1_ := Aside0.mk (Kd.R_below (by exact (Kd.R_mono (Kd.R_far (p := ⟨gb543, 2, none⟩) (Kd.R_far (p := ⟨gb543, 1, none⟩) (Kd.R_far (p := ⟨gb543, 0, none⟩) (Kd.R_types HO541.out BK543.out (by decide)) (fun _ hk => hk.2) (.bool t535)) (fun _ hk => hk.2) (.slice Ao44 t536.length co44)) (fun _ hk => hk.2) (.slice Ao45 t539.length co45)) (fun _ h_ => h_.1))) hb); have n2_ := Aside0.mk (Kd.R_lower ho0 (below_size (by repeat (first | (with_reducible first | exact HB.out | apply below_alloc | apply pw_below_drewN | apply below_drew1 | refine below_set ?_ GE543.out) | exact HB.out)))); have n3_ := Aside0.mk (Kd.R_lower ho1 (below_size (by repeat (first | (with_reducible first | exact HB.out | apply below_alloc | apply pw_below_drewN | apply below_drew1 | refine below_set ?_ GE543.out) | exact HB.out)))); have n4_ := Aside0.mk (blk_below (g := gb543) (o := .cells #[.bool t535, .slice Ao44 t536.length co44, .slice Ao45 t539.length co45] 25 (0, 0)) (by refine blk_put (cs := #[.bool t535, .slice Ao44 t536.length co44, .slice none 0 0]) ?_ 2 _ rfl; refine blk_put (cs := #[.bool t535, .slice none 0 0, .slice none 0 0]) ?_ 1 _ rfl; refine blk_put (cs := #[.bool false, .slice none 0 0, .slice none 0 0]) ?_ 0 _ rfl; exact BK543.out) hb); have n5_ := Aside0.mk (below_step (by repeat (first | (with_reducible first | exact HB.out | apply below_alloc | apply pw_below_drewN | apply below_drew1 | refine below_set ?_ GE543.out) | exact HB.out)) hb); clear HO538; clear HO541; clear BK543; clear HB; have HO538 := n0_; have HO541 := n1_; have HO547 := n2_; have HO550 := n3_; have BK543 := n4_; have HB := n5_; clear n0_ n1_ n2_ n3_ n4_ n5_; (try clear hb); (try clear hb2); (try clear hk); (try clear hi); (try clear ho0); (try clear ho1)) | ((with_reducible refine gate_dst (N := 5) rfl ?_); (try (refine gate_guard (by rfl) ?_; dsimp only)); refine box_event ?hg (N := 5) ?hd (cs := #[.bool false, .slice none 0 0, .slice none 0 0]) (t := 32) ?hr ?_; (case hd => rfl); (case hg => rfl); (case hr => first | (go_simp; done) | (go_simp; rfl)); intro gb552 hg w47 hbox hb; have n0_ := Aside0.mk (Kd.R_below (by exact HO538.out) hb); have n1_ := Aside0.mk (Kd.R_below (by exact HO541.out) hb); have n2_ := Aside0.mk (Kd.R_below (by exact HO547.out) hb); have n3_ := Aside0.mk (Kd.R_below (by exact HO550.out) hb); have n4_ := Aside0.mk (blk_below (g := gb543) (o := .cells #[.bool t535, .slice Ao44 t536.length co44, .slice Ao45 t539.length co45] 25 (0, 0)) (by exact BK543.out) hb); have n5_ := Aside0.mk (below_step (by repeat (first | (with_reducible first | exact HB.out | apply below_alloc | apply pw_below_drewN | apply below_drew1 | refine below_set ?_ GE543.out) | exact HB.out)) hb); have n6_ := Aside0.mk (hbox); have n7_ := Aside0.mk ((by rw [hg]; exact (below_size (by repeat (first | (with_reducible first | exact HB.out | apply below_alloc | apply pw_below_drewN | apply below_drew1 | refine below_set ?_ GE543.out) | exact HB.out))) : w.heap.size ≤ gb552)); have n8_ := Aside0.mk ((by rw [hg]; exact (below_size (by repeat (first | (with_reducible first | exact HB.out | apply below_alloc | apply pw_below_drewN | apply below_drew1 | refine below_set ?_ GE543.out) | exact HB.out))) : w.heap.size ≤ gb552)); have n9_ := Aside0.mk ((by rw [hg]; exact Nat.ne_of_lt (blk_lt (g := gb543) (o := .cells #[.bool t535, .slice Ao44 t536.length co44, .slice Ao45 t539.length co45] 25 (0, 0)) (by exact BK543.out)) : gb543 ≠ gb552)); have n10_ := Aside0.mk ((by rw [hg]; exact Nat.ne_of_gt (blk_lt (g := gb543) (o := .cells #[.bool t535, .slice Ao44 t536.length co44, .slice Ao45 t539.length co45] 25 (0, 0)) (by exact BK543.out)) : gb552 ≠ gb543)); clear HO538; clear HO541; clear HO547; clear HO550; clear BK543; clear HB; have HO538 := n0_; have HO541 := n1_; have HO547 := n2_; have HO550 := n3_; have BK543 := n4_; have HB := n5_; have BK552 := n6_; have GW552 := n7_; have GE552 := n8_; have NB543_552 := n9_; have NB552_543 := n10_; clear n0_ n1_ n2_ n3_ n4_ n5_ n6_ n7_ n8_ n9_ n10_; clear hb hbox hg; have hnb48 := NB552_543.out; have hnc48 := NB543_552.out; have hcz49_0 : w47.cell? ⟨gb552, 0, none⟩ = some (.bool false) := (blk_cell BK552.out 0).trans rfl; have hcz49_1 : w47.cell? ⟨gb552, 1, none⟩ = some (.slice none 0 0) := (blk_cell BK552.out 1).trans rfl; have hcz49_2 : w47.cell? ⟨gb552, 2, none⟩ = some (.slice none 0 0) := (blk_cell BK552.out 2).trans rfl; have hfz49_0 := blk_frozen BK552.out 0; have hfz49_1 := blk_frozen BK552.out 1; have hfz49_2 := blk_frozen BK552.out 2; obtain ⟨Ao50, co50, eo50⟩ := Kd.R_slice HO547.out; subst eo50; obtain ⟨Ao51, co51, eo51⟩ := Kd.R_slice HO550.out; subst eo51))
            go_ret
            exact ⟨by first | rfl | (simp [errW_none, errW_some] <;> rfl) | (simp [*, errW_none, errW_some] <;> rfl), by repeat (first | (with_reducible first | exact HB.out | apply below_alloc | apply pw_below_drewN | apply below_drew1 | refine below_set ?_ GE543.out | refine below_set ?_ GE552.out) | exact HB.out)⟩
        · rw [if_neg c9] at H
          have c9b0 : (t551 == 0) = false := beq_eq_false_iff_ne.mpr c9
          have c9b1 : (t551 != 0) = true := bne_iff_ne.mpr c9
          by_cases c52 : t542 = t551
          · rw [if_pos c52] at H
            have c52b0 : (t542 == t551) = true := beq_iff_eq.mpr c52
            have c52b1 : (t542 != t551) = false := bne_eq_false_iff_eq.mpr c52
            clear c52
            replace H := Option.bind_eq_some_iff.mp H
            obtain ⟨t555, A530, H⟩ := H
            try dsimp only at H
            have A53 := Aside0.mk A530
            clear A530
            by_cases c54 : t555 = true
            · subst c54
              have H1 : ((fluxionlaw04_known.f kj1).bind fun t556 => (some t556)) = some r := by rw [if_pos rfl] at H; exact H
              clear H
              have H := H1
              clear H1
              replace H := Option.bind_eq_some_iff.mp H
              obtain ⟨t556, A550, H⟩ := H
              try dsimp only at H
              have A55 := Aside0.mk A550
              clear A550
              obtain rfl := Option.some.inj H
              go_wp2_with (first | ((with_reducible refine gate_callee (f := 12) rfl ?_); refine goesL_ (some 18) rfl rfl Tryz.func12 (by kernel_rfl) rfl #[.string a0] rfl (by (try simp only [List.map_toArray, List.map_cons, List.map_nil]); first | done | rfl | (simp only [List.length_drop, List.length_take]; rfl)) ?_; (with_reducible refine (digits_ParseRat.calls kj1 a0 t535 t536 t539 t542 _ A7.out ?side1).mono ?_); (case side1 => exact LaidT.below hL (by repeat (first | (with_reducible first | exact HB.out | apply below_alloc | apply pw_below_drewN | apply below_drew1) | exact HB.out))); rintro e w56 ⟨v537, v540, rfl, ho0, ho1, hb⟩; refine ⟨_, rfl, ?_⟩; have n0_ := Aside0.mk (Kd.R_lower ho0 (below_size (by repeat (first | (with_reducible first | exact HB.out | apply below_alloc | apply pw_below_drewN | apply below_drew1) | exact HB.out)))); have n1_ := Aside0.mk (Kd.R_lower ho1 (below_size (by repeat (first | (with_reducible first | exact HB.out | apply below_alloc | apply pw_below_drewN | apply below_drew1) | exact HB.out)))); have n2_ := Aside0.mk (below_step (by repeat (first | (with_reducible first | exact HB.out | apply below_alloc | apply pw_below_drewN | apply below_drew1) | exact HB.out)) hb); clear HB; have HO538 := n0_; have HO541 := n1_; have HB := n2_; clear n0_ n1_ n2_; (try clear hb); (try clear hb2); (try clear hk); (try clear hi); (try clear ho0); (try clear ho1)) | ((with_reducible refine gate_dst (N := 3) rfl ?_); (try (refine gate_guard (by rfl) ?_; dsimp only)); refine box_event ?hg (N := 3) ?hd (cs := #[.bool false, .slice none 0 0, .slice none 0 0]) (t := 25) ?hr ?_; (case hd => rfl); (case hg => rfl); (case hr => first | (go_simp; done) | (go_simp; rfl)); intro gb543 hg w57 hbox hb; have n0_ := Aside0.mk (Kd.R_below (by exact HO538.out) hb); have n1_ := Aside0.mk (Kd.R_below (by exact HO541.out) hb); have n2_ := Aside0.mk (below_step (by repeat (first | (with_reducible first | exact HB.out | apply below_alloc | apply pw_below_drewN | apply below_drew1) | exact HB.out)) hb); have n3_ := Aside0.mk (hbox); have n4_ := Aside0.mk ((by rw [hg]; exact (below_size (by repeat (first | (with_reducible first | exact HB.out | apply below_alloc | apply pw_below_drewN | apply below_drew1) | exact HB.out))) : w.heap.size ≤ gb543)); have n5_ := Aside0.mk ((by rw [hg]; exact (below_size (by repeat (first | (with_reducible first | exact HB.out | apply below_alloc | apply pw_below_drewN | apply below_drew1) | exact HB.out))) : w.heap.size ≤ gb543)); clear HO538; clear HO541; clear HB; have HO538 := n0_; have HO541 := n1_; have HB := n2_; have BK543 := n3_; have GW543 := n4_; have GE543 := n5_; clear n0_ n1_ n2_ n3_ n4_ n5_; clear hb hbox hg; have hcz58_0 : w57.cell? ⟨gb543, 0, none⟩ = some (.bool false) := (blk_cell BK543.out 0).trans rfl; have hcz58_1 : w57.cell? ⟨gb543, 1, none⟩ = some (.slice none 0 0) := (blk_cell BK543.out 1).trans rfl; have hcz58_2 : w57.cell? ⟨gb543, 2, none⟩ = some (.slice none 0 0) := (blk_cell BK543.out 2).trans rfl; have hfz58_0 := blk_frozen BK543.out 0; have hfz58_1 := blk_frozen BK543.out 1; have hfz58_2 := blk_frozen BK543.out 2; obtain ⟨Ao59, co59, eo59⟩ := Kd.R_slice HO538.out; subst eo59; obtain ⟨Ao60, co60, eo60⟩ := Kd.R_slice HO541.out; subst eo60) | ((with_reducible refine gate_callee (f := 13) rfl ?_); refine goesL_ (some 23) rfl rfl Tryz.func13 (by kernel_rfl) rfl #[.string a0] rfl (by (try simp only [List.map_toArray, List.map_cons, List.map_nil]); first | done | rfl | (simp only [List.length_drop, List.length_take]; rfl)) ?_; (with_reducible refine (fluxionref04_ParseRat.calls kj1 a0 t544 t545 t548 t551 _ A8.out).mono ?_); rintro e w61 ⟨v546, v549, rfl, ho0, ho1, hb⟩; refine ⟨_, rfl, ?_⟩; have n0_ := Aside0.mk (Kd.R_below (by exact (Kd.R_mono (Kd.R_far (p := ⟨gb543, 2, none⟩) (Kd.R_far (p := ⟨gb543, 1, none⟩) (Kd.R_far (p := ⟨gb543, 0, none⟩) (Kd.R_types HO538.out BK543.out (by decide)) (fun _ hk => hk.2) (.bool t535)) (fun _ hk => hk.2) (.slice Ao59 t536.length co59)) (fun _ hk => hk.2) (.slice Ao60 t539.length co60)) (fun _ h_ => h_.1))) hb); have n1_ := Aside0.mk (Kd.R_below (by exact (Kd.R_mono (Kd.R_far (p := ⟨gb543, 2, none⟩) (Kd.R_far (p := ⟨gb543, 1, none⟩) (Kd.R_far (p := ⟨gb543, 0, none⟩) (Kd.R_types HO541.out BK543.out (by decide)) (fun _ hk => hk.2) (.bool t535)) (fun _ hk => hk.2) (.slice Ao59 t536.length co59)) (fun _ hk => hk.2) (.slice Ao60 t539.length co60)) (fun _ h_ => h_.1))) hb); have n2_ := Aside0.mk (Kd.R_lower ho0 (below_size (by repeat (first | (with_reducible first | exact HB.out | apply below_alloc | apply pw_below_drewN | apply below_drew1 | refine below_set ?_ GE543.out) | exact HB.out)))); have n3_ := Aside0.mk (Kd.R_lower ho1 (below_size (by repeat (first | (with_reducible first | exact HB.out | apply below_alloc | apply pw_below_drewN | apply below_drew1 | refine below_set ?_ GE543.out) | exact HB.out)))); have n4_ := Aside0.mk (blk_below (g := gb543) (o := .cells #[.bool t535, .slice Ao59 t536.length co59, .slice Ao60 t539.length co60] 25 (0, 0)) (by refine blk_put (cs := #[.bool t535, .slice Ao59 t536.length co59, .slice none 0 0]) ?_ 2 _ rfl; refine blk_put (cs := #[.bool t535, .slice none 0 0, .slice none 0 0]) ?_ 1 _ rfl; refine blk_put (cs := #[.bool false, .slice none 0 0, .slice none 0 0]) ?_ 0 _ rfl; exact BK543.out) hb); have n5_ := Aside0.mk (below_step (by repeat (first | (with_reducible first | exact HB.out | apply below_alloc | apply pw_below_drewN | apply below_drew1 | refine below_set ?_ GE543.out) | exact HB.out)) hb); clear HO538; clear HO541; clear BK543; clear HB; have HO538 := n0_; have HO541 := n1_; have HO547 := n2_; have HO550 := n3_; have BK543 := n4_; have HB := n5_; clear n0_ n1_ n2_ n3_ n4_ n5_; (try clear hb); (try clear hb2); (try clear hk); (try clear hi); (try clear ho0); (try clear ho1)) | ((with_reducible refine gate_dst (N := 5) rfl ?_); (try (refine gate_guard (by rfl) ?_; dsimp only)); refine box_event ?hg (N := 5) ?hd (cs := #[.bool false, .slice none 0 0, .slice none 0 0]) (t := 32) ?hr ?_; (case hd => rfl); (case hg => rfl); (case hr => first | (go_simp; done) | (go_simp; rfl)); intro gb552 hg w62 hbox hb; have n0_ := Aside0.mk (Kd.R_below (by exact HO538.out) hb); have n1_ := Aside0.mk (Kd.R_below (by exact HO541.out) hb); have n2_ := Aside0.mk (Kd.R_below (by exact HO547.out) hb); have n3_ := Aside0.mk (Kd.R_below (by exact HO550.out) hb); have n4_ := Aside0.mk (blk_below (g := gb543) (o := .cells #[.bool t535, .slice Ao59 t536.length co59, .slice Ao60 t539.length co60] 25 (0, 0)) (by exact BK543.out) hb); have n5_ := Aside0.mk (below_step (by repeat (first | (with_reducible first | exact HB.out | apply below_alloc | apply pw_below_drewN | apply below_drew1 | refine below_set ?_ GE543.out) | exact HB.out)) hb); have n6_ := Aside0.mk (hbox); have n7_ := Aside0.mk ((by rw [hg]; exact (below_size (by repeat (first | (with_reducible first | exact HB.out | apply below_alloc | apply pw_below_drewN | apply below_drew1 | refine below_set ?_ GE543.out) | exact HB.out))) : w.heap.size ≤ gb552)); have n8_ := Aside0.mk ((by rw [hg]; exact (below_size (by repeat (first | (with_reducible first | exact HB.out | apply below_alloc | apply pw_below_drewN | apply below_drew1 | refine below_set ?_ GE543.out) | exact HB.out))) : w.heap.size ≤ gb552)); have n9_ := Aside0.mk ((by rw [hg]; exact Nat.ne_of_lt (blk_lt (g := gb543) (o := .cells #[.bool t535, .slice Ao59 t536.length co59, .slice Ao60 t539.length co60] 25 (0, 0)) (by exact BK543.out)) : gb543 ≠ gb552)); have n10_ := Aside0.mk ((by rw [hg]; exact Nat.ne_of_gt (blk_lt (g := gb543) (o := .cells #[.bool t535, .slice Ao59 t536.length co59, .slice Ao60 t539.length co60] 25 (0, 0)) (by exact BK543.out)) : gb552 ≠ gb543)); clear HO538; clear HO541; clear HO547; clear HO550; clear BK543; clear HB; have HO538 := n0_; have HO541 := n1_; have HO547 := n2_; have HO550 := n3_; have BK543 := n4_; have HB := n5_; have BK552 := n6_; have GW552 := n7_; have GE552 := n8_; have NB543_552 := n9_; have NB552_543 := n10_; clear n0_ n1_ n2_ n3_ n4_ n5_ n6_ n7_ n8_ n9_ n10_; clear hb hbox hg; have hnb63 := NB552_543.out; have hnc63 := NB543_552.out; have hcz64_0 : w62.cell? ⟨gb552, 0, none⟩ = some (.bool false) := (blk_cell BK552.out 0).trans rfl; have hcz64_1 : w62.cell? ⟨gb552, 1, none⟩ = some (.slice none 0 0) := (blk_cell BK552.out 1).trans rfl; have hcz64_2 : w62.cell? ⟨gb552, 2, none⟩ = some (.slice none 0 0) := (blk_cell BK552.out 2).trans rfl; have hfz64_0 := blk_frozen BK552.out 0; have hfz64_1 := blk_frozen BK552.out 1; have hfz64_2 := blk_frozen BK552.out 2; obtain ⟨Ao65, co65, eo65⟩ := Kd.R_slice HO547.out; subst eo65; obtain ⟨Ao66, co66, eo66⟩ := Kd.R_slice HO550.out; subst eo66) | (go_at_call 14; (with_reducible refine (fluxionlaw04_falls.calls kj1 a0 t542 true _ A53.out ?side1).mono ?_); (case side1 => exact LaidT.below hL (by repeat (first | (with_reducible first | exact HB.out | apply below_alloc | apply pw_below_drewN | apply below_drew1 | refine below_set ?_ GE543.out | refine below_set ?_ GE552.out) | exact HB.out))); rintro e w67 ⟨rfl, hb⟩; have n0_ := Aside0.mk (Kd.R_below (by exact (Kd.R_mono (Kd.R_far (p := ⟨gb552, 2, none⟩) (Kd.R_far (p := ⟨gb552, 1, none⟩) (Kd.R_far (p := ⟨gb552, 0, none⟩) (Kd.R_types HO538.out BK552.out (by decide)) (fun _ hk => hk.2) (.bool t544)) (fun _ hk => hk.2) (.slice Ao65 t545.length co65)) (fun _ hk => hk.2) (.slice Ao66 t548.length co66)) (fun _ h_ => h_.1))) hb); have n1_ := Aside0.mk (Kd.R_below (by exact (Kd.R_mono (Kd.R_far (p := ⟨gb552, 2, none⟩) (Kd.R_far (p := ⟨gb552, 1, none⟩) (Kd.R_far (p := ⟨gb552, 0, none⟩) (Kd.R_types HO541.out BK552.out (by decide)) (fun _ hk => hk.2) (.bool t544)) (fun _ hk => hk.2) (.slice Ao65 t545.length co65)) (fun _ hk => hk.2) (.slice Ao66 t548.length co66)) (fun _ h_ => h_.1))) hb); have n2_ := Aside0.mk (Kd.R_below (by exact (Kd.R_mono (Kd.R_far (p := ⟨gb552, 2, none⟩) (Kd.R_far (p := ⟨gb552, 1, none⟩) (Kd.R_far (p := ⟨gb552, 0, none⟩) (Kd.R_types HO547.out BK552.out (by decide)) (fun _ hk => hk.2) (.bool t544)) (fun _ hk => hk.2) (.slice Ao65 t545.length co65)) (fun _ hk => hk.2) (.slice Ao66 t548.length co66)) (fun _ h_ => h_.1))) hb); have n3_ := Aside0.mk (Kd.R_below (by exact (Kd.R_mono (Kd.R_far (p := ⟨gb552, 2, none⟩) (Kd.R_far (p := ⟨gb552, 1, none⟩) (Kd.R_far (p := ⟨gb552, 0, none⟩) (Kd.R_types HO550.out BK552.out (by decide)) (fun _ hk => hk.2) (.bool t544)) (fun _ hk => hk.2) (.slice Ao65 t545.length co65)) (fun _ hk => hk.2) (.slice Ao66 t548.length co66)) (fun _ h_ => h_.1))) hb); have n4_ := Aside0.mk (blk_below (g := gb543) (o := .cells #[.bool t535, .slice Ao59 t536.length co59, .slice Ao60 t539.length co60] 25 (0, 0)) (by refine blk_far ?_ NB543_552.out _; refine blk_far ?_ NB543_552.out _; refine blk_far ?_ NB543_552.out _; exact BK543.out) hb); have n5_ := Aside0.mk (blk_below (g := gb552) (o := .cells #[.bool t544, .slice Ao65 t545.length co65, .slice Ao66 t548.length co66] 32 (0, 0)) (by refine blk_put (cs := #[.bool t544, .slice Ao65 t545.length co65, .slice none 0 0]) ?_ 2 _ rfl; refine blk_put (cs := #[.bool t544, .slice none 0 0, .slice none 0 0]) ?_ 1 _ rfl; refine blk_put (cs := #[.bool false, .slice none 0 0, .slice none 0 0]) ?_ 0 _ rfl; exact BK552.out) hb); have n6_ := Aside0.mk (below_step (by repeat (first | (with_reducible first | exact HB.out | apply below_alloc | apply pw_below_drewN | apply below_drew1 | refine below_set ?_ GE543.out | refine below_set ?_ GE552.out) | exact HB.out)) hb); clear HO538; clear HO541; clear HO547; clear HO550; clear BK543; clear BK552; clear HB; have HO538 := n0_; have HO541 := n1_; have HO547 := n2_; have HO550 := n3_; have BK543 := n4_; have BK552 := n5_; have HB := n6_; clear n0_ n1_ n2_ n3_ n4_ n5_ n6_; (try clear hb); (try clear hb2); (try clear hk); (try clear hi)) | (go_at_call 8; (with_reducible refine (fluxionlaw04_known.calls kj1  t556 _ A55.out ?side1).mono ?_); (case side1 => exact LaidT.below hL (by repeat (first | (with_reducible first | exact HB.out | apply below_alloc | apply pw_below_drewN | apply below_drew1 | refine below_set ?_ GE543.out | refine below_set ?_ GE552.out) | exact HB.out))); rintro e w68 ⟨rfl, hb⟩; have n0_ := Aside0.mk (Kd.R_below (by exact HO538.out) hb); have n1_ := Aside0.mk (Kd.R_below (by exact HO541.out) hb); have n2_ := Aside0.mk (Kd.R_below (by exact HO547.out) hb); have n3_ := Aside0.mk (Kd.R_below (by exact HO550.out) hb); have n4_ := Aside0.mk (blk_below (g := gb543) (o := .cells #[.bool t535, .slice Ao59 t536.length co59, .slice Ao60 t539.length co60] 25 (0, 0)) (by exact BK543.out) hb); have n5_ := Aside0.mk (blk_below (g := gb552) (o := .cells #[.bool t544, .slice Ao65 t545.length co65, .slice Ao66 t548.length co66] 32 (0, 0)) (by exact BK552.out) hb); have n6_ := Aside0.mk (below_step (by repeat (first | (with_reducible first | exact HB.out | apply below_alloc | apply pw_below_drewN | apply below_drew1 | refine below_set ?_ GE543.out | refine below_set ?_ GE552.out) | exact HB.out)) hb); clear HO538; clear HO541; clear HO547; clear HO550; clear BK543; clear BK552; clear HB; have HO538 := n0_; have HO541 := n1_; have HO547 := n2_; have HO550 := n3_; have BK543 := n4_; have BK552 := n5_; have HB := n6_; clear n0_ n1_ n2_ n3_ n4_ n5_ n6_; (try clear hb); (try clear hb2); (try clear hk); (try clear hi)))
              go_ret
              exact ⟨by first | rfl | (simp [errW_none, errW_some] <;> rfl) | (simp [*, errW_none, errW_some] <;> rfl), by repeat (first | (with_reducible first | exact HB.out | apply below_alloc | apply pw_below_drewN | apply below_drew1 | refine below_set ?_ GE543.out | refine below_set ?_ GE552.out) | exact HB.out)⟩
            · replace c54 := Bool.eq_false_iff.mpr c54
              subst c54
              have H1 : (some false) = some r := by rw [if_neg (show ¬ (false = true) by decide)] at H; exact H
              clear H
              have H := H1
              clear H1
              obtain rfl := Option.some.inj H
              go_wp2_with (first | ((with_reducible refine gate_callee (f := 12) rfl ?_); refine goesL_ (some 18) rfl rfl Tryz.func12 (by kernel_rfl) rfl #[.string a0] rfl (by (try simp only [List.map_toArray, List.map_cons, List.map_nil]); first | done | rfl | (simp only [List.length_drop, List.length_take]; rfl)) ?_; (with_reducible refine (digits_ParseRat.calls kj1 a0 t535 t536 t539 t542 _ A7.out ?side1).mono ?_); (case side1 => exact LaidT.below hL (by repeat (first | (with_reducible first | exact HB.out | apply below_alloc | apply pw_below_drewN | apply below_drew1) | exact HB.out))); rintro e w69 ⟨v537, v540, rfl, ho0, ho1, hb⟩; refine ⟨_, rfl, ?_⟩; have n0_ := Aside0.mk (Kd.R_lower ho0 (below_size (by repeat (first | (with_reducible first | exact HB.out | apply below_alloc | apply pw_below_drewN | apply below_drew1) | exact HB.out)))); have n1_ := Aside0.mk (Kd.R_lower ho1 (below_size (by repeat (first | (with_reducible first | exact HB.out | apply below_alloc | apply pw_below_drewN | apply below_drew1) | exact HB.out)))); have n2_ := Aside0.mk (below_step (by repeat (first | (with_reducible first | exact HB.out | apply below_alloc | apply pw_below_drewN | apply below_drew1) | exact HB.out)) hb); clear HB; have HO538 := n0_; have HO541 := n1_; have HB := n2_; clear n0_ n1_ n2_; (try clear hb); (try clear hb2); (try clear hk); (try clear hi); (try clear ho0); (try clear ho1)) | ((with_reducible refine gate_dst (N := 3) rfl ?_); (try (refine gate_guard (by rfl) ?_; dsimp only)); refine box_event ?hg (N := 3) ?hd (cs := #[.bool false, .slice none 0 0, .slice none 0 0]) (t := 25) ?hr ?_; (case hd => rfl); (case hg => rfl); (case hr => first | (go_simp; done) | (go_simp; rfl)); intro gb543 hg w70 hbox hb; have n0_ := Aside0.mk (Kd.R_below (by exact HO538.out) hb); have n1_ := Aside0.mk (Kd.R_below (by exact HO541.out) hb); have n2_ := Aside0.mk (below_step (by repeat (first | (with_reducible first | exact HB.out | apply below_alloc | apply pw_below_drewN | apply below_drew1) | exact HB.out)) hb); have n3_ := Aside0.mk (hbox); have n4_ := Aside0.mk ((by rw [hg]; exact (below_size (by repeat (first | (with_reducible first | exact HB.out | apply below_alloc | apply pw_below_drewN | apply below_drew1) | exact HB.out))) : w.heap.size ≤ gb543)); have n5_ := Aside0.mk ((by rw [hg]; exact (below_size (by repeat (first | (with_reducible first | exact HB.out | apply below_alloc | apply pw_below_drewN | apply below_drew1) | exact HB.out))) : w.heap.size ≤ gb543)); clear HO538; clear HO541; clear HB; have HO538 := n0_; have HO541 := n1_; have HB := n2_; have BK543 := n3_; have GW543 := n4_; have GE543 := n5_; clear n0_ n1_ n2_ n3_ n4_ n5_; clear hb hbox hg; have hcz71_0 : w70.cell? ⟨gb543, 0, none⟩ = some (.bool false) := (blk_cell BK543.out 0).trans rfl; have hcz71_1 : w70.cell? ⟨gb543, 1, none⟩ = some (.slice none 0 0) := (blk_cell BK543.out 1).trans rfl; have hcz71_2 : w70.cell? ⟨gb543, 2, none⟩ = some (.slice none 0 0) := (blk_cell BK543.out 2).trans rfl; have hfz71_0 := blk_frozen BK543.out 0; have hfz71_1 := blk_frozen BK543.out 1; have hfz71_2 := blk_frozen BK543.out 2; obtain ⟨Ao72, co72, eo72⟩ := Kd.R_slice HO538.out; subst eo72; obtain ⟨Ao73, co73, eo73⟩ := Kd.R_slice HO541.out; subst eo73) | ((with_reducible refine gate_callee (f := 13) rfl ?_); refine goesL_ (some 23) rfl rfl Tryz.func13 (by kernel_rfl) rfl #[.string a0] rfl (by (try simp only [List.map_toArray, List.map_cons, List.map_nil]); first | done | rfl | (simp only [List.length_drop, List.length_take]; rfl)) ?_; (with_reducible refine (fluxionref04_ParseRat.calls kj1 a0 t544 t545 t548 t551 _ A8.out).mono ?_); rintro e w74 ⟨v546, v549, rfl, ho0, ho1, hb⟩; refine ⟨_, rfl, ?_⟩; have n0_ := Aside0.mk (Kd.R_below (by exact (Kd.R_mono (Kd.R_far (p := ⟨gb543, 2, none⟩) (Kd.R_far (p := ⟨gb543, 1, none⟩) (Kd.R_far (p := ⟨gb543, 0, none⟩) (Kd.R_types HO538.out BK543.out (by decide)) (fun _ hk => hk.2) (.bool t535)) (fun _ hk => hk.2) (.slice Ao72 t536.length co72)) (fun _ hk => hk.2) (.slice Ao73 t539.length co73)) (fun _ h_ => h_.1))) hb); have n1_ := Aside0.mk (Kd.R_below (by exact (Kd.R_mono (Kd.R_far (p := ⟨gb543, 2, none⟩) (Kd.R_far (p := ⟨gb543, 1, none⟩) (Kd.R_far (p := ⟨gb543, 0, none⟩) (Kd.R_types HO541.out BK543.out (by decide)) (fun _ hk => hk.2) (.bool t535)) (fun _ hk => hk.2) (.slice Ao72 t536.length co72)) (fun _ hk => hk.2) (.slice Ao73 t539.length co73)) (fun _ h_ => h_.1))) hb); have n2_ := Aside0.mk (Kd.R_lower ho0 (below_size (by repeat (first | (with_reducible first | exact HB.out | apply below_alloc | apply pw_below_drewN | apply below_drew1 | refine below_set ?_ GE543.out) | exact HB.out)))); have n3_ := Aside0.mk (Kd.R_lower ho1 (below_size (by repeat (first | (with_reducible first | exact HB.out | apply below_alloc | apply pw_below_drewN | apply below_drew1 | refine below_set ?_ GE543.out) | exact HB.out)))); have n4_ := Aside0.mk (blk_below (g := gb543) (o := .cells #[.bool t535, .slice Ao72 t536.length co72, .slice Ao73 t539.length co73] 25 (0, 0)) (by refine blk_put (cs := #[.bool t535, .slice Ao72 t536.length co72, .slice none 0 0]) ?_ 2 _ rfl; refine blk_put (cs := #[.bool t535, .slice none 0 0, .slice none 0 0]) ?_ 1 _ rfl; refine blk_put (cs := #[.bool false, .slice none 0 0, .slice none 0 0]) ?_ 0 _ rfl; exact BK543.out) hb); have n5_ := Aside0.mk (below_step (by repeat (first | (with_reducible first | exact HB.out | apply below_alloc | apply pw_below_drewN | apply below_drew1 | refine below_set ?_ GE543.out) | exact HB.out)) hb); clear HO538; clear HO541; clear BK543; clear HB; have HO538 := n0_; have HO541 := n1_; have HO547 := n2_; have HO550 := n3_; have BK543 := n4_; have HB := n5_; clear n0_ n1_ n2_ n3_ n4_ n5_; (try clear hb); (try clear hb2); (try clear hk); (try clear hi); (try clear ho0); (try clear ho1)) | ((with_reducible refine gate_dst (N := 5) rfl ?_); (try (refine gate_guard (by rfl) ?_; dsimp only)); refine box_event ?hg (N := 5) ?hd (cs := #[.bool false, .slice none 0 0, .slice none 0 0]) (t := 32) ?hr ?_; (case hd => rfl); (case hg => rfl); (case hr => first | (go_simp; done) | (go_simp; rfl)); intro gb552 hg w75 hbox hb; have n0_ := Aside0.mk (Kd.R_below (by exact HO538.out) hb); have n1_ := Aside0.mk (Kd.R_below (by exact HO541.out) hb); have n2_ := Aside0.mk (Kd.R_below (by exact HO547.out) hb); have n3_ := Aside0.mk (Kd.R_below (by exact HO550.out) hb); have n4_ := Aside0.mk (blk_below (g := gb543) (o := .cells #[.bool t535, .slice Ao72 t536.length co72, .slice Ao73 t539.length co73] 25 (0, 0)) (by exact BK543.out) hb); have n5_ := Aside0.mk (below_step (by repeat (first | (with_reducible first | exact HB.out | apply below_alloc | apply pw_below_drewN | apply below_drew1 | refine below_set ?_ GE543.out) | exact HB.out)) hb); have n6_ := Aside0.mk (hbox); have n7_ := Aside0.mk ((by rw [hg]; exact (below_size (by repeat (first | (with_reducible first | exact HB.out | apply below_alloc | apply pw_below_drewN | apply below_drew1 | refine below_set ?_ GE543.out) | exact HB.out))) : w.heap.size ≤ gb552)); have n8_ := Aside0.mk ((by rw [hg]; exact (below_size (by repeat (first | (with_reducible first | exact HB.out | apply below_alloc | apply pw_below_drewN | apply below_drew1 | refine below_set ?_ GE543.out) | exact HB.out))) : w.heap.size ≤ gb552)); have n9_ := Aside0.mk ((by rw [hg]; exact Nat.ne_of_lt (blk_lt (g := gb543) (o := .cells #[.bool t535, .slice Ao72 t536.length co72, .slice Ao73 t539.length co73] 25 (0, 0)) (by exact BK543.out)) : gb543 ≠ gb552)); have n10_ := Aside0.mk ((by rw [hg]; exact Nat.ne_of_gt (blk_lt (g := gb543) (o := .cells #[.bool t535, .slice Ao72 t536.length co72, .slice Ao73 t539.length co73] 25 (0, 0)) (by exact BK543.out)) : gb552 ≠ gb543)); clear HO538; clear HO541; clear HO547; clear HO550; clear BK543; clear HB; have HO538 := n0_; have HO541 := n1_; have HO547 := n2_; have HO550 := n3_; have BK543 := n4_; have HB := n5_; have BK552 := n6_; have GW552 := n7_; have GE552 := n8_; have NB543_552 := n9_; have NB552_543 := n10_; clear n0_ n1_ n2_ n3_ n4_ n5_ n6_ n7_ n8_ n9_ n10_; clear hb hbox hg; have hnb76 := NB552_543.out; have hnc76 := NB543_552.out; have hcz77_0 : w75.cell? ⟨gb552, 0, none⟩ = some (.bool false) := (blk_cell BK552.out 0).trans rfl; have hcz77_1 : w75.cell? ⟨gb552, 1, none⟩ = some (.slice none 0 0) := (blk_cell BK552.out 1).trans rfl; have hcz77_2 : w75.cell? ⟨gb552, 2, none⟩ = some (.slice none 0 0) := (blk_cell BK552.out 2).trans rfl; have hfz77_0 := blk_frozen BK552.out 0; have hfz77_1 := blk_frozen BK552.out 1; have hfz77_2 := blk_frozen BK552.out 2; obtain ⟨Ao78, co78, eo78⟩ := Kd.R_slice HO547.out; subst eo78; obtain ⟨Ao79, co79, eo79⟩ := Kd.R_slice HO550.out; subst eo79) | (go_at_call 14; (with_reducible refine (fluxionlaw04_falls.calls kj1 a0 t542 false _ A53.out ?side1).mono ?_); (case side1 => exact LaidT.below hL (by repeat (first | (with_reducible first | exact HB.out | apply below_alloc | apply pw_below_drewN | apply below_drew1 | refine below_set ?_ GE543.out | refine below_set ?_ GE552.out) | exact HB.out))); rintro e w80 ⟨rfl, hb⟩; have n0_ := Aside0.mk (Kd.R_below (by exact (Kd.R_mono (Kd.R_far (p := ⟨gb552, 2, none⟩) (Kd.R_far (p := ⟨gb552, 1, none⟩) (Kd.R_far (p := ⟨gb552, 0, none⟩) (Kd.R_types HO538.out BK552.out (by decide)) (fun _ hk => hk.2) (.bool t544)) (fun _ hk => hk.2) (.slice Ao78 t545.length co78)) (fun _ hk => hk.2) (.slice Ao79 t548.length co79)) (fun _ h_ => h_.1))) hb); have n1_ := Aside0.mk (Kd.R_below (by exact (Kd.R_mono (Kd.R_far (p := ⟨gb552, 2, none⟩) (Kd.R_far (p := ⟨gb552, 1, none⟩) (Kd.R_far (p := ⟨gb552, 0, none⟩) (Kd.R_types HO541.out BK552.out (by decide)) (fun _ hk => hk.2) (.bool t544)) (fun _ hk => hk.2) (.slice Ao78 t545.length co78)) (fun _ hk => hk.2) (.slice Ao79 t548.length co79)) (fun _ h_ => h_.1))) hb); have n2_ := Aside0.mk (Kd.R_below (by exact (Kd.R_mono (Kd.R_far (p := ⟨gb552, 2, none⟩) (Kd.R_far (p := ⟨gb552, 1, none⟩) (Kd.R_far (p := ⟨gb552, 0, none⟩) (Kd.R_types HO547.out BK552.out (by decide)) (fun _ hk => hk.2) (.bool t544)) (fun _ hk => hk.2) (.slice Ao78 t545.length co78)) (fun _ hk => hk.2) (.slice Ao79 t548.length co79)) (fun _ h_ => h_.1))) hb); have n3_ := Aside0.mk (Kd.R_below (by exact (Kd.R_mono (Kd.R_far (p := ⟨gb552, 2, none⟩) (Kd.R_far (p := ⟨gb552, 1, none⟩) (Kd.R_far (p := ⟨gb552, 0, none⟩) (Kd.R_types HO550.out BK552.out (by decide)) (fun _ hk => hk.2) (.bool t544)) (fun _ hk => hk.2) (.slice Ao78 t545.length co78)) (fun _ hk => hk.2) (.slice Ao79 t548.length co79)) (fun _ h_ => h_.1))) hb); have n4_ := Aside0.mk (blk_below (g := gb543) (o := .cells #[.bool t535, .slice Ao72 t536.length co72, .slice Ao73 t539.length co73] 25 (0, 0)) (by refine blk_far ?_ NB543_552.out _; refine blk_far ?_ NB543_552.out _; refine blk_far ?_ NB543_552.out _; exact BK543.out) hb); have n5_ := Aside0.mk (blk_below (g := gb552) (o := .cells #[.bool t544, .slice Ao78 t545.length co78, .slice Ao79 t548.length co79] 32 (0, 0)) (by refine blk_put (cs := #[.bool t544, .slice Ao78 t545.length co78, .slice none 0 0]) ?_ 2 _ rfl; refine blk_put (cs := #[.bool t544, .slice none 0 0, .slice none 0 0]) ?_ 1 _ rfl; refine blk_put (cs := #[.bool false, .slice none 0 0, .slice none 0 0]) ?_ 0 _ rfl; exact BK552.out) hb); have n6_ := Aside0.mk (below_step (by repeat (first | (with_reducible first | exact HB.out | apply below_alloc | apply pw_below_drewN | apply below_drew1 | refine below_set ?_ GE543.out | refine below_set ?_ GE552.out) | exact HB.out)) hb); clear HO538; clear HO541; clear HO547; clear HO550; clear BK543; clear BK552; clear HB; have HO538 := n0_; have HO541 := n1_; have HO547 := n2_; have HO550 := n3_; have BK543 := n4_; have BK552 := n5_; have HB := n6_; clear n0_ n1_ n2_ n3_ n4_ n5_ n6_; (try clear hb); (try clear hb2); (try clear hk); (try clear hi)))
              go_ret
              exact ⟨by first | rfl | (simp [errW_none, errW_some] <;> rfl) | (simp [*, errW_none, errW_some] <;> rfl), by repeat (first | (with_reducible first | exact HB.out | apply below_alloc | apply pw_below_drewN | apply below_drew1 | refine below_set ?_ GE543.out | refine below_set ?_ GE552.out) | exact HB.out)⟩
          · rw [if_neg c52] at H
            have c52b0 : (t542 == t551) = false := beq_eq_false_iff_ne.mpr c52
            have c52b1 : (t542 != t551) = true := bne_iff_ne.mpr c52
            obtain rfl := Option.some.inj H
            go_wp2_with (first | ((with_reducible refine gate_callee (f := 12) rfl ?_); refine goesL_ (some 18) rfl rfl Tryz.func12 (by kernel_rfl) rfl #[.string a0] rfl (by (try simp only [List.map_toArray, List.map_cons, List.map_nil]); first | done | rfl | (simp only [List.length_drop, List.length_take]; rfl)) ?_; (with_reducible refine (digits_ParseRat.calls kj1 a0 t535 t536 t539 t542 _ A7.out ?side1).mono ?_); (case side1 => exact LaidT.below hL (by repeat (first | (with_reducible first | exact HB.out | apply below_alloc | apply pw_below_drewN | apply below_drew1) | exact HB.out))); rintro e w81 ⟨v537, v540, rfl, ho0, ho1, hb⟩; refine ⟨_, rfl, ?_⟩; have n0_ := Aside0.mk (Kd.R_lower ho0 (below_size (by repeat (first | (with_reducible first | exact HB.out | apply below_alloc | apply pw_below_drewN | apply below_drew1) | exact HB.out)))); have n1_ := Aside0.mk (Kd.R_lower ho1 (below_size (by repeat (first | (with_reducible first | exact HB.out | apply below_alloc | apply pw_below_drewN | apply below_drew1) | exact HB.out)))); have n2_ := Aside0.mk (below_step (by repeat (first | (with_reducible first | exact HB.out | apply below_alloc | apply pw_below_drewN | apply below_drew1) | exact HB.out)) hb); clear HB; have HO538 := n0_; have HO541 := n1_; have HB := n2_; clear n0_ n1_ n2_; (try clear hb); (try clear hb2); (try clear hk); (try clear hi); (try clear ho0); (try clear ho1)) | ((with_reducible refine gate_dst (N := 3) rfl ?_); (try (refine gate_guard (by rfl) ?_; dsimp only)); refine box_event ?hg (N := 3) ?hd (cs := #[.bool false, .slice none 0 0, .slice none 0 0]) (t := 25) ?hr ?_; (case hd => rfl); (case hg => rfl); (case hr => first | (go_simp; done) | (go_simp; rfl)); intro gb543 hg w82 hbox hb; have n0_ := Aside0.mk (Kd.R_below (by exact HO538.out) hb); have n1_ := Aside0.mk (Kd.R_below (by exact HO541.out) hb); have n2_ := Aside0.mk (below_step (by repeat (first | (with_reducible first | exact HB.out | apply below_alloc | apply pw_below_drewN | apply below_drew1) | exact HB.out)) hb); have n3_ := Aside0.mk (hbox); have n4_ := Aside0.mk ((by rw [hg]; exact (below_size (by repeat (first | (with_reducible first | exact HB.out | apply below_alloc | apply pw_below_drewN | apply below_drew1) | exact HB.out))) : w.heap.size ≤ gb543)); have n5_ := Aside0.mk ((by rw [hg]; exact (below_size (by repeat (first | (with_reducible first | exact HB.out | apply below_alloc | apply pw_below_drewN | apply below_drew1) | exact HB.out))) : w.heap.size ≤ gb543)); clear HO538; clear HO541; clear HB; have HO538 := n0_; have HO541 := n1_; have HB := n2_; have BK543 := n3_; have GW543 := n4_; have GE543 := n5_; clear n0_ n1_ n2_ n3_ n4_ n5_; clear hb hbox hg; have hcz83_0 : w82.cell? ⟨gb543, 0, none⟩ = some (.bool false) := (blk_cell BK543.out 0).trans rfl; have hcz83_1 : w82.cell? ⟨gb543, 1, none⟩ = some (.slice none 0 0) := (blk_cell BK543.out 1).trans rfl; have hcz83_2 : w82.cell? ⟨gb543, 2, none⟩ = some (.slice none 0 0) := (blk_cell BK543.out 2).trans rfl; have hfz83_0 := blk_frozen BK543.out 0; have hfz83_1 := blk_frozen BK543.out 1; have hfz83_2 := blk_frozen BK543.out 2; obtain ⟨Ao84, co84, eo84⟩ := Kd.R_slice HO538.out; subst eo84; obtain ⟨Ao85, co85, eo85⟩ := Kd.R_slice HO541.out; subst eo85) | ((with_reducible refine gate_callee (f := 13) rfl ?_); refine goesL_ (some 23) rfl rfl Tryz.func13 (by kernel_rfl) rfl #[.string a0] rfl (by (try simp only [List.map_toArray, List.map_cons, List.map_nil]); first | done | rfl | (simp only [List.length_drop, List.length_take]; rfl)) ?_; (with_reducible refine (fluxionref04_ParseRat.calls kj1 a0 t544 t545 t548 t551 _ A8.out).mono ?_); rintro e w86 ⟨v546, v549, rfl, ho0, ho1, hb⟩; refine ⟨_, rfl, ?_⟩; have n0_ := Aside0.mk (Kd.R_below (by exact (Kd.R_mono (Kd.R_far (p := ⟨gb543, 2, none⟩) (Kd.R_far (p := ⟨gb543, 1, none⟩) (Kd.R_far (p := ⟨gb543, 0, none⟩) (Kd.R_types HO538.out BK543.out (by decide)) (fun _ hk => hk.2) (.bool t535)) (fun _ hk => hk.2) (.slice Ao84 t536.length co84)) (fun _ hk => hk.2) (.slice Ao85 t539.length co85)) (fun _ h_ => h_.1))) hb); have n1_ := Aside0.mk (Kd.R_below (by exact (Kd.R_mono (Kd.R_far (p := ⟨gb543, 2, none⟩) (Kd.R_far (p := ⟨gb543, 1, none⟩) (Kd.R_far (p := ⟨gb543, 0, none⟩) (Kd.R_types HO541.out BK543.out (by decide)) (fun _ hk => hk.2) (.bool t535)) (fun _ hk => hk.2) (.slice Ao84 t536.length co84)) (fun _ hk => hk.2) (.slice Ao85 t539.length co85)) (fun _ h_ => h_.1))) hb); have n2_ := Aside0.mk (Kd.R_lower ho0 (below_size (by repeat (first | (with_reducible first | exact HB.out | apply below_alloc | apply pw_below_drewN | apply below_drew1 | refine below_set ?_ GE543.out) | exact HB.out)))); have n3_ := Aside0.mk (Kd.R_lower ho1 (below_size (by repeat (first | (with_reducible first | exact HB.out | apply below_alloc | apply pw_below_drewN | apply below_drew1 | refine below_set ?_ GE543.out) | exact HB.out)))); have n4_ := Aside0.mk (blk_below (g := gb543) (o := .cells #[.bool t535, .slice Ao84 t536.length co84, .slice Ao85 t539.length co85] 25 (0, 0)) (by refine blk_put (cs := #[.bool t535, .slice Ao84 t536.length co84, .slice none 0 0]) ?_ 2 _ rfl; refine blk_put (cs := #[.bool t535, .slice none 0 0, .slice none 0 0]) ?_ 1 _ rfl; refine blk_put (cs := #[.bool false, .slice none 0 0, .slice none 0 0]) ?_ 0 _ rfl; exact BK543.out) hb); have n5_ := Aside0.mk (below_step (by repeat (first | (with_reducible first | exact HB.out | apply below_alloc | apply pw_below_drewN | apply below_drew1 | refine below_set ?_ GE543.out) | exact HB.out)) hb); clear HO538; clear HO541; clear BK543; clear HB; have HO538 := n0_; have HO541 := n1_; have HO547 := n2_; have HO550 := n3_; have BK543 := n4_; have HB := n5_; clear n0_ n1_ n2_ n3_ n4_ n5_; (try clear hb); (try clear hb2); (try clear hk); (try clear hi); (try clear ho0); (try clear ho1)) | ((with_reducible refine gate_dst (N := 5) rfl ?_); (try (refine gate_guard (by rfl) ?_; dsimp only)); refine box_event ?hg (N := 5) ?hd (cs := #[.bool false, .slice none 0 0, .slice none 0 0]) (t := 32) ?hr ?_; (case hd => rfl); (case hg => rfl); (case hr => first | (go_simp; done) | (go_simp; rfl)); intro gb552 hg w87 hbox hb; have n0_ := Aside0.mk (Kd.R_below (by exact HO538.out) hb); have n1_ := Aside0.mk (Kd.R_below (by exact HO541.out) hb); have n2_ := Aside0.mk (Kd.R_below (by exact HO547.out) hb); have n3_ := Aside0.mk (Kd.R_below (by exact HO550.out) hb); have n4_ := Aside0.mk (blk_below (g := gb543) (o := .cells #[.bool t535, .slice Ao84 t536.length co84, .slice Ao85 t539.length co85] 25 (0, 0)) (by exact BK543.out) hb); have n5_ := Aside0.mk (below_step (by repeat (first | (with_reducible first | exact HB.out | apply below_alloc | apply pw_below_drewN | apply below_drew1 | refine below_set ?_ GE543.out) | exact HB.out)) hb); have n6_ := Aside0.mk (hbox); have n7_ := Aside0.mk ((by rw [hg]; exact (below_size (by repeat (first | (with_reducible first | exact HB.out | apply below_alloc | apply pw_below_drewN | apply below_drew1 | refine below_set ?_ GE543.out) | exact HB.out))) : w.heap.size ≤ gb552)); have n8_ := Aside0.mk ((by rw [hg]; exact (below_size (by repeat (first | (with_reducible first | exact HB.out | apply below_alloc | apply pw_below_drewN | apply below_drew1 | refine below_set ?_ GE543.out) | exact HB.out))) : w.heap.size ≤ gb552)); have n9_ := Aside0.mk ((by rw [hg]; exact Nat.ne_of_lt (blk_lt (g := gb543) (o := .cells #[.bool t535, .slice Ao84 t536.length co84, .slice Ao85 t539.length co85] 25 (0, 0)) (by exact BK543.out)) : gb543 ≠ gb552)); have n10_ := Aside0.mk ((by rw [hg]; exact Nat.ne_of_gt (blk_lt (g := gb543) (o := .cells #[.bool t535, .slice Ao84 t536.length co84, .slice Ao85 t539.length co85] 25 (0, 0)) (by exact BK543.out)) : gb552 ≠ gb543)); clear HO538; clear HO541; clear HO547; clear HO550; clear BK543; clear HB; have HO538 := n0_; have HO541 := n1_; have HO547 := n2_; have HO550 := n3_; have BK543 := n4_; have HB := n5_; have BK552 := n6_; have GW552 := n7_; have GE552 := n8_; have NB543_552 := n9_; have NB552_543 := n10_; clear n0_ n1_ n2_ n3_ n4_ n5_ n6_ n7_ n8_ n9_ n10_; clear hb hbox hg; have hnb88 := NB552_543.out; have hnc88 := NB543_552.out; have hcz89_0 : w87.cell? ⟨gb552, 0, none⟩ = some (.bool false) := (blk_cell BK552.out 0).trans rfl; have hcz89_1 : w87.cell? ⟨gb552, 1, none⟩ = some (.slice none 0 0) := (blk_cell BK552.out 1).trans rfl; have hcz89_2 : w87.cell? ⟨gb552, 2, none⟩ = some (.slice none 0 0) := (blk_cell BK552.out 2).trans rfl; have hfz89_0 := blk_frozen BK552.out 0; have hfz89_1 := blk_frozen BK552.out 1; have hfz89_2 := blk_frozen BK552.out 2; obtain ⟨Ao90, co90, eo90⟩ := Kd.R_slice HO547.out; subst eo90; obtain ⟨Ao91, co91, eo91⟩ := Kd.R_slice HO550.out; subst eo91))
            go_ret
            exact ⟨by first | rfl | (simp [errW_none, errW_some] <;> rfl) | (simp [*, errW_none, errW_some] <;> rfl), by repeat (first | (with_reducible first | exact HB.out | apply below_alloc | apply pw_below_drewN | apply below_drew1 | refine below_set ?_ GE543.out | refine below_set ?_ GE552.out) | exact HB.out)⟩

end Go.Proofs.YtpncflaoikeidaaGreatDoor.P
namespace Go.Proofs.YtpncflaoikeidaaGreatDoor.H
open Go.RowKit Go.Lib Go.Proofs.YtpncflaoikeidaaGreatDoorW.PrintWords Go.Proofs.YtpncflaoikeidaaGreatDoorW.PrintLast Go.Proofs.YtpncflaoikeidaaGreatDoorW.PrintMore Go.Proofs.YtpncflaoikeidaaGreatDoor.P
theorem big_bound : ∃ Kb, ∀ n, ¬ big n = true → n < Kb := by
  refine ⟨4294967296 ^ 32, fun n h => ?_⟩
  have h1 := notbig_limbs h
  have h2 := nval_lt (okl_limbs n)
  rw [nval_limbs] at h2
  exact Nat.lt_of_lt_of_le h2 (Nat.pow_le_pow_right (by decide) h1)
theorem texts_law (s : ByteArray) (hz : s.size ≤ 140737488351232) : ∃ k, fluxionlaw04_DigitsTexts.f k s = some true := by
  obtain ⟨Kb, hK⟩ := big_bound
  refine ⟨5002600011 + Kb + s.size + 2, ?_⟩
  obtain ⟨k, hk⟩ : ∃ k, 5002600011 + Kb + s.size = k := ⟨_, rfl⟩
  rw [hk]
  have kn : fluxionlaw04_known.f (k + 1) = some true := known04_f k
  have all : fluxionlaw04_DigitsTexts.j0 (k + 2) s true = some true := by
    rw [fluxionlaw04_DigitsTexts.j0, if_pos rfl, kn]; rfl
  have one : fluxionlaw04_DigitsTexts.j0 (k + 2) s false = some true := by
    rw [fluxionlaw04_DigitsTexts.j0, if_neg (by decide), parseRat_f k s hz, Option.bind_some, refParseRat_f s (k + 1) Kb hz hK (by omega) (by omega), Option.bind_some]
    simp only
    by_cases he : (PR s.data.toList).2 = 0
    · obtain ⟨g, a, b, hx, ha, hb⟩ := PR_ok he
      obtain ⟨l1, l2⟩ := red_limbs g (m := 32) (notbig_limbs ha) (notbig_limbs hb) (by decide)
      rw [← hx] at l1 l2
      rw [if_pos he, if_pos he, refIsR_f _ _ _ _ (by omega) (by omega) (by omega), Option.bind_some, if_pos rfl, kn]
      rfl
    · have hb := PR_bad he
      have hf := falls_f k s.data.toList (PR s.data.toList).2 (by rw [size_len]; exact hz) (by rw [← hb])
      rw [← bytes_of s] at hf
      rw [if_neg he, if_pos trivial, hf, Option.bind_some, if_pos rfl, kn]
      rfl
  unfold fluxionlaw04_DigitsTexts.f
  by_cases h1 : 120 < s.size
  · rw [if_pos (by omega)]
    by_cases h2 : s.size ≤ 800
    · rw [decide_eq_true (show ((s.size : Int) ≤ 800) by omega), all]
    · rw [decide_eq_false (show ¬ ((s.size : Int) ≤ 800) by omega), one]
  · rw [if_neg (by omega), one]
end Go.Proofs.YtpncflaoikeidaaGreatDoor.H
