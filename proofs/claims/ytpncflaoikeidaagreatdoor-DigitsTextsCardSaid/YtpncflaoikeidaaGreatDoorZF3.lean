/- TEXTS OF THIS CLAIM, GATHERED: words printed by the kit, functions printed over the translation, contracts and plain laws by hand. -/
import Derived.Laws.CopyOwn
import Derived.Lib.IndexMore
import Derived.Test.YtpncflaoikeidaaGreatDoorZF2
namespace Go.Proofs.YtpncflaoikeidaaGreatDoor.P
open Go.RowKit Go.Proofs.YtpncflaoikeidaaGreatDoorW.PrintWords Go.Proofs.YtpncflaoikeidaaGreatDoorW.PrintLast Go.Proofs.YtpncflaoikeidaaGreatDoorW.PrintMore Go.Proofs.YtpncflaoikeidaaGreatDoor.H
theorem make_any (t : TypeId) (ht : Tryz.prog.underlying t = some (.slice 56)) (m : Nat) (hm : m < 1000000) :
    ∀ W : World, (Instr.makeSlice t (.int .i64 (m : Int)) (.int .i64 (m : Int))).run Tryz.prog W = .ok (.slice (some ⟨W.heap.size, 0, none⟩) m m) (W.alloc (.cells (madeCells #[.int .u32 0] m) 56)) :=
  print_make t 56 .u32 4 ht info56 (by decide) m (by omega)
theorem wrap_jn {j n e : Nat} (h : j + n + 3 < 10000000) (he : j + n + 3 = e) : wrap64 (wrap64 ((j : Int) + ((n : Int) + 2)) + 1) = (e : Int) := by
  have e1 : wrap64 ((j : Int) + ((n : Int) + 2)) = (j : Int) + ((n : Int) + 2) := by unfold wrap64; omega
  rw [e1]
  unfold wrap64; omega
theorem wrap_mn {M n : Nat} (h : M + n + 1 < 10000000) : wrap64 (wrap64 ((M : Int) + ((n : Int) + 1) - ((n : Int) + 2)) + 1) = (M : Int) := by
  have e1 : wrap64 ((M : Int) + ((n : Int) + 1) - ((n : Int) + 2)) = (M : Int) - 1 := by unfold wrap64; omega
  rw [e1]
  unfold wrap64; omega
theorem wrap_pred {j : Nat} (h : j < 10000000) : wrap64 ((j : Int) - 1) = (j : Int) - 1 := by unfold wrap64; omega
theorem size56 : (Tryz.prog.info? 56).map (·.size) = some 1 := by kernel_rfl
theorem made_blk (w9 w10 : World) (m : Nat) (hb : Below (w9.alloc (.cells (madeCells #[.int .u32 0] m) 56)).heap.size (w9.alloc (.cells (madeCells #[.int .u32 0] m) 56)) w10) : Blk32 w10 w9.heap.size (List.replicate m 0) := by
  have h := blk_of_below hb (heap_alloc_new w9 (.cells (madeCells #[.int .u32 0] m) 56)) (by simp)
  unfold Blk32
  rw [h]
  congr 2
  apply Array.ext'
  apply List.ext_getElem
  · simp [madeCells]
  · intro i h1 h2
    simp [madeCells, Nat.mod_one]
theorem copy_run (w : World) (g m : Nat) (ad : Addr) (c : Nat) (ys : List Int) (hb : Blk32 w g (List.replicate m 0)) (hr : Kd.C (Kd.int .u32) w (some ad) ys.length ys) (hle : ys.length ≤ m) :
    ∃ w1, (Builtin.copy_ #[22, 23] 3 #[.slice (some ⟨g, 0, none⟩) m m, .slice (some ad) ys.length c]).run Tryz.prog w = .ok (goInt ys.length) w1 ∧ Blk32 w1 g (ys ++ List.replicate (m - ys.length) 0) ∧ ∀ B, B ≤ g → Below B w w1 := by
  have hR := Kd.reads_of_C (enc := Value.int .u32) (d := (0 : Int)) hr
  have h := run_copy_row (P := Tryz.prog) w 22 23 3 56 g 0 m m ad ys.length c _ 56 (ys.map (Value.int .u32)) Tryz.underlying22 size56 hb (by rw [List.length_map]; exact (Nat.min_eq_left hle).symm)
    (fun j v hv => by
      have hj : j < ys.length := by
        rcases Nat.lt_or_ge j ys.length with h | h
        · exact h
        · rw [List.getElem?_eq_none (by simpa using h)] at hv; cases hv
      obtain ⟨ad', e, hc⟩ := hR.2.2 (by omega)
      cases e
      rw [hc j hj]
      rw [List.getElem?_map, List.getElem?_eq_getElem hj] at hv
      rw [← hv]
      simp [List.getD_eq_getElem?_getD, hj])
    (by simpa using hle) (fun v hv => by
      obtain ⟨x, _, rfl⟩ := List.mem_map.1 hv
      rfl)
  refine ⟨_, by rw [List.length_map] at h; exact h, ?_, fun B hB => below_setRow (Below.refl _ _) hB _⟩
  unfold Blk32
  refine (setRow_heap w g _ _ 56 (0, 0) hb).trans ?_
  have e : (List.map (Value.int .u32) (List.replicate m 0)).toArray.toList.take 0 ++ ys.map (Value.int .u32) ++ (List.map (Value.int .u32) (List.replicate m 0)).toArray.toList.drop (0 + ys.length) = List.map (Value.int .u32) (ys ++ List.replicate (m - ys.length) 0) := by
    rw [List.take_zero, List.nil_append, List.map_append, Nat.zero_add, ← List.drop_replicate, List.map_drop]
  rw [e]
set_option maxHeartbeats 1000000 in
set_option maxRecDepth 100000 in
theorem div_long (A0 : Option Addr) (c0 : Nat) (l0 : List Int) (A1 : Option Addr) (c1 : Nat) (l1 : List Int) (w : World) (hr0 : Kd.C (Kd.int .u32) w A0 l0.length l0) (hc0 : l0.length ≤ c0) (hr1 : Kd.C (Kd.int .u32) w A1 l1.length l1) (hc1 : l1.length ≤ c1)
    (o0 : okl l0) (o1 : okl l1) (n0 : l0.length < 900000) (n1 : l1.length < 900000) (a b : Nat) (ha : nval l0 = a) (hb : nval l1 = b) (hab : b ≤ a) (n : Nat) (hn : (limbs b).length = n + 2) :
    Calls Tryz.prog 124 #[.slice A0 l0.length c0, .slice A1 l1.length c1] w (DivPost w (limbs (a / b)) (limbs (a % b)) 0) := by
  have T0 := Aside0.mk (trim_any o0 (by omega) A0 c0 w hr0 hc0)
  have T1 := Aside0.mk (fun W h => trim_any o1 (by omega) A1 c1 W h hc1)
  have HR1 := Aside0.mk hr1
  have h0 := topN_le l0
  have h1 := topN_le l1
  have h2 := trim_limbs o0
  have h3 := trim_limbs o1
  rw [ha] at T0 h2
  rw [hb] at T1 h3
  have l0' : (limbs a).length < 900000 := by rw [← h2, List.length_take]; omega
  have l1' : (limbs b).length < 900000 := by rw [← h3, List.length_take]; omega
  have K := Aside0.mk (fun A0 c0 A1 c1 W => cmp_any (a := a) (b := b) (by omega) (by omega) A0 c0 A1 c1 W)
  rw [if_neg (by omega)] at K
  obtain ⟨c, hc⟩ : ∃ c : Int, (if b < a then 1 else 0) = c := ⟨_, rfl⟩
  rw [hc] at K
  have hcc : decide (c < 0) = false := by rw [← hc]; split <;> rfl
  have hn2 : n < 900000 := by omega
  -- the lengths
  have hla : n + 2 ≤ (limbs a).length := by
    have h5 := le_limbs_length (n + 1) a (Nat.le_trans (by
      refine Nat.le_of_not_lt fun h => ?_
      have := limbs_length_le _ _ h
      omega : 4294967296 ^ (n + 1) ≤ b) hab)
    omega
  obtain ⟨M, hM⟩ : ∃ M, (limbs a).length = M + (n + 1) := ⟨(limbs a).length - (n + 1), by omega⟩
  have hM0 : 0 < M := by omega
  have hM1 : M < 900000 := by omega
  obtain ⟨s, hs⟩ := shift_ok hn
  have HS := Aside0.mk hs
  obtain ⟨t, ht⟩ : ∃ t, lim (limbs b) (n + 1) = t := ⟨_, rfl⟩
  have HTT := Aside0.mk ht
  rw [ht] at hs HS
  have Z : Aside0 (∀ W, Calls Tryz.prog 147 #[.int .u32 (t : Int)] W fun e w' => e = .returned (.int .i64 (s : Int)) ∧ w' = W) := ⟨fun W => by
    have h := Tryz.bits_LeadingZeros32 (t : Int) W (by omega) (by have := hs.t1; omega)
    rwa [Int.toNat_natCast, hs.eq] at h⟩
  have Sb : Aside0 (∀ (A : Option Addr) (c : Nat) (W : World), Kd.C (Kd.int .u32) W A (limbs b).length (limbs b) → (limbs b).length ≤ c → Calls Tryz.prog 148 #[.slice A (n + 2) c, .int .i64 (s : Int)] W fun e w' => ∃ v0_ : Value, e = .returned (v0_) ∧ Kd.R (Kd.int .u32) 56 w' W.heap.size (fun _ => True) v0_ (limbs (b * 2 ^ s)) ∧ Below W.heap.size W w') := ⟨fun A c W h hc => by
    have h := nat_Shl.calls A c (limbs b) (s : Int) (limbs (b * 2 ^ s)) W h hc (by
      unfold nat_Shl.f
      rw [if_pos ⟨okl_limbs b, by omega, by omega, by have := hs.s31; omega⟩, nval_limbs, Int.toNat_natCast])
    rwa [hn] at h⟩
  have Sa : Aside0 (∀ (A : Option Addr) (c : Nat) (W : World), Kd.C (Kd.int .u32) W A (limbs a).length (limbs a) → (limbs a).length ≤ c → Calls Tryz.prog 148 #[.slice A (M + (n + 1)) c, .int .i64 (s : Int)] W fun e w' => ∃ v0_ : Value, e = .returned (v0_) ∧ Kd.R (Kd.int .u32) 56 w' W.heap.size (fun _ => True) v0_ (limbs (a * 2 ^ s)) ∧ Below W.heap.size W w') := ⟨fun A c W h hc => by
    have h := nat_Shl.calls A c (limbs a) (s : Int) (limbs (a * 2 ^ s)) W h hc (by
      unfold nat_Shl.f
      rw [if_pos ⟨okl_limbs a, by omega, by omega, by have := hs.s31; omega⟩, nval_limbs, Int.toNat_natCast])
    rwa [hM] at h⟩
  have M1 := make_any 22 Tryz.underlying22 (M + (n + 1) + 1) (by omega)
  have M2 := make_any 23 Tryz.underlying23 M (by omega)
  have c1 : ((M + (n + 1) + 1 : Nat) : Int) = (M : Int) + ((n : Int) + 1) + 1 := by omega
  rw [c1, show (M : Int) + ((n : Int) + 1) + 1 = wrap64 ((M : Int) + ((n : Int) + 1) + 1) by unfold wrap64; omega] at M1
  rw [← wrap_mn (M := M) (n := n) (by omega)] at M2
  have HN := Aside0.mk hn
  have HM := Aside0.mk hM
  have HL : Aside0 ((limbs (b * 2 ^ s)).length = n + 2) := ⟨hs.len⟩
  have HPOS : Aside0 (0 < (limbs (a * 2 ^ s)).length) := ⟨by
    rcases Nat.eq_zero_or_pos (limbs (a * 2 ^ s)).length with h | h
    · have h6 := nval_limbs (a * 2 ^ s)
      rw [List.eq_nil_of_length_eq_zero h] at h6
      have h7 : 0 < a := by
        refine Nat.lt_of_lt_of_le ?_ hab
        rcases Nat.eq_zero_or_pos b with h8 | h8
        · subst h8; rw [limbs_zero] at hn; cases hn
        · exact h8
      have h8 := Nat.mul_pos h7 (Nat.two_pow_pos s)
      simp only [nval] at h6; omega
    · exact h⟩
  have HLU : Aside0 ((limbs (a * 2 ^ s)).length ≤ M + (n + 1) + 1) := ⟨by
    refine limbs_length_le _ _ ?_
    have h6 := nval_lt (okl_limbs a)
    rw [nval_limbs, hM] at h6
    have h7 : 2 ^ s ≤ 4294967296 := Nat.le_trans (Nat.pow_le_pow_right (by decide : 0 < 2) hs.s31) (by decide)
    rw [Nat.pow_succ]
    exact Nat.lt_of_lt_of_le (Nat.mul_lt_mul_of_pos_right h6 (Nat.two_pow_pos s)) (Nat.mul_le_mul_left _ h7)⟩
  have hi1 : IntKind.i64.wrap ((n : Int) + 2 - 1) = (n : Int) + 1 := by rw [IntWalk.i64_in _ (by omega)]; omega
  have hp1 : (0 : Int) ≤ (n : Int) + 1 := by omega
  have hp2 : (n : Int) + 1 < (n : Int) + 2 := by omega
  have hne1 : ((n : Int) + 2 == 1) = false := by simpa using (show ¬ ((n : Int) + 2 = 1) by omega)
  have hne0 : ((n : Int) + 2 == 0) = false := by simpa using (show ¬ ((n : Int) + 2 = 0) by omega)
  have hp3 : ((n : Int) + 1).toNat = n + 1 := by omega
  have HNN : Aside0 (M + n + 1 < 900000 ∧ 0 < M) := ⟨by omega, by omega⟩
  rw [hn, hM] at K
  clear hr0 hr1 n0 n1 h0 h1 h2 h3 l0' l1' ha hb hab hc hla hs c1 hn2 ht
  clear hn hM hM0 hM1
  go_enter Tryz.func124, Tryz.ntmps124
  go_wp2_with (first | (go_at_call 42; with_reducible refine T0.out.mono ?_; rintro e w5 ⟨v0, rfl, ho0, hb0⟩; have HB0 := Aside0.mk hb0; obtain ⟨A2, c2, rfl⟩ := Kd.R_slice ho0; have HO0 := Aside0.mk ho0; clear ho0 hb0; rw [HM.out]) | (go_at_call 42; with_reducible refine (T1.out _ ?side).mono ?_; (case side => exact Kd.C_below HR1.out HB0.out); rintro e w6 ⟨v1, rfl, ho1, hb1⟩; obtain ⟨A3, c3, rfl⟩ := Kd.R_slice ho1; have HT := Aside0.mk (Two.mk HB0.out hb1 HO0.out ho1); clear ho1 hb1; clear HB0 HO0; rw [HN.out]) | (go_at_call 30; with_reducible refine (K.out _ _ _ _ _ ?s1 ?s2 ?s3 ?s4).mono ?_; (case s1 => have h_ := HT.out.C0; rw [HM.out] at h_; exact h_); (case s2 => have h_ := HT.out.c0; rw [HM.out] at h_; exact h_); (case s3 => have h_ := HT.out.C1; rw [HN.out] at h_; exact h_); (case s4 => have h_ := HT.out.c1; rw [HN.out] at h_; exact h_); rintro e w7 ⟨rfl, hb2⟩; have HB2 := Aside0.mk hb2; have hC := Kd.C_below HT.out.C1 hb2; obtain ⟨ad, ead, hx⟩ := Kd.at_int hC ((n + 1 : Nat) : Int) (by omega) (by rw [HN.out]; omega); subst ead; rw [rd_lim (okl_limbs b), Int.toNat_natCast, HTT.out] at hx; unfold Addr.add at hx; rw [if_neg (by omega)] at hx; clear hb2 hC) | (go_at_call 147; with_reducible refine (Z.out _).mono ?_; rintro e w8 ⟨rfl, rfl⟩) | (go_at_call 148; with_reducible refine (Sb.out _ _ _ ?s1 ?s2).mono ?_; (case s1 => exact Kd.C_below HT.out.C1 HB2.out); (case s2 => exact HT.out.c1); rintro e w9 ⟨v2, rfl, ho2, hb3⟩; have HB3 := Aside0.mk hb3; have HO2 := Aside0.mk ho2; obtain ⟨A4, c4, rfl⟩ := Kd.R_slice ho2; clear ho2 hb3; rw [HL.out]) | (go_at_call 148; with_reducible refine (Sa.out _ _ _ ?s1 ?s2).mono ?_; (case s1 => repeat (first | exact Kd.C_below (Kd.C_below HT.out.C0 HB2.out) HB3.out | (with_reducible refine Kd.C_alloc ?_ _) | (with_reducible refine Kd.C_drewN ?_ _) | (with_reducible refine Kd.C_drew ?_))); (case s2 => exact HT.out.c0); rintro e w10 ⟨v3, rfl, ho3, hb4⟩; have HB4 := Aside0.mk hb4; have HO3 := Aside0.mk ho3; obtain ⟨A5, c5, rfl⟩ := Kd.R_slice ho3; have hC5 := (Kd.R_reads' ho3).2.2; obtain ⟨ad5, ead5, _⟩ := Kd.at_int hC5 0 (by decide) (by have := HPOS.out; omega); subst ead5; obtain ⟨w11, hcp, hblk, hbel⟩ := copy_run w10 w9.heap.size (M + (n + 1) + 1) ad5 c5 _ (made_blk w9 w10 _ HB4.out) hC5 HLU.out; have HBLK := Aside0.mk hblk; have HB5 := Aside0.mk (hbel _ (Nat.le_refl _)); clear ho3 hb4 hC5 hblk hbel))
  have z4 := HB4.out.size
  rw [World.size_alloc] at z4
  have z5 := HB5.out.size
  have z3 := HB3.out.size
  have z2 := HB2.out.size
  have z1 := HT.out.b.size
  have NE : Aside0 (w11.heap.size ≠ w9.heap.size) := ⟨by omega⟩
  have BU : Aside0 (w.heap.size ≤ w9.heap.size) := ⟨by omega⟩
  have BQ : Aside0 (w.heap.size ≤ w11.heap.size) := ⟨by omega⟩
  have HJ : Aside0 (DivJ w.heap.size w9.heap.size w11.heap.size w (.slice A4 (n + 2) c4) (limbs (b * 2 ^ s)) (limbs (a * 2 ^ s) ++ List.replicate (M + (n + 1) + 1 - (limbs (a * 2 ^ s)).length) 0) (List.replicate M 0) (w11.alloc (.cells (madeCells #[.int .u32 0] M) 56))) := ⟨by
    have b9 : Below w9.heap.size w9 w11 := (((Below.refl _ _).alloc (Nat.le_refl _) _).trans (HB4.out.mono (by simp))).trans HB5.out
    have bw : Below w.heap.size w w9 := below_step (below_step HT.out.b HB2.out) HB3.out
    have hv := HO2.out
    rw [HL.out] at hv
    exact ⟨blk_alloc HBLK.out _, made_blk w11 _ M (Below.refl _ _),
      Kd.R_lower (Kd.R_mono (Kd.R_alloc (Kd.R_old hv b9) _) (fun k hk => ⟨by have := hk.2; omega, by have := hk.2; omega⟩)) (by omega),
      (below_step bw b9).alloc (by omega) _⟩⟩
  clear z1 z2 z3 z4 z5
  go_loopw [14] (fun v14 wr => ∃ (k : Nat) (us qs : List Int), v14 = .int .i64 ((k : Int) - 1) ∧ k ≤ M ∧ Aside0 (DivInv n (M + (n + 1)) (limbs (b * 2 ^ s)) (a * 2 ^ s) k us qs) ∧ Aside0 (DivJ w.heap.size w9.heap.size w11.heap.size w (.slice A4 (n + 2) c4) (limbs (b * 2 ^ s)) us qs wr)) (fun v14 _ => (intOf v14 + 1).toNat)
  case atStart =>
    refine ⟨M, _, _, ?_, Nat.le_refl _, ⟨?_⟩, HJ⟩
    · rw [wrap_pred (by have := HNN.out; omega)]
    · have hp := limbs_pad HLU.out
      have h := DivInv.start (n := n) (s := s) (a := a) (b := b) (M := M) (vs := limbs (b * 2 ^ s)) (by rw [HM.out]; omega) hp.1 (by rw [HM.out, List.length_append, List.length_replicate]; have := HLU.out; omega) hp.2 HS.out.s31 rfl HS.out.top
      rw [HM.out] at h
      exact h
  case round =>
    obtain ⟨k, us, qs, rfl, hk, HI, HJ⟩ := hrel
    cases k with
    | zero =>
      obtain ⟨hq, hu⟩ := HI.out.done
      rw [nval_limbs] at hq hu
      have hps : 0 < 2 ^ s := Nat.two_pow_pos s
      rw [Nat.mul_div_mul_right _ _ hps] at hq
      rw [Nat.mul_mod_mul_right] at hu
      have hlq : qs.length = M := by have := HI.out.lq; omega
      have hlu : us.length = M + (n + 1) + 1 := HI.out.lu
      have lim6 : M + n + 1 < 900000 := HNN.out.1
      have TQ := Aside0.mk (trim_any HI.out.oq (by omega) (some ⟨w11.heap.size, 0, none⟩) M wr (HJ.out.q.C (by omega)) (by omega))
      have TU := Aside0.mk (fun W h => trim_any HI.out.ou (by omega) (some ⟨w9.heap.size, 0, none⟩) (M + (n + 1) + 1) W h (by omega))
      have CU := Aside0.mk (HJ.out.u.C (by omega))
      rw [hq, hlq] at TQ
      rw [hu, hlu] at TU
      rw [hlu] at CU
      have hru : (limbs (a % b * 2 ^ s)).length ≤ M + (n + 1) + 1 := by
        have h := trim_limbs HI.out.ou
        rw [hu] at h
        rw [← h, List.length_take]; omega
      have SR : Aside0 (∀ (A : Option Addr) (c : Nat) (W : World), Kd.C (Kd.int .u32) W A (limbs (a % b * 2 ^ s)).length (limbs (a % b * 2 ^ s)) → (limbs (a % b * 2 ^ s)).length ≤ c → Calls Tryz.prog 152 #[.slice A (limbs (a % b * 2 ^ s)).length c, .int .i64 (s : Int)] W fun e w' => ∃ v0_ : Value, e = .returned (v0_) ∧ Kd.R (Kd.int .u32) 56 w' W.heap.size (fun _ => True) v0_ (limbs (a % b)) ∧ Below W.heap.size W w') := ⟨fun A c W h hc => nat_Shr.calls A c _ (s : Int) (limbs (a % b)) W h hc (by
        unfold nat_Shr.f
        rw [if_pos ⟨okl_limbs _, by omega, by omega, by have := HS.out.s31; omega⟩, nval_limbs, Int.toNat_natCast, Nat.mul_div_cancel _ hps])⟩
      rw [show (((0 : Nat) : Int) - 1) = -1 by omega]
      clear hq hu hps hlq hlu lim6 hru hk
      go_wp2_with (first | (go_at_call 42; with_reducible refine TQ.out.mono ?_; rintro e w12 ⟨v6, rfl, ho6, hb6⟩; have HB6 := Aside0.mk hb6; have HO6 := Aside0.mk ho6; clear ho6 hb6) | (go_at_call 42; with_reducible refine (TU.out _ ?side).mono ?_; (case side => exact Kd.C_below CU.out HB6.out); rintro e w13 ⟨v7, rfl, ho7, hb7⟩; have HB7 := Aside0.mk hb7; have HO7 := Aside0.mk ho7; obtain ⟨A8, c8, rfl⟩ := Kd.R_slice ho7; clear ho7 hb7) | (go_at_call 152; with_reducible refine (SR.out _ _ _ ?s1 ?s2).mono ?_; (case s1 => exact (Kd.R_reads' HO7.out).2.2); (case s2 => exact (Kd.R_reads' HO7.out).2.1); rintro e w14 ⟨v8, rfl, ho8, hb8⟩; have HB8 := Aside0.mk hb8; have HO8 := Aside0.mk ho8; clear ho8 hb8))
      go_ret3
      have hr6 := Kd.R_old HO6.out HB7.out
      have hr2 := Kd.R_elder' hr6 (Kd.R_base HO8.out) HB8.out
      have hr3 := Kd.R_new' HO8.out (Kd.R_lt hr6)
      have s1 := HJ.out.b.size
      have s2 := HB6.out.size
      have s3 := HB7.out.size
      exact ⟨_, _, rfl, Kd.R_mono (Kd.R_lower hr2 (by omega)) (fun _ hk => hk.2), Kd.R_mono (Kd.R_lower hr3 (by omega)) (fun _ hk => hk.2), below_step (below_step (below_step HJ.out.b HB6.out) HB7.out) HB8.out⟩
    | succ j =>
      have e0 : (((j + 1 : Nat) : Int) - 1) = (j : Int) := by omega
      have hj0 : (0 : Int) ≤ (j : Int) := Int.natCast_nonneg _
      obtain ⟨e, he⟩ : ∃ e : Nat, j + n + 3 = e := ⟨_, rfl⟩
      have he1 : (e : Int) ≤ (M : Int) + ((n : Int) + 1) + 1 := by omega
      have he2 : j ≤ e := by omega
      have he3 : e - j = n + 3 := by omega
      obtain ⟨cap, he4⟩ : ∃ cap : Nat, M + (n + 1) + 1 - j = cap := ⟨_, rfl⟩
      have he5 : ¬ (M + (n + 1) + 1 = j) := by omega
      have hjM : (j : Int) < (M : Int) := by omega
      have hlen : j + n + 2 < us.length := by rw [HI.out.lu]; omega
      have hlen2 : us.length < 1000000 := by rw [HI.out.lu]; have := HNN.out; omega
      have D : Div1 n us (limbs (b * 2 ^ s)) j := ⟨HI.out.ou, okl_limbs _, HL.out, hlen, HS.out.lim, HI.out.less⟩
      have hR : Kd.C (Kd.int .u32) wr A4 (limbs (b * 2 ^ s)).length (limbs (b * 2 ^ s)) := (Kd.R_reads' HJ.out.v).2.2
      have hcc4 : (limbs (b * 2 ^ s)).length ≤ c4 := by rw [HL.out]; exact (Kd.R_reads' HJ.out.v).2.1
      have G := Aside0.mk (guess_any w9.heap.size j n cap us (limbs (b * 2 ^ s)) A4 c4 wr HI.out.ou (okl_limbs _) HL.out hlen hlen2 HJ.out.u hR hcc4 HS.out.lim D.ule)
      have T : Aside0 (∀ q : Nat, q < 4294967296 → ∀ m, Calls Tryz.prog 150 #[.slice (some ⟨w9.heap.size, j, none⟩) (n + 3) cap, .slice A4 (n + 2) c4, .int .u64 ((q : Nat) : Int)] (wr.drewN m) fun e w' =>
          e = .returned (.bool ((takeF q us (limbs (b * 2 ^ s)) j).2 == 1)) ∧ Put32 w9.heap.size (wr.drewN m) (takeF q us (limbs (b * 2 ^ s)) j).1 w') := ⟨fun q hq m => by
        have h := take_any w9.heap.size j cap us (limbs (b * 2 ^ s)) A4 c4 q (wr.drewN m) hq HI.out.ou (okl_limbs _) (by rw [HL.out]; omega) hlen2 HJ.out.u
          (fun W_ hk => by rw [HL.out]; exact Kd.C_foot_own (Kd.R_drewN HJ.out.v m) (fun _ hk => hk.1) W_ hk) hcc4
        rw [HL.out] at h
        exact h⟩
      have HD := Aside0.mk D
      have HE := Aside0.mk hlen2
      rw [e0]
      have hw : wrap64 (wrap64 ((j : Int) + ((n : Int) + 2)) + 1) = (e : Int) := wrap_jn (by have := HNN.out; omega) he
      clear e0 hk he D hR hcc4 hlen hlen2
      go_upto_region 19 with (go_at_call 149; with_reducible refine G.out.mono ?_; rintro e w' ⟨q, rfl, hg, m, rfl⟩; have HG := Aside0.mk hg; clear hg)
      have hr := round_ok HD.out HG.out
      have hql := HG.out.lt
      have htk := T.out q hql m
      have hne : w11.heap.size ≠ w9.heap.size := NE.out
      have hbu : w.heap.size ≤ w9.heap.size := BU.out
      have hbq : w.heap.size ≤ w11.heap.size := BQ.out
      have htok := taken_ok hql HI.out.ou (okl_limbs (b * 2 ^ s)) (j := j) (by rw [HL.out]; exact HD.out.lu)
      obtain ⟨tk, htk2⟩ : ∃ tk, takeF q us (limbs (b * 2 ^ s)) j = tk := ⟨_, rfl⟩
      rw [htk2] at htk hr htok
      have hlq : j < qs.length := by have := HI.out.kq; omega
      have HW := Aside0.mk (wrap_pred (j := j) (by have := HNN.out; omega))
      have HMJ : Aside0 (j ≤ M) := ⟨by omega⟩
      by_cases hz : tk.2 = 0
      · have RR := Aside0.mk (hr.1 hz)
        rw [show (tk.2 == 1) = false by rw [hz]; rfl] at htk
        have TK : Aside0 (Calls Tryz.prog 150 #[.slice (some ⟨w9.heap.size, j, none⟩) (n + 3) cap, .slice A4 (n + 2) c4, .int .u64 ((q : Nat) : Int)] (wr.drewN m) fun e w' =>
          e = .returned (.bool false) ∧ Aside0 (DivJ w.heap.size w9.heap.size w11.heap.size w (.slice A4 (n + 2) c4) (limbs (b * 2 ^ s)) tk.1 qs w') ∧ (∃ v, w'.cell? ⟨w11.heap.size, j, none⟩ = some v) ∧ w'.frozen? ⟨w11.heap.size, j, none⟩ = false) := ⟨htk.mono fun e w' ⟨he, hp⟩ => by
            have hj := (HJ.out.drewN m).take hp hbu hne
            exact ⟨he, ⟨hj⟩, ⟨_, hj.q.cell HI.out.oq hlq⟩, hj.q.frozen j⟩⟩
        have hqm : ((q : Nat) : Int) % 4294967296 = (q : Int) := by omega
        clear htk htk2 hz hr htok hql hlq
        go_wp2_with (go_at_call 150; with_reducible refine TK.out.mono ?_; rintro e w' ⟨rfl, HJ2, ⟨v9, hv9⟩, hf9⟩)
        go_roundw
        case rel => exact ⟨j, tk.1, qs.set j ((q : Nat) : Int), by rw [HW.out], HMJ.out, ⟨HI.out.next RR.out⟩, ⟨HJ2.out.set hbq hne.symm j _⟩⟩
        case measure => simp only [intOf]; rw [HW.out]; omega
      · obtain ⟨hq1, hrr⟩ := hr.2 hz
        obtain ⟨q', rfl⟩ : ∃ q', q = q' + 1 := ⟨q - 1, by omega⟩
        have RR := Aside0.mk hrr
        rw [Nat.add_sub_cancel] at RR
        have hb1 := htok.b
        rw [show (tk.2 == 1) = true by rw [show tk.2 = 1 by omega]; rfl] at htk
        have ecast : ((q' + 1 : Nat) : Int) = (q' : Int) + 1 := by omega
        rw [ecast] at htk
        rw [ecast]
        have TK := Aside0.mk htk
        have hlen3 : tk.1.length < 1000000 := by rw [htok.len]; exact HE.out
        have hlen4 : j + (limbs (b * 2 ^ s)).length < tk.1.length := by rw [htok.len, HL.out]; exact HD.out.lu
        have hcc4 : (limbs (b * 2 ^ s)).length ≤ c4 := by rw [HL.out]; exact (Kd.R_reads' HJ.out.v).2.1
        have BK : Aside0 (∀ w', Put32 w9.heap.size (wr.drewN m) tk.1 w' → Calls Tryz.prog 151 #[.slice (some ⟨w9.heap.size, j, none⟩) (n + 3) cap, .slice A4 (n + 2) c4] w' fun e w'' =>
          e = .returned (.tuple #[]) ∧ Aside0 (DivJ w.heap.size w9.heap.size w11.heap.size w (.slice A4 (n + 2) c4) (limbs (b * 2 ^ s)) (backF tk.1 (limbs (b * 2 ^ s)) j) qs w'') ∧ (∃ v, w''.cell? ⟨w11.heap.size, j, none⟩ = some v) ∧ w''.frozen? ⟨w11.heap.size, j, none⟩ = false) := ⟨fun w' hp => by
            have hj := (HJ.out.drewN m).take hp hbu hne
            have h := back_any w9.heap.size j cap tk.1 (limbs (b * 2 ^ s)) A4 c4 w' htok.ok (okl_limbs _) hlen4 hlen3 hj.u (fun W_ hk => by rw [HL.out]; exact Kd.C_foot_own hj.v (fun _ hk => hk.1) W_ hk) hcc4
            rw [HL.out] at h
            exact h.mono fun e w'' ⟨he, hp2⟩ => by
              have hj2 := hj.take hp2 hbu hne
              exact ⟨he, ⟨hj2⟩, ⟨_, hj2.q.cell HI.out.oq hlq⟩, hj2.q.frozen j⟩⟩
        have hqm : ((q' : Nat) : Int) % 4294967296 = (q' : Int) := by omega
        have hqm2 : IntKind.u64.wrap ((q' : Int) + 1 - 1) = (q' : Int) := by rw [IntWalk.u64_in _ (by omega)]; omega
        have hqm3 : ((q' : Nat) : Int) % 18446744073709551616 = (q' : Int) := by omega
        clear htk htk2 hz hr htok hql hlq hrr hb1 hlen3 hlen4 hcc4 hq1 ecast
        go_wp2_with (first | (go_at_call 150; with_reducible refine TK.out.mono ?_; rintro e w' ⟨rfl, hp⟩; have HP := Aside0.mk hp; clear hp) | (go_at_call 151; with_reducible refine (BK.out _ HP.out).mono ?_; rintro e w' ⟨rfl, HJ2, ⟨v9, hv9⟩, hf9⟩))
        go_roundw
        case rel => exact ⟨j, backF tk.1 (limbs (b * 2 ^ s)) j, qs.set j ((q' : Nat) : Int), by rw [HW.out], HMJ.out, ⟨HI.out.next RR.out⟩, ⟨HJ2.out.set hbq hne.symm j _⟩⟩
        case measure => simp only [intOf]; rw [HW.out]; omega
theorem quo_DivMod.calls (A0 : Option Addr) (c0 : Nat) (l0 : List Int) (A1 : Option Addr) (c1 : Nat) (l1 : List Int) (r1 r2 : List Int) (r3 : Int) (w : World) (hr0 : Kd.C (Kd.int .u32) w A0 l0.length l0) (hc0 : l0.length ≤ c0) (hr1 : Kd.C (Kd.int .u32) w A1 l1.length l1) (hc1 : l1.length ≤ c1) (h : quo_DivMod.f l0 l1 = some (r1, r2, r3)) :
    Calls Tryz.prog 124 #[.slice A0 l0.length c0, .slice A1 l1.length c1] w fun e w' => ∃ v0_ v1_ : Value, e = .returned (.tuple #[v0_, v1_, .int .i64 r3]) ∧ Kd.R (Kd.int .u32) 56 w' w.heap.size (fun k_ => some k_ ≠ (v1_ : Value).ownBlock) v0_ r1 ∧ Kd.R (Kd.int .u32) 56 w' w.heap.size (fun k_ => some k_ ≠ (v0_ : Value).ownBlock) v1_ r2 ∧ Below w.heap.size w w' := by
  unfold quo_DivMod.f at h
  split at h
  case isFalse => cases h
  case isTrue hg =>
  obtain ⟨o0, o1, n0, n1⟩ := hg
  have h := Option.some.inj h
  split at h
  case isTrue hz =>
    obtain ⟨rfl, rfl, rfl⟩ : r1 = [] ∧ r2 = [] ∧ r3 = 17 := by simp only [Prod.mk.injEq] at h; exact ⟨h.1.symm, h.2.1.symm, h.2.2.symm⟩
    exact div_zero A0 c0 l0 A1 c1 l1 w hr0 hc0 hr1 hc1 o0 o1 n0 n1 hz
  case isFalse hz =>
    obtain ⟨rfl, rfl, rfl⟩ : r1 = limbs (nval l0 / nval l1) ∧ r2 = limbs (nval l0 % nval l1) ∧ r3 = 0 := by simp only [Prod.mk.injEq] at h; exact ⟨h.1.symm, h.2.1.symm, h.2.2.symm⟩
    rcases Nat.lt_or_ge (nval l0) (nval l1) with hlt | hge
    · have h2 := div_less A0 c0 l0 A1 c1 l1 w hr0 hc0 hr1 hc1 o0 o1 n0 n1 _ _ rfl rfl hlt
      rw [Nat.div_eq_of_lt hlt, Nat.mod_eq_of_lt hlt, limbs_zero]
      exact h2
    · cases hn : (limbs (nval l1)).length with
      | zero =>
        have h4 := nval_limbs (nval l1)
        rw [List.eq_nil_of_length_eq_zero hn] at h4
        exact absurd h4.symm hz
      | succ m =>
        cases m with
        | zero => exact div_short A0 c0 l0 A1 c1 l1 w hr0 hc0 hr1 hc1 o0 o1 n0 n1 _ _ rfl rfl hge hn
        | succ n => exact div_long A0 c0 l0 A1 c1 l1 w hr0 hc0 hr1 hc1 o0 o1 n0 n1 _ _ rfl rfl hge n hn
end Go.Proofs.YtpncflaoikeidaaGreatDoor.P
namespace Go.Proofs.YtpncflaoikeidaaGreatDoor.P
open Go.RowKit Go.Proofs.YtpncflaoikeidaaGreatDoorW.PrintWords Go.Proofs.YtpncflaoikeidaaGreatDoorW.PrintLast Go.Proofs.YtpncflaoikeidaaGreatDoorW.PrintMore
def bits_Len32.f (a0 : Int) : Option Int := if 0 ≤ a0 ∧ a0 < 4294967296 then some ((Lib.bitLen a0.toNat : Nat) : Int) else none
theorem bits_Len32.calls (a0 : Int) (r : Int) (w : World) (h : bits_Len32.f a0 = some r) :
    Calls Tryz.prog 123 #[.int .u32 a0] w fun e w' => e = .returned (.int .i64 r) ∧ Drawn0 w w' := by
  unfold bits_Len32.f at h
  split at h
  case isFalse => cases h
  case isTrue hg =>
  obtain rfl := Option.some.inj h
  exact (Tryz.bits_Len32 a0 w hg.1 (by omega)).mono fun e w' ⟨he, hw⟩ => ⟨he, by rw [hw]; exact Drawn0.refl w⟩
end Go.Proofs.YtpncflaoikeidaaGreatDoor.P
namespace Go.Proofs.YtpncflaoikeidaaGreatDoor.P
open Go.RowKit Go.Proofs.YtpncflaoikeidaaGreatDoorW.PrintWords Go.Proofs.YtpncflaoikeidaaGreatDoorW.PrintLast Go.Proofs.YtpncflaoikeidaaGreatDoorW.PrintMore
attribute [local go_sem] max2_int max_two
set_option linter.unusedVariables false
set_option linter.unusedSimpArgs false
def nat_Bits.f (k : Nat) (l0 : List Int) : Option (Int) := (nat_top.f k l0).bind fun t140 => (if t140 = 0 then (some 0) else (if 0 ≤ (wrap64 (t140 - 1)) then (if (wrap64 (t140 - 1)) < (l0.length : Int) then ((bits_Len32.f (rd l0 (wrap64 (t140 - 1)))).bind fun t142 => (some (wrap64 ((wrap64 (32 * (wrap64 (t140 - 1)))) + t142)))) else (none)) else (none)))
set_option maxHeartbeats 8000000 in
set_option maxRecDepth 100000 in
theorem nat_Bits.calls (k : Nat) (A0 : Option Addr) (c0 : Nat) (l0 : List Int) (r : Int) (w : World) (hr0 : Kd.C (Kd.int .u32) w A0 l0.length l0) (hc0 : l0.length ≤ c0) (h : nat_Bits.f k l0 = some r) :
    Calls Tryz.prog 96 #[.slice A0 l0.length c0] w fun e w' => e = .returned (.int .i64 r) ∧ Drawn0 w w' := by
  have HR0 := Aside0.mk hr0
  have HC0 := Aside0.mk hc0
  clear hr0 hc0
  have H : ((nat_top.f k l0).bind fun t140 => (if t140 = 0 then (some 0) else (if 0 ≤ (wrap64 (t140 - 1)) then (if (wrap64 (t140 - 1)) < (l0.length : Int) then ((bits_Len32.f (rd l0 (wrap64 (t140 - 1)))).bind fun t142 => (some (wrap64 ((wrap64 (32 * (wrap64 (t140 - 1)))) + t142)))) else (none)) else (none)))) = some r := h
  clear h
  replace H := Option.bind_eq_some_iff.mp H
  obtain ⟨t140, A20, H⟩ := H
  try dsimp only at H
  have A2 := Aside0.mk A20
  clear A20
  by_cases c3 : t140 = 0
  · rw [if_pos c3] at H
    have c3b0 : (t140 == 0) = true := beq_iff_eq.mpr c3
    have c3b1 : (t140 != 0) = false := bne_eq_false_iff_eq.mpr c3
    clear c3
    obtain rfl := Option.some.inj H
    go_enter Tryz.func96, Tryz.ntmps96
    go_wp2_with (first | ((with_reducible refine gate_callee (f := 80) rfl ?_); refine goesL_ (some 5) rfl rfl Tryz.func80 (by kernel_rfl) rfl #[.slice A0 l0.length c0] rfl (by (try simp only [List.map_toArray, List.map_cons, List.map_nil]); first | done | rfl | (simp only [List.length_drop, List.length_take]; rfl)) ?_; (with_reducible refine (nat_top.calls k _ _ l0 t140 _ ?side1 ?side2 A2.out).mono ?_); (case side1 => repeat (first | exact HR0.out | (with_reducible refine Kd.C_alloc ?_ _) | (with_reducible refine Kd.C_drewN ?_ _) | (with_reducible refine Kd.C_drew ?_))); (case side2 => exact HC0.out); rintro e w' ⟨rfl, ⟨nd, rfl⟩⟩; refine ⟨_, rfl, ?_⟩))
    go_ret
    exact ⟨by first | rfl | (simp; done) | (simp [*]; done), by repeat (first | exact Drawn0.refl _ | apply Drawn0.step)⟩
  · rw [if_neg c3] at H
    have c3b0 : (t140 == 0) = false := beq_eq_false_iff_ne.mpr c3
    have c3b1 : (t140 != 0) = true := bne_iff_ne.mpr c3
    obtain ⟨ji4, hji4⟩ : ∃ j_ : Int, (wrap64 (t140 - 1)) = j_ := ⟨_, rfl⟩
    first | rewrite [hji4] at H | simp only [hji4] at H
    (try rw [hji4] at A2)
    have hji4w : (IntKind.i64.wrap (t140 - 1)) = ji4 := (i64_w _).trans hji4
    by_cases c5 : 0 ≤ (ji4)
    · rw [if_pos c5] at H
      have c5b0 : decide (0 ≤ (ji4)) = true := decide_eq_true c5
      clear c5
      by_cases c6 : (ji4) < (l0.length : Int)
      · rw [if_pos c6] at H
        have c6b0 : decide ((ji4) < (l0.length : Int)) = true := decide_eq_true c6
        clear c6
        replace H := Option.bind_eq_some_iff.mp H
        obtain ⟨t142, A70, H⟩ := H
        try dsimp only at H
        have A7 := Aside0.mk A70
        clear A70
        obtain rfl := Option.some.inj H
        go_enter Tryz.func96, Tryz.ntmps96
        go_wp2_with (first | ((with_reducible refine gate_callee (f := 80) rfl ?_); refine goesL_ (some 5) rfl rfl Tryz.func80 (by kernel_rfl) rfl #[.slice A0 l0.length c0] rfl (by (try simp only [List.map_toArray, List.map_cons, List.map_nil]); first | done | rfl | (simp only [List.length_drop, List.length_take]; rfl)) ?_; (with_reducible refine (nat_top.calls k _ _ l0 t140 _ ?side1 ?side2 A2.out).mono ?_); (case side1 => repeat (first | exact HR0.out | (with_reducible refine Kd.C_alloc ?_ _) | (with_reducible refine Kd.C_drewN ?_ _) | (with_reducible refine Kd.C_drew ?_))); (case side2 => exact HC0.out); rintro e w' ⟨rfl, ⟨nd, rfl⟩⟩; refine ⟨_, rfl, ?_⟩; have p141 : 0 ≤ ((ji4) : Int) := of_decide_eq_true (by first | (with_reducible assumption) | assumption); have q141 : (ji4) < (l0.length : Int) := of_decide_eq_true (by first | (with_reducible assumption) | assumption); obtain ⟨ad141, e141, hx141_0⟩ := Kd.at_int HR0.out (ji4) p141 q141; cases e141; replace p141 := eq_true p141; replace q141 := eq_true q141) | ((with_reducible refine gate_callee (f := 123) rfl ?_); refine goesL_ (some 16) rfl rfl Tryz.func123 (by kernel_rfl) rfl #[.int .u32 (rd l0 (ji4))] rfl (by (try simp only [List.map_toArray, List.map_cons, List.map_nil]); first | done | (simp only [hji4]; rfl) | rfl | (simp only [List.length_drop, List.length_take]; rfl)) ?_; (with_reducible refine (bits_Len32.calls (rd l0 (ji4)) t142 _ A7.out).mono ?_); rintro e w' ⟨rfl, ⟨nd, rfl⟩⟩; refine ⟨_, rfl, ?_⟩))
        go_ret
        exact ⟨by first | rfl | (simp; done) | (simp only [← hji4] <;> (first | rfl | simp)) | (simp [*]; done), by repeat (first | exact Drawn0.refl _ | apply Drawn0.step)⟩
      · rw [if_neg c6] at H
        exact absurd H (by simp)
    · rw [if_neg c5] at H
      exact absurd H (by simp)

def quo_Gcd.l0 : Nat → List Int → List Int → Option (List Int)
  | 0, _, _ => none
  | k + 1, x0, x1 => if (x1.length : Int) > 0 then ((quo_DivMod.f x0 x1).bind fun bt167 => (quo_Gcd.l0 k x1 bt167.2.1)) else (some x0)
def quo_Gcd.f (k : Nat) (l0 : List Int) (l1 : List Int) : Option (List Int) := (nat_Trim.f k l0).bind fun t161 => ((nat_Trim.f k l1).bind fun t164 => (quo_Gcd.l0 k t161 t164))
set_option maxHeartbeats 8000000 in
set_option maxRecDepth 100000 in
theorem quo_Gcd.calls (k : Nat) (A0 : Option Addr) (c0 : Nat) (l0 : List Int) (A1 : Option Addr) (c1 : Nat) (l1 : List Int) (r : List Int) (w : World) (hr0 : Kd.C (Kd.int .u32) w A0 l0.length l0) (hc0 : l0.length ≤ c0) (hr1 : Kd.C (Kd.int .u32) w A1 l1.length l1) (hc1 : l1.length ≤ c1) (h : quo_Gcd.f k l0 l1 = some r) :
    Calls Tryz.prog 97 #[.slice A0 l0.length c0, .slice A1 l1.length c1] w fun e w' => ∃ v0_ : Value, e = .returned (v0_) ∧ Kd.R (Kd.int .u32) 56 w' w.heap.size (fun _ => True) v0_ r ∧ Below w.heap.size w w' := by
  have HR0 := Aside0.mk hr0
  have HC0 := Aside0.mk hc0
  clear hr0 hc0
  have HR1 := Aside0.mk hr1
  have HC1 := Aside0.mk hc1
  clear hr1 hc1
  have HB := Aside0.mk (Below.refl w.heap.size w)
  have H : ((nat_Trim.f k l0).bind fun t161 => ((nat_Trim.f k l1).bind fun t164 => (quo_Gcd.l0 k t161 t164))) = some r := h
  clear h
  replace H := Option.bind_eq_some_iff.mp H
  obtain ⟨t161, A30, H⟩ := H
  try dsimp only at H
  have A3 := Aside0.mk A30
  clear A30
  replace H := Option.bind_eq_some_iff.mp H
  obtain ⟨t164, A40, H⟩ := H
  try dsimp only at H
  have A4 := Aside0.mk A40
  clear A40
  have H' := Aside0.mk H
  clear H
  go_enter Tryz.func97, Tryz.ntmps97
  go_wp2_with (first | ((with_reducible refine gate_callee (f := 42) rfl ?_); refine goesL_ (some 9) rfl rfl Tryz.func42 (by kernel_rfl) rfl #[.slice A0 l0.length c0] rfl (by (try simp only [List.map_toArray, List.map_cons, List.map_nil]); first | done | rfl | (simp only [List.length_drop, List.length_take]; rfl)) ?_; (with_reducible refine (nat_Trim.calls k _ _ l0 t161 _ ?side1 ?side2 A3.out).mono ?_); (case side1 => repeat (first | exact HR0.out | (with_reducible refine Kd.C_alloc ?_ _) | (with_reducible refine Kd.C_drewN ?_ _) | (with_reducible refine Kd.C_drew ?_))); (case side2 => exact HC0.out); rintro e w5 ⟨v162, rfl, ho0, hb⟩; refine ⟨_, rfl, ?_⟩; have n0_ := Aside0.mk (Kd.R_lower ho0 (below_size (by repeat (first | (with_reducible first | exact HB.out | apply below_alloc | apply pw_below_drewN | apply below_drew1) | exact HB.out)))); have n1_ := Aside0.mk (below_step (by repeat (first | (with_reducible first | exact HB.out | apply below_alloc | apply pw_below_drewN | apply below_drew1) | exact HB.out)) hb); clear HB; have HO163 := n0_; have HB := n1_; clear n0_ n1_; (try clear hb); (try clear hb2); (try clear hk); (try clear hi); (try clear ho0)) | ((with_reducible refine gate_callee (f := 42) rfl ?_); refine goesL_ (some 11) rfl rfl Tryz.func42 (by kernel_rfl) rfl #[.slice A1 l1.length c1] rfl (by (try simp only [List.map_toArray, List.map_cons, List.map_nil]); first | done | rfl | (simp only [List.length_drop, List.length_take]; rfl)) ?_; (with_reducible refine (nat_Trim.calls k _ _ l1 t164 _ ?side1 ?side2 A4.out).mono ?_); (case side1 => repeat (first | exact (Kd.C_below HR1.out HB.out) | (with_reducible refine Kd.C_alloc ?_ _) | (with_reducible refine Kd.C_drewN ?_ _) | (with_reducible refine Kd.C_drew ?_))); (case side2 => exact HC1.out); rintro e w6 ⟨v165, rfl, ho0, hb⟩; refine ⟨_, rfl, ?_⟩; have n0_ := Aside0.mk (Kd.R_elder' (by exact HO163.out) (Kd.R_base ho0) hb); have n1_ := Aside0.mk (Kd.R_lower (Kd.R_new' ho0 (Kd.R_lt (by exact HO163.out))) (below_size (by repeat (first | (with_reducible first | exact HB.out | apply below_alloc | apply pw_below_drewN | apply below_drew1) | exact HB.out)))); have n2_ := Aside0.mk (below_step (by repeat (first | (with_reducible first | exact HB.out | apply below_alloc | apply pw_below_drewN | apply below_drew1) | exact HB.out)) hb); clear HO163; clear HB; have HO163 := n0_; have HO166 := n1_; have HB := n2_; clear n0_ n1_ n2_; (try clear hb); (try clear hb2); (try clear hk); (try clear hi); (try clear ho0)))
  go_loopg [0, 1] k (fun kq v0 v1 w' => ∃ (x0_1 : List Int) (x1_1 : List Int), Aside0 (quo_Gcd.l0 kq x0_1 x1_1 = some r) ∧ Aside0 (kq ≤ k) ∧ Aside0 (Kd.R (Kd.int .u32) 56 w' w.heap.size (fun k_ => some k_ ≠ (v1 : Value).ownBlock) v0 x0_1) ∧ Aside0 (Kd.R (Kd.int .u32) 56 w' w.heap.size (fun k_ => some k_ ≠ (v0 : Value).ownBlock) v1 x1_1) ∧ Aside0 (Below w.heap.size w w'))
  case atStart => exact ⟨(t161), (t164), H', ⟨Nat.le_refl _⟩, ⟨by exact Kd.R_mono HO163.out (fun _ hk => hk.2)⟩, ⟨by exact Kd.R_mono HO166.out (fun _ hk => hk.2)⟩, ⟨by repeat (first | (with_reducible first | exact HB.out | apply below_alloc | apply pw_below_drewN | apply below_drew1) | exact HB.out)⟩⟩
  case round =>
    clear H'
    try clear c1
    try clear p2
    try clear c4
    obtain ⟨x0_1, x1_1, HA, HK1, HO_0, HO_1, HB⟩ := hrel
    cases gk with
    | zero => exact absurd HA.out (by simp [quo_Gcd.l0])
    | succ k1 =>
      have H := HA.out
      clear HA
      simp only [quo_Gcd.l0] at H
      by_cases c7 : (x1_1.length : Int) > 0
      · rw [if_pos c7] at H
        have c7b0 : decide (0 < (x1_1.length : Int)) = true := decide_eq_true c7
        have c7b1 : decide (0 < x1_1.length) = true := decide_eq_true (by omega)
        clear c7
        replace H := Option.bind_eq_some_iff.mp H
        obtain ⟨⟨t167, t168, t169⟩, A80, H⟩ := H
        try dsimp only at H
        have A8 := Aside0.mk A80
        clear A80
        have H' := Aside0.mk H
        clear H
        obtain ⟨Ao9, co9, eo9⟩ := Kd.R_slice HO_1.out
        subst eo9
        obtain ⟨Ao10, co10, eo10⟩ := Kd.R_slice HO_0.out
        subst eo10
        go_wp2_with (first | ((with_reducible refine gate_callee (f := 124) rfl ?_); refine goesL_ (some 18) rfl rfl Tryz.func124 (by kernel_rfl) rfl #[.slice Ao10 x0_1.length co10, .slice Ao9 x1_1.length co9] rfl (by (try simp only [List.map_toArray, List.map_cons, List.map_nil]); first | done | rfl | (simp only [List.length_drop, List.length_take]; rfl)) ?_; (with_reducible refine (quo_DivMod.calls _ _ x0_1 _ _ x1_1 t167 t168 t169 _ ?side1 ?side2 ?side3 ?side4 A8.out).mono ?_); (case side1 => repeat (first | exact (Kd.R_reads' HO_0.out).2.2 | (with_reducible refine Kd.C_alloc ?_ _) | (with_reducible refine Kd.C_drewN ?_ _) | (with_reducible refine Kd.C_drew ?_))); (case side2 => exact (Kd.R_reads' HO_0.out).2.1); (case side3 => repeat (first | exact (Kd.R_reads' HO_1.out).2.2 | (with_reducible refine Kd.C_alloc ?_ _) | (with_reducible refine Kd.C_drewN ?_ _) | (with_reducible refine Kd.C_drew ?_))); (case side4 => exact (Kd.R_reads' HO_1.out).2.1); rintro e w11 ⟨v170, v172, rfl, ho0, ho1, hb⟩; refine ⟨_, rfl, ?_⟩; have n0_ := Aside0.mk (Kd.R_mono (Kd.R_told (Kd.R_told (Kd.R_old (by exact HO_0.out) hb) (Kd.R_base ho0)) (Kd.R_base ho1)) (fun _ h_ => h_.1)); have n1_ := Aside0.mk (Kd.R_mono (Kd.R_told (Kd.R_told (Kd.R_old (by exact HO_1.out) hb) (Kd.R_base ho0)) (Kd.R_base ho1)) (fun _ h_ => h_.1)); have n2_ := Aside0.mk (Kd.R_lower (Kd.R_new' (Kd.R_new' ho0 (Kd.R_lt (by exact HO_0.out))) (Kd.R_lt (by exact HO_1.out))) (below_size (by repeat (first | (with_reducible first | exact HB.out | apply below_alloc | apply pw_below_drewN | apply below_drew1) | exact HB.out)))); have n3_ := Aside0.mk (Kd.R_lower (Kd.R_new' (Kd.R_new' ho1 (Kd.R_lt (by exact HO_0.out))) (Kd.R_lt (by exact HO_1.out))) (below_size (by repeat (first | (with_reducible first | exact HB.out | apply below_alloc | apply pw_below_drewN | apply below_drew1) | exact HB.out)))); have n4_ := Aside0.mk (below_step (by repeat (first | (with_reducible first | exact HB.out | apply below_alloc | apply pw_below_drewN | apply below_drew1) | exact HB.out)) hb); clear HO_0; clear HO_1; clear HB; have HO_0 := n0_; have HO_1 := n1_; have HO171 := n2_; have HO173 := n3_; have HB := n4_; clear n0_ n1_ n2_ n3_ n4_; (try clear hb); (try clear hb2); (try clear hk); (try clear hi); (try clear ho0); (try clear ho1)))
        go_roundg k1
        case measure => have := HK1.out; omega
        case rel => exact ⟨(x1_1), (t168), H', ⟨by have := HK1.out; omega⟩, ⟨by exact Kd.R_mono HO_1.out (fun _ hk => hk.2)⟩, ⟨by exact Kd.R_mono HO173.out (fun _ hk => hk.2)⟩, ⟨by repeat (first | (with_reducible first | exact HB.out | apply below_alloc | apply pw_below_drewN | apply below_drew1) | exact HB.out)⟩⟩
      · rw [if_neg c7] at H
        have c7b0 : decide (0 < (x1_1.length : Int)) = false := decide_eq_false c7
        have c7b1 : decide (0 < x1_1.length) = false := decide_eq_false (by omega)
        clear c7
        obtain rfl := Option.some.inj H
        obtain ⟨Ao12, co12, eo12⟩ := Kd.R_slice HO_1.out
        subst eo12
        go_wp2
        go_ret
        exact ⟨_, by first | rfl | (simp [errW_none, errW_some] <;> rfl) | (simp [*, errW_none, errW_some] <;> rfl), by exact Kd.R_mono HO_0.out (fun _ hk => trivial), by repeat (first | (with_reducible first | exact HB.out | apply below_alloc | apply pw_below_drewN | apply below_drew1) | exact HB.out)⟩

end Go.Proofs.YtpncflaoikeidaaGreatDoor.P
namespace Go.Proofs.YtpncflaoikeidaaGreatDoor.H
open Go.RowKit Go.Proofs.YtpncflaoikeidaaGreatDoorW.PrintWords Go.Proofs.YtpncflaoikeidaaGreatDoorW.PrintLast Go.Proofs.YtpncflaoikeidaaGreatDoorW.PrintMore Go.Proofs.YtpncflaoikeidaaGreatDoor.P
/-- how many bits -/
def nbits (n : Nat) : Nat := if n = 0 then 0 else n.log2 + 1
theorem nbits_of {n k : Nat} (h0 : n ≠ 0) (h1 : 2 ^ k ≤ n) (h2 : n < 2 ^ (k + 1)) : nbits n = k + 1 := by
  unfold nbits
  rw [if_neg h0]
  have := (Nat.log2_eq_iff h0).2 ⟨h1, h2⟩
  omega
theorem nbits_gt (n k : Nat) : k < nbits n ↔ 2 ^ k ≤ n := by
  unfold nbits
  split
  · rename_i h; subst h
    have := Nat.two_pow_pos k
    omega
  · rename_i h
    rw [Nat.lt_succ_iff, Nat.le_log2 h]
theorem nbits_zero (n : Nat) : nbits n = 0 ↔ n = 0 := by
  unfold nbits; split <;> omega
theorem bits_f {l : List Int} (hl : okl l) (hn : l.length < 1000000) {k : Nat} (hk : l.length < k) : nat_Bits.f k l = some ((nbits (nval l) : Nat) : Int) := by
  unfold nat_Bits.f
  rw [top_f l (by omega) k hk]
  have hle := topN_le l
  simp only [Option.bind_some]
  by_cases h0 : topN l = 0
  · rw [if_pos (by omega), (nbits_zero _).2 ((topN_zero hl).1 h0)]; rfl
  · have hz : nval l ≠ 0 := fun h => h0 ((topN_zero hl).2 h)
    have e1 : wrap64 (((topN l : Nat) : Int) - 1) = ((topN l - 1 : Nat) : Int) := by unfold wrap64; omega
    rw [if_neg (by omega), e1, if_pos (by omega), if_pos (by omega), rd_lim hl]
    obtain ⟨m, hm⟩ : ∃ m, topN l = m + 1 := ⟨topN l - 1, by omega⟩
    rw [hm, Nat.add_sub_cancel]
    have h1 := trim_limbs hl
    rw [hm] at h1
    have h2 := nval_take l m
    rw [h1, nval_limbs] at h2
    have h3 := nval_take_lt hl m
    have t1 := lim_lt hl m
    obtain ⟨t, ht⟩ : ∃ t, lim l m = t := ⟨_, rfl⟩
    rw [ht] at h2 t1 ⊢
    have t0 : t ≠ 0 := by
      intro h
      subst h
      have h4 := limbs_length_le m (nval l) (by omega)
      rw [← h1, List.length_take] at h4
      omega
    obtain ⟨b1, b2, b3⟩ := bitLen_spec t t0 (by omega)
    have b4 := Lib.bitLen_le t 32 (by decide) (by omega)
    unfold bits_Len32.f
    rw [if_pos (by omega), Int.toNat_natCast, Option.bind_some]
    obtain ⟨c, hc⟩ : ∃ c, Lib.bitLen t = c + 1 := ⟨Lib.bitLen t - 1, by omega⟩
    rw [hc] at b1 b2 b4 ⊢
    rw [Nat.add_sub_cancel] at b1
    have hp : (4294967296 : Nat) ^ m = 2 ^ (32 * m) := by rw [Nat.pow_mul]
    rw [hp] at h2 h3
    have hb : nbits (nval l) = 32 * m + c + 1 := by
      refine nbits_of hz ?_ ?_
      · rw [Nat.pow_add]
        have := Nat.mul_le_mul_left (2 ^ (32 * m)) b1
        omega
      · have := Nat.mul_le_mul_left (2 ^ (32 * m)) (show t + 1 ≤ 2 ^ (c + 1) from b2)
        rw [Nat.mul_add] at this
        rw [Nat.add_assoc, Nat.pow_add]
        omega
    have e2 : wrap64 (32 * ((m : Nat) : Int)) = 32 * (m : Int) := by unfold wrap64; omega
    rw [hb, e2]
    congr 1
    unfold wrap64; omega
theorem gcd_l0 : ∀ (b k a : Nat), b < k → (limbs a).length < 900000 → (limbs b).length < 900000 → quo_Gcd.l0 k (limbs a) (limbs b) = some (limbs (Nat.gcd a b))
  | _, 0, _, hk, _, _ => by omega
  | b, k + 1, a, hk, ha, hb => by
    rw [quo_Gcd.l0]
    by_cases h0 : b = 0
    · subst h0
      rw [limbs_zero, if_neg (by simp), Nat.gcd_zero_right]
    · have hlp : 0 < (limbs b).length := by
        rcases Nat.eq_zero_or_pos (limbs b).length with h | h
        · have h4 := nval_limbs b
          rw [List.eq_nil_of_length_eq_zero h] at h4
          exact absurd h4.symm h0
        · exact h
      rw [if_pos (by omega)]
      unfold quo_DivMod.f
      rw [if_pos ⟨okl_limbs a, okl_limbs b, ha, hb⟩, nval_limbs, nval_limbs, if_neg h0, Option.bind_some]
      have hm := Nat.mod_lt a (by omega : b > 0)
      have hlm : (limbs (a % b)).length ≤ (limbs b).length := limbs_length_le _ _ (Nat.lt_trans hm (by have := nval_lt (okl_limbs b); rwa [nval_limbs] at this))
      rw [gcd_l0 (a % b) k b (by omega) hb (by omega), Nat.gcd_comm a b, Nat.gcd_rec b a, Nat.gcd_comm]
theorem limbs_trim_le {l : List Int} (hl : okl l) : (limbs (nval l)).length ≤ l.length := by
  rw [← trim_limbs hl, List.length_take]; omega
theorem gcd_f {l0 l1 : List Int} (o0 : okl l0) (o1 : okl l1) (n0 : l0.length < 900000) (n1 : l1.length < 900000) : quo_Gcd.f (nval l1 + l0.length + l1.length + 1) l0 l1 = some (limbs (Nat.gcd (nval l0) (nval l1))) := by
  unfold quo_Gcd.f
  rw [trim_f o0 (by omega) (by omega), trim_f o1 (by omega) (by omega), Option.bind_some, Option.bind_some]
  have := limbs_trim_le o0
  have := limbs_trim_le o1
  exact gcd_l0 _ _ _ (by omega) (by omega) (by omega)
end Go.Proofs.YtpncflaoikeidaaGreatDoor.H
namespace Go.Proofs.YtpncflaoikeidaaGreatDoor.H
open Go.RowKit Go.Lib Go.Proofs.YtpncflaoikeidaaGreatDoorW.PrintWords Go.Proofs.YtpncflaoikeidaaGreatDoorW.PrintLast Go.Proofs.YtpncflaoikeidaaGreatDoorW.PrintMore Go.Proofs.YtpncflaoikeidaaGreatDoor.P
theorem ofNat_toNat {n : Nat} (h : n < 256) : (UInt8.ofNat n).toNat = n := by
  rw [UInt8.toNat_ofNat']; omega
theorem dig_digit {d : Nat} (h : d < 10) : digB (UInt8.ofNat (48 + d)) = true ∧ dgv (UInt8.ofNat (48 + d)) = d := by
  have e := ofNat_toNat (show 48 + d < 256 by omega)
  refine ⟨(digB_iff _).2 (by omega), by rw [dgv_eq]; omega⟩
theorem dig_back {c : UInt8} (h : digB c = true) : dgv c < 10 ∧ UInt8.ofNat (48 + dgv c) = c := by
  have h1 := (digB_iff c).1 h
  have e := dgv_eq c
  refine ⟨by omega, UInt8.toNat_inj.1 ?_⟩
  rw [ofNat_toNat (by omega)]; omega
theorem dec_spec (n : Nat) : (decDigits n).all digB = true ∧ dv (decDigits n) = n ∧ decDigits n ≠ [] ∧ (n ≠ 0 → (decDigits n).head? ≠ some 48) := by
  induction n using Nat.strongRecOn with
  | _ n ih =>
    by_cases h : n < 10
    · rw [decDigits_one h]
      obtain ⟨h1, h2⟩ := dig_digit h
      refine ⟨by rw [List.all_cons, h1]; rfl, by rw [dv_one, h2], by simp, fun h0 hc => ?_⟩
      have h3 : UInt8.ofNat (48 + n) = 48 := by simpa using hc
      rw [h3] at h2
      have : dgv 48 = 0 := by rw [dgv_eq]; rfl
      omega
    · rw [dec_step (by omega)]
      obtain ⟨i1, i2, i3, i4⟩ := ih (n / 10) (by omega)
      obtain ⟨h1, h2⟩ := dig_digit (show n % 10 < 10 by omega)
      refine ⟨by rw [List.all_append, i1, List.all_cons, h1]; rfl, ?_, by simp, fun _ => ?_⟩
      · rw [dv_append, i2, dv_one, h2, List.length_singleton]; omega
      · cases hh : decDigits (n / 10) with
        | nil => exact absurd hh i3
        | cons c l => have := i4 (by omega); rw [hh] at this; simpa using this
theorem natB_iff (l : List UInt8) : natB l = true ↔ l.all digB = true ∧ l ≠ [] ∧ (l.head? ≠ some 48 ∨ l.length = 1) := by
  unfold natB
  cases l <;> simp
theorem padd_dv : ∀ (j : Nat) (l : List UInt8), l.length = j → l.all digB = true → padd j (dv l) = l
  | 0, l, h, _ => by rw [List.eq_nil_of_length_eq_zero h]; rfl
  | j + 1, l, h, hd => by
    rcases List.eq_nil_or_concat l with h0 | ⟨m, c, rfl⟩
    · subst h0; simp at h
    · rw [List.concat_eq_append] at h hd ⊢
      rw [List.all_append, Bool.and_eq_true] at hd
      have hc : digB c = true := by simpa using hd.2
      obtain ⟨hc1, hc2⟩ := dig_back hc
      rw [dv_append, dv_one, List.length_singleton, padd]
      have e1 : (dv m * 10 ^ 1 + dgv c) / 10 = dv m := by omega
      have e2 : (dv m * 10 ^ 1 + dgv c) % 10 = dgv c := by omega
      rw [e1, e2, hc2, padd_dv j m (by simpa using h) hd.1]
theorem dec_dv {l : List UInt8} (h : natB l = true) : decDigits (dv l) = l := by
  obtain ⟨h1, h2, h3⟩ := (natB_iff l).1 h
  have hp : 0 < l.length := List.length_pos_iff.2 h2
  have e1 := dec_pad l.length (dv l) hp (dv_lt l h1)
  rw [padd_dv _ l rfl h1] at e1
  have hle := dec_len hp (dv_lt l h1)
  obtain ⟨_, _, i3, _⟩ := dec_spec (dv l)
  have hpos : 0 < (decDigits (dv l)).length := List.length_pos_iff.2 i3
  by_cases hz : l.length - (decDigits (dv l)).length = 0
  · rw [hz] at e1; simpa using e1
  · obtain ⟨z, hz2⟩ : ∃ z, l.length - (decDigits (dv l)).length = z + 1 := ⟨_, (Nat.succ_pred_eq_of_ne_zero hz).symm⟩
    rw [hz2, List.replicate_succ] at e1
    rcases h3 with h3 | h3
    · exact absurd (by rw [← e1]; rfl) h3
    · omega
theorem dec_inj {m n : Nat} (h : decDigits m = decDigits n) : m = n := by
  rw [← (dec_spec m).2.1, ← (dec_spec n).2.1, h]
theorem dec_one : decDigits 1 = [49] := by rw [decDigits_one (by decide)]; rfl
/-- ahead of the first stroke, behind it, and is there one -/
def cutB : List UInt8 → List UInt8 × List UInt8 × Bool
  | [] => ([], [], false)
  | c :: l => if c = 47 then ([], l, true) else (c :: (cutB l).1, (cutB l).2.1, (cutB l).2.2)
theorem index47 : ∀ s : List UInt8, (index s [47] = -1 ∧ cutB s = (s, [], false)) ∨ (∃ i : Nat, index s [47] = i ∧ cutB s = (s.take i, s.drop (i + 1), true))
  | [] => .inl ⟨rfl, rfl⟩
  | c :: l => by
    unfold index cutB
    by_cases h : c = 47
    · right
      refine ⟨0, ?_, ?_⟩
      · rw [h]; rfl
      · rw [if_pos h]; rfl
    · have hp : ([47] : List UInt8).isPrefixOf (c :: l) = false := by
        show ((47 : UInt8) == c && _) = false
        rw [beq_eq_false_iff_ne.2 (Ne.symm h)]; rfl
      rw [hp, if_neg h]
      rcases index47 l with ⟨h1, h2⟩ | ⟨i, h1, h2⟩
      · left; rw [h1, h2]; exact ⟨rfl, rfl⟩
      · right
        refine ⟨i + 1, ?_, ?_⟩
        · rw [h1]
          have : ((i : Int) == -1) = false := by rw [beq_eq_false_iff_ne]; omega
          simp [this]
        · rw [h2]; rfl
theorem cut47 (s : List UInt8) : Lib.cut s [47] = cutB s := by
  unfold Lib.cut
  rcases index47 s with ⟨h1, h2⟩ | ⟨i, h1, h2⟩
  · rw [h1, h2]; rfl
  · rw [h1, h2, if_pos (by omega)]; rfl
theorem cutB_dig : ∀ (l m : List UInt8), l.all digB = true → cutB (l ++ 47 :: m) = (l, m, true)
  | [], _, _ => rfl
  | c :: l, m, h => by
    rw [List.all_cons, Bool.and_eq_true] at h
    have hc : c ≠ 47 := by intro hc; subst hc; exact absurd h.1 (by decide)
    rw [List.cons_append, cutB, if_neg hc, cutB_dig l m h.2]
theorem cutB_none : ∀ (l : List UInt8), l.all digB = true → cutB l = (l, [], false)
  | [], _ => rfl
  | c :: l, h => by
    rw [List.all_cons, Bool.and_eq_true] at h
    have hc : c ≠ 47 := by intro hc; subst hc; exact absurd h.1 (by decide)
    rw [cutB, if_neg hc, cutB_none l h.2]
theorem cutB_back : ∀ (l : List UInt8), l = (cutB l).1 ++ (if (cutB l).2.2 = true then 47 :: (cutB l).2.1 else [])
  | [] => rfl
  | c :: l => by
    unfold cutB
    by_cases h : c = 47
    · rw [if_pos h, h]; rfl
    · rw [if_neg h, List.cons_append]; congr 1; exact cutB_back l
end Go.Proofs.YtpncflaoikeidaaGreatDoor.H
namespace Go.Proofs.YtpncflaoikeidaaGreatDoor.P
open Go.RowKit Go.Proofs.YtpncflaoikeidaaGreatDoorW.PrintWords Go.Proofs.YtpncflaoikeidaaGreatDoorW.PrintLast Go.Proofs.YtpncflaoikeidaaGreatDoorW.PrintMore
attribute [local go_sem] max2_int max_two
set_option linter.unusedVariables false
set_option linter.unusedSimpArgs false
def fluxionref01_Small.l0 : Nat → Int → List Int → Option (List Int)
  | 0, _, _ => none
  | k + 1, x0, x3 => if x0 > 0 then (if x3.length < 17592186044416 then (fluxionref01_Small.l0 k (wrap64 (Int.tdiv x0 10000)) (x3 ++ [Int.tmod x0 10000])) else (none)) else (some x3)
def fluxionref01_Small.f (k : Nat) (a0 : Int) : Option (List Int) := fluxionref01_Small.l0 k a0 ([] : List Int)
set_option maxHeartbeats 8000000 in
set_option maxRecDepth 100000 in
theorem fluxionref01_Small.calls (k : Nat) (a0 : Int) (r : List Int) (w : World) (h : fluxionref01_Small.f k a0 = some r) :
    Calls Tryz.prog 52 #[.int .i64 a0] w fun e w' => ∃ v0_ : Value, e = .returned (v0_) ∧ Kd.R (Kd.int .i64) 3 w' w.heap.size (fun _ => True) v0_ r ∧ Below w.heap.size w w' := by
  have HB := Aside0.mk (Below.refl w.heap.size w)
  have H : (fluxionref01_Small.l0 k a0 ([] : List Int)) = some r := h
  clear h
  have H' := Aside0.mk H
  clear H
  go_enter Tryz.func52, Tryz.ntmps52
  go_wp2
  go_loopg [0, 3] k (fun kq v0 v3 w' => ∃ (x0_1 : Int) (x3_1 : List Int), v0 = .int .i64 x0_1 ∧ Aside0 (fluxionref01_Small.l0 kq x0_1 x3_1 = some r) ∧ Aside0 (kq ≤ k) ∧ Aside0 (Kd.R (Kd.int .i64) 3 w' w.heap.size (fun _ => True) v3 x3_1) ∧ Aside0 (Below w.heap.size w w'))
  case atStart => exact ⟨(a0), (([] : List Int)), (by first | rfl | (simp; done) | (simp [*]; done)), H', ⟨Nat.le_refl _⟩, ⟨by first | exact Kd.R_nil _ _ _ _ _ | exact Kd.N_nil _ _ _ _ _ | exact Kd.V_nil _ _ _ _ _ | exact Kd.Q_nil _ _ _ _ _ | exact Kd.S_nil _ _ _ _ _⟩, ⟨by repeat (first | (with_reducible first | exact HB.out | apply below_alloc | apply pw_below_drewN | apply below_drew1) | exact HB.out)⟩⟩
  case round =>
    clear H'
    obtain ⟨x0_1, x3_1, rfl, HA, HK1, HO_3, HB⟩ := hrel
    cases gk with
    | zero => exact absurd HA.out (by simp [fluxionref01_Small.l0])
    | succ k1 =>
      have H := HA.out
      clear HA
      simp only [fluxionref01_Small.l0] at H
      by_cases c2 : x0_1 > 0
      · rw [if_pos c2] at H
        have c2b0 : decide (0 < x0_1) = true := decide_eq_true c2
        clear c2
        by_cases c3 : x3_1.length < 17592186044416
        · rw [if_pos c3] at H
          have LMc3 := Aside0.mk c3
          clear c3
          obtain ⟨y348, hy348⟩ : ∃ y_ : List Int, y_ = (x3_1 ++ [Int.tmod x0_1 10000]) := ⟨_, rfl⟩
          replace H : (fluxionref01_Small.l0 k1 (wrap64 (Int.tdiv x0_1 10000)) y348) = some r := by first | (rw [hy348]; with_reducible exact H) | (have H2_ := (Option.bind_some _ _).symm.trans H; rw [hy348]; with_reducible exact H2_) | (have H2_ := (Option.bind_some _ _).symm.trans H; with_reducible exact H2_) | with_reducible exact H | (rw [hy348]; exact H) | exact H
          have Ny348 := Aside0.mk hy348
          clear hy348
          have H' := Aside0.mk H
          clear H
          go_wp2_with (first | ((with_reducible refine gate_builtin (b := .append) (xs := #[.tmp 6, .tmp 9]) rfl ?_); at_builtin; refine Kd.R_append (Kd.int .i64) (w0 := w) w.heap.size rfl (.tmp 6) (.tmp 9) 30 3 (.int .i64 0) 8 rfl Tryz.underlying30 info3 rfl (by decide) (by omega) u3 x3_1 (Int.tmod x0_1 10000) [.int .i64 (Int.tmod x0_1 10000)] (fun _ => True) (fun _ => False) rfl rfl ?aP (fun _ hk => hk.elim) ?aF ?aO ?aB ?aS ?aL ?_; (case aP => exact rfl); (case aB => exact (by repeat (first | (with_reducible first | exact HB.out | apply below_alloc | apply pw_below_drewN | apply below_drew1) | exact HB.out))); (case aF => exact (fun _ _ => trivial)); (case aO => exact (by exact HO_3.out)); (case aS => exact (below_size (by repeat (first | (with_reducible first | exact HB.out | apply below_alloc | apply pw_below_drewN | apply below_drew1) | exact HB.out)))); (case aL => have := LMc3.out; omega); intro v349 w4 ho hb hg hat; rw [← Ny348.out] at ho; have n0_ := Aside0.mk (hb); have n1_ := Aside0.mk (ho); clear HB; clear HO_3; have HB := n0_; have HO350 := n1_; clear n0_ n1_; clear ho hb hg hat))
          go_roundg k1
          case measure => have := HK1.out; omega
          case rel => exact ⟨(wrap64 (Int.tdiv x0_1 10000)), (y348), (by first | rfl | (simp; done) | (simp [*]; done)), H', ⟨by have := HK1.out; omega⟩, ⟨by exact HO350.out⟩, ⟨by repeat (first | (with_reducible first | exact HB.out | apply below_alloc | apply pw_below_drewN | apply below_drew1) | exact HB.out)⟩⟩
        · rw [if_neg c3] at H
          exact absurd H (by simp)
      · rw [if_neg c2] at H
        have c2b0 : decide (0 < x0_1) = false := decide_eq_false c2
        clear c2
        obtain rfl := Option.some.inj H
        go_wp2
        go_ret
        exact ⟨_, by first | rfl | (simp [errW_none, errW_some] <;> rfl) | (simp [*, errW_none, errW_some] <;> rfl), by exact HO_3.out, by repeat (first | (with_reducible first | exact HB.out | apply below_alloc | apply pw_below_drewN | apply below_drew1) | exact HB.out)⟩

def fluxionref01_digit.f (l0 : List Int) (a1 : Int) : Option (Int) := if a1 < (l0.length : Int) then (if 0 ≤ a1 then (some (rd l0 a1)) else (none)) else (some 0)
set_option maxHeartbeats 8000000 in
set_option maxRecDepth 100000 in
theorem fluxionref01_digit.calls (A0 : Option Addr) (c0 : Nat) (l0 : List Int) (a1 : Int) (r : Int) (w : World) (hr0 : Kd.C (Kd.int .i64) w A0 l0.length l0) (hc0 : l0.length ≤ c0) (h : fluxionref01_digit.f l0 a1 = some r) :
    Calls Tryz.prog 89 #[.slice A0 l0.length c0, .int .i64 a1] w fun e w' => e = .returned (.int .i64 r) ∧ Drawn0 w w' := by
  have HR0 := Aside0.mk hr0
  have HC0 := Aside0.mk hc0
  clear hr0 hc0
  have H : (if a1 < (l0.length : Int) then (if 0 ≤ a1 then (some (rd l0 a1)) else (none)) else (some 0)) = some r := h
  clear h
  by_cases c3 : a1 < (l0.length : Int)
  · rw [if_pos c3] at H
    have c3b0 : decide (a1 < (l0.length : Int)) = true := decide_eq_true c3
    clear c3
    by_cases c4 : 0 ≤ a1
    · rw [if_pos c4] at H
      have c4b0 : decide (0 ≤ a1) = true := decide_eq_true c4
      clear c4
      obtain rfl := Option.some.inj H
      have p324 : 0 ≤ (a1 : Int) := of_decide_eq_true (by first | (with_reducible assumption) | assumption)
      have q324 : a1 < (l0.length : Int) := of_decide_eq_true (by first | (with_reducible assumption) | assumption)
      obtain ⟨ad324, e324, hx324_0⟩ := Kd.at_int HR0.out a1 p324 q324
      cases e324
      replace p324 := eq_true p324
      replace q324 := eq_true q324
      go_enter Tryz.func89, Tryz.ntmps89
      go_wp2
      go_ret
      exact ⟨by first | rfl | (simp; done) | (simp [*]; done), by repeat (first | exact Drawn0.refl _ | apply Drawn0.step)⟩
    · rw [if_neg c4] at H
      exact absurd H (by simp)
  · rw [if_neg c3] at H
    have c3b0 : decide (a1 < (l0.length : Int)) = false := decide_eq_false c3
    clear c3
    obtain rfl := Option.some.inj H
    go_enter Tryz.func89, Tryz.ntmps89
    go_wp2
    go_ret
    exact ⟨by first | rfl | (simp; done) | (simp [*]; done), by repeat (first | exact Drawn0.refl _ | apply Drawn0.step)⟩

def fluxionref01_trim.l0 : Nat → List Int → Int → Option (List Int)
  | 0, _, _ => none
  | k + 1, x0, x3 => if x3 > 0 then (if 0 ≤ (wrap64 (x3 - 1)) then (if (wrap64 (x3 - 1)) < (x0.length : Int) then (if (rd x0 (wrap64 (x3 - 1))) = 0 then (fluxionref01_trim.l0 k x0 (wrap64 (x3 - 1))) else (if 0 ≤ x3 then (if x3 ≤ (x0.length : Int) then (some (x0.take (x3 : Int).toNat)) else (none)) else (none))) else (none)) else (none)) else (if 0 ≤ x3 then (if x3 ≤ (x0.length : Int) then (some (x0.take (x3 : Int).toNat)) else (none)) else (none))
def fluxionref01_trim.f (k : Nat) (l0 : List Int) : Option (List Int) := fluxionref01_trim.l0 k l0 (l0.length : Int)
set_option maxHeartbeats 8000000 in
set_option maxRecDepth 100000 in
theorem fluxionref01_trim.calls (k : Nat) (P0_ : Nat → Prop) (u9000_ : Value) (l0 : List Int) (r : List Int) (w0 w : World) (hB : Below w0.heap.size w0 w) (ho0 : Kd.R (Kd.int .i64) 3 w w0.heap.size P0_ u9000_ l0) (h : fluxionref01_trim.f k l0 = some r) :
    Calls Tryz.prog 88 #[u9000_] w fun e w' => ∃ v0_ : Value, e = .returned (v0_) ∧ Kd.R (Kd.int .i64) 3 w' w0.heap.size (fun k_ => (P0_ k_ ∨ w.heap.size ≤ k_)) v0_ r ∧ Below w0.heap.size w0 w' ∧ Kept w w' (fun k_ => P0_ k_) := by
  have HO0 := Aside0.mk (show Kd.R (Kd.int .i64) 3 w w0.heap.size (fun k_ => (P0_ k_ ∨ w.heap.size ≤ k_)) u9000_ l0 from Kd.R_mono ho0 (fun k_ hk => (.inl hk)))
  have HK := Aside0.mk (Kept.refl w (fun k_ => P0_ k_))
  have HW0 := Aside0.mk hB.size
  have HB := Aside0.mk hB
  clear hB
  have H : (fluxionref01_trim.l0 k l0 (l0.length : Int)) = some r := h
  clear h
  have H' := Aside0.mk H
  clear H
  obtain ⟨Ao2, co2, eo2⟩ := Kd.R_slice HO0.out
  subst eo2
  go_enter Tryz.func88, Tryz.ntmps88
  go_wp2
  go_loopg [3] k (fun kq v3 w' => ∃ (x3_1 : Int), v3 = .int .i64 x3_1 ∧ Aside0 (fluxionref01_trim.l0 kq l0 x3_1 = some r) ∧ Aside0 (kq ≤ k) ∧ Aside0 (Kd.R (Kd.int .i64) 3 w' w0.heap.size (fun k_ => (P0_ k_ ∨ w.heap.size ≤ k_)) (.slice Ao2 l0.length co2) l0) ∧ Aside0 (Kept w w' (fun k_ => P0_ k_)) ∧ Aside0 (Below w0.heap.size w0 w'))
  case atStart => exact ⟨((l0.length : Int)), (by first | rfl | (simp; done) | (simp [*]; done)), H', ⟨Nat.le_refl _⟩, ⟨by exact HO0.out⟩, ⟨by repeat (first | (with_reducible first | exact HK.out | apply Kept.alloc | apply Kept.drewN | apply Kept.drew) | exact HK.out)⟩, ⟨by repeat (first | (with_reducible first | exact HB.out | apply below_alloc | apply pw_below_drewN | apply below_drew1) | exact HB.out)⟩⟩
  case round =>
    clear H'
    try clear p2
    obtain ⟨x3_1, rfl, HA, HK1, HO_0, HK, HB⟩ := hrel
    cases gk with
    | zero => exact absurd HA.out (by simp [fluxionref01_trim.l0])
    | succ k1 =>
      have H := HA.out
      clear HA
      simp only [fluxionref01_trim.l0] at H
      by_cases c3 : x3_1 > 0
      · rw [if_pos c3] at H
        have c3b0 : decide (0 < x3_1) = true := decide_eq_true c3
        clear c3
        obtain ⟨ji4, hji4⟩ : ∃ j_ : Int, (wrap64 (x3_1 - 1)) = j_ := ⟨_, rfl⟩
        first | rewrite [hji4] at H | simp only [hji4] at H
        have hji4w : (IntKind.i64.wrap (x3_1 - 1)) = ji4 := (i64_w _).trans hji4
        by_cases c5 : 0 ≤ (ji4)
        · rw [if_pos c5] at H
          have c5b0 : decide (0 ≤ (ji4)) = true := decide_eq_true c5
          clear c5
          by_cases c6 : (ji4) < (l0.length : Int)
          · rw [if_pos c6] at H
            have c6b0 : decide ((ji4) < (l0.length : Int)) = true := decide_eq_true c6
            clear c6
            by_cases c7 : (rd l0 (ji4)) = 0
            · rw [if_pos c7] at H
              have c7b0 : ((rd l0 (ji4)) == 0) = true := beq_iff_eq.mpr c7
              have c7b1 : ((rd l0 (ji4)) != 0) = false := bne_eq_false_iff_eq.mpr c7
              clear c7
              have H' := Aside0.mk H
              clear H
              have p330 : 0 ≤ ((ji4) : Int) := of_decide_eq_true (by first | (with_reducible assumption) | assumption)
              have q330 : (ji4) < (l0.length : Int) := of_decide_eq_true (by first | (with_reducible assumption) | assumption)
              obtain ⟨ad330, e330, hx330_0⟩ := Kd.at_int (Kd.R_reads' HO_0.out).2.2 (ji4) p330 q330
              cases e330
              replace p330 := eq_true p330
              replace q330 := eq_true q330
              go_wp2
              go_roundg k1
              case measure => have := HK1.out; omega
              case rel => exact ⟨(ji4), (by first | rfl | (simp; done) | (simp only [← hji4] <;> (first | rfl | simp)) | (simp [*]; done)), H', ⟨by have := HK1.out; omega⟩, ⟨by exact HO_0.out⟩, ⟨by repeat (first | (with_reducible first | exact HK.out | apply Kept.alloc | apply Kept.drewN | apply Kept.drew) | exact HK.out)⟩, ⟨by repeat (first | (with_reducible first | exact HB.out | apply below_alloc | apply pw_below_drewN | apply below_drew1) | exact HB.out)⟩⟩
            · rw [if_neg c7] at H
              have c7b0 : ((rd l0 (ji4)) == 0) = false := beq_eq_false_iff_ne.mpr c7
              have c7b1 : ((rd l0 (ji4)) != 0) = true := bne_iff_ne.mpr c7
              by_cases c8 : 0 ≤ x3_1
              · rw [if_pos c8] at H
                have c8b0 := eq_true c8
                have c8b1 : decide (0 ≤ x3_1) = true := decide_eq_true c8
                clear c8
                by_cases c9 : x3_1 ≤ (l0.length : Int)
                · rw [if_pos c9] at H
                  have c9b0 := eq_true c9
                  have c9b1 : decide (x3_1 ≤ (l0.length : Int)) = true := decide_eq_true c9
                  clear c9
                  obtain ⟨y331, hy331⟩ : ∃ y_ : List Int, y_ = (l0.take (x3_1 : Int).toNat) := ⟨_, rfl⟩
                  replace H : (some y331) = some r := by first | (rw [hy331]; with_reducible exact H) | (have H2_ := (Option.bind_some _ _).symm.trans H; rw [hy331]; with_reducible exact H2_) | (have H2_ := (Option.bind_some _ _).symm.trans H; with_reducible exact H2_) | with_reducible exact H | (rw [hy331]; exact H) | exact H
                  have Ny331 := Aside0.mk hy331
                  clear hy331
                  obtain rfl := Option.some.inj H
                  have p330 : 0 ≤ ((ji4) : Int) := of_decide_eq_true (by first | (with_reducible assumption) | assumption)
                  have q330 : (ji4) < (l0.length : Int) := of_decide_eq_true (by first | (with_reducible assumption) | assumption)
                  obtain ⟨ad330, e330, hx330_0⟩ := Kd.at_int (Kd.R_reads' HO_0.out).2.2 (ji4) p330 q330
                  cases e330
                  replace p330 := eq_true p330
                  replace q330 := eq_true q330
                  have q10 : (x3_1 : Int) ≤ ((l0.length : Int) : Int) := of_decide_eq_true (by first | (with_reducible assumption) | assumption)
                  obtain ⟨i010, hi010, _, hsz10, _⟩ := info_parts info3
                  have hcut10 := cut_to (P := Tryz.prog) 30 3 .i64 Tryz.underlying30 hi010 (some ad330) l0.length co2 x3_1 (of_decide_eq_true (by first | (with_reducible assumption) | assumption)) q10 (Kd.R_reads' HO_0.out).2.1
                  have hr10 := Kd.R_take (m := (x3_1 : Int).toNat) HO_0.out (by omega)
                  have hy10 : y331.length = (x3_1 : Int).toNat := (by rw [Ny331.out, List.length_take]; omega)
                  rw [← Ny331.out] at hr10
                  rw [← hy10] at hr10 hcut10
                  clear hy10 hi010 hsz10 HO_0
                  have HO333 := Aside0.mk hr10
                  clear hr10
                  replace q10 := eq_true q10
                  go_wp2
                  go_ret
                  exact ⟨_, by first | rfl | (simp [errW_none, errW_some] <;> rfl) | (simp only [← hji4]; first | rfl | (simp [errW_none, errW_some] <;> rfl)) | (simp [*, errW_none, errW_some] <;> rfl), by exact HO333.out, by repeat (first | (with_reducible first | exact HB.out | apply below_alloc | apply pw_below_drewN | apply below_drew1) | exact HB.out), by repeat (first | (with_reducible first | exact HK.out | apply Kept.alloc | apply Kept.drewN | apply Kept.drew) | exact HK.out)⟩
                · rw [if_neg c9] at H
                  exact absurd H (by simp)
              · rw [if_neg c8] at H
                exact absurd H (by simp)
          · rw [if_neg c6] at H
            exact absurd H (by simp)
        · rw [if_neg c5] at H
          exact absurd H (by simp)
      · rw [if_neg c3] at H
        have c3b0 : decide (0 < x3_1) = false := decide_eq_false c3
        clear c3
        by_cases c11 : 0 ≤ x3_1
        · rw [if_pos c11] at H
          have c11b0 := eq_true c11
          have c11b1 : decide (0 ≤ x3_1) = true := decide_eq_true c11
          clear c11
          by_cases c12 : x3_1 ≤ (l0.length : Int)
          · rw [if_pos c12] at H
            have c12b0 := eq_true c12
            have c12b1 : decide (x3_1 ≤ (l0.length : Int)) = true := decide_eq_true c12
            clear c12
            obtain ⟨y334, hy334⟩ : ∃ y_ : List Int, y_ = (l0.take (x3_1 : Int).toNat) := ⟨_, rfl⟩
            replace H : (some y334) = some r := by first | (rw [hy334]; with_reducible exact H) | (have H2_ := (Option.bind_some _ _).symm.trans H; rw [hy334]; with_reducible exact H2_) | (have H2_ := (Option.bind_some _ _).symm.trans H; with_reducible exact H2_) | with_reducible exact H | (rw [hy334]; exact H) | exact H
            have Ny334 := Aside0.mk hy334
            clear hy334
            obtain rfl := Option.some.inj H
            have q13 : (x3_1 : Int) ≤ ((l0.length : Int) : Int) := of_decide_eq_true (by first | (with_reducible assumption) | assumption)
            obtain ⟨i013, hi013, _, hsz13, _⟩ := info_parts info3
            have hcut13 := cut_to (P := Tryz.prog) 30 3 .i64 Tryz.underlying30 hi013 Ao2 l0.length co2 x3_1 (of_decide_eq_true (by first | (with_reducible assumption) | assumption)) q13 (Kd.R_reads' HO_0.out).2.1
            have hr13 := Kd.R_take (m := (x3_1 : Int).toNat) HO_0.out (by omega)
            have hy13 : y334.length = (x3_1 : Int).toNat := (by rw [Ny334.out, List.length_take]; omega)
            rw [← Ny334.out] at hr13
            rw [← hy13] at hr13 hcut13
            clear hy13 hi013 hsz13 HO_0
            have HO336 := Aside0.mk hr13
            clear hr13
            replace q13 := eq_true q13
            go_wp2
            go_ret
            exact ⟨_, by first | rfl | (simp [errW_none, errW_some] <;> rfl) | (simp [*, errW_none, errW_some] <;> rfl), by exact HO336.out, by repeat (first | (with_reducible first | exact HB.out | apply below_alloc | apply pw_below_drewN | apply below_drew1) | exact HB.out), by repeat (first | (with_reducible first | exact HK.out | apply Kept.alloc | apply Kept.drewN | apply Kept.drew) | exact HK.out)⟩
          · rw [if_neg c12] at H
            exact absurd H (by simp)
        · rw [if_neg c11] at H
          exact absurd H (by simp)

def fluxionref01_Times.l0 : Nat → List Int → Int → List Int → Int → Int → Option (List Int)
  | 0, _, _, _, _, _ => none
  | k + 1, x0, x1, x5, x6, x7 => if x7 < (x0.length : Int) then ((fluxionref01_digit.f x0 x7).bind fun t337 => (if x5.length < 17592186044416 then (fluxionref01_Times.l0 k x0 x1 (x5 ++ [Int.tmod (wrap64 ((wrap64 (t337 * x1)) + x6)) 10000]) (wrap64 (Int.tdiv (wrap64 ((wrap64 (t337 * x1)) + x6)) 10000)) (wrap64 (x7 + 1))) else (none))) else (if x6 > 0 then ((fluxionref01_digit.f x0 x7).bind fun t341 => (if x5.length < 17592186044416 then (fluxionref01_Times.l0 k x0 x1 (x5 ++ [Int.tmod (wrap64 ((wrap64 (t341 * x1)) + x6)) 10000]) (wrap64 (Int.tdiv (wrap64 ((wrap64 (t341 * x1)) + x6)) 10000)) (wrap64 (x7 + 1))) else (none))) else ((fluxionref01_trim.f k x5).bind fun t345 => (some t345)))
def fluxionref01_Times.f (k : Nat) (l0 : List Int) (a1 : Int) : Option (List Int) := fluxionref01_Times.l0 k l0 a1 ([] : List Int) 0 0
set_option maxHeartbeats 8000000 in
set_option maxRecDepth 100000 in
theorem fluxionref01_Times.calls (k : Nat) (A0 : Option Addr) (c0 : Nat) (l0 : List Int) (a1 : Int) (r : List Int) (w : World) (hr0 : Kd.C (Kd.int .i64) w A0 l0.length l0) (hc0 : l0.length ≤ c0) (h : fluxionref01_Times.f k l0 a1 = some r) :
    Calls Tryz.prog 51 #[.slice A0 l0.length c0, .int .i64 a1] w fun e w' => ∃ v0_ : Value, e = .returned (v0_) ∧ Kd.R (Kd.int .i64) 3 w' w.heap.size (fun _ => True) v0_ r ∧ Below w.heap.size w w' := by
  have HR0 := Aside0.mk hr0
  have HC0 := Aside0.mk hc0
  clear hr0 hc0
  have HB := Aside0.mk (Below.refl w.heap.size w)
  have H : (fluxionref01_Times.l0 k l0 a1 ([] : List Int) 0 0) = some r := h
  clear h
  have H' := Aside0.mk H
  clear H
  go_enter Tryz.func51, Tryz.ntmps51
  go_wp2
  go_loopg [5, 6, 7] k (fun kq v5 v6 v7 w' => ∃ (x5_1 : List Int) (x6_1 : Int) (x7_1 : Int), v6 = .int .i64 x6_1 ∧ v7 = .int .i64 x7_1 ∧ Aside0 (fluxionref01_Times.l0 kq l0 a1 x5_1 x6_1 x7_1 = some r) ∧ Aside0 (kq ≤ k) ∧ Aside0 (Kd.R (Kd.int .i64) 3 w' w.heap.size (fun _ => True) v5 x5_1) ∧ Aside0 (Below w.heap.size w w'))
  case atStart => exact ⟨(([] : List Int)), (0), (0), (by first | rfl | (simp; done) | (simp [*]; done)), (by first | rfl | (simp; done) | (simp [*]; done)), H', ⟨Nat.le_refl _⟩, ⟨by first | exact Kd.R_nil _ _ _ _ _ | exact Kd.N_nil _ _ _ _ _ | exact Kd.V_nil _ _ _ _ _ | exact Kd.Q_nil _ _ _ _ _ | exact Kd.S_nil _ _ _ _ _⟩, ⟨by repeat (first | (with_reducible first | exact HB.out | apply below_alloc | apply pw_below_drewN | apply below_drew1) | exact HB.out)⟩⟩
  case round =>
    clear H'
    try clear p2
    obtain ⟨x5_1, x6_1, x7_1, rfl, rfl, HA, HK1, HO_5, HB⟩ := hrel
    cases gk with
    | zero => exact absurd HA.out (by simp [fluxionref01_Times.l0])
    | succ k1 =>
      have H := HA.out
      clear HA
      simp only [fluxionref01_Times.l0] at H
      by_cases c3 : x7_1 < (l0.length : Int)
      · rw [if_pos c3] at H
        have c3b0 : decide (x7_1 < (l0.length : Int)) = true := decide_eq_true c3
        clear c3
        replace H := Option.bind_eq_some_iff.mp H
        obtain ⟨t337, A40, H⟩ := H
        try dsimp only at H
        have A4 := Aside0.mk A40
        clear A40
        by_cases c5 : x5_1.length < 17592186044416
        · rw [if_pos c5] at H
          have LMc5 := Aside0.mk c5
          clear c5
          obtain ⟨y338, hy338⟩ : ∃ y_ : List Int, y_ = (x5_1 ++ [Int.tmod (wrap64 ((wrap64 (t337 * a1)) + x6_1)) 10000]) := ⟨_, rfl⟩
          replace H : (fluxionref01_Times.l0 k1 l0 a1 y338 (wrap64 (Int.tdiv (wrap64 ((wrap64 (t337 * a1)) + x6_1)) 10000)) (wrap64 (x7_1 + 1))) = some r := by first | (rw [hy338]; with_reducible exact H) | (have H2_ := (Option.bind_some _ _).symm.trans H; rw [hy338]; with_reducible exact H2_) | (have H2_ := (Option.bind_some _ _).symm.trans H; with_reducible exact H2_) | with_reducible exact H | (rw [hy338]; exact H) | exact H
          have Ny338 := Aside0.mk hy338
          clear hy338
          have H' := Aside0.mk H
          clear H
          go_wp2_with (first | ((with_reducible refine gate_callee (f := 89) rfl ?_); refine goesL_ (some 21) rfl rfl Tryz.func89 (by kernel_rfl) rfl #[.slice A0 l0.length c0, .int .i64 x7_1] rfl (by (try simp only [List.map_toArray, List.map_cons, List.map_nil]); first | done | rfl | (simp only [List.length_drop, List.length_take]; rfl)) ?_; (with_reducible refine (fluxionref01_digit.calls _ _ l0 x7_1 t337 _ ?side1 ?side2 A4.out).mono ?_); (case side1 => repeat (first | exact (Kd.C_below HR0.out HB.out) | (with_reducible refine Kd.C_alloc ?_ _) | (with_reducible refine Kd.C_drewN ?_ _) | (with_reducible refine Kd.C_drew ?_))); (case side2 => exact HC0.out); rintro e w' ⟨rfl, ⟨nd, rfl⟩⟩; refine ⟨_, rfl, ?_⟩) | ((with_reducible refine gate_builtin (b := .append) (xs := #[.tmp 26, .tmp 29]) rfl ?_); at_builtin; refine Kd.R_append (Kd.int .i64) (w0 := w) w.heap.size rfl (.tmp 26) (.tmp 29) 30 3 (.int .i64 0) 8 rfl Tryz.underlying30 info3 rfl (by decide) (by omega) u5 x5_1 (Int.tmod (wrap64 ((wrap64 (t337 * a1)) + x6_1)) 10000) [.int .i64 (Int.tmod (wrap64 ((wrap64 (t337 * a1)) + x6_1)) 10000)] (fun _ => True) (fun _ => False) rfl rfl ?aP (fun _ hk => hk.elim) ?aF ?aO ?aB ?aS ?aL ?_; (case aP => exact rfl); (case aB => exact (by repeat (first | (with_reducible first | exact HB.out | apply below_alloc | apply pw_below_drewN | apply below_drew1) | exact HB.out))); (case aF => exact (fun _ _ => trivial)); (case aO => exact (by exact HO_5.out)); (case aS => exact (below_size (by repeat (first | (with_reducible first | exact HB.out | apply below_alloc | apply pw_below_drewN | apply below_drew1) | exact HB.out)))); (case aL => have := LMc5.out; omega); intro v339 w6 ho hb hg hat; rw [← Ny338.out] at ho; have n0_ := Aside0.mk (hb); have n1_ := Aside0.mk (ho); clear HB; clear HO_5; have HB := n0_; have HO340 := n1_; clear n0_ n1_; clear ho hb hg hat))
          go_roundg k1
          case measure => have := HK1.out; omega
          case rel => exact ⟨(y338), (wrap64 (Int.tdiv (wrap64 ((wrap64 (t337 * a1)) + x6_1)) 10000)), (wrap64 (x7_1 + 1)), (by first | rfl | (simp; done) | (simp [*]; done)), (by first | rfl | (simp; done) | (simp [*]; done)), H', ⟨by have := HK1.out; omega⟩, ⟨by exact HO340.out⟩, ⟨by repeat (first | (with_reducible first | exact HB.out | apply below_alloc | apply pw_below_drewN | apply below_drew1) | exact HB.out)⟩⟩
        · rw [if_neg c5] at H
          exact absurd H (by simp)
      · rw [if_neg c3] at H
        have c3b0 : decide (x7_1 < (l0.length : Int)) = false := decide_eq_false c3
        clear c3
        by_cases c7 : x6_1 > 0
        · rw [if_pos c7] at H
          have c7b0 : decide (0 < x6_1) = true := decide_eq_true c7
          clear c7
          replace H := Option.bind_eq_some_iff.mp H
          obtain ⟨t341, A80, H⟩ := H
          try dsimp only at H
          have A8 := Aside0.mk A80
          clear A80
          by_cases c9 : x5_1.length < 17592186044416
          · rw [if_pos c9] at H
            have LMc9 := Aside0.mk c9
            clear c9
            obtain ⟨y342, hy342⟩ : ∃ y_ : List Int, y_ = (x5_1 ++ [Int.tmod (wrap64 ((wrap64 (t341 * a1)) + x6_1)) 10000]) := ⟨_, rfl⟩
            replace H : (fluxionref01_Times.l0 k1 l0 a1 y342 (wrap64 (Int.tdiv (wrap64 ((wrap64 (t341 * a1)) + x6_1)) 10000)) (wrap64 (x7_1 + 1))) = some r := by first | (rw [hy342]; with_reducible exact H) | (have H2_ := (Option.bind_some _ _).symm.trans H; rw [hy342]; with_reducible exact H2_) | (have H2_ := (Option.bind_some _ _).symm.trans H; with_reducible exact H2_) | with_reducible exact H | (rw [hy342]; exact H) | exact H
            have Ny342 := Aside0.mk hy342
            clear hy342
            have H' := Aside0.mk H
            clear H
            go_wp2_with (first | ((with_reducible refine gate_callee (f := 89) rfl ?_); refine goesL_ (some 21) rfl rfl Tryz.func89 (by kernel_rfl) rfl #[.slice A0 l0.length c0, .int .i64 x7_1] rfl (by (try simp only [List.map_toArray, List.map_cons, List.map_nil]); first | done | rfl | (simp only [List.length_drop, List.length_take]; rfl)) ?_; (with_reducible refine (fluxionref01_digit.calls _ _ l0 x7_1 t341 _ ?side1 ?side2 A8.out).mono ?_); (case side1 => repeat (first | exact (Kd.C_below HR0.out HB.out) | (with_reducible refine Kd.C_alloc ?_ _) | (with_reducible refine Kd.C_drewN ?_ _) | (with_reducible refine Kd.C_drew ?_))); (case side2 => exact HC0.out); rintro e w' ⟨rfl, ⟨nd, rfl⟩⟩; refine ⟨_, rfl, ?_⟩) | ((with_reducible refine gate_builtin (b := .append) (xs := #[.tmp 26, .tmp 29]) rfl ?_); at_builtin; refine Kd.R_append (Kd.int .i64) (w0 := w) w.heap.size rfl (.tmp 26) (.tmp 29) 30 3 (.int .i64 0) 8 rfl Tryz.underlying30 info3 rfl (by decide) (by omega) u5 x5_1 (Int.tmod (wrap64 ((wrap64 (t341 * a1)) + x6_1)) 10000) [.int .i64 (Int.tmod (wrap64 ((wrap64 (t341 * a1)) + x6_1)) 10000)] (fun _ => True) (fun _ => False) rfl rfl ?aP (fun _ hk => hk.elim) ?aF ?aO ?aB ?aS ?aL ?_; (case aP => exact rfl); (case aB => exact (by repeat (first | (with_reducible first | exact HB.out | apply below_alloc | apply pw_below_drewN | apply below_drew1) | exact HB.out))); (case aF => exact (fun _ _ => trivial)); (case aO => exact (by exact HO_5.out)); (case aS => exact (below_size (by repeat (first | (with_reducible first | exact HB.out | apply below_alloc | apply pw_below_drewN | apply below_drew1) | exact HB.out)))); (case aL => have := LMc9.out; omega); intro v343 w10 ho hb hg hat; rw [← Ny342.out] at ho; have n0_ := Aside0.mk (hb); have n1_ := Aside0.mk (ho); clear HB; clear HO_5; have HB := n0_; have HO344 := n1_; clear n0_ n1_; clear ho hb hg hat))
            go_roundg k1
            case measure => have := HK1.out; omega
            case rel => exact ⟨(y342), (wrap64 (Int.tdiv (wrap64 ((wrap64 (t341 * a1)) + x6_1)) 10000)), (wrap64 (x7_1 + 1)), (by first | rfl | (simp; done) | (simp [*]; done)), (by first | rfl | (simp; done) | (simp [*]; done)), H', ⟨by have := HK1.out; omega⟩, ⟨by exact HO344.out⟩, ⟨by repeat (first | (with_reducible first | exact HB.out | apply below_alloc | apply pw_below_drewN | apply below_drew1) | exact HB.out)⟩⟩
          · rw [if_neg c9] at H
            exact absurd H (by simp)
        · rw [if_neg c7] at H
          have c7b0 : decide (0 < x6_1) = false := decide_eq_false c7
          clear c7
          replace H := Option.bind_eq_some_iff.mp H
          obtain ⟨t345, A110, H⟩ := H
          try dsimp only at H
          have A11 := Aside0.mk A110
          clear A110
          obtain rfl := Option.some.inj H
          obtain ⟨Ao12, co12, eo12⟩ := Kd.R_slice HO_5.out
          subst eo12
          go_wp2_with (first | ((with_reducible refine gate_callee (f := 88) rfl ?_); refine goesL_ (some 34) rfl rfl Tryz.func88 (by kernel_rfl) rfl #[.slice Ao12 x5_1.length co12] rfl (by (try simp only [List.map_toArray, List.map_cons, List.map_nil]); first | done | rfl | (simp only [List.length_drop, List.length_take]; rfl)) ?_; (with_reducible refine (fluxionref01_trim.calls k1 (fun k_ => some k_ = (.slice Ao12 x5_1.length co12 : Value).ownBlock) (.slice Ao12 x5_1.length co12) x5_1 t345 w _ ?side1 ?side2 A11.out).mono ?_); (case side1 => repeat (first | (with_reducible first | exact HB.out | apply below_alloc | apply pw_below_drewN | apply below_drew1) | exact HB.out)); (case side2 => exact Kd.R_tight rfl HO_5.out); rintro e w13 ⟨v346, rfl, ho0, hb, hkp⟩; refine ⟨_, rfl, ?_⟩; have n0_ := Aside0.mk (Kd.R_mono (ok' := fun k_ => True) ho0 (fun k_ hk_ => trivial)); have n1_ := Aside0.mk (hb); clear HB; clear HO_5; have HO347 := n0_; have HB := n1_; clear n0_ n1_; (try clear hb); (try clear hkp); (try clear ho0)))
          go_ret
          exact ⟨_, by first | rfl | (simp [errW_none, errW_some] <;> rfl) | (simp [*, errW_none, errW_some] <;> rfl), by exact HO347.out, by repeat (first | (with_reducible first | exact HB.out | apply below_alloc | apply pw_below_drewN | apply below_drew1) | exact HB.out)⟩

mutual
def fluxionref01_Add.l0 : Nat → List Int → List Int → List Int → Int → Int → Option (List Int)
  | 0, _, _, _, _, _ => none
  | k + 1, x0, x1, x5, x6, x7 => if x7 < (x0.length : Int) then (fluxionref01_Add.j1 k x0 x1 x5 x6 x7 true) else (if x7 < (x1.length : Int) then (fluxionref01_Add.j1 k x0 x1 x5 x6 x7 true) else (fluxionref01_Add.j1 k x0 x1 x5 x6 x7 (decide (x6 > 0))))
def fluxionref01_Add.j1 : Nat → List Int → List Int → List Int → Int → Int → Bool → Option (List Int)
  | 0, _, _, _, _, _, _ => none
  | k + 1, x0, x1, x5, x6, x7, x22 => if x22 = true then ((fluxionref01_digit.f x0 x7).bind fun t325 => ((fluxionref01_digit.f x1 x7).bind fun t326 => (if x5.length < 17592186044416 then (fluxionref01_Add.l0 k x0 x1 (x5 ++ [Int.tmod (wrap64 ((wrap64 (t325 + t326)) + x6)) 10000]) (wrap64 (Int.tdiv (wrap64 ((wrap64 (t325 + t326)) + x6)) 10000)) (wrap64 (x7 + 1))) else (none)))) else (some x5)
end
def fluxionref01_Add.f (k : Nat) (l0 : List Int) (l1 : List Int) : Option (List Int) := fluxionref01_Add.l0 k l0 l1 ([] : List Int) 0 0
set_option maxHeartbeats 8000000 in
set_option maxRecDepth 100000 in
theorem fluxionref01_Add.calls (k : Nat) (A0 : Option Addr) (c0 : Nat) (l0 : List Int) (A1 : Option Addr) (c1 : Nat) (l1 : List Int) (r : List Int) (w : World) (hr0 : Kd.C (Kd.int .i64) w A0 l0.length l0) (hc0 : l0.length ≤ c0) (hr1 : Kd.C (Kd.int .i64) w A1 l1.length l1) (hc1 : l1.length ≤ c1) (h : fluxionref01_Add.f k l0 l1 = some r) :
    Calls Tryz.prog 50 #[.slice A0 l0.length c0, .slice A1 l1.length c1] w fun e w' => ∃ v0_ : Value, e = .returned (v0_) ∧ Kd.R (Kd.int .i64) 3 w' w.heap.size (fun _ => True) v0_ r ∧ Below w.heap.size w w' := by
  have HR0 := Aside0.mk hr0
  have HC0 := Aside0.mk hc0
  clear hr0 hc0
  have HR1 := Aside0.mk hr1
  have HC1 := Aside0.mk hc1
  clear hr1 hc1
  have HB := Aside0.mk (Below.refl w.heap.size w)
  have H : (fluxionref01_Add.l0 k l0 l1 ([] : List Int) 0 0) = some r := h
  clear h
  have H' := Aside0.mk H
  clear H
  go_enter Tryz.func50, Tryz.ntmps50
  go_wp2
  go_loopg [5, 6, 7] k (fun kq v5 v6 v7 w' => ∃ (x5_1 : List Int) (x6_1 : Int) (x7_1 : Int), v6 = .int .i64 x6_1 ∧ v7 = .int .i64 x7_1 ∧ Aside0 (fluxionref01_Add.l0 kq l0 l1 x5_1 x6_1 x7_1 = some r) ∧ Aside0 (kq ≤ k) ∧ Aside0 (Kd.R (Kd.int .i64) 3 w' w.heap.size (fun _ => True) v5 x5_1) ∧ Aside0 (Below w.heap.size w w'))
  case atStart => exact ⟨(([] : List Int)), (0), (0), (by first | rfl | (simp; done) | (simp [*]; done)), (by first | rfl | (simp; done) | (simp [*]; done)), H', ⟨Nat.le_refl _⟩, ⟨by first | exact Kd.R_nil _ _ _ _ _ | exact Kd.N_nil _ _ _ _ _ | exact Kd.V_nil _ _ _ _ _ | exact Kd.Q_nil _ _ _ _ _ | exact Kd.S_nil _ _ _ _ _⟩, ⟨by repeat (first | (with_reducible first | exact HB.out | apply below_alloc | apply pw_below_drewN | apply below_drew1) | exact HB.out)⟩⟩
  case round =>
    clear H'
    try clear c1
    try clear p2
    obtain ⟨x5_1, x6_1, x7_1, rfl, rfl, HA, HK1, HO_5, HB⟩ := hrel
    cases gk with
    | zero => exact absurd HA.out (by simp [fluxionref01_Add.l0])
    | succ k1 =>
      have H := HA.out
      clear HA
      simp only [fluxionref01_Add.l0] at H
      have HC3 := Aside0.mk H
      clear H
      go_upto_region 4 with (fail)
      go_cut [22] (fun v22 wc => ∃ (kq : Nat) (x22_2 : Bool), v22 = .bool x22_2 ∧ Aside0 (fluxionref01_Add.j1 kq l0 l1 x5_1 x6_1 x7_1 x22_2 = some r) ∧ Aside0 (kq ≤ k1) ∧ Aside0 (Kd.R (Kd.int .i64) 3 wc w.heap.size (fun _ => True) u5 x5_1) ∧ Aside0 (Below w.heap.size w wc))
      case first =>
        have H := HC3.out
        clear HC3
        by_cases c4 : x7_1 < (l0.length : Int)
        · rw [if_pos c4] at H
          have c4b0 : decide (x7_1 < (l0.length : Int)) = true := decide_eq_true c4
          clear c4
          (first | rw [c4b0] | (simp only [i64_w, i32_w]; rw [c4b0]) | skip)
          have H' := Aside0.mk H
          clear H
          go_wp2
          go_meet
          case rel => exact ⟨_, (true), (by first | rfl | (simp; done) | (simp [*]; done)), H', ⟨by have := HK1.out; first | omega | exact Nat.le_refl _⟩, ⟨by exact HO_5.out⟩, ⟨by repeat (first | (with_reducible first | exact HB.out | apply below_alloc | apply pw_below_drewN | apply below_drew1) | exact HB.out)⟩⟩
        · rw [if_neg c4] at H
          have c4b0 : decide (x7_1 < (l0.length : Int)) = false := decide_eq_false c4
          clear c4
          (first | rw [c4b0] | (simp only [i64_w, i32_w]; rw [c4b0]) | skip)
          by_cases c5 : x7_1 < (l1.length : Int)
          · rw [if_pos c5] at H
            have c5b0 : decide (x7_1 < (l1.length : Int)) = true := decide_eq_true c5
            clear c5
            have H' := Aside0.mk H
            clear H
            go_wp2
            go_meet
            case rel => exact ⟨_, (true), (by first | rfl | (simp; done) | (simp [*]; done)), H', ⟨by have := HK1.out; first | omega | exact Nat.le_refl _⟩, ⟨by exact HO_5.out⟩, ⟨by repeat (first | (with_reducible first | exact HB.out | apply below_alloc | apply pw_below_drewN | apply below_drew1) | exact HB.out)⟩⟩
          · rw [if_neg c5] at H
            have c5b0 : decide (x7_1 < (l1.length : Int)) = false := decide_eq_false c5
            clear c5
            have H' := Aside0.mk H
            clear H
            go_wp2
            go_meet
            case rel => exact ⟨_, (decide (x6_1 > 0)), (by first | rfl | (simp; done) | (simp [*]; done)), H', ⟨by have := HK1.out; first | omega | exact Nat.le_refl _⟩, ⟨by exact HO_5.out⟩, ⟨by repeat (first | (with_reducible first | exact HB.out | apply below_alloc | apply pw_below_drewN | apply below_drew1) | exact HB.out)⟩⟩
      case rest =>
        clear HC3
        try clear c1
        try clear p2
        try clear c4
        try clear c4b0
        try clear c5
        try clear c5b0
        try clear p2
        obtain ⟨kq, x22_2, rfl, HA, HJ2, HO_5, HB⟩ := hcut
        cases kq with
        | zero => exact absurd HA.out (by simp [fluxionref01_Add.j1])
        | succ kj2 =>
          have H := HA.out
          clear HA
          simp only [fluxionref01_Add.j1] at H
          by_cases c6 : x22_2 = true
          · subst c6
            have H1 : ((fluxionref01_digit.f l0 x7_1).bind fun t325 => ((fluxionref01_digit.f l1 x7_1).bind fun t326 => (if x5_1.length < 17592186044416 then (fluxionref01_Add.l0 kj2 l0 l1 (x5_1 ++ [Int.tmod (wrap64 ((wrap64 (t325 + t326)) + x6_1)) 10000]) (wrap64 (Int.tdiv (wrap64 ((wrap64 (t325 + t326)) + x6_1)) 10000)) (wrap64 (x7_1 + 1))) else (none)))) = some r := by rw [if_pos rfl] at H; exact H
            clear H
            have H := H1
            clear H1
            replace H := Option.bind_eq_some_iff.mp H
            obtain ⟨t325, A70, H⟩ := H
            try dsimp only at H
            have A7 := Aside0.mk A70
            clear A70
            replace H := Option.bind_eq_some_iff.mp H
            obtain ⟨t326, A80, H⟩ := H
            try dsimp only at H
            have A8 := Aside0.mk A80
            clear A80
            by_cases c9 : x5_1.length < 17592186044416
            · rw [if_pos c9] at H
              have LMc9 := Aside0.mk c9
              clear c9
              obtain ⟨y327, hy327⟩ : ∃ y_ : List Int, y_ = (x5_1 ++ [Int.tmod (wrap64 ((wrap64 (t325 + t326)) + x6_1)) 10000]) := ⟨_, rfl⟩
              replace H : (fluxionref01_Add.l0 kj2 l0 l1 y327 (wrap64 (Int.tdiv (wrap64 ((wrap64 (t325 + t326)) + x6_1)) 10000)) (wrap64 (x7_1 + 1))) = some r := by first | (rw [hy327]; with_reducible exact H) | (have H2_ := (Option.bind_some _ _).symm.trans H; rw [hy327]; with_reducible exact H2_) | (have H2_ := (Option.bind_some _ _).symm.trans H; with_reducible exact H2_) | with_reducible exact H | (rw [hy327]; exact H) | exact H
              have Ny327 := Aside0.mk hy327
              clear hy327
              have H' := Aside0.mk H
              clear H
              go_wp2_with (first | ((with_reducible refine gate_callee (f := 89) rfl ?_); refine goesL_ (some 27) rfl rfl Tryz.func89 (by kernel_rfl) rfl #[.slice A0 l0.length c0, .int .i64 x7_1] rfl (by (try simp only [List.map_toArray, List.map_cons, List.map_nil]); first | done | rfl | (simp only [List.length_drop, List.length_take]; rfl)) ?_; (with_reducible refine (fluxionref01_digit.calls _ _ l0 x7_1 t325 _ ?side1 ?side2 A7.out).mono ?_); (case side1 => repeat (first | exact (Kd.C_below HR0.out HB.out) | (with_reducible refine Kd.C_alloc ?_ _) | (with_reducible refine Kd.C_drewN ?_ _) | (with_reducible refine Kd.C_drew ?_))); (case side2 => exact HC0.out); rintro e w' ⟨rfl, ⟨nd, rfl⟩⟩; refine ⟨_, rfl, ?_⟩) | ((with_reducible refine gate_callee (f := 89) rfl ?_); refine goesL_ (some 30) rfl rfl Tryz.func89 (by kernel_rfl) rfl #[.slice A1 l1.length c1, .int .i64 x7_1] rfl (by (try simp only [List.map_toArray, List.map_cons, List.map_nil]); first | done | rfl | (simp only [List.length_drop, List.length_take]; rfl)) ?_; (with_reducible refine (fluxionref01_digit.calls _ _ l1 x7_1 t326 _ ?side1 ?side2 A8.out).mono ?_); (case side1 => repeat (first | exact (Kd.C_below HR1.out (by repeat (first | (with_reducible first | exact HB.out | apply below_alloc | apply pw_below_drewN | apply below_drew1) | exact HB.out))) | (with_reducible refine Kd.C_alloc ?_ _) | (with_reducible refine Kd.C_drewN ?_ _) | (with_reducible refine Kd.C_drew ?_))); (case side2 => exact HC1.out); rintro e w' ⟨rfl, ⟨nd, rfl⟩⟩; refine ⟨_, rfl, ?_⟩) | ((with_reducible refine gate_builtin (b := .append) (xs := #[.tmp 34, .tmp 37]) rfl ?_); (try (refine gate_guard (by rfl) ?_; dsimp only)); at_builtin; refine Kd.R_append (Kd.int .i64) (w0 := w) w.heap.size rfl (.tmp 34) (.tmp 37) 30 3 (.int .i64 0) 8 rfl Tryz.underlying30 info3 rfl (by decide) (by omega) u5 x5_1 (Int.tmod (wrap64 ((wrap64 (t325 + t326)) + x6_1)) 10000) [.int .i64 (Int.tmod (wrap64 ((wrap64 (t325 + t326)) + x6_1)) 10000)] (fun _ => True) (fun _ => False) rfl rfl ?aP (fun _ hk => hk.elim) ?aF ?aO ?aB ?aS ?aL ?_; (case aP => exact rfl); (case aB => exact (by repeat (first | (with_reducible first | exact HB.out | apply below_alloc | apply pw_below_drewN | apply below_drew1) | exact HB.out))); (case aF => exact (fun _ _ => trivial)); (case aO => exact (by exact HO_5.out)); (case aS => exact (below_size (by repeat (first | (with_reducible first | exact HB.out | apply below_alloc | apply pw_below_drewN | apply below_drew1) | exact HB.out)))); (case aL => have := LMc9.out; omega); intro v328 w10 ho hb hg hat; rw [← Ny327.out] at ho; have n0_ := Aside0.mk (hb); have n1_ := Aside0.mk (ho); clear HB; clear HO_5; have HB := n0_; have HO329 := n1_; clear n0_ n1_; clear ho hb hg hat))
              go_roundg kj2
              case measure => have := HK1.out; have := HJ2.out; omega
              case rel => exact ⟨(y327), (wrap64 (Int.tdiv (wrap64 ((wrap64 (t325 + t326)) + x6_1)) 10000)), (wrap64 (x7_1 + 1)), (by first | rfl | (simp; done) | (simp [*]; done)), (by first | rfl | (simp; done) | (simp [*]; done)), H', ⟨by have := HK1.out; have := HJ2.out; omega⟩, ⟨by exact HO329.out⟩, ⟨by repeat (first | (with_reducible first | exact HB.out | apply below_alloc | apply pw_below_drewN | apply below_drew1) | exact HB.out)⟩⟩
            · rw [if_neg c9] at H
              exact absurd H (by simp)
          · replace c6 := Bool.eq_false_iff.mpr c6
            subst c6
            have H1 : (some x5_1) = some r := by rw [if_neg (show ¬ (false = true) by decide)] at H; exact H
            clear H
            have H := H1
            clear H1
            obtain rfl := Option.some.inj H
            go_wp2
            go_ret
            exact ⟨_, by first | rfl | (simp [errW_none, errW_some] <;> rfl) | (simp [*, errW_none, errW_some] <;> rfl), by exact HO_5.out, by repeat (first | (with_reducible first | exact HB.out | apply below_alloc | apply pw_below_drewN | apply below_drew1) | exact HB.out)⟩

def fluxionref01_Cmp.l0 : Nat → List Int → List Int → Int → Option (Int)
  | 0, _, _, _ => none
  | k + 1, x0, x1, x5 => if x5 ≥ 0 then (if 0 ≤ x5 then (if x5 < (x0.length : Int) then (if x5 < (x1.length : Int) then (if (rd x0 x5) < (rd x1 x5) then (some (-1)) else (if (rd x0 x5) > (rd x1 x5) then (some 1) else (fluxionref01_Cmp.l0 k x0 x1 (wrap64 (x5 - 1))))) else (none)) else (none)) else (none)) else (some 0)
def fluxionref01_Cmp.f (k : Nat) (l0 : List Int) (l1 : List Int) : Option (Int) := if (l0.length : Int) = (l1.length : Int) then (fluxionref01_Cmp.l0 k l0 l1 (wrap64 ((l0.length : Int) - 1))) else (if (l0.length : Int) < (l1.length : Int) then (some (-1)) else (some 1))
set_option maxHeartbeats 8000000 in
set_option maxRecDepth 100000 in
theorem fluxionref01_Cmp.calls (k : Nat) (A0 : Option Addr) (c0 : Nat) (l0 : List Int) (A1 : Option Addr) (c1 : Nat) (l1 : List Int) (r : Int) (w : World) (hr0 : Kd.C (Kd.int .i64) w A0 l0.length l0) (hc0 : l0.length ≤ c0) (hr1 : Kd.C (Kd.int .i64) w A1 l1.length l1) (hc1 : l1.length ≤ c1) (h : fluxionref01_Cmp.f k l0 l1 = some r) :
    Calls Tryz.prog 22 #[.slice A0 l0.length c0, .slice A1 l1.length c1] w fun e w' => e = .returned (.int .i64 r) ∧ Drawn0 w w' := by
  have HR0 := Aside0.mk hr0
  have HC0 := Aside0.mk hc0
  clear hr0 hc0
  have HR1 := Aside0.mk hr1
  have HC1 := Aside0.mk hc1
  clear hr1 hc1
  have H : (if (l0.length : Int) = (l1.length : Int) then (fluxionref01_Cmp.l0 k l0 l1 (wrap64 ((l0.length : Int) - 1))) else (if (l0.length : Int) < (l1.length : Int) then (some (-1)) else (some 1))) = some r := h
  clear h
  by_cases c3 : (l0.length : Int) = (l1.length : Int)
  · rw [if_pos c3] at H
    have c3b0 : ((l0.length : Int) == (l1.length : Int)) = true := beq_iff_eq.mpr c3
    have c3b1 : ((l0.length : Int) != (l1.length : Int)) = false := bne_eq_false_iff_eq.mpr c3
    have c3b2 : (l0.length == l1.length) = true := by first | simpa using c3 | (simp at c3 ⊢; omega)
    clear c3
    have H' := Aside0.mk H
    clear H
    go_enter Tryz.func22, Tryz.ntmps22
    go_wp2
    repeat (go_quiet (fail); try go_wp2)
    go_loopg [5] k (fun kq v5 w' => ∃ (x5_1 : Int), v5 = .int .i64 x5_1 ∧ Aside0 (fluxionref01_Cmp.l0 kq l0 l1 x5_1 = some r) ∧ Aside0 (kq ≤ k) ∧ Drawn0 w w')
    case atStart => exact ⟨(wrap64 ((l0.length : Int) - 1)), (by first | rfl | (simp; done) | (simp [*]; done)), H', ⟨Nat.le_refl _⟩, by repeat (first | exact Drawn0.refl _ | apply Drawn0.step)⟩
    case round =>
      clear H'
      try clear c1
      try clear c2
      try clear p2
      try clear c3
      try clear c3b0
      try clear c3b1
      try clear c3b2
      obtain ⟨x5_1, rfl, HA, HK1, ⟨m1, rfl⟩⟩ := hrel
      cases gk with
      | zero => exact absurd HA.out (by simp [fluxionref01_Cmp.l0])
      | succ k1 =>
        have H := HA.out
        clear HA
        simp only [fluxionref01_Cmp.l0] at H
        by_cases c4 : x5_1 ≥ 0
        · rw [if_pos c4] at H
          have c4b0 : decide (0 ≤ x5_1) = true := decide_eq_true c4
          clear c4
          by_cases c5 : 0 ≤ x5_1
          · rw [if_pos c5] at H
            have c5b0 : decide (0 ≤ x5_1) = true := decide_eq_true c5
            clear c5
            by_cases c6 : x5_1 < (l0.length : Int)
            · rw [if_pos c6] at H
              have c6b0 : decide (x5_1 < (l0.length : Int)) = true := decide_eq_true c6
              clear c6
              by_cases c7 : x5_1 < (l1.length : Int)
              · rw [if_pos c7] at H
                have c7b0 : decide (x5_1 < (l1.length : Int)) = true := decide_eq_true c7
                clear c7
                by_cases c8 : (rd l0 x5_1) < (rd l1 x5_1)
                · rw [if_pos c8] at H
                  have c8b0 : decide ((rd l0 x5_1) < (rd l1 x5_1)) = true := decide_eq_true c8
                  clear c8
                  obtain rfl := Option.some.inj H
                  have p371 : 0 ≤ (x5_1 : Int) := of_decide_eq_true (by first | (with_reducible assumption) | assumption)
                  have q371 : x5_1 < (l0.length : Int) := of_decide_eq_true (by first | (with_reducible assumption) | assumption)
                  obtain ⟨ad371, e371, hx371_0⟩ := Kd.at_int HR0.out x5_1 p371 q371
                  cases e371
                  replace p371 := eq_true p371
                  replace q371 := eq_true q371
                  have p372 : 0 ≤ (x5_1 : Int) := of_decide_eq_true (by first | (with_reducible assumption) | assumption)
                  have q372 : x5_1 < (l1.length : Int) := of_decide_eq_true (by first | (with_reducible assumption) | assumption)
                  obtain ⟨ad372, e372, hx372_0⟩ := Kd.at_int HR1.out x5_1 p372 q372
                  cases e372
                  replace p372 := eq_true p372
                  replace q372 := eq_true q372
                  go_wp2
                  repeat (go_quiet (fail); try go_wp2)
                  go_ret
                  exact ⟨by first | rfl | (simp; done) | (simp [*]; done), by repeat (first | exact Drawn0.refl _ | apply Drawn0.step)⟩
                · rw [if_neg c8] at H
                  have c8b0 : decide ((rd l0 x5_1) < (rd l1 x5_1)) = false := decide_eq_false c8
                  clear c8
                  by_cases c9 : (rd l0 x5_1) > (rd l1 x5_1)
                  · rw [if_pos c9] at H
                    have c9b0 : decide ((rd l1 x5_1) < (rd l0 x5_1)) = true := decide_eq_true c9
                    clear c9
                    obtain rfl := Option.some.inj H
                    have p371 : 0 ≤ (x5_1 : Int) := of_decide_eq_true (by first | (with_reducible assumption) | assumption)
                    have q371 : x5_1 < (l0.length : Int) := of_decide_eq_true (by first | (with_reducible assumption) | assumption)
                    obtain ⟨ad371, e371, hx371_0⟩ := Kd.at_int HR0.out x5_1 p371 q371
                    cases e371
                    replace p371 := eq_true p371
                    replace q371 := eq_true q371
                    have p372 : 0 ≤ (x5_1 : Int) := of_decide_eq_true (by first | (with_reducible assumption) | assumption)
                    have q372 : x5_1 < (l1.length : Int) := of_decide_eq_true (by first | (with_reducible assumption) | assumption)
                    obtain ⟨ad372, e372, hx372_0⟩ := Kd.at_int HR1.out x5_1 p372 q372
                    cases e372
                    replace p372 := eq_true p372
                    replace q372 := eq_true q372
                    have p373 : 0 ≤ (x5_1 : Int) := of_decide_eq_true (by first | (with_reducible assumption) | assumption)
                    have q373 : x5_1 < (l0.length : Int) := of_decide_eq_true (by first | (with_reducible assumption) | assumption)
                    obtain ⟨ad373, e373, hx373_0⟩ := Kd.at_int HR0.out x5_1 p373 q373
                    obtain rfl : ad371 = ad373 := (by injection e373)
                    replace p373 := eq_true p373
                    replace q373 := eq_true q373
                    have p374 : 0 ≤ (x5_1 : Int) := of_decide_eq_true (by first | (with_reducible assumption) | assumption)
                    have q374 : x5_1 < (l1.length : Int) := of_decide_eq_true (by first | (with_reducible assumption) | assumption)
                    obtain ⟨ad374, e374, hx374_0⟩ := Kd.at_int HR1.out x5_1 p374 q374
                    obtain rfl : ad372 = ad374 := (by injection e374)
                    replace p374 := eq_true p374
                    replace q374 := eq_true q374
                    go_wp2
                    repeat (go_quiet (fail); try go_wp2)
                    go_ret
                    exact ⟨by first | rfl | (simp; done) | (simp [*]; done), by repeat (first | exact Drawn0.refl _ | apply Drawn0.step)⟩
                  · rw [if_neg c9] at H
                    have c9b0 : decide ((rd l1 x5_1) < (rd l0 x5_1)) = false := decide_eq_false c9
                    clear c9
                    have H' := Aside0.mk H
                    clear H
                    have p371 : 0 ≤ (x5_1 : Int) := of_decide_eq_true (by first | (with_reducible assumption) | assumption)
                    have q371 : x5_1 < (l0.length : Int) := of_decide_eq_true (by first | (with_reducible assumption) | assumption)
                    obtain ⟨ad371, e371, hx371_0⟩ := Kd.at_int HR0.out x5_1 p371 q371
                    cases e371
                    replace p371 := eq_true p371
                    replace q371 := eq_true q371
                    have p372 : 0 ≤ (x5_1 : Int) := of_decide_eq_true (by first | (with_reducible assumption) | assumption)
                    have q372 : x5_1 < (l1.length : Int) := of_decide_eq_true (by first | (with_reducible assumption) | assumption)
                    obtain ⟨ad372, e372, hx372_0⟩ := Kd.at_int HR1.out x5_1 p372 q372
                    cases e372
                    replace p372 := eq_true p372
                    replace q372 := eq_true q372
                    have p373 : 0 ≤ (x5_1 : Int) := of_decide_eq_true (by first | (with_reducible assumption) | assumption)
                    have q373 : x5_1 < (l0.length : Int) := of_decide_eq_true (by first | (with_reducible assumption) | assumption)
                    obtain ⟨ad373, e373, hx373_0⟩ := Kd.at_int HR0.out x5_1 p373 q373
                    obtain rfl : ad371 = ad373 := (by injection e373)
                    replace p373 := eq_true p373
                    replace q373 := eq_true q373
                    have p374 : 0 ≤ (x5_1 : Int) := of_decide_eq_true (by first | (with_reducible assumption) | assumption)
                    have q374 : x5_1 < (l1.length : Int) := of_decide_eq_true (by first | (with_reducible assumption) | assumption)
                    obtain ⟨ad374, e374, hx374_0⟩ := Kd.at_int HR1.out x5_1 p374 q374
                    obtain rfl : ad372 = ad374 := (by injection e374)
                    replace p374 := eq_true p374
                    replace q374 := eq_true q374
                    go_wp2
                    repeat (go_quiet (fail); try go_wp2)
                    go_roundg k1
                    case measure => have := HK1.out; omega
                    case rel => exact ⟨(wrap64 (x5_1 - 1)), (by first | rfl | (simp; done) | (simp [*]; done)), H', ⟨by have := HK1.out; omega⟩, by repeat (first | exact Drawn0.refl _ | apply Drawn0.step)⟩
              · rw [if_neg c7] at H
                exact absurd H (by simp)
            · rw [if_neg c6] at H
              exact absurd H (by simp)
          · rw [if_neg c5] at H
            exact absurd H (by simp)
        · rw [if_neg c4] at H
          have c4b0 : decide (0 ≤ x5_1) = false := decide_eq_false c4
          clear c4
          obtain rfl := Option.some.inj H
          go_wp2
          repeat (go_quiet (fail); try go_wp2)
          go_ret
          exact ⟨by first | rfl | (simp; done) | (simp [*]; done), by repeat (first | exact Drawn0.refl _ | apply Drawn0.step)⟩
  · rw [if_neg c3] at H
    have c3b0 : ((l0.length : Int) == (l1.length : Int)) = false := beq_eq_false_iff_ne.mpr c3
    have c3b1 : ((l0.length : Int) != (l1.length : Int)) = true := bne_iff_ne.mpr c3
    have c3b2 : (l0.length == l1.length) = false := by first | simpa using c3 | (simp at c3 ⊢; omega)
    by_cases c10 : (l0.length : Int) < (l1.length : Int)
    · rw [if_pos c10] at H
      have c10b0 : decide ((l0.length : Int) < (l1.length : Int)) = true := decide_eq_true c10
      have c10b1 : decide (l0.length < l1.length) = true := decide_eq_true (Int.ofNat_lt.mp c10)
      clear c10
      obtain rfl := Option.some.inj H
      go_enter Tryz.func22, Tryz.ntmps22
      go_wp2
      repeat (go_quiet (fail); try go_wp2)
      go_ret
      exact ⟨by first | rfl | (simp; done) | (simp [*]; done), by repeat (first | exact Drawn0.refl _ | apply Drawn0.step)⟩
    · rw [if_neg c10] at H
      have c10b0 : decide ((l0.length : Int) < (l1.length : Int)) = false := decide_eq_false c10
      have c10b1 : decide (l0.length < l1.length) = false := decide_eq_false (fun h => c10 (Int.ofNat_lt.mpr h))
      clear c10
      obtain rfl := Option.some.inj H
      go_enter Tryz.func22, Tryz.ntmps22
      go_wp2
      repeat (go_quiet (fail); try go_wp2)
      go_ret
      exact ⟨by first | rfl | (simp; done) | (simp [*]; done), by repeat (first | exact Drawn0.refl _ | apply Drawn0.step)⟩

def fluxionref01_Sub.l0 : Nat → List Int → List Int → List Int → Int → Int → Option (List Int × Bool)
  | 0, _, _, _, _, _ => none
  | k + 1, x0, x1, x6, x7, x8 => if x8 < (x0.length : Int) then (if 0 ≤ x8 then ((fluxionref01_digit.f x1 x8).bind fun t381 => (if (wrap64 ((wrap64 ((rd x0 x8) - t381)) - x7)) < 0 then (if x6.length < 17592186044416 then (fluxionref01_Sub.l0 k x0 x1 (x6 ++ [wrap64 ((wrap64 ((wrap64 ((rd x0 x8) - t381)) - x7)) + 10000)]) 1 (wrap64 (x8 + 1))) else (none)) else (if x6.length < 17592186044416 then (fluxionref01_Sub.l0 k x0 x1 (x6 ++ [wrap64 ((wrap64 ((rd x0 x8) - t381)) - x7)]) 0 (wrap64 (x8 + 1))) else (none)))) else (none)) else ((fluxionref01_trim.f k x6).bind fun t388 => (some (t388, true)))
def fluxionref01_Sub.f (k : Nat) (l0 : List Int) (l1 : List Int) : Option (List Int × Bool) := (fluxionref01_Cmp.f k l0 l1).bind fun t379 => (if t379 < 0 then (some (([] : List Int), false)) else (fluxionref01_Sub.l0 k l0 l1 ([] : List Int) 0 0))
set_option maxHeartbeats 8000000 in
set_option maxRecDepth 100000 in
theorem fluxionref01_Sub.calls (k : Nat) (A0 : Option Addr) (c0 : Nat) (l0 : List Int) (A1 : Option Addr) (c1 : Nat) (l1 : List Int) (r1 : List Int) (r2 : Bool) (w : World) (hr0 : Kd.C (Kd.int .i64) w A0 l0.length l0) (hc0 : l0.length ≤ c0) (hr1 : Kd.C (Kd.int .i64) w A1 l1.length l1) (hc1 : l1.length ≤ c1) (h : fluxionref01_Sub.f k l0 l1 = some (r1, r2)) :
    Calls Tryz.prog 104 #[.slice A0 l0.length c0, .slice A1 l1.length c1] w fun e w' => ∃ v0_ : Value, e = .returned (.tuple #[v0_, .bool r2]) ∧ Kd.R (Kd.int .i64) 3 w' w.heap.size (fun _ => True) v0_ r1 ∧ Below w.heap.size w w' := by
  have HR0 := Aside0.mk hr0
  have HC0 := Aside0.mk hc0
  clear hr0 hc0
  have HR1 := Aside0.mk hr1
  have HC1 := Aside0.mk hc1
  clear hr1 hc1
  have HB := Aside0.mk (Below.refl w.heap.size w)
  have H : ((fluxionref01_Cmp.f k l0 l1).bind fun t379 => (if t379 < 0 then (some (([] : List Int), false)) else (fluxionref01_Sub.l0 k l0 l1 ([] : List Int) 0 0))) = some (r1, r2) := h
  clear h
  replace H := Option.bind_eq_some_iff.mp H
  obtain ⟨t379, A30, H⟩ := H
  try dsimp only at H
  have A3 := Aside0.mk A30
  clear A30
  by_cases c4 : t379 < 0
  · rw [if_pos c4] at H
    have c4b0 : decide (t379 < 0) = true := decide_eq_true c4
    clear c4
    simp only [Option.some.injEq, Prod.mk.injEq] at H
    obtain ⟨rfl, rfl⟩ := H
    go_enter Tryz.func104, Tryz.ntmps104
    go_wp2_with (first | (go_at_call 22; (with_reducible refine (fluxionref01_Cmp.calls k _ _ l0 _ _ l1 t379 _ ?side1 ?side2 ?side3 ?side4 A3.out).mono ?_); (case side1 => repeat (first | exact HR0.out | (with_reducible refine Kd.C_alloc ?_ _) | (with_reducible refine Kd.C_drewN ?_ _) | (with_reducible refine Kd.C_drew ?_))); (case side2 => exact HC0.out); (case side3 => repeat (first | exact HR1.out | (with_reducible refine Kd.C_alloc ?_ _) | (with_reducible refine Kd.C_drewN ?_ _) | (with_reducible refine Kd.C_drew ?_))); (case side4 => exact HC1.out); rintro e w' ⟨rfl, ⟨nd, rfl⟩⟩; (try first | exact ⟨rfl, _, World.drewN_drewN _ _ _⟩ | exact ⟨rfl, _, Eq.trans (World.drewN_drewN _ _ _) (congrArg (World.drewN _) (Nat.add_assoc _ _ _))⟩)))
    repeat (go_quiet (first | (go_at_call 22; (with_reducible refine (fluxionref01_Cmp.calls k _ _ l0 _ _ l1 t379 _ ?side1 ?side2 ?side3 ?side4 A3.out).mono ?_); (case side1 => repeat (first | exact HR0.out | (with_reducible refine Kd.C_alloc ?_ _) | (with_reducible refine Kd.C_drewN ?_ _) | (with_reducible refine Kd.C_drew ?_))); (case side2 => exact HC0.out); (case side3 => repeat (first | exact HR1.out | (with_reducible refine Kd.C_alloc ?_ _) | (with_reducible refine Kd.C_drewN ?_ _) | (with_reducible refine Kd.C_drew ?_))); (case side4 => exact HC1.out); rintro e w' ⟨rfl, ⟨nd, rfl⟩⟩; (try first | exact ⟨rfl, _, World.drewN_drewN _ _ _⟩ | exact ⟨rfl, _, Eq.trans (World.drewN_drewN _ _ _) (congrArg (World.drewN _) (Nat.add_assoc _ _ _))⟩))); try go_wp2_with (first | (go_at_call 22; (with_reducible refine (fluxionref01_Cmp.calls k _ _ l0 _ _ l1 t379 _ ?side1 ?side2 ?side3 ?side4 A3.out).mono ?_); (case side1 => repeat (first | exact HR0.out | (with_reducible refine Kd.C_alloc ?_ _) | (with_reducible refine Kd.C_drewN ?_ _) | (with_reducible refine Kd.C_drew ?_))); (case side2 => exact HC0.out); (case side3 => repeat (first | exact HR1.out | (with_reducible refine Kd.C_alloc ?_ _) | (with_reducible refine Kd.C_drewN ?_ _) | (with_reducible refine Kd.C_drew ?_))); (case side4 => exact HC1.out); rintro e w' ⟨rfl, ⟨nd, rfl⟩⟩; (try first | exact ⟨rfl, _, World.drewN_drewN _ _ _⟩ | exact ⟨rfl, _, Eq.trans (World.drewN_drewN _ _ _) (congrArg (World.drewN _) (Nat.add_assoc _ _ _))⟩))))
    go_ret2
    exact ⟨_, by first | rfl | (simp [errW_none, errW_some] <;> rfl) | (simp [*, errW_none, errW_some] <;> rfl), by first | exact Kd.R_nil _ _ _ _ _ | exact Kd.N_nil _ _ _ _ _ | exact Kd.V_nil _ _ _ _ _ | exact Kd.Q_nil _ _ _ _ _ | exact Kd.S_nil _ _ _ _ _, by repeat (first | (with_reducible first | exact HB.out | apply below_alloc | apply pw_below_drewN | apply below_drew1) | exact HB.out)⟩
  · rw [if_neg c4] at H
    have c4b0 : decide (t379 < 0) = false := decide_eq_false c4
    clear c4
    have H' := Aside0.mk H
    clear H
    go_enter Tryz.func104, Tryz.ntmps104
    go_wp2_with (first | (go_at_call 22; (with_reducible refine (fluxionref01_Cmp.calls k _ _ l0 _ _ l1 t379 _ ?side1 ?side2 ?side3 ?side4 A3.out).mono ?_); (case side1 => repeat (first | exact HR0.out | (with_reducible refine Kd.C_alloc ?_ _) | (with_reducible refine Kd.C_drewN ?_ _) | (with_reducible refine Kd.C_drew ?_))); (case side2 => exact HC0.out); (case side3 => repeat (first | exact HR1.out | (with_reducible refine Kd.C_alloc ?_ _) | (with_reducible refine Kd.C_drewN ?_ _) | (with_reducible refine Kd.C_drew ?_))); (case side4 => exact HC1.out); rintro e w' ⟨rfl, ⟨nd, rfl⟩⟩; (try first | exact ⟨rfl, _, World.drewN_drewN _ _ _⟩ | exact ⟨rfl, _, Eq.trans (World.drewN_drewN _ _ _) (congrArg (World.drewN _) (Nat.add_assoc _ _ _))⟩)))
    repeat (go_quiet (first | (go_at_call 22; (with_reducible refine (fluxionref01_Cmp.calls k _ _ l0 _ _ l1 t379 _ ?side1 ?side2 ?side3 ?side4 A3.out).mono ?_); (case side1 => repeat (first | exact HR0.out | (with_reducible refine Kd.C_alloc ?_ _) | (with_reducible refine Kd.C_drewN ?_ _) | (with_reducible refine Kd.C_drew ?_))); (case side2 => exact HC0.out); (case side3 => repeat (first | exact HR1.out | (with_reducible refine Kd.C_alloc ?_ _) | (with_reducible refine Kd.C_drewN ?_ _) | (with_reducible refine Kd.C_drew ?_))); (case side4 => exact HC1.out); rintro e w' ⟨rfl, ⟨nd, rfl⟩⟩; (try first | exact ⟨rfl, _, World.drewN_drewN _ _ _⟩ | exact ⟨rfl, _, Eq.trans (World.drewN_drewN _ _ _) (congrArg (World.drewN _) (Nat.add_assoc _ _ _))⟩))); try go_wp2_with (first | (go_at_call 22; (with_reducible refine (fluxionref01_Cmp.calls k _ _ l0 _ _ l1 t379 _ ?side1 ?side2 ?side3 ?side4 A3.out).mono ?_); (case side1 => repeat (first | exact HR0.out | (with_reducible refine Kd.C_alloc ?_ _) | (with_reducible refine Kd.C_drewN ?_ _) | (with_reducible refine Kd.C_drew ?_))); (case side2 => exact HC0.out); (case side3 => repeat (first | exact HR1.out | (with_reducible refine Kd.C_alloc ?_ _) | (with_reducible refine Kd.C_drewN ?_ _) | (with_reducible refine Kd.C_drew ?_))); (case side4 => exact HC1.out); rintro e w' ⟨rfl, ⟨nd, rfl⟩⟩; (try first | exact ⟨rfl, _, World.drewN_drewN _ _ _⟩ | exact ⟨rfl, _, Eq.trans (World.drewN_drewN _ _ _) (congrArg (World.drewN _) (Nat.add_assoc _ _ _))⟩))))
    go_loopg [6, 7, 8] k (fun kq v6 v7 v8 w' => ∃ (x6_1 : List Int) (x7_1 : Int) (x8_1 : Int), v7 = .int .i64 x7_1 ∧ v8 = .int .i64 x8_1 ∧ Aside0 (fluxionref01_Sub.l0 kq l0 l1 x6_1 x7_1 x8_1 = some (r1, r2)) ∧ Aside0 (kq ≤ k) ∧ Aside0 (Kd.R (Kd.int .i64) 3 w' w.heap.size (fun _ => True) v6 x6_1) ∧ Aside0 (Below w.heap.size w w'))
    case atStart => exact ⟨(([] : List Int)), (0), (0), (by first | rfl | (simp; done) | (simp [*]; done)), (by first | rfl | (simp; done) | (simp [*]; done)), H', ⟨Nat.le_refl _⟩, ⟨by first | exact Kd.R_nil _ _ _ _ _ | exact Kd.N_nil _ _ _ _ _ | exact Kd.V_nil _ _ _ _ _ | exact Kd.Q_nil _ _ _ _ _ | exact Kd.S_nil _ _ _ _ _⟩, ⟨by repeat (first | (with_reducible first | exact HB.out | apply below_alloc | apply pw_below_drewN | apply below_drew1) | exact HB.out)⟩⟩
    case round =>
      clear H'
      try clear c1
      try clear p2
      try clear c4
      try clear c4b0
      obtain ⟨x6_1, x7_1, x8_1, rfl, rfl, HA, HK1, HO_6, HB⟩ := hrel
      cases gk with
      | zero => exact absurd HA.out (by simp [fluxionref01_Sub.l0])
      | succ k1 =>
        have H := HA.out
        clear HA
        simp only [fluxionref01_Sub.l0] at H
        by_cases c5 : x8_1 < (l0.length : Int)
        · rw [if_pos c5] at H
          have c5b0 : decide (x8_1 < (l0.length : Int)) = true := decide_eq_true c5
          clear c5
          by_cases c6 : 0 ≤ x8_1
          · rw [if_pos c6] at H
            have c6b0 : decide (0 ≤ x8_1) = true := decide_eq_true c6
            clear c6
            replace H := Option.bind_eq_some_iff.mp H
            obtain ⟨t381, A70, H⟩ := H
            try dsimp only at H
            have A7 := Aside0.mk A70
            clear A70
            by_cases c8 : (wrap64 ((wrap64 ((rd l0 x8_1) - t381)) - x7_1)) < 0
            · rw [if_pos c8] at H
              have c8b0 : decide ((wrap64 ((wrap64 ((rd l0 x8_1) - t381)) - x7_1)) < 0) = true := decide_eq_true c8
              clear c8
              by_cases c9 : x6_1.length < 17592186044416
              · rw [if_pos c9] at H
                have LMc9 := Aside0.mk c9
                clear c9
                obtain ⟨y382, hy382⟩ : ∃ y_ : List Int, y_ = (x6_1 ++ [wrap64 ((wrap64 ((wrap64 ((rd l0 x8_1) - t381)) - x7_1)) + 10000)]) := ⟨_, rfl⟩
                replace H : (fluxionref01_Sub.l0 k1 l0 l1 y382 1 (wrap64 (x8_1 + 1))) = some (r1, r2) := by first | (rw [hy382]; with_reducible exact H) | (have H2_ := (Option.bind_some _ _).symm.trans H; rw [hy382]; with_reducible exact H2_) | (have H2_ := (Option.bind_some _ _).symm.trans H; with_reducible exact H2_) | with_reducible exact H | (rw [hy382]; exact H) | exact H
                have Ny382 := Aside0.mk hy382
                clear hy382
                have H' := Aside0.mk H
                clear H
                have p380 : 0 ≤ (x8_1 : Int) := of_decide_eq_true (by first | (with_reducible assumption) | assumption)
                have q380 : x8_1 < (l0.length : Int) := of_decide_eq_true (by first | (with_reducible assumption) | assumption)
                obtain ⟨ad380, e380, hx380_0⟩ := Kd.at_int HR0.out x8_1 p380 q380
                cases e380
                replace hx380_0 := (HB.out.cell (World.block_lt_of_cell? w _ hx380_0)).trans hx380_0
                replace p380 := eq_true p380
                replace q380 := eq_true q380
                go_wp2_with (first | (go_at_call 89; (with_reducible refine (fluxionref01_digit.calls _ _ l1 x8_1 t381 _ ?side1 ?side2 A7.out).mono ?_); (case side1 => repeat (first | exact (Kd.C_below HR1.out HB.out) | (with_reducible refine Kd.C_alloc ?_ _) | (with_reducible refine Kd.C_drewN ?_ _) | (with_reducible refine Kd.C_drew ?_))); (case side2 => exact HC1.out); rintro e w' ⟨rfl, ⟨nd, rfl⟩⟩; (try first | exact ⟨rfl, _, World.drewN_drewN _ _ _⟩ | exact ⟨rfl, _, Eq.trans (World.drewN_drewN _ _ _) (congrArg (World.drewN _) (Nat.add_assoc _ _ _))⟩)) | ((with_reducible refine gate_builtin (b := .append) (xs := #[.tmp 34, .tmp 36]) rfl ?_); at_builtin; refine Kd.R_append (Kd.int .i64) (w0 := w) w.heap.size rfl (.tmp 34) (.tmp 36) 30 3 (.int .i64 0) 8 rfl Tryz.underlying30 info3 rfl (by decide) (by omega) u6 x6_1 (wrap64 ((wrap64 ((wrap64 ((rd l0 x8_1) - t381)) - x7_1)) + 10000)) [.int .i64 (wrap64 ((wrap64 ((wrap64 ((rd l0 x8_1) - t381)) - x7_1)) + 10000))] (fun _ => True) (fun _ => False) rfl rfl ?aP (fun _ hk => hk.elim) ?aF ?aO ?aB ?aS ?aL ?_; (case aP => exact rfl); (case aB => exact (by repeat (first | (with_reducible first | exact HB.out | apply below_alloc | apply pw_below_drewN | apply below_drew1) | exact HB.out))); (case aF => exact (fun _ _ => trivial)); (case aO => exact (by exact HO_6.out)); (case aS => exact (below_size (by repeat (first | (with_reducible first | exact HB.out | apply below_alloc | apply pw_below_drewN | apply below_drew1) | exact HB.out)))); (case aL => have := LMc9.out; omega); intro v383 w10 ho hb hg hat; rw [← Ny382.out] at ho; have n0_ := Aside0.mk (hb); have n1_ := Aside0.mk (ho); clear HB; clear HO_6; have HB := n0_; have HO384 := n1_; clear n0_ n1_; clear ho hb hg hat))
                repeat (go_quiet (first | (go_at_call 89; (with_reducible refine (fluxionref01_digit.calls _ _ l1 x8_1 t381 _ ?side1 ?side2 A7.out).mono ?_); (case side1 => repeat (first | exact (Kd.C_below HR1.out HB.out) | (with_reducible refine Kd.C_alloc ?_ _) | (with_reducible refine Kd.C_drewN ?_ _) | (with_reducible refine Kd.C_drew ?_))); (case side2 => exact HC1.out); rintro e w' ⟨rfl, ⟨nd, rfl⟩⟩; (try first | exact ⟨rfl, _, World.drewN_drewN _ _ _⟩ | exact ⟨rfl, _, Eq.trans (World.drewN_drewN _ _ _) (congrArg (World.drewN _) (Nat.add_assoc _ _ _))⟩)) | ((with_reducible refine gate_builtin (b := .append) (xs := #[.tmp 34, .tmp 36]) rfl ?_); at_builtin; refine Kd.R_append (Kd.int .i64) (w0 := w) w.heap.size rfl (.tmp 34) (.tmp 36) 30 3 (.int .i64 0) 8 rfl Tryz.underlying30 info3 rfl (by decide) (by omega) u6 x6_1 (wrap64 ((wrap64 ((wrap64 ((rd l0 x8_1) - t381)) - x7_1)) + 10000)) [.int .i64 (wrap64 ((wrap64 ((wrap64 ((rd l0 x8_1) - t381)) - x7_1)) + 10000))] (fun _ => True) (fun _ => False) rfl rfl ?aP (fun _ hk => hk.elim) ?aF ?aO ?aB ?aS ?aL ?_; (case aP => exact rfl); (case aB => exact (by repeat (first | (with_reducible first | exact HB.out | apply below_alloc | apply pw_below_drewN | apply below_drew1) | exact HB.out))); (case aF => exact (fun _ _ => trivial)); (case aO => exact (by exact HO_6.out)); (case aS => exact (below_size (by repeat (first | (with_reducible first | exact HB.out | apply below_alloc | apply pw_below_drewN | apply below_drew1) | exact HB.out)))); (case aL => have := LMc9.out; omega); intro v383 w10 ho hb hg hat; rw [← Ny382.out] at ho; have n0_ := Aside0.mk (hb); have n1_ := Aside0.mk (ho); clear HB; clear HO_6; have HB := n0_; have HO384 := n1_; clear n0_ n1_; clear ho hb hg hat)); try go_wp2_with (first | (go_at_call 89; (with_reducible refine (fluxionref01_digit.calls _ _ l1 x8_1 t381 _ ?side1 ?side2 A7.out).mono ?_); (case side1 => repeat (first | exact (Kd.C_below HR1.out HB.out) | (with_reducible refine Kd.C_alloc ?_ _) | (with_reducible refine Kd.C_drewN ?_ _) | (with_reducible refine Kd.C_drew ?_))); (case side2 => exact HC1.out); rintro e w' ⟨rfl, ⟨nd, rfl⟩⟩; (try first | exact ⟨rfl, _, World.drewN_drewN _ _ _⟩ | exact ⟨rfl, _, Eq.trans (World.drewN_drewN _ _ _) (congrArg (World.drewN _) (Nat.add_assoc _ _ _))⟩)) | ((with_reducible refine gate_builtin (b := .append) (xs := #[.tmp 34, .tmp 36]) rfl ?_); at_builtin; refine Kd.R_append (Kd.int .i64) (w0 := w) w.heap.size rfl (.tmp 34) (.tmp 36) 30 3 (.int .i64 0) 8 rfl Tryz.underlying30 info3 rfl (by decide) (by omega) u6 x6_1 (wrap64 ((wrap64 ((wrap64 ((rd l0 x8_1) - t381)) - x7_1)) + 10000)) [.int .i64 (wrap64 ((wrap64 ((wrap64 ((rd l0 x8_1) - t381)) - x7_1)) + 10000))] (fun _ => True) (fun _ => False) rfl rfl ?aP (fun _ hk => hk.elim) ?aF ?aO ?aB ?aS ?aL ?_; (case aP => exact rfl); (case aB => exact (by repeat (first | (with_reducible first | exact HB.out | apply below_alloc | apply pw_below_drewN | apply below_drew1) | exact HB.out))); (case aF => exact (fun _ _ => trivial)); (case aO => exact (by exact HO_6.out)); (case aS => exact (below_size (by repeat (first | (with_reducible first | exact HB.out | apply below_alloc | apply pw_below_drewN | apply below_drew1) | exact HB.out)))); (case aL => have := LMc9.out; omega); intro v383 w10 ho hb hg hat; rw [← Ny382.out] at ho; have n0_ := Aside0.mk (hb); have n1_ := Aside0.mk (ho); clear HB; clear HO_6; have HB := n0_; have HO384 := n1_; clear n0_ n1_; clear ho hb hg hat)))
                go_roundg k1
                case measure => have := HK1.out; omega
                case rel => exact ⟨(y382), (1), (wrap64 (x8_1 + 1)), (by first | rfl | (simp; done) | (simp [*]; done)), (by first | rfl | (simp; done) | (simp [*]; done)), H', ⟨by have := HK1.out; omega⟩, ⟨by exact HO384.out⟩, ⟨by repeat (first | (with_reducible first | exact HB.out | apply below_alloc | apply pw_below_drewN | apply below_drew1) | exact HB.out)⟩⟩
              · rw [if_neg c9] at H
                exact absurd H (by simp)
            · rw [if_neg c8] at H
              have c8b0 : decide ((wrap64 ((wrap64 ((rd l0 x8_1) - t381)) - x7_1)) < 0) = false := decide_eq_false c8
              clear c8
              by_cases c11 : x6_1.length < 17592186044416
              · rw [if_pos c11] at H
                have LMc11 := Aside0.mk c11
                clear c11
                obtain ⟨y385, hy385⟩ : ∃ y_ : List Int, y_ = (x6_1 ++ [wrap64 ((wrap64 ((rd l0 x8_1) - t381)) - x7_1)]) := ⟨_, rfl⟩
                replace H : (fluxionref01_Sub.l0 k1 l0 l1 y385 0 (wrap64 (x8_1 + 1))) = some (r1, r2) := by first | (rw [hy385]; with_reducible exact H) | (have H2_ := (Option.bind_some _ _).symm.trans H; rw [hy385]; with_reducible exact H2_) | (have H2_ := (Option.bind_some _ _).symm.trans H; with_reducible exact H2_) | with_reducible exact H | (rw [hy385]; exact H) | exact H
                have Ny385 := Aside0.mk hy385
                clear hy385
                have H' := Aside0.mk H
                clear H
                have p380 : 0 ≤ (x8_1 : Int) := of_decide_eq_true (by first | (with_reducible assumption) | assumption)
                have q380 : x8_1 < (l0.length : Int) := of_decide_eq_true (by first | (with_reducible assumption) | assumption)
                obtain ⟨ad380, e380, hx380_0⟩ := Kd.at_int HR0.out x8_1 p380 q380
                cases e380
                replace hx380_0 := (HB.out.cell (World.block_lt_of_cell? w _ hx380_0)).trans hx380_0
                replace p380 := eq_true p380
                replace q380 := eq_true q380
                go_wp2_with (first | (go_at_call 89; (with_reducible refine (fluxionref01_digit.calls _ _ l1 x8_1 t381 _ ?side1 ?side2 A7.out).mono ?_); (case side1 => repeat (first | exact (Kd.C_below HR1.out HB.out) | (with_reducible refine Kd.C_alloc ?_ _) | (with_reducible refine Kd.C_drewN ?_ _) | (with_reducible refine Kd.C_drew ?_))); (case side2 => exact HC1.out); rintro e w' ⟨rfl, ⟨nd, rfl⟩⟩; (try first | exact ⟨rfl, _, World.drewN_drewN _ _ _⟩ | exact ⟨rfl, _, Eq.trans (World.drewN_drewN _ _ _) (congrArg (World.drewN _) (Nat.add_assoc _ _ _))⟩)) | ((with_reducible refine gate_builtin (b := .append) (xs := #[.tmp 34, .tmp 36]) rfl ?_); at_builtin; refine Kd.R_append (Kd.int .i64) (w0 := w) w.heap.size rfl (.tmp 34) (.tmp 36) 30 3 (.int .i64 0) 8 rfl Tryz.underlying30 info3 rfl (by decide) (by omega) u6 x6_1 (wrap64 ((wrap64 ((rd l0 x8_1) - t381)) - x7_1)) [.int .i64 (wrap64 ((wrap64 ((rd l0 x8_1) - t381)) - x7_1))] (fun _ => True) (fun _ => False) rfl rfl ?aP (fun _ hk => hk.elim) ?aF ?aO ?aB ?aS ?aL ?_; (case aP => exact rfl); (case aB => exact (by repeat (first | (with_reducible first | exact HB.out | apply below_alloc | apply pw_below_drewN | apply below_drew1) | exact HB.out))); (case aF => exact (fun _ _ => trivial)); (case aO => exact (by exact HO_6.out)); (case aS => exact (below_size (by repeat (first | (with_reducible first | exact HB.out | apply below_alloc | apply pw_below_drewN | apply below_drew1) | exact HB.out)))); (case aL => have := LMc11.out; omega); intro v386 w12 ho hb hg hat; rw [← Ny385.out] at ho; have n0_ := Aside0.mk (hb); have n1_ := Aside0.mk (ho); clear HB; clear HO_6; have HB := n0_; have HO387 := n1_; clear n0_ n1_; clear ho hb hg hat))
                repeat (go_quiet (first | (go_at_call 89; (with_reducible refine (fluxionref01_digit.calls _ _ l1 x8_1 t381 _ ?side1 ?side2 A7.out).mono ?_); (case side1 => repeat (first | exact (Kd.C_below HR1.out HB.out) | (with_reducible refine Kd.C_alloc ?_ _) | (with_reducible refine Kd.C_drewN ?_ _) | (with_reducible refine Kd.C_drew ?_))); (case side2 => exact HC1.out); rintro e w' ⟨rfl, ⟨nd, rfl⟩⟩; (try first | exact ⟨rfl, _, World.drewN_drewN _ _ _⟩ | exact ⟨rfl, _, Eq.trans (World.drewN_drewN _ _ _) (congrArg (World.drewN _) (Nat.add_assoc _ _ _))⟩)) | ((with_reducible refine gate_builtin (b := .append) (xs := #[.tmp 34, .tmp 36]) rfl ?_); at_builtin; refine Kd.R_append (Kd.int .i64) (w0 := w) w.heap.size rfl (.tmp 34) (.tmp 36) 30 3 (.int .i64 0) 8 rfl Tryz.underlying30 info3 rfl (by decide) (by omega) u6 x6_1 (wrap64 ((wrap64 ((rd l0 x8_1) - t381)) - x7_1)) [.int .i64 (wrap64 ((wrap64 ((rd l0 x8_1) - t381)) - x7_1))] (fun _ => True) (fun _ => False) rfl rfl ?aP (fun _ hk => hk.elim) ?aF ?aO ?aB ?aS ?aL ?_; (case aP => exact rfl); (case aB => exact (by repeat (first | (with_reducible first | exact HB.out | apply below_alloc | apply pw_below_drewN | apply below_drew1) | exact HB.out))); (case aF => exact (fun _ _ => trivial)); (case aO => exact (by exact HO_6.out)); (case aS => exact (below_size (by repeat (first | (with_reducible first | exact HB.out | apply below_alloc | apply pw_below_drewN | apply below_drew1) | exact HB.out)))); (case aL => have := LMc11.out; omega); intro v386 w12 ho hb hg hat; rw [← Ny385.out] at ho; have n0_ := Aside0.mk (hb); have n1_ := Aside0.mk (ho); clear HB; clear HO_6; have HB := n0_; have HO387 := n1_; clear n0_ n1_; clear ho hb hg hat)); try go_wp2_with (first | (go_at_call 89; (with_reducible refine (fluxionref01_digit.calls _ _ l1 x8_1 t381 _ ?side1 ?side2 A7.out).mono ?_); (case side1 => repeat (first | exact (Kd.C_below HR1.out HB.out) | (with_reducible refine Kd.C_alloc ?_ _) | (with_reducible refine Kd.C_drewN ?_ _) | (with_reducible refine Kd.C_drew ?_))); (case side2 => exact HC1.out); rintro e w' ⟨rfl, ⟨nd, rfl⟩⟩; (try first | exact ⟨rfl, _, World.drewN_drewN _ _ _⟩ | exact ⟨rfl, _, Eq.trans (World.drewN_drewN _ _ _) (congrArg (World.drewN _) (Nat.add_assoc _ _ _))⟩)) | ((with_reducible refine gate_builtin (b := .append) (xs := #[.tmp 34, .tmp 36]) rfl ?_); at_builtin; refine Kd.R_append (Kd.int .i64) (w0 := w) w.heap.size rfl (.tmp 34) (.tmp 36) 30 3 (.int .i64 0) 8 rfl Tryz.underlying30 info3 rfl (by decide) (by omega) u6 x6_1 (wrap64 ((wrap64 ((rd l0 x8_1) - t381)) - x7_1)) [.int .i64 (wrap64 ((wrap64 ((rd l0 x8_1) - t381)) - x7_1))] (fun _ => True) (fun _ => False) rfl rfl ?aP (fun _ hk => hk.elim) ?aF ?aO ?aB ?aS ?aL ?_; (case aP => exact rfl); (case aB => exact (by repeat (first | (with_reducible first | exact HB.out | apply below_alloc | apply pw_below_drewN | apply below_drew1) | exact HB.out))); (case aF => exact (fun _ _ => trivial)); (case aO => exact (by exact HO_6.out)); (case aS => exact (below_size (by repeat (first | (with_reducible first | exact HB.out | apply below_alloc | apply pw_below_drewN | apply below_drew1) | exact HB.out)))); (case aL => have := LMc11.out; omega); intro v386 w12 ho hb hg hat; rw [← Ny385.out] at ho; have n0_ := Aside0.mk (hb); have n1_ := Aside0.mk (ho); clear HB; clear HO_6; have HB := n0_; have HO387 := n1_; clear n0_ n1_; clear ho hb hg hat)))
                go_roundg k1
                case measure => have := HK1.out; omega
                case rel => exact ⟨(y385), (0), (wrap64 (x8_1 + 1)), (by first | rfl | (simp; done) | (simp [*]; done)), (by first | rfl | (simp; done) | (simp [*]; done)), H', ⟨by have := HK1.out; omega⟩, ⟨by exact HO387.out⟩, ⟨by repeat (first | (with_reducible first | exact HB.out | apply below_alloc | apply pw_below_drewN | apply below_drew1) | exact HB.out)⟩⟩
              · rw [if_neg c11] at H
                exact absurd H (by simp)
          · rw [if_neg c6] at H
            exact absurd H (by simp)
        · rw [if_neg c5] at H
          have c5b0 : decide (x8_1 < (l0.length : Int)) = false := decide_eq_false c5
          clear c5
          replace H := Option.bind_eq_some_iff.mp H
          obtain ⟨t388, A130, H⟩ := H
          try dsimp only at H
          have A13 := Aside0.mk A130
          clear A130
          simp only [Option.some.injEq, Prod.mk.injEq] at H
          obtain ⟨rfl, rfl⟩ := H
          obtain ⟨Ao14, co14, eo14⟩ := Kd.R_slice HO_6.out
          subst eo14
          go_wp2_with (first | (go_at_call 88; (with_reducible refine (fluxionref01_trim.calls k1 (fun k_ => some k_ = (.slice Ao14 x6_1.length co14 : Value).ownBlock) (.slice Ao14 x6_1.length co14) x6_1 t388 w _ ?side1 ?side2 A13.out).mono ?_); (case side1 => repeat (first | (with_reducible first | exact HB.out | apply below_alloc | apply pw_below_drewN | apply below_drew1) | exact HB.out)); (case side2 => exact Kd.R_tight rfl HO_6.out); rintro e w15 ⟨v389, rfl, ho0, hb, hkp⟩; have n0_ := Aside0.mk (Kd.R_mono (ok' := fun k_ => True) ho0 (fun k_ hk_ => trivial)); have n1_ := Aside0.mk (hb); clear HB; clear HO_6; have HO390 := n0_; have HB := n1_; clear n0_ n1_; (try clear hb); (try clear hkp); (try clear ho0)))
          repeat (go_quiet (first | (go_at_call 88; (with_reducible refine (fluxionref01_trim.calls k1 (fun k_ => some k_ = (.slice Ao14 x6_1.length co14 : Value).ownBlock) (.slice Ao14 x6_1.length co14) x6_1 t388 w _ ?side1 ?side2 A13.out).mono ?_); (case side1 => repeat (first | (with_reducible first | exact HB.out | apply below_alloc | apply pw_below_drewN | apply below_drew1) | exact HB.out)); (case side2 => exact Kd.R_tight rfl HO_6.out); rintro e w15 ⟨v389, rfl, ho0, hb, hkp⟩; have n0_ := Aside0.mk (Kd.R_mono (ok' := fun k_ => True) ho0 (fun k_ hk_ => trivial)); have n1_ := Aside0.mk (hb); clear HB; clear HO_6; have HO390 := n0_; have HB := n1_; clear n0_ n1_; (try clear hb); (try clear hkp); (try clear ho0))); try go_wp2_with (first | (go_at_call 88; (with_reducible refine (fluxionref01_trim.calls k1 (fun k_ => some k_ = (.slice Ao14 x6_1.length co14 : Value).ownBlock) (.slice Ao14 x6_1.length co14) x6_1 t388 w _ ?side1 ?side2 A13.out).mono ?_); (case side1 => repeat (first | (with_reducible first | exact HB.out | apply below_alloc | apply pw_below_drewN | apply below_drew1) | exact HB.out)); (case side2 => exact Kd.R_tight rfl HO_6.out); rintro e w15 ⟨v389, rfl, ho0, hb, hkp⟩; have n0_ := Aside0.mk (Kd.R_mono (ok' := fun k_ => True) ho0 (fun k_ hk_ => trivial)); have n1_ := Aside0.mk (hb); clear HB; clear HO_6; have HO390 := n0_; have HB := n1_; clear n0_ n1_; (try clear hb); (try clear hkp); (try clear ho0))))
          go_ret2
          exact ⟨_, by first | rfl | (simp [errW_none, errW_some] <;> rfl) | (simp [*, errW_none, errW_some] <;> rfl), by exact HO390.out, by repeat (first | (with_reducible first | exact HB.out | apply below_alloc | apply pw_below_drewN | apply below_drew1) | exact HB.out)⟩

def fluxionref02_trim.l0 : Nat → List Int → Int → Option (List Int)
  | 0, _, _ => none
  | k + 1, x0, x3 => if x3 > 0 then (if 0 ≤ (wrap64 (x3 - 1)) then (if (wrap64 (x3 - 1)) < (x0.length : Int) then (if (rd x0 (wrap64 (x3 - 1))) = 0 then (fluxionref02_trim.l0 k x0 (wrap64 (x3 - 1))) else (if 0 ≤ x3 then (if x3 ≤ (x0.length : Int) then (some (x0.take (x3 : Int).toNat)) else (none)) else (none))) else (none)) else (none)) else (if 0 ≤ x3 then (if x3 ≤ (x0.length : Int) then (some (x0.take (x3 : Int).toNat)) else (none)) else (none))
def fluxionref02_trim.f (k : Nat) (l0 : List Int) : Option (List Int) := fluxionref02_trim.l0 k l0 (l0.length : Int)
set_option maxHeartbeats 8000000 in
set_option maxRecDepth 100000 in
theorem fluxionref02_trim.calls (k : Nat) (P0_ : Nat → Prop) (u9000_ : Value) (l0 : List Int) (r : List Int) (w0 w : World) (hB : Below w0.heap.size w0 w) (ho0 : Kd.R (Kd.int .i64) 3 w w0.heap.size P0_ u9000_ l0) (h : fluxionref02_trim.f k l0 = some r) :
    Calls Tryz.prog 102 #[u9000_] w fun e w' => ∃ v0_ : Value, e = .returned (v0_) ∧ Kd.R (Kd.int .i64) 3 w' w0.heap.size (fun k_ => (P0_ k_ ∨ w.heap.size ≤ k_)) v0_ r ∧ Below w0.heap.size w0 w' ∧ Kept w w' (fun k_ => P0_ k_) := by
  have HO0 := Aside0.mk (show Kd.R (Kd.int .i64) 3 w w0.heap.size (fun k_ => (P0_ k_ ∨ w.heap.size ≤ k_)) u9000_ l0 from Kd.R_mono ho0 (fun k_ hk => (.inl hk)))
  have HK := Aside0.mk (Kept.refl w (fun k_ => P0_ k_))
  have HW0 := Aside0.mk hB.size
  have HB := Aside0.mk hB
  clear hB
  have H : (fluxionref02_trim.l0 k l0 (l0.length : Int)) = some r := h
  clear h
  have H' := Aside0.mk H
  clear H
  obtain ⟨Ao2, co2, eo2⟩ := Kd.R_slice HO0.out
  subst eo2
  go_enter Tryz.func102, Tryz.ntmps102
  go_wp2
  go_loopg [3] k (fun kq v3 w' => ∃ (x3_1 : Int), v3 = .int .i64 x3_1 ∧ Aside0 (fluxionref02_trim.l0 kq l0 x3_1 = some r) ∧ Aside0 (kq ≤ k) ∧ Aside0 (Kd.R (Kd.int .i64) 3 w' w0.heap.size (fun k_ => (P0_ k_ ∨ w.heap.size ≤ k_)) (.slice Ao2 l0.length co2) l0) ∧ Aside0 (Kept w w' (fun k_ => P0_ k_)) ∧ Aside0 (Below w0.heap.size w0 w'))
  case atStart => exact ⟨((l0.length : Int)), (by first | rfl | (simp; done) | (simp [*]; done)), H', ⟨Nat.le_refl _⟩, ⟨by exact HO0.out⟩, ⟨by repeat (first | (with_reducible first | exact HK.out | apply Kept.alloc | apply Kept.drewN | apply Kept.drew) | exact HK.out)⟩, ⟨by repeat (first | (with_reducible first | exact HB.out | apply below_alloc | apply pw_below_drewN | apply below_drew1) | exact HB.out)⟩⟩
  case round =>
    clear H'
    try clear c1
    try clear p2
    obtain ⟨x3_1, rfl, HA, HK1, HO_0, HK, HB⟩ := hrel
    cases gk with
    | zero => exact absurd HA.out (by simp [fluxionref02_trim.l0])
    | succ k1 =>
      have H := HA.out
      clear HA
      simp only [fluxionref02_trim.l0] at H
      by_cases c3 : x3_1 > 0
      · rw [if_pos c3] at H
        have c3b0 : decide (0 < x3_1) = true := decide_eq_true c3
        clear c3
        obtain ⟨ji4, hji4⟩ : ∃ j_ : Int, (wrap64 (x3_1 - 1)) = j_ := ⟨_, rfl⟩
        first | rewrite [hji4] at H | simp only [hji4] at H
        have hji4w : (IntKind.i64.wrap (x3_1 - 1)) = ji4 := (i64_w _).trans hji4
        by_cases c5 : 0 ≤ (ji4)
        · rw [if_pos c5] at H
          have c5b0 : decide (0 ≤ (ji4)) = true := decide_eq_true c5
          clear c5
          by_cases c6 : (ji4) < (l0.length : Int)
          · rw [if_pos c6] at H
            have c6b0 : decide ((ji4) < (l0.length : Int)) = true := decide_eq_true c6
            clear c6
            by_cases c7 : (rd l0 (ji4)) = 0
            · rw [if_pos c7] at H
              have c7b0 : ((rd l0 (ji4)) == 0) = true := beq_iff_eq.mpr c7
              have c7b1 : ((rd l0 (ji4)) != 0) = false := bne_eq_false_iff_eq.mpr c7
              clear c7
              have H' := Aside0.mk H
              clear H
              have p364 : 0 ≤ ((ji4) : Int) := of_decide_eq_true (by first | (with_reducible assumption) | assumption)
              have q364 : (ji4) < (l0.length : Int) := of_decide_eq_true (by first | (with_reducible assumption) | assumption)
              obtain ⟨ad364, e364, hx364_0⟩ := Kd.at_int (Kd.R_reads' HO_0.out).2.2 (ji4) p364 q364
              cases e364
              replace p364 := eq_true p364
              replace q364 := eq_true q364
              go_wp2
              go_roundg k1
              case measure => have := HK1.out; omega
              case rel => exact ⟨(ji4), (by first | rfl | (simp; done) | (simp only [← hji4] <;> (first | rfl | simp)) | (simp [*]; done)), H', ⟨by have := HK1.out; omega⟩, ⟨by exact HO_0.out⟩, ⟨by repeat (first | (with_reducible first | exact HK.out | apply Kept.alloc | apply Kept.drewN | apply Kept.drew) | exact HK.out)⟩, ⟨by repeat (first | (with_reducible first | exact HB.out | apply below_alloc | apply pw_below_drewN | apply below_drew1) | exact HB.out)⟩⟩
            · rw [if_neg c7] at H
              have c7b0 : ((rd l0 (ji4)) == 0) = false := beq_eq_false_iff_ne.mpr c7
              have c7b1 : ((rd l0 (ji4)) != 0) = true := bne_iff_ne.mpr c7
              by_cases c8 : 0 ≤ x3_1
              · rw [if_pos c8] at H
                have c8b0 := eq_true c8
                have c8b1 : decide (0 ≤ x3_1) = true := decide_eq_true c8
                clear c8
                by_cases c9 : x3_1 ≤ (l0.length : Int)
                · rw [if_pos c9] at H
                  have c9b0 := eq_true c9
                  have c9b1 : decide (x3_1 ≤ (l0.length : Int)) = true := decide_eq_true c9
                  clear c9
                  obtain ⟨y365, hy365⟩ : ∃ y_ : List Int, y_ = (l0.take (x3_1 : Int).toNat) := ⟨_, rfl⟩
                  replace H : (some y365) = some r := by first | (rw [hy365]; with_reducible exact H) | (have H2_ := (Option.bind_some _ _).symm.trans H; rw [hy365]; with_reducible exact H2_) | (have H2_ := (Option.bind_some _ _).symm.trans H; with_reducible exact H2_) | with_reducible exact H | (rw [hy365]; exact H) | exact H
                  have Ny365 := Aside0.mk hy365
                  clear hy365
                  obtain rfl := Option.some.inj H
                  have p364 : 0 ≤ ((ji4) : Int) := of_decide_eq_true (by first | (with_reducible assumption) | assumption)
                  have q364 : (ji4) < (l0.length : Int) := of_decide_eq_true (by first | (with_reducible assumption) | assumption)
                  obtain ⟨ad364, e364, hx364_0⟩ := Kd.at_int (Kd.R_reads' HO_0.out).2.2 (ji4) p364 q364
                  cases e364
                  replace p364 := eq_true p364
                  replace q364 := eq_true q364
                  have q10 : (x3_1 : Int) ≤ ((l0.length : Int) : Int) := of_decide_eq_true (by first | (with_reducible assumption) | assumption)
                  obtain ⟨i010, hi010, _, hsz10, _⟩ := info_parts info3
                  have hcut10 := cut_to (P := Tryz.prog) 30 3 .i64 Tryz.underlying30 hi010 (some ad364) l0.length co2 x3_1 (of_decide_eq_true (by first | (with_reducible assumption) | assumption)) q10 (Kd.R_reads' HO_0.out).2.1
                  have hr10 := Kd.R_take (m := (x3_1 : Int).toNat) HO_0.out (by omega)
                  have hy10 : y365.length = (x3_1 : Int).toNat := (by rw [Ny365.out, List.length_take]; omega)
                  rw [← Ny365.out] at hr10
                  rw [← hy10] at hr10 hcut10
                  clear hy10 hi010 hsz10 HO_0
                  have HO367 := Aside0.mk hr10
                  clear hr10
                  replace q10 := eq_true q10
                  go_wp2
                  go_ret
                  exact ⟨_, by first | rfl | (simp [errW_none, errW_some] <;> rfl) | (simp only [← hji4]; first | rfl | (simp [errW_none, errW_some] <;> rfl)) | (simp [*, errW_none, errW_some] <;> rfl), by exact HO367.out, by repeat (first | (with_reducible first | exact HB.out | apply below_alloc | apply pw_below_drewN | apply below_drew1) | exact HB.out), by repeat (first | (with_reducible first | exact HK.out | apply Kept.alloc | apply Kept.drewN | apply Kept.drew) | exact HK.out)⟩
                · rw [if_neg c9] at H
                  exact absurd H (by simp)
              · rw [if_neg c8] at H
                exact absurd H (by simp)
          · rw [if_neg c6] at H
            exact absurd H (by simp)
        · rw [if_neg c5] at H
          exact absurd H (by simp)
      · rw [if_neg c3] at H
        have c3b0 : decide (0 < x3_1) = false := decide_eq_false c3
        clear c3
        by_cases c11 : 0 ≤ x3_1
        · rw [if_pos c11] at H
          have c11b0 := eq_true c11
          have c11b1 : decide (0 ≤ x3_1) = true := decide_eq_true c11
          clear c11
          by_cases c12 : x3_1 ≤ (l0.length : Int)
          · rw [if_pos c12] at H
            have c12b0 := eq_true c12
            have c12b1 : decide (x3_1 ≤ (l0.length : Int)) = true := decide_eq_true c12
            clear c12
            obtain ⟨y368, hy368⟩ : ∃ y_ : List Int, y_ = (l0.take (x3_1 : Int).toNat) := ⟨_, rfl⟩
            replace H : (some y368) = some r := by first | (rw [hy368]; with_reducible exact H) | (have H2_ := (Option.bind_some _ _).symm.trans H; rw [hy368]; with_reducible exact H2_) | (have H2_ := (Option.bind_some _ _).symm.trans H; with_reducible exact H2_) | with_reducible exact H | (rw [hy368]; exact H) | exact H
            have Ny368 := Aside0.mk hy368
            clear hy368
            obtain rfl := Option.some.inj H
            have q13 : (x3_1 : Int) ≤ ((l0.length : Int) : Int) := of_decide_eq_true (by first | (with_reducible assumption) | assumption)
            obtain ⟨i013, hi013, _, hsz13, _⟩ := info_parts info3
            have hcut13 := cut_to (P := Tryz.prog) 30 3 .i64 Tryz.underlying30 hi013 Ao2 l0.length co2 x3_1 (of_decide_eq_true (by first | (with_reducible assumption) | assumption)) q13 (Kd.R_reads' HO_0.out).2.1
            have hr13 := Kd.R_take (m := (x3_1 : Int).toNat) HO_0.out (by omega)
            have hy13 : y368.length = (x3_1 : Int).toNat := (by rw [Ny368.out, List.length_take]; omega)
            rw [← Ny368.out] at hr13
            rw [← hy13] at hr13 hcut13
            clear hy13 hi013 hsz13 HO_0
            have HO370 := Aside0.mk hr13
            clear hr13
            replace q13 := eq_true q13
            go_wp2
            go_ret
            exact ⟨_, by first | rfl | (simp [errW_none, errW_some] <;> rfl) | (simp [*, errW_none, errW_some] <;> rfl), by exact HO370.out, by repeat (first | (with_reducible first | exact HB.out | apply below_alloc | apply pw_below_drewN | apply below_drew1) | exact HB.out), by repeat (first | (with_reducible first | exact HK.out | apply Kept.alloc | apply Kept.drewN | apply Kept.drew) | exact HK.out)⟩
          · rw [if_neg c12] at H
            exact absurd H (by simp)
        · rw [if_neg c11] at H
          exact absurd H (by simp)

end Go.Proofs.YtpncflaoikeidaaGreatDoor.P
namespace Go.Proofs.YtpncflaoikeidaaGreatDoor.H
open Go.RowKit Go.Proofs.YtpncflaoikeidaaGreatDoorW.PrintWords Go.Proofs.YtpncflaoikeidaaGreatDoorW.PrintLast Go.Proofs.YtpncflaoikeidaaGreatDoorW.PrintMore Go.Proofs.YtpncflaoikeidaaGreatDoor.P
def c4 (n : Nat) : List Int := if h : n = 0 then [] else ((n % 10000 : Nat) : Int) :: c4 (n / 10000)
termination_by n
decreasing_by omega
theorem c4_zero : c4 0 = [] := by rw [c4, dif_pos rfl]
theorem c4_pos {n : Nat} (h : n ≠ 0) : c4 n = ((n % 10000 : Nat) : Int) :: c4 (n / 10000) := by rw [c4, dif_neg h]
def v4 : List Int → Nat
  | [] => 0
  | x :: l => x.toNat + 10000 * v4 l
def ok4 (l : List Int) : Prop := ∀ x ∈ l, 0 ≤ x ∧ x < 10000
theorem ok4_nil : ok4 [] := fun _ h => by cases h
theorem ok4_cons {x : Int} {l : List Int} : ok4 (x :: l) ↔ (0 ≤ x ∧ x < 10000) ∧ ok4 l := by simp [ok4]
theorem ok4_append {l m : List Int} : ok4 (l ++ m) ↔ ok4 l ∧ ok4 m := by
  simp only [ok4, List.mem_append]
  exact ⟨fun h => ⟨fun x hx => h x (.inl hx), fun x hx => h x (.inr hx)⟩, fun h x hx => hx.elim (h.1 x) (h.2 x)⟩
theorem ok4_c4 : ∀ n, ok4 (c4 n) := by
  intro n
  induction n using Nat.strongRecOn with
  | _ n ih =>
    by_cases h : n = 0
    · subst h; rw [c4_zero]; exact ok4_nil
    · rw [c4_pos h, ok4_cons]; exact ⟨by omega, ih _ (by omega)⟩
theorem v4_c4 : ∀ n, v4 (c4 n) = n := by
  intro n
  induction n using Nat.strongRecOn with
  | _ n ih =>
    by_cases h : n = 0
    · subst h; rw [c4_zero]; rfl
    · rw [c4_pos h, v4, ih _ (by omega), Int.toNat_natCast]; omega
theorem v4_append : ∀ (l m : List Int), v4 (l ++ m) = v4 l + 10000 ^ l.length * v4 m
  | [], m => by simp [v4]
  | x :: l, m => by
    rw [List.cons_append, v4, v4, v4_append l m, List.length_cons, Nat.pow_succ, Nat.mul_add, Nat.add_assoc, Nat.mul_comm (10000 ^ l.length) 10000, Nat.mul_assoc]
theorem v4_lt {l : List Int} (hl : ok4 l) : v4 l < 10000 ^ l.length := by
  induction l with
  | nil => simp [v4]
  | cons x l ih =>
    rw [ok4_cons] at hl
    have := ih hl.2
    rw [v4, List.length_cons, Nat.pow_succ]
    have h2 := Nat.mul_le_mul_left 10000 (show v4 l + 1 ≤ 10000 ^ l.length from this)
    rw [Nat.mul_comm (10000 ^ l.length)]
    omega
theorem c4_length_le : ∀ (k n : Nat), n < 10000 ^ k → (c4 n).length ≤ k
  | 0, n, h => by
    have : n = 0 := by simpa using h
    subst this; rw [c4_zero]; exact Nat.le_refl _
  | k + 1, n, h => by
    by_cases h0 : n = 0
    · subst h0; rw [c4_zero]; simp
    · rw [c4_pos h0, List.length_cons]
      have := c4_length_le k (n / 10000) (by rw [Nat.pow_succ] at h; exact Nat.div_lt_of_lt_mul (by rw [Nat.mul_comm]; exact h))
      omega
theorem le_c4_length (k n : Nat) (h : 10000 ^ k ≤ n) : k < (c4 n).length := by
  have h1 := v4_lt (ok4_c4 n)
  rw [v4_c4] at h1
  exact (Nat.pow_lt_pow_iff_right (by decide : 1 < 10000)).1 (Nat.lt_of_le_of_lt h h1)
/-- a row with its noughts at the end left out -/
def top4 : List Int → Nat
  | [] => 0
  | x :: l => if top4 l = 0 then (if x = 0 then 0 else 1) else top4 l + 1
theorem top4_zero {l : List Int} (hl : ok4 l) : top4 l = 0 ↔ v4 l = 0 := by
  induction l with
  | nil => simp [top4, v4]
  | cons x l ih =>
    rw [ok4_cons] at hl
    have ih := ih hl.2
    simp only [top4, v4]
    split
    · rename_i h
      have := ih.1 h
      split
      · rename_i hx; subst hx; simp [this]
      · constructor
        · intro h'; cases h'
        · intro h'; omega
    · rename_i h
      constructor
      · intro h'; omega
      · intro h'; exact absurd (ih.2 (by omega)) h
theorem trim4 {l : List Int} (hl : ok4 l) : l.take (top4 l) = c4 (v4 l) := by
  induction l with
  | nil => simp [top4, v4, c4_zero]
  | cons x l ih =>
    have hl' := hl
    rw [ok4_cons] at hl
    have ih := ih hl.2
    by_cases h : v4 (x :: l) = 0
    · rw [(top4_zero hl').2 h, h, c4_zero]; rfl
    · rw [c4_pos h]
      simp only [top4, v4] at h ⊢
      have e1 : (x.toNat + 10000 * v4 l) % 10000 = x.toNat := by omega
      have e2 : (x.toNat + 10000 * v4 l) / 10000 = v4 l := by omega
      have e3 : ((x.toNat : Nat) : Int) = x := by omega
      rw [e1, e2, e3, ← ih]
      split
      · rename_i h0
        have := (top4_zero hl.2).1 h0
        rw [if_neg (by intro hx; subst hx; simp [this] at h), h0]
        simp
      · rfl
theorem top4_snoc (x : Int) : ∀ l : List Int, top4 (l ++ [x]) = if x = 0 then top4 l else l.length + 1
  | [] => by simp [top4]
  | y :: l => by
    simp only [List.cons_append, top4, top4_snoc x l, List.length_cons]
    by_cases hx : x = 0 <;> simp [hx]
theorem take4 {l : List Int} {i : Nat} (h : i < l.length) : top4 (l.take (i + 1)) = if l[i] = 0 then top4 (l.take i) else i + 1 := by
  rw [List.take_succ_eq_append_getElem h, top4_snoc, List.length_take, Nat.min_eq_left (by omega)]
theorem rd_get {l : List Int} {i : Nat} (h : i < l.length) : rd l (i : Int) = l[i] := by
  unfold rd; simp [List.getD_eq_getElem?_getD, List.getElem?_eq_getElem h]
theorem trim1_l0 (l : List Int) (hl : l.length < 1000000) : ∀ (i k : Nat), i ≤ l.length → i < k → fluxionref01_trim.l0 k l (i : Int) = some (l.take (top4 (l.take i)))
  | 0, k + 1, _, _ => by simp [fluxionref01_trim.l0, top4]
  | i + 1, k + 1, hi, hk => by
    have e1 : wrap64 (((i + 1 : Nat) : Int) - 1) = (i : Int) := by unfold wrap64; omega
    rw [fluxionref01_trim.l0, if_pos (by omega), e1, if_pos (by omega), if_pos (by omega), rd_get (by omega), take4 (by omega)]
    by_cases h : l[i]'(by omega) = 0
    · rw [if_pos h, if_pos h]
      exact trim1_l0 l hl i k (by omega) (by omega)
    · rw [if_neg h, if_neg h, if_pos (by omega), if_pos (by omega), Int.toNat_natCast]
  | 0, 0, _, h => by omega
  | i + 1, 0, _, h => by omega
theorem trim1_f {l : List Int} (hl : ok4 l) (hn : l.length < 1000000) {k : Nat} (hk : l.length < k) : fluxionref01_trim.f k l = some (c4 (v4 l)) := by
  unfold fluxionref01_trim.f
  rw [trim1_l0 l hn l.length k (Nat.le_refl _) hk, List.take_length, trim4 hl]
theorem trim2_l0 (l : List Int) (hl : l.length < 1000000) : ∀ (i k : Nat), i ≤ l.length → i < k → fluxionref02_trim.l0 k l (i : Int) = some (l.take (top4 (l.take i)))
  | 0, k + 1, _, _ => by simp [fluxionref02_trim.l0, top4]
  | i + 1, k + 1, hi, hk => by
    have e1 : wrap64 (((i + 1 : Nat) : Int) - 1) = (i : Int) := by unfold wrap64; omega
    rw [fluxionref02_trim.l0, if_pos (by omega), e1, if_pos (by omega), if_pos (by omega), rd_get (by omega), take4 (by omega)]
    by_cases h : l[i]'(by omega) = 0
    · rw [if_pos h, if_pos h]
      exact trim2_l0 l hl i k (by omega) (by omega)
    · rw [if_neg h, if_neg h, if_pos (by omega), if_pos (by omega), Int.toNat_natCast]
  | 0, 0, _, h => by omega
  | i + 1, 0, _, h => by omega
theorem trim2_f {l : List Int} (hl : ok4 l) (hn : l.length < 1000000) {k : Nat} (hk : l.length < k) : fluxionref02_trim.f k l = some (c4 (v4 l)) := by
  unfold fluxionref02_trim.f
  rw [trim2_l0 l hn l.length k (Nat.le_refl _) hk, List.take_length, trim4 hl]
/-- Small -/
theorem small_l0 : ∀ (n k : Nat) (out : List Int), n < 9223372036854775808 → n < k → out.length + n < 1000000000000 → fluxionref01_Small.l0 k (n : Int) out = some (out ++ c4 n) := by
  intro n
  induction n using Nat.strongRecOn with
  | _ n ih =>
    intro k out hn hk ho
    cases k with
    | zero => omega
    | succ k =>
      rw [fluxionref01_Small.l0]
      by_cases h : n = 0
      · subst h; rw [if_neg (by omega), c4_zero, List.append_nil]
      · have e1 : wrap64 (Int.tdiv (n : Int) 10000) = ((n / 10000 : Nat) : Int) := by
          rw [Int.tdiv_eq_ediv_of_nonneg (by omega)]; unfold wrap64; omega
        have e2 : Int.tmod (n : Int) 10000 = ((n % 10000 : Nat) : Int) := by
          rw [Int.tmod_eq_emod_of_nonneg (by omega)]; omega
        rw [if_pos (by omega), if_pos (by omega), e1, e2, ih (n / 10000) (by omega) k _ (by omega) (by omega) (by rw [List.length_append, List.length_singleton]; omega), c4_pos h, List.append_assoc]
        rfl
theorem c4_get : ∀ (i n : Nat), (c4 n).getD i 0 = ((n / 10000 ^ i % 10000 : Nat) : Int)
  | 0, n => by
    by_cases h : n = 0
    · subst h; rw [c4_zero]; rfl
    · rw [c4_pos h, List.getD_cons_zero]; simp
  | i + 1, n => by
    by_cases h : n = 0
    · subst h; rw [c4_zero]; simp
    · rw [c4_pos h, List.getD_cons_succ, c4_get i, Nat.div_div_eq_div_mul, Nat.pow_succ, Nat.mul_comm 10000]
theorem rd_c4 (n i : Nat) : rd (c4 n) (i : Int) = ((n / 10000 ^ i % 10000 : Nat) : Int) := by
  unfold rd; rw [Int.toNat_natCast, c4_get]
theorem len_iff (n i : Nat) : i < (c4 n).length ↔ n / 10000 ^ i ≠ 0 := by
  constructor
  · intro h hz
    have h1 : n < 10000 ^ i := by
      have hp : 0 < 10000 ^ i := Nat.pow_pos (by decide)
      exact Nat.lt_of_not_le fun hc => by have := Nat.div_pos hc hp; omega
    have := c4_length_le i n h1
    omega
  · intro h
    refine le_c4_length i n (Nat.le_of_not_lt fun hc => h (Nat.div_eq_of_lt hc))
theorem digit_f (n i : Nat) : fluxionref01_digit.f (c4 n) (i : Int) = some ((n / 10000 ^ i % 10000 : Nat) : Int) := by
  unfold fluxionref01_digit.f
  by_cases h : i < (c4 n).length
  · rw [if_pos (by omega), if_pos (by omega), rd_c4]
  · have h2 := mt (len_iff n i).2 h
    rw [if_neg (by omega), show n / 10000 ^ i = 0 by omega]; rfl
theorem c4_len_pos {s : Nat} (h : s ≠ 0) : (c4 s).length = (c4 (s / 10000)).length + 1 := by rw [c4_pos h, List.length_cons]
theorem div_pow_succ (a i : Nat) : a / 10000 ^ (i + 1) = a / 10000 ^ i / 10000 := by rw [Nat.div_div_eq_div_mul, Nat.pow_succ]
theorem wrap_small {x : Int} (h0 : 0 ≤ x) (h1 : x < 9223372036854775808) : wrap64 x = x := by unfold wrap64; omega
theorem tmod_small (x : Nat) : Int.tmod (x : Int) 10000 = ((x % 10000 : Nat) : Int) := by rw [Int.tmod_eq_emod_of_nonneg (by omega)]; omega
theorem tdiv_small (x : Nat) : Int.tdiv (x : Int) 10000 = ((x / 10000 : Nat) : Int) := by rw [Int.tdiv_eq_ediv_of_nonneg (by omega)]; omega
/-- Add -/
theorem add_l0 (a b : Nat) : ∀ (s A B c i k : Nat) (out : List Int), s = A + B + c → A = a / 10000 ^ i → B = b / 10000 ^ i → c ≤ 1 → 2 * (c4 s).length + 2 ≤ k → out.length + (c4 s).length < 10000000 → i + (c4 s).length < 10000000 →
    fluxionref01_Add.l0 k (c4 a) (c4 b) out (c : Int) (i : Int) = some (out ++ c4 s) := by
  intro s
  induction s using Nat.strongRecOn with
  | _ s ih =>
    intro A B c i k out hs hA hB hc hk ho hi
    obtain ⟨k2, rfl⟩ : ∃ k2, k = k2 + 2 := ⟨k - 2, by omega⟩
    have ha := len_iff a i
    have hb := len_iff b i
    have da := digit_f a i
    have db := digit_f b i
    have hA2 : A / 10000 = a / 10000 ^ (i + 1) := by rw [div_pow_succ, hA]
    have hB2 : B / 10000 = b / 10000 ^ (i + 1) := by rw [div_pow_succ, hB]
    rw [← hA] at ha da
    rw [← hB] at hb db
    have IH := Aside0.mk (fun s' h => ih s' h (A / 10000) (B / 10000) ((A % 10000 + B % 10000 + c) / 10000) (i + 1) k2 (out ++ [((s % 10000 : Nat) : Int)]))
    have HA2 := Aside0.mk hA2
    have HB2 := Aside0.mk hB2
    clear ih hA hB hA2 hB2
    have hstep : ∀ x : Bool, x = decide (s ≠ 0) → fluxionref01_Add.j1 (k2 + 1) (c4 a) (c4 b) out (c : Int) (i : Int) x = some (out ++ c4 s) := by
      intro x hx
      subst hx
      rw [fluxionref01_Add.j1]
      by_cases h0 : s = 0
      · rw [if_neg (by simp [h0]), h0, c4_zero, List.append_nil]
      · rw [if_pos (by simp [h0]), da, db, Option.bind_some, Option.bind_some, if_pos (by omega)]
        have hl := c4_len_pos h0
        have e1 : wrap64 (wrap64 (((A % 10000 : Nat) : Int) + ((B % 10000 : Nat) : Int)) + (c : Int)) = ((A % 10000 + B % 10000 + c : Nat) : Int) := by
          rw [wrap_small (x := ((A % 10000 : Nat) : Int) + ((B % 10000 : Nat) : Int)) (by omega) (by omega), wrap_small (by omega) (by omega)]; omega
        rw [e1, tmod_small, tdiv_small, wrap_small (x := (((A % 10000 + B % 10000 + c) / 10000 : Nat) : Int)) (by omega) (by omega), wrap_small (x := (i : Int) + 1) (by omega) (by omega)]
        have h := IH.out (s / 10000) (by omega) (by omega) HA2.out HB2.out (by omega) (by omega) (by rw [List.length_append, List.length_singleton]; omega) (by omega)
        rw [show (A % 10000 + B % 10000 + c) % 10000 = s % 10000 by omega]
        rw [show ((i + 1 : Nat) : Int) = (i : Int) + 1 by omega] at h
        rw [h, c4_pos h0, List.append_assoc]
        rfl
    rw [fluxionref01_Add.l0]
    by_cases h1 : i < (c4 a).length
    · rw [if_pos (by omega)]
      exact hstep _ (by have := ha.1 h1; rw [eq_comm]; simp only [decide_eq_true_eq]; omega)
    · rw [if_neg (by omega)]
      have hA0 : A = 0 := by have := mt ha.2 h1; omega
      by_cases h2 : i < (c4 b).length
      · rw [if_pos (by omega)]
        exact hstep _ (by have := hb.1 h2; rw [eq_comm]; simp only [decide_eq_true_eq]; omega)
      · rw [if_neg (by omega)]
        have hB0 : B = 0 := by have := mt hb.2 h2; omega
        refine hstep _ ?_
        rw [Bool.eq_iff_iff]; simp only [decide_eq_true_eq]; omega
theorem add4_f (a b k : Nat) (hk : 2 * (c4 (a + b)).length + 2 ≤ k) (hl : (c4 (a + b)).length < 1000000) : fluxionref01_Add.f k (c4 a) (c4 b) = some (c4 (a + b)) := by
  have h := add_l0 a b (a + b) a b 0 0 k [] (by omega) (by simp) (by simp) (by omega) hk (by simp; omega) (by omega)
  exact h
theorem ok4_snoc {out : List Int} (h : ok4 out) (x : Nat) : ok4 (out ++ [((x % 10000 : Nat) : Int)]) := ok4_append.2 ⟨h, ok4_cons.2 ⟨by omega, ok4_nil⟩⟩
/-- Times, behind the number's end -/
theorem times_tail (a d : Nat) : ∀ (c i k : Nat) (out : List Int), (c4 a).length ≤ i → c < 9000000000 → ok4 out → out.length + (c4 c).length < 1000000 → i + (c4 c).length < 1000000 → (c4 c).length + out.length + (c4 c).length + 5 ≤ k →
    fluxionref01_Times.l0 k (c4 a) (d : Int) out (c : Int) (i : Int) = some (c4 (v4 out + 10000 ^ out.length * c)) := by
  intro c
  induction c using Nat.strongRecOn with
  | _ c ih =>
    intro i k out hi hc ho hol hil hk
    obtain ⟨k, rfl⟩ : ∃ k2, k = k2 + 1 := ⟨k - 1, by omega⟩
    rw [fluxionref01_Times.l0, if_neg (by omega)]
    by_cases h0 : c = 0
    · subst h0
      rw [if_neg (by omega), trim1_f ho (by omega) (by omega), Option.bind_some, Nat.mul_zero, Nat.add_zero]
    · have hd : fluxionref01_digit.f (c4 a) (i : Int) = some 0 := by
        unfold fluxionref01_digit.f; rw [if_neg (by omega)]
      have hl := c4_len_pos h0
      have e1 : wrap64 (wrap64 ((0 : Int) * (d : Int)) + (c : Int)) = (c : Int) := by
        rw [Int.zero_mul, wrap_small (x := (0 : Int)) (by omega) (by omega), Int.zero_add, wrap_small (by omega) (by omega)]
      rw [if_pos (by omega), hd, Option.bind_some, if_pos (by omega), e1, tmod_small, tdiv_small, wrap_small (x := ((c / 10000 : Nat) : Int)) (by omega) (by omega), wrap_small (x := (i : Int) + 1) (by omega) (by omega)]
      have hok : ok4 (out ++ [((c % 10000 : Nat) : Int)]) := ok4_append.2 ⟨ho, ok4_cons.2 ⟨by omega, ok4_nil⟩⟩
      have h := ih (c / 10000) (by omega) (i + 1) k (out ++ [((c % 10000 : Nat) : Int)]) (by omega) (by omega) hok (by rw [List.length_append, List.length_singleton]; omega) (by omega) (by rw [List.length_append, List.length_singleton]; omega)
      rw [show ((i + 1 : Nat) : Int) = (i : Int) + 1 by omega] at h
      rw [h, v4_append, List.length_append, List.length_singleton, Nat.pow_succ]
      congr 2
      simp only [v4, Int.toNat_natCast, Nat.mul_zero, Nat.add_zero]
      rw [Nat.add_assoc, Nat.mul_assoc, ← Nat.mul_add, Nat.mod_add_div]
theorem times_head (a d : Nat) (hd : d ≤ 4294967296) : ∀ (A c i k : Nat) (out : List Int), A = a / 10000 ^ i → c ≤ d → ok4 out → out.length = i → i + (c4 A).length < 900000 → 2 * (c4 A).length + i + 100 ≤ k →
    fluxionref01_Times.l0 k (c4 a) (d : Int) out (c : Int) (i : Int) = some (c4 (v4 out + 10000 ^ out.length * (A * d + c))) := by
  intro A
  induction A using Nat.strongRecOn with
  | _ A ih =>
    intro c i k out hA hc ho hol hil hk
    have hiff := len_iff a i
    have hdig := digit_f a i
    have hA2 : A / 10000 = a / 10000 ^ (i + 1) := by rw [div_pow_succ, hA]
    rw [← hA] at hiff hdig
    have IH := Aside0.mk (fun A' h => ih A' h)
    have HA2 := Aside0.mk hA2
    clear ih hA hA2
    by_cases h0 : A = 0
    · subst h0
      have hci : (c4 c).length ≤ 3 := c4_length_le 3 c (by omega)
      rw [times_tail a d c i k out (Nat.le_of_not_lt fun hc => hiff.1 hc rfl) (by omega) ho (by omega) (by omega) (by omega), Nat.zero_mul, Nat.zero_add]
    · have hlt := hiff.2 h0
      have hl := c4_len_pos h0
      obtain ⟨k, rfl⟩ : ∃ k2, k = k2 + 1 := ⟨k - 1, by omega⟩
      have hm : A % 10000 * d ≤ 9999 * 4294967296 := Nat.mul_le_mul (by omega) hd
      obtain ⟨p, hp⟩ : ∃ p, A % 10000 * d = p := ⟨_, rfl⟩
      have hpd : p ≤ 9999 * d := by rw [← hp]; exact Nat.mul_le_mul_right _ (by omega)
      have hp9 : p ≤ 42945377992704 := by rw [← hp]; exact Nat.le_trans hm (by decide)
      have hq : (p + c) / 10000 ≤ d := by clear hm hp; omega
      have e1 : wrap64 (wrap64 (((A % 10000 : Nat) : Int) * (d : Int)) + (c : Int)) = ((p + c : Nat) : Int) := by
        rw [← Int.natCast_mul, hp]
        clear hm hp hpd
        rw [wrap_small (x := ((p : Nat) : Int)) (by omega) (by omega), wrap_small (by omega) (by omega)]; omega
      have e2 : wrap64 (((p + c) / 10000 : Nat) : Int) = (((p + c) / 10000 : Nat) : Int) := by
        clear hm hp hpd e1
        exact wrap_small (by omega) (by omega)
      have e3 : wrap64 ((i : Int) + 1) = (i : Int) + 1 := by
        clear hm hp hpd e1 e2 hq
        exact wrap_small (by omega) (by omega)
      have b1 : (i : Int) < ((c4 a).length : Int) := by clear hm hp hpd e1 e2 e3 hq; omega
      have b2 : out.length < 17592186044416 := by clear hm hp hpd e1 e2 e3 hq; omega
      rw [fluxionref01_Times.l0, if_pos b1, hdig, Option.bind_some, if_pos b2, e1, tmod_small, tdiv_small, e2, e3]
      have f1 : A / 10000 < A := by clear hm hp hpd e1 e2 e3 hq; omega
      have f2 : i + 1 + (c4 (A / 10000)).length < 900000 := by clear hm hp hpd e1 e2 e3 hq; omega
      have f3 : 2 * (c4 (A / 10000)).length + (i + 1) + 100 ≤ k := by clear hm hp hpd e1 e2 e3 hq; omega
      have hok := ok4_snoc ho (p + c)
      have h := IH.out (A / 10000) f1 ((p + c) / 10000) (i + 1) k (out ++ [(((p + c) % 10000 : Nat) : Int)]) HA2.out hq hok (by rw [List.length_append, List.length_singleton, hol]) f2 f3
      rw [show ((i + 1 : Nat) : Int) = (i : Int) + 1 from rfl] at h
      have e4 : A * d = 10000 * (A / 10000 * d) + p := by
        rw [← hp, ← Nat.mul_assoc, ← Nat.add_mul, Nat.div_add_mod]
      have e5 : A * d + c = (p + c) % 10000 + 10000 * (A / 10000 * d + (p + c) / 10000) := by
        rw [e4]
        clear h hok IH HA2 hiff hdig hm hpd e1 e2 e3 e4 hp hq b1 b2 f1 f2 f3
        generalize A / 10000 * d = X
        omega
      rw [h, v4_append, List.length_append, List.length_singleton, Nat.pow_succ, e5]
      simp only [v4, Int.toNat_natCast, Nat.mul_zero, Nat.add_zero]
      rw [Nat.mul_add (10000 ^ out.length), Nat.mul_assoc, Nat.add_assoc]
theorem times_f (a d k : Nat) (hd : d ≤ 4294967296) (hl : (c4 a).length < 800000) (hk : 2 * (c4 a).length + 100 ≤ k) : fluxionref01_Times.f k (c4 a) (d : Int) = some (c4 (a * d)) := by
  have h := times_head a d hd a 0 0 k [] (by simp) (by omega) ok4_nil rfl (by omega) (by omega)
  unfold fluxionref01_Times.f
  rw [show ((0 : Nat) : Int) = 0 from rfl] at h
  rw [h]
  simp [v4]
end Go.Proofs.YtpncflaoikeidaaGreatDoor.H
namespace Go.Proofs.YtpncflaoikeidaaGreatDoor.P
open Go.RowKit Go.Proofs.YtpncflaoikeidaaGreatDoorW.PrintWords Go.Proofs.YtpncflaoikeidaaGreatDoorW.PrintLast Go.Proofs.YtpncflaoikeidaaGreatDoorW.PrintMore
attribute [local go_sem] max2_int max_two
set_option linter.unusedVariables false
set_option linter.unusedSimpArgs false
def fluxionref01_Of.l0 : Nat → List Int → List Int → Int → Option (List Int)
  | 0, _, _, _ => none
  | k + 1, x0, x3, x4 => if x4 ≥ 0 then ((fluxionref01_Times.f k x3 65536).bind fun t351 => ((fluxionref01_Times.f k t351 65536).bind fun t354 => (if 0 ≤ x4 then (if x4 < (x0.length : Int) then ((fluxionref01_Small.f k (wrap64 (rd x0 x4))).bind fun t358 => ((fluxionref01_Add.f k t354 t358).bind fun t361 => (fluxionref01_Of.l0 k x0 t361 (wrap64 (x4 - 1))))) else (none)) else (none)))) else (some x3)
def fluxionref01_Of.f (k : Nat) (l0 : List Int) : Option (List Int) := fluxionref01_Of.l0 k l0 ([] : List Int) (wrap64 ((l0.length : Int) - 1))
def fluxionref01_Of.T5 : Bool × List (List Nat × List Nat) := (true, [([], []), ([0], [0]), ([1, 1], [1]), ([], []), ([], []), ([3, 4], [3, 4]), ([5], [5]), ([6], [6]), ([7, 2], [7]), ([2, 8, 8], [2, 8]), ([9, 9, 0, 1, 2, 3, 4, 5, 6, 7, 8, 9], [0, 9])])
def fluxionref01_Of.B5 : List Nat := [0, 1, 3, 0, 0, 24, 56, 120, 255, 511, 1023]
theorem fluxionref01_Of.tab5 : rtab .any (opsOf Tryz.f19 5) = fluxionref01_Of.T5 := by kernel_rfl
theorem fluxionref01_Of.bits5 : waitsOk fluxionref01_Of.T5.2 fluxionref01_Of.B5 = true := by kernel_rfl
set_option maxHeartbeats 8000000 in
set_option maxRecDepth 100000 in
theorem fluxionref01_Of.calls (k : Nat) (A0 : Option Addr) (c0 : Nat) (l0 : List Int) (r : List Int) (w : World) (hr0 : Kd.C (Kd.int .u32) w A0 l0.length l0) (hc0 : l0.length ≤ c0) (h : fluxionref01_Of.f k l0 = some r) :
    Calls Tryz.prog 19 #[.slice A0 l0.length c0] w fun e w' => ∃ v0_ : Value, e = .returned (v0_) ∧ Kd.R (Kd.int .i64) 3 w' w.heap.size (fun _ => True) v0_ r ∧ Below w.heap.size w w' := by
  have HR0 := Aside0.mk hr0
  have HC0 := Aside0.mk hc0
  clear hr0 hc0
  have HB := Aside0.mk (Below.refl w.heap.size w)
  have H : (fluxionref01_Of.l0 k l0 ([] : List Int) (wrap64 ((l0.length : Int) - 1))) = some r := h
  clear h
  have H' := Aside0.mk H
  clear H
  go_enter Tryz.func19, Tryz.ntmps19
  go_wp2
  go_loopg [3, 4] k (fun kq v3 v4 w' => ∃ (x3_1 : List Int) (x4_1 : Int), v4 = .int .i64 x4_1 ∧ Aside0 (fluxionref01_Of.l0 kq l0 x3_1 x4_1 = some r) ∧ Aside0 (kq ≤ k) ∧ Aside0 (Kd.R (Kd.int .i64) 3 w' w.heap.size (fun _ => True) v3 x3_1) ∧ Aside0 (Below w.heap.size w w'))
  case atStart => exact ⟨(([] : List Int)), (wrap64 ((l0.length : Int) - 1)), (by first | rfl | (simp; done) | (simp [*]; done)), H', ⟨Nat.le_refl _⟩, ⟨by first | exact Kd.R_nil _ _ _ _ _ | exact Kd.N_nil _ _ _ _ _ | exact Kd.V_nil _ _ _ _ _ | exact Kd.Q_nil _ _ _ _ _ | exact Kd.S_nil _ _ _ _ _⟩, ⟨by repeat (first | (with_reducible first | exact HB.out | apply below_alloc | apply pw_below_drewN | apply below_drew1) | exact HB.out)⟩⟩
  case round =>
    clear H'
    try clear c1
    obtain ⟨x3_1, x4_1, rfl, HA, HK1, HO_3, HB⟩ := hrel
    cases gk with
    | zero => exact absurd HA.out (by simp [fluxionref01_Of.l0])
    | succ k1 =>
      have H := HA.out
      clear HA
      simp only [fluxionref01_Of.l0] at H
      by_cases c2 : x4_1 ≥ 0
      · rw [if_pos c2] at H
        have c2b0 : decide (0 ≤ x4_1) = true := decide_eq_true c2
        clear c2
        replace H := Option.bind_eq_some_iff.mp H
        obtain ⟨t351, A30, H⟩ := H
        try dsimp only at H
        have A3 := Aside0.mk A30
        clear A30
        replace H := Option.bind_eq_some_iff.mp H
        obtain ⟨t354, A40, H⟩ := H
        try dsimp only at H
        have A4 := Aside0.mk A40
        clear A40
        by_cases c5 : 0 ≤ x4_1
        · rw [if_pos c5] at H
          have c5b0 : decide (0 ≤ x4_1) = true := decide_eq_true c5
          clear c5
          by_cases c6 : x4_1 < (l0.length : Int)
          · rw [if_pos c6] at H
            have c6b0 : decide (x4_1 < (l0.length : Int)) = true := decide_eq_true c6
            clear c6
            replace H := Option.bind_eq_some_iff.mp H
            obtain ⟨t358, A70, H⟩ := H
            try dsimp only at H
            have A7 := Aside0.mk A70
            clear A70
            replace H := Option.bind_eq_some_iff.mp H
            obtain ⟨t361, A80, H⟩ := H
            try dsimp only at H
            have A8 := Aside0.mk A80
            clear A80
            have H' := Aside0.mk H
            clear H
            try go_wp2
            have n0_ := Aside0.mk (Kd.R_drew HO_3.out)
            have n1_ := Aside0.mk (below_drew1 HB.out)
            clear HO_3
            clear HB
            have HO_3 := n0_
            have HB := n1_
            clear n0_ n1_
            have p357 : 0 ≤ (x4_1 : Int) := of_decide_eq_true (by first | (with_reducible assumption) | assumption)
            have q357 : x4_1 < (l0.length : Int) := of_decide_eq_true (by first | (with_reducible assumption) | assumption)
            obtain ⟨ad357, e357, hx357_0⟩ := Kd.at_int HR0.out x4_1 p357 q357
            have hw357_0 := hx357_0
            cases e357
            replace hx357_0 := (HB.out.cell (World.block_lt_of_cell? w _ hx357_0)).trans hx357_0
            replace p357 := eq_true p357
            replace q357 := eq_true q357
            obtain ⟨Ao10, co10, eo10⟩ := Kd.R_slice HO_3.out
            (first | subst eo10 | (injection eo10 with f1_ f2_ f3_; have f4_ := f1_.symm; have f5_ := f3_.symm; clear f1_ f2_ f3_; subst f4_; subst f5_))
            refine start_ (n := 11) (S := fun w' => w'.cell? (ad357.add (x4_1).toNat) = some (.int .u32 (rd l0 x4_1))) (ds := []) #[false, false, false, false, false, false, false, false, false, false, false] (by kernel_rfl) rfl rfl (((HB.out.cell (World.block_lt_of_cell? w _ hw357_0)).trans hw357_0)) (fun hHeld => ?_); refine with_tabW fluxionref01_Of.tab5 fluxionref01_Of.bits5 (fun HT_ HW_ => ?_)
            generalize wr.drew = w9 at HO_3 HB hx357_0 hHeld ⊢
            refine pure_ (i := 0) (N := some 12) (v := ?_) (a' := ?_) #[true, false, false, false, false, false, false, false, false, false, false] rfl rfl (any_of HT_.out (by kernel_rfl)) (fun _ _ _ h => h) (Or.inl ⟨by rfl, ?_⟩) ?_ ?_
            rotate_left
            · intro w'
              go_simp
              with_reducible rfl
            rotate_left
            · simp only [Act.put, List.setIfInBounds_toArray, List.set_cons_zero, List.set_cons_succ, i64_w, i32_w]
              rfl
            refine pure_ (i := 3) (N := some 15) (v := ?_) (a' := ?_) #[true, false, false, true, false, false, false, false, false, false, false] rfl rfl (any_of HT_.out (by kernel_rfl)) (fun _ _ _ h => h) (Or.inl ⟨by rfl, ?_⟩) ?_ ?_
            rotate_left
            · intro w'
              go_simp
              with_reducible rfl
            rotate_left
            · simp only [Act.put, List.setIfInBounds_toArray, List.set_cons_zero, List.set_cons_succ, i64_w, i32_w]
              rfl
            refine pure_ (i := 4) (N := some 16) (v := ?_) (a' := ?_) #[true, false, false, true, true, false, false, false, false, false, false] rfl rfl (any_of HT_.out (by kernel_rfl)) (fun _ _ _ h => h) (Or.inl ⟨by rfl, ?_⟩) ?_ ?_
            rotate_left
            · intro w'
              go_simp
              with_reducible rfl
            rotate_left
            · simp only [Act.put, List.setIfInBounds_toArray, List.set_cons_zero, List.set_cons_succ, i64_w, i32_w]
              rfl
            refine pure_ (i := 5) (N := some 17) (v := ?_) (a' := ?_) #[true, false, false, true, true, true, false, false, false, false, false] rfl rfl (any_of HT_.out (by kernel_rfl)) (fun _ _ _ h => h) (Or.inl ⟨by rfl, ?_⟩) ?_ ?_
            rotate_left
            · intro w'
              go_simp
              with_reducible rfl
            rotate_left
            · simp only [Act.put, List.setIfInBounds_toArray, List.set_cons_zero, List.set_cons_succ, i64_w, i32_w]
              rfl
            refine take_ (i := 6) (N := some 18) (v := ?_) (a' := ?_) #[true, false, false, true, true, true, true, false, false, false, false] rfl rfl (take_ofW HT_.out HW_.out (by kernel_rfl)) (fun _ _ _ h => h) (Or.inl ⟨by rfl, ?_⟩) hHeld ?_ ?_
            rotate_left
            · intro w' s0
              go_simp
              with_reducible rfl
            rotate_left
            · simp only [Act.put, List.setIfInBounds_toArray, List.set_cons_zero, List.set_cons_succ, i64_w, i32_w]
              rfl
            refine pure_ (i := 7) (N := some 19) (v := ?_) (a' := ?_) #[true, false, false, true, true, true, true, true, false, false, false] rfl rfl (any_of HT_.out (by kernel_rfl)) (fun _ _ _ h => h) (Or.inl ⟨by rfl, ?_⟩) ?_ ?_
            rotate_left
            · intro w'
              go_simp
              with_reducible rfl
            rotate_left
            · simp only [Act.put, List.setIfInBounds_toArray, List.set_cons_zero, List.set_cons_succ, i64_w, i32_w]
              rfl
            refine one_ (i := 1) (N := some 13) #[true, true, false, true, true, true, true, true, false, false, false] rfl rfl (one_of HT_.out (by kernel_rfl)) (by decide) (fun K hK => ?_)
            refine goes_ Tryz.func51 (by kernel_rfl) rfl #[.slice Ao10 x3_1.length co10, .int .i64 65536] (by rfl) rfl rfl (by (try simp only [List.map_toArray, List.map_cons, List.map_nil]); first | done | rfl | (simp only [List.length_drop, List.length_take]; rfl)) ?_
            with_reducible refine (fluxionref01_Times.calls k1 _ _ x3_1 65536 t351 _ ?side1 ?side2 A3.out).mono ?_
            (case side1 => repeat (first | exact (Kd.R_reads' HO_3.out).2.2 | (with_reducible refine Kd.C_alloc ?_ _) | (with_reducible refine Kd.C_drewN ?_ _) | (with_reducible refine Kd.C_drew ?_)))
            (case side2 => exact (Kd.R_reads' HO_3.out).2.1)
            rintro e w11 ⟨v352, rfl, ho0, hb⟩
            refine ⟨_, rfl, ?_⟩
            have n0_ := Aside0.mk (Kd.R_elder' (by exact HO_3.out) (Kd.R_base ho0) hb)
            have n1_ := Aside0.mk (Kd.R_lower (Kd.R_new' ho0 (Kd.R_lt (by exact HO_3.out))) (below_size (by repeat (first | (with_reducible first | exact HB.out | apply below_alloc | apply pw_below_drewN | apply below_drew1) | exact HB.out))))
            have n2_ := Aside0.mk (below_step (by repeat (first | (with_reducible first | exact HB.out | apply below_alloc | apply pw_below_drewN | apply below_drew1) | exact HB.out)) hb)
            clear HO_3
            clear HB
            have HO_3 := n0_
            have HO353 := n1_
            have HB := n2_
            clear n0_ n1_ n2_
            (try clear hb)
            (try clear hb2)
            (try clear hk)
            (try clear hi)
            (try clear ho0)
            obtain ⟨Ao12, co12, eo12⟩ := Kd.R_slice HO353.out
            (first | subst eo12 | (injection eo12 with f1_ f2_ f3_; have f4_ := f1_.symm; have f5_ := f3_.symm; clear f1_ f2_ f3_; subst f4_; subst f5_))
            refine hK.out _ _ (((HB.out.cell (World.block_lt_of_cell? w _ hw357_0)).trans hw357_0)) (fun hHeld => ?_)
            clear hK K
            refine norm_ (a' := ?_) ?_ ?_
            rotate_left
            · show Act.put _ (some 13) _ = _
              simp only [Act.put, List.setIfInBounds_toArray, List.set_cons_zero, List.set_cons_succ, i64_w, i32_w]
              rfl
            refine one_ (i := 2) (N := some 14) #[true, true, true, true, true, true, true, true, false, false, false] rfl rfl (one_of HT_.out (by kernel_rfl)) (by decide) (fun K hK => ?_)
            refine goes_ Tryz.func51 (by kernel_rfl) rfl #[.slice Ao12 t351.length co12, .int .i64 65536] (by rfl) rfl rfl (by (try simp only [List.map_toArray, List.map_cons, List.map_nil]); first | done | rfl | (simp only [List.length_drop, List.length_take]; rfl)) ?_
            with_reducible refine (fluxionref01_Times.calls k1 _ _ t351 65536 t354 _ ?side1 ?side2 A4.out).mono ?_
            (case side1 => repeat (first | exact (Kd.R_reads' HO353.out).2.2 | (with_reducible refine Kd.C_alloc ?_ _) | (with_reducible refine Kd.C_drewN ?_ _) | (with_reducible refine Kd.C_drew ?_)))
            (case side2 => exact (Kd.R_reads' HO353.out).2.1)
            rintro e w13 ⟨v355, rfl, ho0, hb⟩
            refine ⟨_, rfl, ?_⟩
            have n0_ := Aside0.mk (Kd.R_elder' (by exact HO_3.out) (Kd.R_base ho0) hb)
            have n1_ := Aside0.mk (Kd.R_elder' (by exact HO353.out) (Kd.R_base ho0) hb)
            have n2_ := Aside0.mk (Kd.R_lower (Kd.R_new' (Kd.R_new' ho0 (Kd.R_lt (by exact HO_3.out))) (Kd.R_lt (by exact HO353.out))) (below_size (by repeat (first | (with_reducible first | exact HB.out | apply below_alloc | apply pw_below_drewN | apply below_drew1) | exact HB.out))))
            have n3_ := Aside0.mk (below_step (by repeat (first | (with_reducible first | exact HB.out | apply below_alloc | apply pw_below_drewN | apply below_drew1) | exact HB.out)) hb)
            clear HO_3
            clear HO353
            clear HB
            have HO_3 := n0_
            have HO353 := n1_
            have HO356 := n2_
            have HB := n3_
            clear n0_ n1_ n2_ n3_
            (try clear hb)
            (try clear hb2)
            (try clear hk)
            (try clear hi)
            (try clear ho0)
            refine hK.out _ _ (((HB.out.cell (World.block_lt_of_cell? w _ hw357_0)).trans hw357_0)) (fun hHeld => ?_)
            clear hK K
            refine norm_ (a' := ?_) ?_ ?_
            rotate_left
            · show Act.put _ (some 14) _ = _
              simp only [Act.put, List.setIfInBounds_toArray, List.set_cons_zero, List.set_cons_succ, i64_w, i32_w]
              rfl
            refine one_ (i := 8) (N := some 20) #[true, true, true, true, true, true, true, true, true, false, false] rfl rfl (one_of HT_.out (by kernel_rfl)) (by decide) (fun K hK => ?_)
            refine goes_ Tryz.func52 (by kernel_rfl) rfl #[.int .i64 (wrap64 (rd l0 x4_1))] (by rfl) rfl rfl (by (try simp only [List.map_toArray, List.map_cons, List.map_nil]); first | done | rfl | (simp only [List.length_drop, List.length_take]; rfl)) ?_
            with_reducible refine (fluxionref01_Small.calls k1 (wrap64 (rd l0 x4_1)) t358 _ A7.out).mono ?_
            rintro e w14 ⟨v359, rfl, ho0, hb⟩
            refine ⟨_, rfl, ?_⟩
            have n0_ := Aside0.mk (Kd.R_elder' (by exact HO_3.out) (Kd.R_base ho0) hb)
            have n1_ := Aside0.mk (Kd.R_elder' (by exact HO353.out) (Kd.R_base ho0) hb)
            have n2_ := Aside0.mk (Kd.R_elder' (by exact HO356.out) (Kd.R_base ho0) hb)
            have n3_ := Aside0.mk (Kd.R_lower (Kd.R_new' (Kd.R_new' (Kd.R_new' ho0 (Kd.R_lt (by exact HO_3.out))) (Kd.R_lt (by exact HO353.out))) (Kd.R_lt (by exact HO356.out))) (below_size (by repeat (first | (with_reducible first | exact HB.out | apply below_alloc | apply pw_below_drewN | apply below_drew1) | exact HB.out))))
            have n4_ := Aside0.mk (below_step (by repeat (first | (with_reducible first | exact HB.out | apply below_alloc | apply pw_below_drewN | apply below_drew1) | exact HB.out)) hb)
            clear HO_3
            clear HO353
            clear HO356
            clear HB
            have HO_3 := n0_
            have HO353 := n1_
            have HO356 := n2_
            have HO360 := n3_
            have HB := n4_
            clear n0_ n1_ n2_ n3_ n4_
            (try clear hb)
            (try clear hb2)
            (try clear hk)
            (try clear hi)
            (try clear ho0)
            obtain ⟨Ao15, co15, eo15⟩ := Kd.R_slice HO356.out
            (first | subst eo15 | (injection eo15 with f1_ f2_ f3_; have f4_ := f1_.symm; have f5_ := f3_.symm; clear f1_ f2_ f3_; subst f4_; subst f5_))
            obtain ⟨Ao16, co16, eo16⟩ := Kd.R_slice HO360.out
            (first | subst eo16 | (injection eo16 with f1_ f2_ f3_; have f4_ := f1_.symm; have f5_ := f3_.symm; clear f1_ f2_ f3_; subst f4_; subst f5_))
            refine hK.out _ _ (((HB.out.cell (World.block_lt_of_cell? w _ hw357_0)).trans hw357_0)) (fun hHeld => ?_)
            clear hK K
            refine norm_ (a' := ?_) ?_ ?_
            rotate_left
            · show Act.put _ (some 20) _ = _
              simp only [Act.put, List.setIfInBounds_toArray, List.set_cons_zero, List.set_cons_succ, i64_w, i32_w]
              rfl
            refine one_ (i := 9) (N := some 21) #[true, true, true, true, true, true, true, true, true, true, false] rfl rfl (one_of HT_.out (by kernel_rfl)) (by decide) (fun K hK => ?_)
            refine goes_ Tryz.func50 (by kernel_rfl) rfl #[.slice Ao15 t354.length co15, .slice Ao16 t358.length co16] (by rfl) rfl rfl (by (try simp only [List.map_toArray, List.map_cons, List.map_nil]); first | done | rfl | (simp only [List.length_drop, List.length_take]; rfl)) ?_
            with_reducible refine (fluxionref01_Add.calls k1 _ _ t354 _ _ t358 t361 _ ?side1 ?side2 ?side3 ?side4 A8.out).mono ?_
            (case side1 => repeat (first | exact (Kd.R_reads' HO356.out).2.2 | (with_reducible refine Kd.C_alloc ?_ _) | (with_reducible refine Kd.C_drewN ?_ _) | (with_reducible refine Kd.C_drew ?_)))
            (case side2 => exact (Kd.R_reads' HO356.out).2.1)
            (case side3 => repeat (first | exact (Kd.R_reads' HO360.out).2.2 | (with_reducible refine Kd.C_alloc ?_ _) | (with_reducible refine Kd.C_drewN ?_ _) | (with_reducible refine Kd.C_drew ?_)))
            (case side4 => exact (Kd.R_reads' HO360.out).2.1)
            rintro e w17 ⟨v362, rfl, ho0, hb⟩
            refine ⟨_, rfl, ?_⟩
            have n0_ := Aside0.mk (Kd.R_elder' (by exact HO_3.out) (Kd.R_base ho0) hb)
            have n1_ := Aside0.mk (Kd.R_elder' (by exact HO353.out) (Kd.R_base ho0) hb)
            have n2_ := Aside0.mk (Kd.R_elder' (by exact HO356.out) (Kd.R_base ho0) hb)
            have n3_ := Aside0.mk (Kd.R_elder' (by exact HO360.out) (Kd.R_base ho0) hb)
            have n4_ := Aside0.mk (Kd.R_lower (Kd.R_new' (Kd.R_new' (Kd.R_new' (Kd.R_new' ho0 (Kd.R_lt (by exact HO_3.out))) (Kd.R_lt (by exact HO353.out))) (Kd.R_lt (by exact HO356.out))) (Kd.R_lt (by exact HO360.out))) (below_size (by repeat (first | (with_reducible first | exact HB.out | apply below_alloc | apply pw_below_drewN | apply below_drew1) | exact HB.out))))
            have n5_ := Aside0.mk (below_step (by repeat (first | (with_reducible first | exact HB.out | apply below_alloc | apply pw_below_drewN | apply below_drew1) | exact HB.out)) hb)
            clear HO_3
            clear HO353
            clear HO356
            clear HO360
            clear HB
            have HO_3 := n0_
            have HO353 := n1_
            have HO356 := n2_
            have HO360 := n3_
            have HO363 := n4_
            have HB := n5_
            clear n0_ n1_ n2_ n3_ n4_ n5_
            (try clear hb)
            (try clear hb2)
            (try clear hk)
            (try clear hi)
            (try clear ho0)
            refine hK.out _ _ (((HB.out.cell (World.block_lt_of_cell? w _ hw357_0)).trans hw357_0)) (fun hHeld => ?_)
            clear hK K
            refine norm_ (a' := ?_) ?_ ?_
            rotate_left
            · show Act.put _ (some 21) _ = _
              simp only [Act.put, List.setIfInBounds_toArray, List.set_cons_zero, List.set_cons_succ, i64_w, i32_w]
              rfl
            refine pure_ (i := 10) (N := some 3) (v := ?_) (a' := ?_) #[true, true, true, true, true, true, true, true, true, true, true] rfl rfl (any_of HT_.out (by kernel_rfl)) (fun _ _ _ h => h) (Or.inl ⟨by rfl, ?_⟩) ?_ ?_
            rotate_left
            · intro w'
              go_simp
              with_reducible rfl
            rotate_left
            · simp only [Act.put, List.setIfInBounds_toArray, List.set_cons_zero, List.set_cons_succ, i64_w, i32_w]
              rfl
            refine done_ (done_of HT_.out (by kernel_rfl)) ?_
            try go_wp2
            go_roundg k1
            case measure => have := HK1.out; omega
            case rel => exact ⟨(t361), (wrap64 (x4_1 - 1)), (by first | rfl | (simp; done) | (simp [*]; done)), H', ⟨by have := HK1.out; omega⟩, ⟨by exact Kd.R_mono HO363.out (fun _ hk => trivial)⟩, ⟨by repeat (first | (with_reducible first | exact HB.out | apply below_alloc | apply pw_below_drewN | apply below_drew1) | exact HB.out)⟩⟩
          · rw [if_neg c6] at H
            exact absurd H (by simp)
        · rw [if_neg c5] at H
          exact absurd H (by simp)
      · rw [if_neg c2] at H
        have c2b0 : decide (0 ≤ x4_1) = false := decide_eq_false c2
        clear c2
        obtain rfl := Option.some.inj H
        go_wp2
        go_ret
        exact ⟨_, by first | rfl | (simp [errW_none, errW_some] <;> rfl) | (simp [*, errW_none, errW_some] <;> rfl), by exact HO_3.out, by repeat (first | (with_reducible first | exact HB.out | apply below_alloc | apply pw_below_drewN | apply below_drew1) | exact HB.out)⟩

end Go.Proofs.YtpncflaoikeidaaGreatDoor.P
namespace Go.Proofs.YtpncflaoikeidaaGreatDoor.H
open Go.RowKit Go.Proofs.YtpncflaoikeidaaGreatDoorW.PrintWords Go.Proofs.YtpncflaoikeidaaGreatDoorW.PrintLast Go.Proofs.YtpncflaoikeidaaGreatDoorW.PrintMore Go.Proofs.YtpncflaoikeidaaGreatDoor.P
theorem small_f (n k : Nat) (hn : n < 4294967296) (hk : 4294967296 ≤ k) : fluxionref01_Small.f k (n : Int) = some (c4 n) := by
  unfold fluxionref01_Small.f
  rw [small_l0 n k [] (by omega) (by omega) (by simp; omega)]; rfl
theorem c4_limbs {n L : Nat} (h : n < 4294967296 ^ L) : (c4 n).length ≤ 3 * L := by
  refine c4_length_le _ _ (Nat.lt_of_lt_of_le h ?_)
  rw [Nat.pow_mul]
  exact Nat.pow_le_pow_left (by decide) _
theorem of_l0 {l : List Int} (hl : okl l) (hn : l.length < 100000) (k0 : Nat) (hk0 : 5000000000 ≤ k0) : ∀ (i k : Nat), i ≤ l.length → k0 + i < k → fluxionref01_Of.l0 k l (c4 (nval (l.drop i))) ((i : Int) - 1) = some (c4 (nval l))
  | 0, k + 1, _, _ => by rw [fluxionref01_Of.l0, if_neg (by omega), List.drop_zero]
  | i + 1, k + 1, hi, hk => by
    have hx := lim_lt hl i
    obtain ⟨v, hv⟩ : ∃ v, nval (l.drop (i + 1)) = v := ⟨_, rfl⟩
    obtain ⟨E, hE⟩ : ∃ E : Nat, E = 100000 := ⟨_, rfl⟩
    have hvl : v < 4294967296 ^ E := by
      have h1 := nval_lt (okl_drop hl (i + 1))
      rw [hv] at h1
      exact Nat.lt_of_lt_of_le h1 (Nat.pow_le_pow_right (by decide) (by rw [List.length_drop]; omega))
    have h1 := c4_limbs hvl
    have h2 : (c4 (v * 65536)).length ≤ 3 * (E + 1) := c4_limbs (by rw [Nat.pow_succ]; exact Nat.mul_lt_mul_of_lt_of_le hvl (by decide) (by decide))
    clear hvl
    have hd := nval_drop_succ l i
    rw [hv] at hd
    have e0 : (((i + 1 : Nat) : Int) - 1) = (i : Int) := by omega
    have t1 := times_f v 65536 k (by decide) (by omega) (by omega)
    have t2 := times_f (v * 65536) 65536 k (by decide) (by omega) (by omega)
    have e1 : wrap64 (rd l (i : Int)) = ((lim l i : Nat) : Int) := by rw [rd_lim hl, wrap_small (by omega) (by omega)]
    have t3 := small_f (lim l i) k hx (by omega)
    have e5 : v * 65536 * 65536 + lim l i = nval (l.drop i) := by rw [hd]; omega
    have h3 : (c4 (v * 65536 * 65536 + lim l i)).length ≤ 3 * (E + 1) := by
      rw [e5]
      refine c4_limbs ?_
      have h4 := nval_lt (okl_drop hl i)
      exact Nat.lt_of_lt_of_le h4 (Nat.pow_le_pow_right (by decide) (by rw [List.length_drop]; omega))
    have t4 := add4_f (v * 65536 * 65536) (lim l i) k (by omega) (by omega)
    have e2 : wrap64 ((i : Int) - 1) = (i : Int) - 1 := by unfold wrap64; omega
    rw [show ((65536 : Nat) : Int) = 65536 from rfl] at t1 t2
    rw [fluxionref01_Of.l0, e0, if_pos (by omega), hv, t1, Option.bind_some, t2, Option.bind_some, if_pos (by omega), if_pos (by omega), e1, t3, Option.bind_some, t4, Option.bind_some, e2, e5]
    exact of_l0 hl hn k0 hk0 i k (by omega) (by omega)
  | 0, 0, _, h => by omega
  | i + 1, 0, _, h => by omega
theorem of_f {l : List Int} (hl : okl l) (hn : l.length < 100000) {k : Nat} (hk : 5000200000 ≤ k) : fluxionref01_Of.f k l = some (c4 (nval l)) := by
  unfold fluxionref01_Of.f
  have e : wrap64 ((l.length : Int) - 1) = (l.length : Int) - 1 := by unfold wrap64; omega
  have h := of_l0 hl hn 5000000000 (by decide) l.length k (Nat.le_refl _) (by omega)
  rw [List.drop_length] at h
  rw [e]
  simp only [nval, c4_zero] at h
  exact h
def cmpN (a b : Nat) : Int := if a < b then -1 else if b < a then 1 else 0
theorem c4_len_mono {a b : Nat} (h : (c4 a).length < (c4 b).length) : a < b := by
  refine Nat.lt_of_not_le fun hc => ?_
  have h1 := v4_lt (ok4_c4 a)
  rw [v4_c4] at h1
  have h2 := c4_length_le _ b (Nat.lt_of_le_of_lt hc h1)
  omega
/-- two numbers with the same digits above -/
theorem cmp_l0 (a b : Nat) (hl : (c4 a).length = (c4 b).length) (hn : (c4 a).length < 1000000) : ∀ (i k : Nat), i ≤ (c4 a).length → i < k → a / 10000 ^ i = b / 10000 ^ i → fluxionref01_Cmp.l0 k (c4 a) (c4 b) ((i : Int) - 1) = some (cmpN a b)
  | 0, k + 1, _, _, h => by
    have : a = b := by simpa using h
    subst this
    rw [fluxionref01_Cmp.l0, if_neg (by omega)]
    simp [cmpN]
  | i + 1, k + 1, hi, hk, h => by
    have e0 : (((i + 1 : Nat) : Int) - 1) = (i : Int) := by omega
    have e2 : wrap64 ((i : Int) - 1) = (i : Int) - 1 := by unfold wrap64; omega
    rw [div_pow_succ, div_pow_succ] at h
    have hp : 0 < 10000 ^ i := Nat.pow_pos (by decide)
    have ra := rd_c4 a i
    have rb := rd_c4 b i
    have IH := Aside0.mk (cmp_l0 a b hl hn i k (by omega) (by omega))
    have da := Nat.div_add_mod a (10000 ^ i)
    have db := Nat.div_add_mod b (10000 ^ i)
    have ma := Nat.mod_lt a hp
    have mb := Nat.mod_lt b hp
    have lt_of : ∀ {x y : Nat}, x / 10000 ^ i < y / 10000 ^ i → x < y := fun {x y} hxy => Nat.lt_of_not_le fun hc => by
      have := Nat.div_le_div_right (c := 10000 ^ i) hc
      exact absurd this (Nat.not_le.2 hxy)
    clear da db ma mb hp
    generalize hA : a / 10000 ^ i = A at *
    generalize hB : b / 10000 ^ i = B at *
    have LT1 : Aside0 (A < B → a < b) := ⟨fun h => lt_of (by rw [hA, hB]; exact h)⟩
    have LT2 : Aside0 (B < A → b < a) := ⟨fun h => lt_of (by rw [hA, hB]; exact h)⟩
    clear lt_of hA hB
    rw [fluxionref01_Cmp.l0, e0, if_pos (by omega), if_pos (by omega), if_pos (by omega), if_pos (by omega), ra, rb, e2]
    by_cases h1 : A % 10000 < B % 10000
    · have := LT1.out (by omega)
      rw [if_pos (by omega)]
      unfold cmpN; rw [if_pos this]
    · by_cases h2 : B % 10000 < A % 10000
      · have := LT2.out (by omega)
        rw [if_neg (by omega), if_pos (by omega)]
        unfold cmpN; rw [if_neg (by omega), if_pos this]
      · rw [if_neg (by omega), if_neg (by omega)]
        exact IH.out (by omega)
  | 0, 0, _, h, _ => by omega
  | i + 1, 0, _, h, _ => by omega
theorem cmp_f (a b k : Nat) (hk : (c4 a).length < k) (hn : (c4 a).length < 1000000) : fluxionref01_Cmp.f k (c4 a) (c4 b) = some (cmpN a b) := by
  unfold fluxionref01_Cmp.f
  by_cases h : (c4 a).length = (c4 b).length
  · rw [if_pos (by omega)]
    have e : wrap64 (((c4 a).length : Int) - 1) = ((c4 a).length : Int) - 1 := by unfold wrap64; omega
    rw [e]
    have h1 := v4_lt (ok4_c4 a)
    have h2 := v4_lt (ok4_c4 b)
    rw [v4_c4] at h1 h2
    rw [← h] at h2
    exact cmp_l0 a b h hn _ k (Nat.le_refl _) hk (by rw [Nat.div_eq_of_lt h1, Nat.div_eq_of_lt h2])
  · rw [if_neg (by omega)]
    rcases Nat.lt_or_ge (c4 a).length (c4 b).length with h3 | h3
    · have := c4_len_mono h3
      rw [if_pos (by omega)]; unfold cmpN; rw [if_pos this]
    · have := c4_len_mono (a := b) (b := a) (by omega)
      rw [if_neg (by omega)]; unfold cmpN; rw [if_neg (by omega), if_pos this]
theorem mod_pow_succ (a i : Nat) : a % 10000 ^ (i + 1) = a % 10000 ^ i + 10000 ^ i * (a / 10000 ^ i % 10000) := by rw [Nat.pow_succ, Nat.mod_mul]
structure SubOk (a b n : Nat) (out : List Int) (less : Nat) : Prop where
  len : out.length = n
  ok : ok4 out
  le : less ≤ 1
  eq : v4 out + b % 10000 ^ n = a % 10000 ^ n + 10000 ^ n * less
theorem SubOk.next {a b i : Nat} {out : List Int} {less x y d e : Nat} (h : SubOk a b i out less) (hx : a / 10000 ^ i % 10000 = x) (hy : b / 10000 ^ i % 10000 = y) (he : e ≤ 1) (hd : d < 10000) (hk : d + y + less = x + 10000 * e) : SubOk a b (i + 1) (out ++ [((d : Nat) : Int)]) e := by
  have h1 := h.eq
  refine ⟨by rw [List.length_append, List.length_singleton, h.len], ok4_append.2 ⟨h.ok, ok4_cons.2 ⟨by omega, ok4_nil⟩⟩, he, ?_⟩
  rw [v4_append, h.len, mod_pow_succ, mod_pow_succ, hx, hy, Nat.pow_succ]
  simp only [v4, Int.toNat_natCast, Nat.mul_zero, Nat.add_zero]
  have h2 : 10000 ^ i * (d + y + less) = 10000 ^ i * (x + 10000 * e) := by rw [hk]
  simp only [Nat.mul_add] at h2
  rw [Nat.mul_assoc]
  generalize 10000 ^ i * (10000 * e) = p1 at *
  generalize 10000 ^ i * x = p2 at *
  generalize 10000 ^ i * y = p3 at *
  generalize 10000 ^ i * d = p4 at *
  generalize 10000 ^ i * less = p5 at *
  generalize b % 10000 ^ i = q1 at *
  generalize a % 10000 ^ i = q2 at *
  clear hk hx hy h
  omega
theorem sub_l0 (a b : Nat) (hn : (c4 a).length < 1000000) : ∀ (j i k : Nat) (out : List Int) (less : Nat), i + j = (c4 a).length → SubOk a b i out less → j + (c4 a).length + 2 ≤ k →
    ∃ out' less', SubOk a b (c4 a).length out' less' ∧ fluxionref01_Sub.l0 k (c4 a) (c4 b) out (less : Int) (i : Int) = some (c4 (v4 out'), true)
  | 0, i, k, out, less, hi, h, hk => by
    obtain ⟨k, rfl⟩ : ∃ k2, k = k2 + 1 := ⟨k - 1, by omega⟩
    have hin : i = (c4 a).length := by omega
    refine ⟨out, less, by rw [← hin]; exact h, ?_⟩
    have hol := h.len
    rw [fluxionref01_Sub.l0, if_neg (by omega), trim1_f h.ok (by omega) (by omega), Option.bind_some]
  | j + 1, i, k, out, less, hi, h, hk => by
    obtain ⟨k, rfl⟩ : ∃ k2, k = k2 + 1 := ⟨k - 1, by omega⟩
    have hol := h.len
    have hl := h.le
    have ra := rd_c4 a i
    have db := digit_f b i
    obtain ⟨x, hx⟩ : ∃ x, a / 10000 ^ i % 10000 = x := ⟨_, rfl⟩
    obtain ⟨y, hy⟩ : ∃ y, b / 10000 ^ i % 10000 = y := ⟨_, rfl⟩
    have hxl : x < 10000 := by rw [← hx]; exact Nat.mod_lt _ (by decide)
    have hyl : y < 10000 := by rw [← hy]; exact Nat.mod_lt _ (by decide)
    rw [hx] at ra
    rw [hy] at db
    have NX := Aside0.mk (fun e d he hd hk2 => h.next (d := d) (e := e) hx hy he hd hk2)
    clear hx hy h
    have E1 : Aside0 (wrap64 (wrap64 ((x : Int) - (y : Int)) - (less : Int)) = (x : Int) - y - less) := ⟨by unfold wrap64; omega⟩
    have E3 : Aside0 (wrap64 ((i : Int) + 1) = ((i + 1 : Nat) : Int)) := ⟨by unfold wrap64; omega⟩
    have b1 : (i : Int) < ((c4 a).length : Int) := by omega
    have b2 : out.length < 17592186044416 := by omega
    by_cases hneg : x < y + less
    · obtain ⟨o, l, h1, h2⟩ := sub_l0 a b hn j (i + 1) k _ 1 (by omega) (NX.out 1 (x + 10000 - y - less) (by omega) (by omega) (by omega)) (by omega)
      refine ⟨o, l, h1, ?_⟩
      have E2 : Aside0 (wrap64 ((x : Int) - y - less + 10000) = ((x + 10000 - y - less : Nat) : Int)) := ⟨by unfold wrap64; omega⟩
      have hng : (x : Int) - y - less < 0 := by omega
      rw [fluxionref01_Sub.l0, if_pos b1, if_pos (by omega), db, Option.bind_some, ra, E1.out, if_pos hng, if_pos b2, E2.out, E3.out]
      exact h2
    · obtain ⟨o, l, h1, h2⟩ := sub_l0 a b hn j (i + 1) k _ 0 (by omega) (NX.out 0 (x - y - less) (by omega) (by omega) (by omega)) (by omega)
      refine ⟨o, l, h1, ?_⟩
      have e2 : (x : Int) - y - less = ((x - y - less : Nat) : Int) := by omega
      have hng : ¬ (x : Int) - y - less < 0 := by omega
      rw [fluxionref01_Sub.l0, if_pos b1, if_pos (by omega), db, Option.bind_some, ra, E1.out, if_neg hng, if_pos b2, e2, E3.out]
      exact h2
theorem sub_f (a b k : Nat) (hab : b ≤ a) (hn : (c4 a).length < 1000000) (hk : 2 * (c4 a).length + 2 ≤ k) : fluxionref01_Sub.f k (c4 a) (c4 b) = some (c4 (a - b), true) := by
  unfold fluxionref01_Sub.f
  rw [cmp_f a b k (by omega) hn, Option.bind_some, if_neg (by unfold cmpN; split <;> (try split) <;> omega)]
  obtain ⟨out, less, h, hr⟩ := sub_l0 a b hn (c4 a).length 0 k [] 0 (by omega) ⟨rfl, ok4_nil, by omega, by simp [v4, Nat.mod_one]⟩ (by omega)
  have h1 := v4_lt (ok4_c4 a)
  rw [v4_c4] at h1
  have h2 := v4_lt h.ok
  rw [h.len] at h2
  have h3 := h.eq
  rw [Nat.mod_eq_of_lt h1, Nat.mod_eq_of_lt (Nat.lt_of_le_of_lt hab h1)] at h3
  have h4 := h.le
  clear h
  generalize 10000 ^ (c4 a).length = P at *
  have h5 : v4 out = a - b := by
    rcases Nat.eq_zero_or_pos less with h0 | h0
    · subst h0
      rw [Nat.mul_zero] at h3; omega
    · have : less = 1 := by omega
      subst this
      rw [Nat.mul_one] at h3
      omega
  rw [h5] at hr
  exact hr
end Go.Proofs.YtpncflaoikeidaaGreatDoor.H
namespace Go.Proofs.YtpncflaoikeidaaGreatDoor.P
open Go.RowKit Go.Proofs.YtpncflaoikeidaaGreatDoorW.PrintWords Go.Proofs.YtpncflaoikeidaaGreatDoorW.PrintLast Go.Proofs.YtpncflaoikeidaaGreatDoorW.PrintMore
attribute [local go_sem] max2_int max_two
set_option linter.unusedVariables false
set_option linter.unusedSimpArgs false
def fluxionref02_digit.l0 : Nat → List Int → List Int → Int → Int → Option (Int)
  | 0, _, _, _, _ => none
  | k + 1, x0, x1, x5, x6 => if (wrap64 (x6 - x5)) > 1 then ((fluxionref01_Times.f k x1 (wrap64 (Int.tdiv (wrap64 (x5 + x6)) 2))).bind fun t375 => ((fluxionref01_Cmp.f k t375 x0).bind fun t378 => (if t378 ≤ 0 then (fluxionref02_digit.l0 k x0 x1 (wrap64 (Int.tdiv (wrap64 (x5 + x6)) 2)) x6) else (fluxionref02_digit.l0 k x0 x1 x5 (wrap64 (Int.tdiv (wrap64 (x5 + x6)) 2)))))) else (some x5)
def fluxionref02_digit.f (k : Nat) (l0 : List Int) (l1 : List Int) : Option (Int) := fluxionref02_digit.l0 k l0 l1 0 10000
set_option maxHeartbeats 8000000 in
set_option maxRecDepth 100000 in
theorem fluxionref02_digit.calls (k : Nat) (A0 : Option Addr) (c0 : Nat) (l0 : List Int) (A1 : Option Addr) (c1 : Nat) (l1 : List Int) (r : Int) (w : World) (hr0 : Kd.C (Kd.int .i64) w A0 l0.length l0) (hc0 : l0.length ≤ c0) (hr1 : Kd.C (Kd.int .i64) w A1 l1.length l1) (hc1 : l1.length ≤ c1) (h : fluxionref02_digit.f k l0 l1 = some r) :
    Calls Tryz.prog 103 #[.slice A0 l0.length c0, .slice A1 l1.length c1] w fun e w' => e = .returned (.int .i64 r) ∧ Below w.heap.size w w' := by
  have HR0 := Aside0.mk hr0
  have HC0 := Aside0.mk hc0
  clear hr0 hc0
  have HR1 := Aside0.mk hr1
  have HC1 := Aside0.mk hc1
  clear hr1 hc1
  have HB := Aside0.mk (Below.refl w.heap.size w)
  have H : (fluxionref02_digit.l0 k l0 l1 0 10000) = some r := h
  clear h
  have H' := Aside0.mk H
  clear H
  go_enter Tryz.func103, Tryz.ntmps103
  go_wp2
  go_loopg [5, 6] k (fun kq v5 v6 w' => ∃ (x5_1 : Int) (x6_1 : Int), v5 = .int .i64 x5_1 ∧ v6 = .int .i64 x6_1 ∧ Aside0 (fluxionref02_digit.l0 kq l0 l1 x5_1 x6_1 = some r) ∧ Aside0 (kq ≤ k) ∧ Aside0 (Below w.heap.size w w'))
  case atStart => exact ⟨(0), (10000), (by first | rfl | (simp; done) | (simp [*]; done)), (by first | rfl | (simp; done) | (simp [*]; done)), H', ⟨Nat.le_refl _⟩, ⟨by repeat (first | (with_reducible first | exact HB.out | apply below_alloc | apply pw_below_drewN | apply below_drew1) | exact HB.out)⟩⟩
  case round =>
    clear H'
    try clear c1
    try clear p2
    obtain ⟨x5_1, x6_1, rfl, rfl, HA, HK1, HB⟩ := hrel
    cases gk with
    | zero => exact absurd HA.out (by simp [fluxionref02_digit.l0])
    | succ k1 =>
      have H := HA.out
      clear HA
      simp only [fluxionref02_digit.l0] at H
      by_cases c3 : (wrap64 (x6_1 - x5_1)) > 1
      · rw [if_pos c3] at H
        have c3b0 : decide (1 < (wrap64 (x6_1 - x5_1))) = true := decide_eq_true c3
        clear c3
        replace H := Option.bind_eq_some_iff.mp H
        obtain ⟨t375, A40, H⟩ := H
        try dsimp only at H
        have A4 := Aside0.mk A40
        clear A40
        replace H := Option.bind_eq_some_iff.mp H
        obtain ⟨t378, A50, H⟩ := H
        try dsimp only at H
        have A5 := Aside0.mk A50
        clear A50
        by_cases c6 : t378 ≤ 0
        · rw [if_pos c6] at H
          have c6b0 : decide (t378 ≤ 0) = true := decide_eq_true c6
          clear c6
          have H' := Aside0.mk H
          clear H
          go_wp2_with (first | ((with_reducible refine gate_callee (f := 51) rfl ?_); refine goesL_ (some 18) rfl rfl Tryz.func51 (by kernel_rfl) rfl #[.slice A1 l1.length c1, .int .i64 (wrap64 (Int.tdiv (wrap64 (x5_1 + x6_1)) 2))] rfl (by (try simp only [List.map_toArray, List.map_cons, List.map_nil]); first | done | rfl | (simp only [List.length_drop, List.length_take]; rfl)) ?_; (with_reducible refine (fluxionref01_Times.calls k1 _ _ l1 (wrap64 (Int.tdiv (wrap64 (x5_1 + x6_1)) 2)) t375 _ ?side1 ?side2 A4.out).mono ?_); (case side1 => repeat (first | exact (Kd.C_below HR1.out HB.out) | (with_reducible refine Kd.C_alloc ?_ _) | (with_reducible refine Kd.C_drewN ?_ _) | (with_reducible refine Kd.C_drew ?_))); (case side2 => exact HC1.out); rintro e w7 ⟨v376, rfl, ho0, hb⟩; refine ⟨_, rfl, ?_⟩; have n0_ := Aside0.mk (Kd.R_lower ho0 (below_size (by repeat (first | (with_reducible first | exact HB.out | apply below_alloc | apply pw_below_drewN | apply below_drew1) | exact HB.out)))); have n1_ := Aside0.mk (below_step (by repeat (first | (with_reducible first | exact HB.out | apply below_alloc | apply pw_below_drewN | apply below_drew1) | exact HB.out)) hb); clear HB; have HO377 := n0_; have HB := n1_; clear n0_ n1_; (try clear hb); (try clear hb2); (try clear hk); (try clear hi); (try clear ho0); obtain ⟨Ao8, co8, eo8⟩ := Kd.R_slice HO377.out; subst eo8) | ((with_reducible refine gate_callee (f := 22) rfl ?_); refine goesL_ (some 20) rfl rfl Tryz.func22 (by kernel_rfl) rfl #[.slice Ao8 t375.length co8, .slice A0 l0.length c0] rfl (by (try simp only [List.map_toArray, List.map_cons, List.map_nil]); first | done | rfl | (simp only [List.length_drop, List.length_take]; rfl)) ?_; (with_reducible refine (fluxionref01_Cmp.calls k1 _ _ t375 _ _ l0 t378 _ ?side1 ?side2 ?side3 ?side4 A5.out).mono ?_); (case side1 => repeat (first | exact (Kd.R_reads' HO377.out).2.2 | (with_reducible refine Kd.C_alloc ?_ _) | (with_reducible refine Kd.C_drewN ?_ _) | (with_reducible refine Kd.C_drew ?_))); (case side2 => exact (Kd.R_reads' HO377.out).2.1); (case side3 => repeat (first | exact (Kd.C_below HR0.out HB.out) | (with_reducible refine Kd.C_alloc ?_ _) | (with_reducible refine Kd.C_drewN ?_ _) | (with_reducible refine Kd.C_drew ?_))); (case side4 => exact HC0.out); rintro e w' ⟨rfl, ⟨nd, rfl⟩⟩; refine ⟨_, rfl, ?_⟩))
          go_roundg k1
          case measure => have := HK1.out; omega
          case rel => exact ⟨(wrap64 (Int.tdiv (wrap64 (x5_1 + x6_1)) 2)), (x6_1), (by first | rfl | (simp; done) | (simp [*]; done)), (by first | rfl | (simp; done) | (simp [*]; done)), H', ⟨by have := HK1.out; omega⟩, ⟨by repeat (first | (with_reducible first | exact HB.out | apply below_alloc | apply pw_below_drewN | apply below_drew1) | exact HB.out)⟩⟩
        · rw [if_neg c6] at H
          have c6b0 : decide (t378 ≤ 0) = false := decide_eq_false c6
          clear c6
          have H' := Aside0.mk H
          clear H
          go_wp2_with (first | ((with_reducible refine gate_callee (f := 51) rfl ?_); refine goesL_ (some 18) rfl rfl Tryz.func51 (by kernel_rfl) rfl #[.slice A1 l1.length c1, .int .i64 (wrap64 (Int.tdiv (wrap64 (x5_1 + x6_1)) 2))] rfl (by (try simp only [List.map_toArray, List.map_cons, List.map_nil]); first | done | rfl | (simp only [List.length_drop, List.length_take]; rfl)) ?_; (with_reducible refine (fluxionref01_Times.calls k1 _ _ l1 (wrap64 (Int.tdiv (wrap64 (x5_1 + x6_1)) 2)) t375 _ ?side1 ?side2 A4.out).mono ?_); (case side1 => repeat (first | exact (Kd.C_below HR1.out HB.out) | (with_reducible refine Kd.C_alloc ?_ _) | (with_reducible refine Kd.C_drewN ?_ _) | (with_reducible refine Kd.C_drew ?_))); (case side2 => exact HC1.out); rintro e w9 ⟨v376, rfl, ho0, hb⟩; refine ⟨_, rfl, ?_⟩; have n0_ := Aside0.mk (Kd.R_lower ho0 (below_size (by repeat (first | (with_reducible first | exact HB.out | apply below_alloc | apply pw_below_drewN | apply below_drew1) | exact HB.out)))); have n1_ := Aside0.mk (below_step (by repeat (first | (with_reducible first | exact HB.out | apply below_alloc | apply pw_below_drewN | apply below_drew1) | exact HB.out)) hb); clear HB; have HO377 := n0_; have HB := n1_; clear n0_ n1_; (try clear hb); (try clear hb2); (try clear hk); (try clear hi); (try clear ho0); obtain ⟨Ao10, co10, eo10⟩ := Kd.R_slice HO377.out; subst eo10) | ((with_reducible refine gate_callee (f := 22) rfl ?_); refine goesL_ (some 20) rfl rfl Tryz.func22 (by kernel_rfl) rfl #[.slice Ao10 t375.length co10, .slice A0 l0.length c0] rfl (by (try simp only [List.map_toArray, List.map_cons, List.map_nil]); first | done | rfl | (simp only [List.length_drop, List.length_take]; rfl)) ?_; (with_reducible refine (fluxionref01_Cmp.calls k1 _ _ t375 _ _ l0 t378 _ ?side1 ?side2 ?side3 ?side4 A5.out).mono ?_); (case side1 => repeat (first | exact (Kd.R_reads' HO377.out).2.2 | (with_reducible refine Kd.C_alloc ?_ _) | (with_reducible refine Kd.C_drewN ?_ _) | (with_reducible refine Kd.C_drew ?_))); (case side2 => exact (Kd.R_reads' HO377.out).2.1); (case side3 => repeat (first | exact (Kd.C_below HR0.out HB.out) | (with_reducible refine Kd.C_alloc ?_ _) | (with_reducible refine Kd.C_drewN ?_ _) | (with_reducible refine Kd.C_drew ?_))); (case side4 => exact HC0.out); rintro e w' ⟨rfl, ⟨nd, rfl⟩⟩; refine ⟨_, rfl, ?_⟩))
          go_roundg k1
          case measure => have := HK1.out; omega
          case rel => exact ⟨(x5_1), (wrap64 (Int.tdiv (wrap64 (x5_1 + x6_1)) 2)), (by first | rfl | (simp; done) | (simp [*]; done)), (by first | rfl | (simp; done) | (simp [*]; done)), H', ⟨by have := HK1.out; omega⟩, ⟨by repeat (first | (with_reducible first | exact HB.out | apply below_alloc | apply pw_below_drewN | apply below_drew1) | exact HB.out)⟩⟩
      · rw [if_neg c3] at H
        have c3b0 : decide (1 < (wrap64 (x6_1 - x5_1))) = false := decide_eq_false c3
        clear c3
        obtain rfl := Option.some.inj H
        go_wp2
        go_ret
        exact ⟨by first | rfl | (simp [errW_none, errW_some] <;> rfl) | (simp [*, errW_none, errW_some] <;> rfl), by repeat (first | (with_reducible first | exact HB.out | apply below_alloc | apply pw_below_drewN | apply below_drew1) | exact HB.out)⟩

end Go.Proofs.YtpncflaoikeidaaGreatDoor.P
namespace Go.Proofs.YtpncflaoikeidaaGreatDoor.H
open Go.RowKit Go.Proofs.YtpncflaoikeidaaGreatDoorW.PrintWords Go.Proofs.YtpncflaoikeidaaGreatDoorW.PrintLast Go.Proofs.YtpncflaoikeidaaGreatDoorW.PrintMore Go.Proofs.YtpncflaoikeidaaGreatDoor.P
theorem c4_mul_len {b m : Nat} (hm : m ≤ 10000) : (c4 (b * m)).length ≤ (c4 b).length + 1 := by
  refine c4_length_le _ _ ?_
  have h1 := v4_lt (ok4_c4 b)
  rw [v4_c4] at h1
  rw [Nat.pow_succ]
  rcases Nat.eq_zero_or_pos m with h | h
  · subst h; rw [Nat.mul_zero]; exact Nat.mul_pos (Nat.pow_pos (by decide)) (by decide)
  · exact Nat.mul_lt_mul_of_lt_of_le h1 hm (by omega)
theorem digit2_l0 (r b : Nat) (hn : (c4 b).length < 700000) (K : Nat) (hK : 2 * (c4 b).length + 200 ≤ K) : ∀ (m low high k : Nat), high = low + m → 0 < m → high ≤ 10000 → b * low ≤ r → r < b * high → K + m ≤ k → fluxionref02_digit.l0 k (c4 r) (c4 b) (low : Int) (high : Int) = some ((r / b : Nat) : Int) := by
  intro m
  induction m using Nat.strongRecOn with
  | _ m ih =>
    intro low high k hh hm hh2 h1 h2 hk
    obtain ⟨k, rfl⟩ : ∃ k2, k = k2 + 1 := ⟨k - 1, by omega⟩
    have ew : wrap64 ((high : Int) - (low : Int)) = ((m : Nat) : Int) := by unfold wrap64; omega
    rw [fluxionref02_digit.l0, ew]
    clear ew
    by_cases h0 : m = 1
    · subst h0
      rw [if_neg (by omega)]
      have hb : 0 < b := by
        rcases Nat.eq_zero_or_pos b with h | h
        · subst h; rw [Nat.zero_mul] at h2; omega
        · exact h
      have : r / b = low := by
        refine Nat.le_antisymm (Nat.le_of_lt_succ ((Nat.div_lt_iff_lt_mul hb).2 ?_)) ((Nat.le_div_iff_mul_le hb).2 (by rw [Nat.mul_comm]; exact h1))
        rw [Nat.mul_comm]; rw [hh] at h2; exact h2
      rw [this]
    · obtain ⟨mid, hmid⟩ : ∃ mid, (low + high) / 2 = mid := ⟨_, rfl⟩
      have em : wrap64 (Int.tdiv (wrap64 ((low : Int) + (high : Int))) 2) = (mid : Int) := by
        rw [wrap_small (x := (low : Int) + (high : Int)) (by omega) (by omega), Int.tdiv_eq_ediv_of_nonneg (by omega)]
        rw [wrap_small (by omega) (by omega)]; omega
      have EM := Aside0.mk em
      clear em
      have hl := c4_mul_len (b := b) (m := mid) (by omega)
      have t := times_f b mid k (by omega) (by omega) (by omega)
      have c := cmp_f (b * mid) r k (by omega) (by omega)
      rw [if_pos (by omega), EM.out, t, Option.bind_some, c, Option.bind_some]
      have IH1 := fun hle => ih (high - mid) (by omega) mid high k (by omega) (by omega) hh2 hle h2 (by omega)
      have IH2 := fun hlt => ih (mid - low) (by omega) low mid k (by omega) (by omega) (by omega) h1 hlt (by omega)
      clear t c EM ih
      by_cases hx : r < b * mid
      · have hc : ¬ cmpN (b * mid) r ≤ 0 := by unfold cmpN; rw [if_neg (by omega), if_pos hx]; decide
        rw [if_neg hc]
        exact IH2 hx
      · have hc : cmpN (b * mid) r ≤ 0 := by
          unfold cmpN
          by_cases hy : b * mid < r
          · rw [if_pos hy]; decide
          · rw [if_neg hy, if_neg hx]; decide
        rw [if_pos hc]
        exact IH1 (by omega)
theorem digit2_f (r b k : Nat) (hn : (c4 b).length < 700000) (hlt : r < b * 10000) (hk : 2 * (c4 b).length + 10200 ≤ k) : fluxionref02_digit.f k (c4 r) (c4 b) = some ((r / b : Nat) : Int) := by
  obtain ⟨H, hH⟩ : ∃ H : Nat, H = 10000 := ⟨_, rfl⟩
  have h := digit2_l0 r b hn (2 * (c4 b).length + 200) (Nat.le_refl _) H 0 H k (by omega) (by omega) (by omega) (by rw [Nat.mul_zero]; omega) (by rw [hH]; exact hlt) (by omega)
  have e : ((H : Nat) : Int) = 10000 := by omega
  have e0 : ((0 : Nat) : Int) = 0 := by omega
  rw [e, e0] at h
  unfold fluxionref02_digit.f
  exact h
end Go.Proofs.YtpncflaoikeidaaGreatDoor.H
namespace Go.Proofs.YtpncflaoikeidaaGreatDoor.P
open Go.RowKit Go.Proofs.YtpncflaoikeidaaGreatDoorW.PrintWords Go.Proofs.YtpncflaoikeidaaGreatDoorW.PrintLast Go.Proofs.YtpncflaoikeidaaGreatDoorW.PrintMore
attribute [local go_sem] max2_int max_two
set_option linter.unusedVariables false
set_option linter.unusedSimpArgs false
def fluxionref02_DivMod.l0 : Nat → List Int → List Int → List Int → List Int → Int → Option (List Int × List Int)
  | 0, _, _, _, _, _ => none
  | k + 1, x0, x1, x7, x8, x9 => if x9 ≥ 0 then (if 0 ≤ x9 then (if x9 < (x0.length : Int) then ((some (([rd x0 x9] : List Int) : List Int)).bind fun y405 => (if y405.length + x8.length < 17592186044416 then ((fluxionref02_trim.f k (y405 ++ x8)).bind fun t411 => ((fluxionref02_digit.f k t411 x1).bind fun t414 => (if x9 < (x7.length : Int) then ((fluxionref01_Times.f k x1 t414).bind fun t416 => ((fluxionref01_Sub.f k t411 t416).bind fun bt419 => (fluxionref02_DivMod.l0 k x0 x1 (x7.set (x9 : Int).toNat t414) bt419.1 (wrap64 (x9 - 1))))) else (none)))) else (none))) else (none)) else (none)) else ((fluxionref02_trim.f k x7).bind fun t401 => (some (t401, x8)))
def fluxionref02_DivMod.f (k : Nat) (l0 : List Int) (l1 : List Int) : Option (List Int × List Int) := if 0 ≤ (mx (wrap64 ((wrap64 ((l0.length : Int) - (l1.length : Int))) + 1)) 0) then (if (mx (wrap64 ((wrap64 ((l0.length : Int) - (l1.length : Int))) + 1)) 0 : Int).toNat ≤ 35184372088832 then ((some (([] : List Int) : List Int)).bind fun y394 => (if (mx (wrap64 ((wrap64 ((l0.length : Int) - (l1.length : Int))) + 1)) 0) ≤ (l0.length : Int) then (if y394.length + (l0.drop ((mx (wrap64 ((wrap64 ((l0.length : Int) - (l1.length : Int))) + 1)) 0) : Int).toNat).length < 17592186044416 then (fluxionref02_DivMod.l0 k l0 l1 (List.replicate (mx (wrap64 ((wrap64 ((l0.length : Int) - (l1.length : Int))) + 1)) 0 : Int).toNat 0) (y394 ++ (l0.drop ((mx (wrap64 ((wrap64 ((l0.length : Int) - (l1.length : Int))) + 1)) 0) : Int).toNat)) (wrap64 ((mx (wrap64 ((wrap64 ((l0.length : Int) - (l1.length : Int))) + 1)) 0) - 1))) else (none)) else (none))) else (none)) else (none)
set_option maxHeartbeats 8000000 in
set_option maxRecDepth 100000 in
theorem fluxionref02_DivMod.calls (k : Nat) (A0 : Option Addr) (c0 : Nat) (l0 : List Int) (A1 : Option Addr) (c1 : Nat) (l1 : List Int) (r1 : List Int) (r2 : List Int) (w : World) (hr0 : Kd.C (Kd.int .i64) w A0 l0.length l0) (hc0 : l0.length ≤ c0) (hr1 : Kd.C (Kd.int .i64) w A1 l1.length l1) (hc1 : l1.length ≤ c1) (h : fluxionref02_DivMod.f k l0 l1 = some (r1, r2)) :
    Calls Tryz.prog 69 #[.slice A0 l0.length c0, .slice A1 l1.length c1] w fun e w' => ∃ v0_ v1_ : Value, e = .returned (.tuple #[v0_, v1_]) ∧ Kd.R (Kd.int .i64) 3 w' w.heap.size (fun k_ => some k_ ≠ (v1_ : Value).ownBlock) v0_ r1 ∧ Kd.R (Kd.int .i64) 3 w' w.heap.size (fun k_ => some k_ ≠ (v0_ : Value).ownBlock) v1_ r2 ∧ Below w.heap.size w w' := by
  have HR0 := Aside0.mk hr0
  have HC0 := Aside0.mk hc0
  clear hr0 hc0
  have HR1 := Aside0.mk hr1
  have HC1 := Aside0.mk hc1
  clear hr1 hc1
  have HB := Aside0.mk (Below.refl w.heap.size w)
  have H : (if 0 ≤ (mx (wrap64 ((wrap64 ((l0.length : Int) - (l1.length : Int))) + 1)) 0) then (if (mx (wrap64 ((wrap64 ((l0.length : Int) - (l1.length : Int))) + 1)) 0 : Int).toNat ≤ 35184372088832 then ((some (([] : List Int) : List Int)).bind fun y394 => (if (mx (wrap64 ((wrap64 ((l0.length : Int) - (l1.length : Int))) + 1)) 0) ≤ (l0.length : Int) then (if y394.length + (l0.drop ((mx (wrap64 ((wrap64 ((l0.length : Int) - (l1.length : Int))) + 1)) 0) : Int).toNat).length < 17592186044416 then (fluxionref02_DivMod.l0 k l0 l1 (List.replicate (mx (wrap64 ((wrap64 ((l0.length : Int) - (l1.length : Int))) + 1)) 0 : Int).toNat 0) (y394 ++ (l0.drop ((mx (wrap64 ((wrap64 ((l0.length : Int) - (l1.length : Int))) + 1)) 0) : Int).toNat)) (wrap64 ((mx (wrap64 ((wrap64 ((l0.length : Int) - (l1.length : Int))) + 1)) 0) - 1))) else (none)) else (none))) else (none)) else (none)) = some (r1, r2) := h
  clear h
  obtain ⟨ji3, hji3⟩ : ∃ j_ : Int, (mx (wrap64 ((wrap64 ((l0.length : Int) - (l1.length : Int))) + 1)) 0) = j_ := ⟨_, rfl⟩
  first | rewrite [hji3] at H | simp only [hji3] at H
  (try (have hji3l : 0 ≤ ji3 := by (rw [← hji3]; unfold mx; (repeat' split) <;> omega)))
  (try (have hji3m : 0 ≤ ji3 := by omega))
  have hji3_ : (if (wrap64 ((wrap64 ((l0.length : Int) - (l1.length : Int))) + 1)) < 0 then 0 else (wrap64 ((wrap64 ((l0.length : Int) - (l1.length : Int))) + 1))) = ji3 := hji3
  by_cases c4 : 0 ≤ (ji3)
  · rw [if_pos c4] at H
    have c4b0 := eq_true c4
    have c4b1 : decide (0 ≤ (ji3)) = true := decide_eq_true c4
    clear c4
    by_cases c5 : (ji3 : Int).toNat ≤ 35184372088832
    · rw [if_pos c5] at H
      have c5b0 := eq_true c5
      have c5b1 : decide ((ji3 : Int).toNat ≤ 35184372088832) = true := decide_eq_true c5
      clear c5
      obtain ⟨y391, hy391⟩ : ∃ y_ : List Int, y_ = (List.replicate (ji3 : Int).toNat 0) := ⟨_, rfl⟩
      replace H : ((some (([] : List Int) : List Int)).bind fun y394 => (if (ji3) ≤ (l0.length : Int) then (if y394.length + (l0.drop ((ji3) : Int).toNat).length < 17592186044416 then (fluxionref02_DivMod.l0 k l0 l1 y391 (y394 ++ (l0.drop ((ji3) : Int).toNat)) (wrap64 ((ji3) - 1))) else (none)) else (none))) = some (r1, r2) := by first | (rw [hy391]; with_reducible exact H) | (have H2_ := (Option.bind_some _ _).symm.trans H; rw [hy391]; with_reducible exact H2_) | (have H2_ := (Option.bind_some _ _).symm.trans H; with_reducible exact H2_) | with_reducible exact H | (rw [hy391]; exact H) | exact H
      have Ny391 := Aside0.mk hy391
      clear hy391
      obtain ⟨y394, hy394⟩ : ∃ y_ : List Int, y_ = (([] : List Int)) := ⟨_, rfl⟩
      replace H : (if (ji3) ≤ (l0.length : Int) then (if y394.length + (l0.drop ((ji3) : Int).toNat).length < 17592186044416 then (fluxionref02_DivMod.l0 k l0 l1 y391 (y394 ++ (l0.drop ((ji3) : Int).toNat)) (wrap64 ((ji3) - 1))) else (none)) else (none)) = some (r1, r2) := by first | (rw [hy394]; with_reducible exact H) | (have H2_ := (Option.bind_some _ _).symm.trans H; rw [hy394]; with_reducible exact H2_) | (have H2_ := (Option.bind_some _ _).symm.trans H; with_reducible exact H2_) | with_reducible exact H | (rw [hy394]; exact H) | exact H
      have Ny394 := Aside0.mk hy394
      clear hy394
      have c6b0 := eq_true (of_decide_eq_true (by first | (with_reducible assumption) | assumption) : 0 ≤ (ji3))
      by_cases c7 : (ji3) ≤ (l0.length : Int)
      · rw [if_pos c7] at H
        have c7b0 := eq_true c7
        have c7b1 : decide ((ji3) ≤ (l0.length : Int)) = true := decide_eq_true c7
        clear c7
        by_cases c8 : y394.length + (l0.drop ((ji3) : Int).toNat).length < 17592186044416
        · rw [if_pos c8] at H
          have LMc8 := Aside0.mk c8
          clear c8
          obtain ⟨y398, hy398⟩ : ∃ y_ : List Int, y_ = (y394 ++ (l0.drop ((ji3) : Int).toNat)) := ⟨_, rfl⟩
          replace H : (fluxionref02_DivMod.l0 k l0 l1 y391 y398 (wrap64 ((ji3) - 1))) = some (r1, r2) := by first | (rw [hy398]; with_reducible exact H) | (have H2_ := (Option.bind_some _ _).symm.trans H; rw [hy398]; with_reducible exact H2_) | (have H2_ := (Option.bind_some _ _).symm.trans H; with_reducible exact H2_) | with_reducible exact H | (rw [hy398]; exact H) | exact H
          have Ny398 := Aside0.mk hy398
          clear hy398
          have H' := Aside0.mk H
          clear H
          go_enter Tryz.func69, Tryz.ntmps69
          go_wp2_with (first | ((with_reducible refine gate_dst (N := 21) rfl ?_); refine Kd.R_make (Kd.int .i64) _ 3 rfl (N := 21) rfl 30 _ _ rfl ji3 rfl rfl Tryz.underlying30 (.int .i64 0) 8 info3 rfl (by decide) (by omega) 0 (ok := fun _ => True) (okp := fun _ => True) rfl (fun _ hk => hk) trivial (of_decide_eq_true (by first | (with_reducible assumption) | assumption)) (Nat.le_trans (Nat.mul_le_mul_right _ (of_decide_eq_true (by first | (with_reducible assumption) | assumption) : ji3.toNat ≤ 35184372088832)) (by omega)) (Below.refl _ _) (Nat.le_refl _) ?_; intro v392 w9 ho10 hb hg_ hnew_; clear hg_ hnew_; (first | rw [← Ny391.out] at ho10 | (simp only [Int.reduceToNat] at ho10; rw [← Ny391.out] at ho10)); have n0_ := Aside0.mk (Kd.R_lower ho10 (below_size (by repeat (first | (with_reducible first | exact HB.out | apply below_alloc | apply pw_below_drewN | apply below_drew1) | exact HB.out)))); have n1_ := Aside0.mk (below_step (by repeat (first | (with_reducible first | exact HB.out | apply below_alloc | apply pw_below_drewN | apply below_drew1) | exact HB.out)) hb); clear HB; have HO393 := n0_; have HB := n1_; clear n0_ n1_; clear hb ho10) | ((with_reducible refine gate_dst (N := 22) rfl ?_); refine Kd.R_lit (Kd.int .i64) _ 3 ?hg (N := 22) ?hd (xs := ([] : List Int)) (inner := []) (ok := fun _ => True) (okp := fun _ => True) ?hr ?hp (fun _ hk => hk) trivial (Below.refl _ _) (Nat.le_refl _) (by simp) ?_; (case hd => rfl); (case hg => rfl); (case hr => first | (go_simp; done) | (go_simp; rfl)); (case hp => exact (Reps.none _ _)); intro v395 w11 ho12 hb hg_ hnew_; clear hg_ hnew_; (first | rw [← Ny394.out] at ho12 | (simp only [Int.reduceToNat] at ho12; rw [← Ny394.out] at ho12)); have n0_ := Aside0.mk (Kd.R_elder' (by exact HO393.out) (Kd.R_base ho12) hb); have n1_ := Aside0.mk (Kd.R_lower (Kd.R_new' ho12 (Kd.R_lt (by exact HO393.out))) (below_size (by repeat (first | (with_reducible first | exact HB.out | apply below_alloc | apply pw_below_drewN | apply below_drew1) | exact HB.out)))); have n2_ := Aside0.mk (below_step (by repeat (first | (with_reducible first | exact HB.out | apply below_alloc | apply pw_below_drewN | apply below_drew1) | exact HB.out)) hb); clear HO393; clear HB; have HO393 := n0_; have HO396 := n1_; have HB := n2_; clear n0_ n1_ n2_; clear hb ho12; obtain ⟨i013, hi013, _, hsz13, _⟩ := info_parts info3; obtain ⟨A13, hcut13, hA13, hC13⟩ := print_drop_of (P := Tryz.prog) (Value.int .i64) 0 30 3 .i64 Tryz.underlying30 hi013 hsz13 A0 c0 l0 (ji3) (of_decide_eq_true (by first | (with_reducible assumption) | assumption)) (of_decide_eq_true (by first | (with_reducible assumption) | assumption)) HC0.out; have HR397 := Aside0.mk (Kd.C_of_reads (h1 := fun _ => rfl) (hA13 _ (Kd.reads_of_C HR0.out))); have HC397 := Aside0.mk hC13; clear hA13 hC13 hi013 hsz13) | ((with_reducible refine gate_builtin (b := .append) (xs := #[.tmp 22, .tmp 25]) rfl ?_); at_builtin; refine Kd.R_append_rows (Kd.int .i64) (w0 := w) w.heap.size rfl (.tmp 22) (.tmp 25) 30 3 (.int .i64 0) 8 rfl Tryz.underlying30 info3 rfl (by decide) (by omega) v395 y394 (l0.drop ((ji3) : Int).toNat) _ _ _ (fun k_ => some k_ ≠ (v392 : Value).ownBlock) (fun _ => False) rfl rfl ?aO ?aR (fun _ _ h => h) (fun _ h => h.elim) ?aF ?aB ?aS ?aL ?_; (case aR => first | (rw [← show (l0.drop ((ji3) : Int).toNat).length = (l0.length - (ji3).toNat) from List.length_drop]; repeat (first | exact (Kd.C_below HR397.out HB.out) | (with_reducible refine Kd.C_alloc ?_ _) | (with_reducible refine Kd.C_drewN ?_ _) | (with_reducible refine Kd.C_drew ?_))) | (repeat (first | exact (Kd.C_below HR397.out HB.out) | (with_reducible refine Kd.C_alloc ?_ _) | (with_reducible refine Kd.C_drewN ?_ _) | (with_reducible refine Kd.C_drew ?_)))); (case aB => exact (by repeat (first | (with_reducible first | exact HB.out | apply below_alloc | apply pw_below_drewN | apply below_drew1) | exact HB.out))); (case aF => exact (fun k_ hk => Kd.fresh' (Kd.R_lt (by exact HO393.out)) k_ hk)); (case aO => exact (by exact Kd.R_mono HO396.out (fun _ hk => hk.2))); (case aS => exact (below_size (by repeat (first | (with_reducible first | exact HB.out | apply below_alloc | apply pw_below_drewN | apply below_drew1) | exact HB.out)))); (case aL => have := LMc8.out; have hlx_ := (show (l0.drop ((ji3) : Int).toNat).length = (l0.length - (ji3).toNat) from List.length_drop); omega); intro v399 w14 ho hb hg hat; rw [← Ny398.out] at ho; have n0_ := Aside0.mk (Kd.R_after (ok := (fun _ => True)) (by exact HO393.out) hg hat); have n1_ := Aside0.mk (hb); have n2_ := Aside0.mk (ho); clear HO393; clear HB; clear HO396; have HO393 := n0_; have HB := n1_; have HO400 := n2_; clear n0_ n1_ n2_; clear ho hb hg hat))
          go_loopg [8, 9] k (fun kq v8 v9 w' => ∃ (x7_1 : List Int) (x8_1 : List Int) (x9_1 : Int), v9 = .int .i64 x9_1 ∧ Aside0 (fluxionref02_DivMod.l0 kq l0 l1 x7_1 x8_1 x9_1 = some (r1, r2)) ∧ Aside0 (kq ≤ k) ∧ Aside0 (Kd.R (Kd.int .i64) 3 w' w.heap.size (fun k_ => some k_ ≠ (v8 : Value).ownBlock) v392 x7_1) ∧ Aside0 (Kd.R (Kd.int .i64) 3 w' w.heap.size (fun k_ => some k_ ≠ (v392 : Value).ownBlock) v8 x8_1) ∧ Aside0 (Below w.heap.size w w'))
          case atStart => exact ⟨(y391), (y398), (wrap64 ((ji3) - 1)), (by first | rfl | (simp; done) | (simp only [← hji3] <;> (first | rfl | simp)) | (simp [*]; done)), H', ⟨Nat.le_refl _⟩, ⟨by exact Kd.R_mono HO393.out (fun _ hk => hk.2)⟩, ⟨by exact HO400.out⟩, ⟨by repeat (first | (with_reducible first | exact HB.out | apply below_alloc | apply pw_below_drewN | apply below_drew1) | exact HB.out)⟩⟩
          case round =>
            clear H'
            try clear c1
            try clear p2
            try clear c4
            try clear c4b0
            try clear c4b1
            try clear c5
            try clear c5b0
            try clear c5b1
            try clear c6
            try clear c6b0
            try clear p6
            try clear c7
            try clear c7b0
            try clear c7b1
            try clear c8
            obtain ⟨x7_1, x8_1, x9_1, rfl, HA, HK1, HO_7, HO_8, HB⟩ := hrel
            cases gk with
            | zero => exact absurd HA.out (by simp [fluxionref02_DivMod.l0])
            | succ k1 =>
              have H := HA.out
              clear HA
              simp only [fluxionref02_DivMod.l0] at H
              by_cases c15 : x9_1 ≥ 0
              · rw [if_pos c15] at H
                have c15b0 : decide (0 ≤ x9_1) = true := decide_eq_true c15
                clear c15
                by_cases c16 : 0 ≤ x9_1
                · rw [if_pos c16] at H
                  have c16b0 : decide (0 ≤ x9_1) = true := decide_eq_true c16
                  clear c16
                  by_cases c17 : x9_1 < (l0.length : Int)
                  · rw [if_pos c17] at H
                    have c17b0 : decide (x9_1 < (l0.length : Int)) = true := decide_eq_true c17
                    clear c17
                    obtain ⟨y405, hy405⟩ : ∃ y_ : List Int, y_ = (([rd l0 x9_1] : List Int)) := ⟨_, rfl⟩
                    replace H : (if y405.length + x8_1.length < 17592186044416 then ((fluxionref02_trim.f k1 (y405 ++ x8_1)).bind fun t411 => ((fluxionref02_digit.f k1 t411 l1).bind fun t414 => (if x9_1 < (x7_1.length : Int) then ((fluxionref01_Times.f k1 l1 t414).bind fun t416 => ((fluxionref01_Sub.f k1 t411 t416).bind fun bt419 => (fluxionref02_DivMod.l0 k1 l0 l1 (x7_1.set (x9_1 : Int).toNat t414) bt419.1 (wrap64 (x9_1 - 1))))) else (none)))) else (none)) = some (r1, r2) := by first | (rw [hy405]; with_reducible exact H) | (have H2_ := (Option.bind_some _ _).symm.trans H; rw [hy405]; with_reducible exact H2_) | (have H2_ := (Option.bind_some _ _).symm.trans H; with_reducible exact H2_) | with_reducible exact H | (rw [hy405]; exact H) | exact H
                    have Ny405 := Aside0.mk hy405
                    clear hy405
                    by_cases c18 : y405.length + x8_1.length < 17592186044416
                    · rw [if_pos c18] at H
                      have LMc18 := Aside0.mk c18
                      clear c18
                      obtain ⟨y408, hy408⟩ : ∃ y_ : List Int, y_ = (y405 ++ x8_1) := ⟨_, rfl⟩
                      replace H : ((fluxionref02_trim.f k1 y408).bind fun t411 => ((fluxionref02_digit.f k1 t411 l1).bind fun t414 => (if x9_1 < (x7_1.length : Int) then ((fluxionref01_Times.f k1 l1 t414).bind fun t416 => ((fluxionref01_Sub.f k1 t411 t416).bind fun bt419 => (fluxionref02_DivMod.l0 k1 l0 l1 (x7_1.set (x9_1 : Int).toNat t414) bt419.1 (wrap64 (x9_1 - 1))))) else (none)))) = some (r1, r2) := by first | (rw [hy408]; with_reducible exact H) | (have H2_ := (Option.bind_some _ _).symm.trans H; rw [hy408]; with_reducible exact H2_) | (have H2_ := (Option.bind_some _ _).symm.trans H; with_reducible exact H2_) | with_reducible exact H | (rw [hy408]; exact H) | exact H
                      have Ny408 := Aside0.mk hy408
                      clear hy408
                      replace H := Option.bind_eq_some_iff.mp H
                      obtain ⟨t411, A190, H⟩ := H
                      try dsimp only at H
                      have A19 := Aside0.mk A190
                      clear A190
                      replace H := Option.bind_eq_some_iff.mp H
                      obtain ⟨t414, A200, H⟩ := H
                      try dsimp only at H
                      have A20 := Aside0.mk A200
                      clear A200
                      by_cases c21 : x9_1 < (x7_1.length : Int)
                      · rw [if_pos c21] at H
                        have c21b0 : decide (x9_1 < (x7_1.length : Int)) = true := decide_eq_true c21
                        clear c21
                        obtain ⟨y415, hy415⟩ : ∃ y_ : List Int, y_ = (x7_1.set (x9_1 : Int).toNat t414) := ⟨_, rfl⟩
                        replace H : ((fluxionref01_Times.f k1 l1 t414).bind fun t416 => ((fluxionref01_Sub.f k1 t411 t416).bind fun bt419 => (fluxionref02_DivMod.l0 k1 l0 l1 y415 bt419.1 (wrap64 (x9_1 - 1))))) = some (r1, r2) := by first | (rw [hy415]; with_reducible exact H) | (have H2_ := (Option.bind_some _ _).symm.trans H; rw [hy415]; with_reducible exact H2_) | (have H2_ := (Option.bind_some _ _).symm.trans H; with_reducible exact H2_) | with_reducible exact H | (rw [hy415]; exact H) | exact H
                        have Ny415 := Aside0.mk hy415
                        clear hy415
                        replace H := Option.bind_eq_some_iff.mp H
                        obtain ⟨t416, A230, H⟩ := H
                        try dsimp only at H
                        have A23 := Aside0.mk A230
                        clear A230
                        replace H := Option.bind_eq_some_iff.mp H
                        obtain ⟨⟨t419, t420⟩, A240, H⟩ := H
                        try dsimp only at H
                        have A24 := Aside0.mk A240
                        clear A240
                        have H' := Aside0.mk H
                        clear H
                        have p404 : 0 ≤ (x9_1 : Int) := of_decide_eq_true (by first | (with_reducible assumption) | assumption)
                        have q404 : x9_1 < (l0.length : Int) := of_decide_eq_true (by first | (with_reducible assumption) | assumption)
                        obtain ⟨ad404, e404, hx404_0⟩ := Kd.at_int HR0.out x9_1 p404 q404
                        cases e404
                        replace hx404_0 := (HB.out.cell (World.block_lt_of_cell? w _ hx404_0)).trans hx404_0
                        replace p404 := eq_true p404
                        replace q404 := eq_true q404
                        go_wp2_with (first | ((with_reducible refine gate_dst (N := 37) rfl ?_); refine Kd.R_lit (Kd.int .i64) _ 3 ?hg (N := 37) ?hd (xs := ([rd l0 x9_1] : List Int)) (inner := [.int .i64 (rd l0 x9_1)]) (ok := fun _ => True) (okp := fun _ => True) ?hr ?hp (fun _ hk => hk) trivial (Below.refl _ _) (Nat.le_refl _) (by simp) ?_; (case hd => rfl); (case hg => rfl); (case hr => first | (go_simp; done) | (go_simp; rfl)); (case hp => exact (Reps.one (show Kd.M (Kd.int .i64) _ _ _ (rd l0 x9_1) [.int .i64 (rd l0 x9_1)] from rfl) (Reps.none _ _))); intro v406 w25 ho26 hb hg_ hnew_; clear hg_ hnew_; (first | rw [← Ny405.out] at ho26 | (simp only [Int.reduceToNat] at ho26; rw [← Ny405.out] at ho26)); have n0_ := Aside0.mk (Kd.R_elder' (by exact HO_7.out) (Kd.R_base ho26) hb); have n1_ := Aside0.mk (Kd.R_elder' (by exact HO_8.out) (Kd.R_base ho26) hb); have n2_ := Aside0.mk (Kd.R_lower (Kd.R_new' (Kd.R_new' ho26 (Kd.R_lt (by exact HO_7.out))) (Kd.R_lt (by exact HO_8.out))) (below_size (by repeat (first | (with_reducible first | exact HB.out | apply below_alloc | apply pw_below_drewN | apply below_drew1) | exact HB.out)))); have n3_ := Aside0.mk (below_step (by repeat (first | (with_reducible first | exact HB.out | apply below_alloc | apply pw_below_drewN | apply below_drew1) | exact HB.out)) hb); clear HO_7; clear HO_8; clear HB; have HO_7 := n0_; have HO_8 := n1_; have HO407 := n2_; have HB := n3_; clear n0_ n1_ n2_ n3_; clear hb ho26; obtain ⟨Ao28, co28, eo28⟩ := Kd.R_slice HO_8.out; subst eo28) | ((with_reducible refine gate_builtin (b := .append) (xs := #[.tmp 37, .tmp 38]) rfl ?_); at_builtin; refine Kd.R_append_rows (Kd.int .i64) (w0 := w) w.heap.size rfl (.tmp 37) (.tmp 38) 30 3 (.int .i64 0) 8 rfl Tryz.underlying30 info3 rfl (by decide) (by omega) v406 y405 x8_1 _ _ _ (fun k_ => some k_ ≠ (v392 : Value).ownBlock ∧ some k_ ≠ (.slice Ao28 x8_1.length co28 : Value).ownBlock) (fun _ => False) rfl rfl ?aO ?aR (fun _ _ h => h) (fun _ h => h.elim) ?aF ?aB ?aS ?aL ?_; (case aR => repeat (first | exact (Kd.R_reads' HO_8.out).2.2 | (with_reducible refine Kd.C_alloc ?_ _) | (with_reducible refine Kd.C_drewN ?_ _) | (with_reducible refine Kd.C_drew ?_))); (case aB => exact (by repeat (first | (with_reducible first | exact HB.out | apply below_alloc | apply pw_below_drewN | apply below_drew1) | exact HB.out))); (case aF => exact (fun k_ hk => ⟨Kd.fresh' (Kd.R_lt (by exact HO_7.out)) k_ hk, Kd.fresh' (Kd.R_lt (by exact HO_8.out)) k_ hk⟩)); (case aO => exact (by exact Kd.R_mono HO407.out (fun _ hk => ⟨hk.1.2, hk.2⟩))); (case aS => exact (below_size (by repeat (first | (with_reducible first | exact HB.out | apply below_alloc | apply pw_below_drewN | apply below_drew1) | exact HB.out)))); (case aL => have := LMc18.out; omega); intro v409 w27 ho hb hg hat; rw [← Ny408.out] at ho; have n0_ := Aside0.mk (Kd.R_after (ok := (fun k_ => some k_ ≠ (.slice Ao28 x8_1.length co28 : Value).ownBlock)) (by exact HO_7.out) hg hat); have n1_ := Aside0.mk (Kd.R_after (ok := (fun k_ => some k_ ≠ (v392 : Value).ownBlock)) (by exact HO_8.out) hg hat); have n2_ := Aside0.mk (hb); have n3_ := Aside0.mk (ho); clear HO_7; clear HO_8; clear HB; clear HO407; have HO_7 := n0_; have HO_8 := n1_; have HB := n2_; have HO410 := n3_; clear n0_ n1_ n2_ n3_; clear ho hb hg hat; obtain ⟨Ao29, co29, eo29⟩ := Kd.R_slice HO410.out; subst eo29) | ((with_reducible refine gate_callee (f := 102) rfl ?_); refine goesL_ (some 40) rfl rfl Tryz.func102 (by kernel_rfl) rfl #[.slice Ao29 y408.length co29] rfl (by (try simp only [List.map_toArray, List.map_cons, List.map_nil]); first | done | rfl | (simp only [List.length_drop, List.length_take]; rfl)) ?_; (with_reducible refine (fluxionref02_trim.calls k1 (fun k_ => some k_ = (.slice Ao29 y408.length co29 : Value).ownBlock) (.slice Ao29 y408.length co29) y408 t411 w _ ?side1 ?side2 A19.out).mono ?_); (case side1 => repeat (first | (with_reducible first | exact HB.out | apply below_alloc | apply pw_below_drewN | apply below_drew1) | exact HB.out)); (case side2 => exact Kd.R_tight rfl HO410.out); rintro e w30 ⟨v412, rfl, ho0, hb, hkp⟩; refine ⟨_, rfl, ?_⟩; have n0_ := Aside0.mk (Kd.R_mono (ok' := fun k_ => some k_ ≠ (.slice Ao28 x8_1.length co28 : Value).ownBlock ∧ some k_ ≠ (v412 : Value).ownBlock) (Kd.R_keptB (HO_7.out) hkp (fun k_ hk_ hs_ => (hk_.2) hs_)) (fun k_ hk_ => ⟨hk_.1.1, fun e_ => Or.elim (ho0.1 k_ e_.symm) (fun hs_ => hk_.2.1 hs_) (fun hn_ => Nat.not_le.2 hk_.2.2 hn_)⟩)); have n1_ := Aside0.mk (Kd.R_mono (ok' := fun k_ => some k_ ≠ (v392 : Value).ownBlock ∧ some k_ ≠ (v412 : Value).ownBlock) (Kd.R_keptB (HO_8.out) hkp (fun k_ hk_ hs_ => (hk_.2) hs_)) (fun k_ hk_ => ⟨hk_.1.1, fun e_ => Or.elim (ho0.1 k_ e_.symm) (fun hs_ => hk_.2.1 hs_) (fun hn_ => Nat.not_le.2 hk_.2.2 hn_)⟩)); have n2_ := Aside0.mk (Kd.R_mono (ok' := fun k_ => some k_ ≠ (v392 : Value).ownBlock ∧ some k_ ≠ (.slice Ao28 x8_1.length co28 : Value).ownBlock) ho0 (fun k_ hk_ => ⟨Or.elim hk_ (fun hs_ => fun e_ => (((HO_7.out).1 k_ e_.symm).2) hs_) (fun hn_ => (Kd.fresh' (Kd.R_lt (by exact HO_7.out)) k_ hn_)), Or.elim hk_ (fun hs_ => fun e_ => (((HO_8.out).1 k_ e_.symm).2) hs_) (fun hn_ => (Kd.fresh' (Kd.R_lt (by exact HO_8.out)) k_ hn_))⟩)); have n3_ := Aside0.mk (hb); clear HO_7; clear HO_8; clear HB; clear HO410; have HO_7 := n0_; have HO_8 := n1_; have HO413 := n2_; have HB := n3_; clear n0_ n1_ n2_ n3_; (try clear hb); (try clear hkp); (try clear ho0); obtain ⟨Ao31, co31, eo31⟩ := Kd.R_slice HO413.out; subst eo31) | ((with_reducible refine gate_callee (f := 103) rfl ?_); refine goesL_ (some 43) rfl rfl Tryz.func103 (by kernel_rfl) rfl #[.slice Ao31 t411.length co31, .slice A1 l1.length c1] rfl (by (try simp only [List.map_toArray, List.map_cons, List.map_nil]); first | done | rfl | (simp only [List.length_drop, List.length_take]; rfl)) ?_; (with_reducible refine (fluxionref02_digit.calls k1 _ _ t411 _ _ l1 t414 _ ?side1 ?side2 ?side3 ?side4 A20.out).mono ?_); (case side1 => repeat (first | exact (Kd.R_reads' HO413.out).2.2 | (with_reducible refine Kd.C_alloc ?_ _) | (with_reducible refine Kd.C_drewN ?_ _) | (with_reducible refine Kd.C_drew ?_))); (case side2 => exact (Kd.R_reads' HO413.out).2.1); (case side3 => repeat (first | exact (Kd.C_below HR1.out HB.out) | (with_reducible refine Kd.C_alloc ?_ _) | (with_reducible refine Kd.C_drewN ?_ _) | (with_reducible refine Kd.C_drew ?_))); (case side4 => exact HC1.out); rintro e w32 ⟨rfl, hb⟩; refine ⟨_, rfl, ?_⟩; have n0_ := Aside0.mk (Kd.R_below (by exact HO_7.out) hb); have n1_ := Aside0.mk (Kd.R_below (by exact HO_8.out) hb); have n2_ := Aside0.mk (Kd.R_below (by exact HO413.out) hb); have n3_ := Aside0.mk (below_step (by repeat (first | (with_reducible first | exact HB.out | apply below_alloc | apply pw_below_drewN | apply below_drew1) | exact HB.out)) hb); clear HO_7; clear HO_8; clear HO413; clear HB; have HO_7 := n0_; have HO_8 := n1_; have HO413 := n2_; have HB := n3_; clear n0_ n1_ n2_ n3_; (try clear hb); (try clear hb2); (try clear hk); (try clear hi); have p22 : 0 ≤ (x9_1 : Int) := of_decide_eq_true (by first | (with_reducible assumption) | assumption); have q22 : (x9_1 : Int) < ((x7_1.length : Int) : Int) := of_decide_eq_true (by first | (with_reducible assumption) | assumption); obtain ⟨go22, co22, eo22, gb22, gl22, cl22, HG22⟩ := Kd.R_form HO_7.out (by omega); (first | cases eo22 | (injection eo22 with ea_ en_ ec_; (first | subst ea_ | (injection ea_ with ea_; subst ea_)); subst ec_; clear en_)); have GB22 := Aside0.mk gb22; have GG22 := Aside0.mk HG22; clear gb22 gl22 HG22; obtain ⟨hx22_0, hf22_0⟩ := Kd.R_celln 0 HO_7.out (x9_1 : Int) p22 q22; replace p22 := eq_true p22; replace q22 := eq_true q22; obtain ⟨hy33_, hz33_⟩ := Kd.R_celln 0 HO_7.out (x9_1 : Int) (of_decide_eq_true (by first | (with_reducible assumption) | assumption)) (of_decide_eq_true (by first | (with_reducible assumption) | assumption)); have HP33 := Kd.R_putg HO_7.out (x9_1 : Int) t414) | ((with_reducible refine gate_store (t := 3) (p := 47) rfl ?_); refine store_event (t := 3) (p := 47) (v := ?vo_w34) (w1 := (w32.setCell ⟨go22, (x9_1 : Int).toNat, none⟩ (.int .i64 t414))) ?hg ?ho ?hn ?hr ?_; (case ho => rfl); (case hg => rfl); (case hn => rfl); (case hr => first | (go_simp; done) | (go_simp; rfl)); intro w34 hw; have hg : w32.grownBy w34 (some go22) := (by rw [hw]; exact HP33.2); have hp_ : Kd.R (Kd.int .i64) 3 w34 w.heap.size (fun k_ => some k_ ≠ (.slice Ao28 x8_1.length co28 : Value).ownBlock ∧ some k_ ≠ (.slice Ao31 t411.length co31 : Value).ownBlock) (.slice (some ⟨go22, 0, none⟩) x7_1.length co22) y415 := (by rw [hw, Ny415.out]; exact HP33.1); clear HP33; have n0_ := Aside0.mk (hp_); have n1_ := Aside0.mk (Kd.R_after (v := (.slice (some ⟨go22, 0, none⟩) x7_1.length co22)) (v1 := (.slice (some ⟨go22, 0, none⟩) x7_1.length co22)) (ok := (fun k_ => some k_ ≠ (.slice Ao31 t411.length co31 : Value).ownBlock)) (by exact Kd.R_mono HO_8.out (fun _ hk => ⟨hk.2, hk.1⟩)) hg (.inl rfl)); have n2_ := Aside0.mk (Kd.R_after (v := (.slice (some ⟨go22, 0, none⟩) x7_1.length co22)) (v1 := (.slice (some ⟨go22, 0, none⟩) x7_1.length co22)) (ok := (fun k_ => some k_ ≠ (.slice Ao28 x8_1.length co28 : Value).ownBlock)) (by exact Kd.R_mono HO413.out (fun _ hk => ⟨hk.2, hk.1⟩)) hg (.inl rfl)); have n3_ := Aside0.mk ((by rw [hw]; exact below_set (HB.out) GB22.out : Below w.heap.size w w34)); clear HO_7; clear HO_8; clear HO413; clear HB; have HO_7 := n0_; have HO_8 := n1_; have HO413 := n2_; have HB := n3_; clear n0_ n1_ n2_ n3_; clear hg hw hp_) | ((with_reducible refine gate_callee (f := 51) rfl ?_); refine goesL_ (some 52) rfl rfl Tryz.func51 (by kernel_rfl) rfl #[.slice A1 l1.length c1, .int .i64 t414] rfl (by (try simp only [List.map_toArray, List.map_cons, List.map_nil]); first | done | rfl | (simp only [List.length_drop, List.length_take]; rfl)) ?_; (with_reducible refine (fluxionref01_Times.calls k1 _ _ l1 t414 t416 _ ?side1 ?side2 A23.out).mono ?_); (case side1 => repeat (first | exact (Kd.C_below HR1.out HB.out) | (with_reducible refine Kd.C_alloc ?_ _) | (with_reducible refine Kd.C_drewN ?_ _) | (with_reducible refine Kd.C_drew ?_))); (case side2 => exact HC1.out); rintro e w35 ⟨v417, rfl, ho0, hb⟩; refine ⟨_, rfl, ?_⟩; have n0_ := Aside0.mk (Kd.R_elder' (by exact HO_7.out) (Kd.R_base ho0) hb); have n1_ := Aside0.mk (Kd.R_elder' (by exact HO_8.out) (Kd.R_base ho0) hb); have n2_ := Aside0.mk (Kd.R_elder' (by exact HO413.out) (Kd.R_base ho0) hb); have n3_ := Aside0.mk (Kd.R_lower (Kd.R_new' (Kd.R_new' (Kd.R_new' ho0 (Kd.R_lt (by exact HO_7.out))) (Kd.R_lt (by exact HO_8.out))) (Kd.R_lt (by exact HO413.out))) (below_size (by repeat (first | (with_reducible first | exact HB.out | apply below_alloc | apply pw_below_drewN | apply below_drew1) | exact HB.out)))); have n4_ := Aside0.mk (below_step (by repeat (first | (with_reducible first | exact HB.out | apply below_alloc | apply pw_below_drewN | apply below_drew1) | exact HB.out)) hb); clear HO_7; clear HO_8; clear HO413; clear HB; have HO_7 := n0_; have HO_8 := n1_; have HO413 := n2_; have HO418 := n3_; have HB := n4_; clear n0_ n1_ n2_ n3_ n4_; (try clear hb); (try clear hb2); (try clear hk); (try clear hi); (try clear ho0); obtain ⟨Ao36, co36, eo36⟩ := Kd.R_slice HO418.out; subst eo36) | ((with_reducible refine gate_callee (f := 104) rfl ?_); refine goesL_ (some 53) rfl rfl Tryz.func104 (by kernel_rfl) rfl #[.slice Ao31 t411.length co31, .slice Ao36 t416.length co36] rfl (by (try simp only [List.map_toArray, List.map_cons, List.map_nil]); first | done | rfl | (simp only [List.length_drop, List.length_take]; rfl)) ?_; (with_reducible refine (fluxionref01_Sub.calls k1 _ _ t411 _ _ t416 t419 t420 _ ?side1 ?side2 ?side3 ?side4 A24.out).mono ?_); (case side1 => repeat (first | exact (Kd.R_reads' HO413.out).2.2 | (with_reducible refine Kd.C_alloc ?_ _) | (with_reducible refine Kd.C_drewN ?_ _) | (with_reducible refine Kd.C_drew ?_))); (case side2 => exact (Kd.R_reads' HO413.out).2.1); (case side3 => repeat (first | exact (Kd.R_reads' HO418.out).2.2 | (with_reducible refine Kd.C_alloc ?_ _) | (with_reducible refine Kd.C_drewN ?_ _) | (with_reducible refine Kd.C_drew ?_))); (case side4 => exact (Kd.R_reads' HO418.out).2.1); rintro e w37 ⟨v421, rfl, ho0, hb⟩; refine ⟨_, rfl, ?_⟩; have n0_ := Aside0.mk (Kd.R_elder' (by exact HO_7.out) (Kd.R_base ho0) hb); have n1_ := Aside0.mk (Kd.R_elder' (by exact HO_8.out) (Kd.R_base ho0) hb); have n2_ := Aside0.mk (Kd.R_elder' (by exact HO413.out) (Kd.R_base ho0) hb); have n3_ := Aside0.mk (Kd.R_elder' (by exact HO418.out) (Kd.R_base ho0) hb); have n4_ := Aside0.mk (Kd.R_lower (Kd.R_new' (Kd.R_new' (Kd.R_new' (Kd.R_new' ho0 (Kd.R_lt (by exact HO_7.out))) (Kd.R_lt (by exact HO_8.out))) (Kd.R_lt (by exact HO413.out))) (Kd.R_lt (by exact HO418.out))) (below_size (by repeat (first | (with_reducible first | exact HB.out | apply below_alloc | apply pw_below_drewN | apply below_drew1) | exact HB.out)))); have n5_ := Aside0.mk (below_step (by repeat (first | (with_reducible first | exact HB.out | apply below_alloc | apply pw_below_drewN | apply below_drew1) | exact HB.out)) hb); clear HO_7; clear HO_8; clear HO413; clear HO418; clear HB; have HO_7 := n0_; have HO_8 := n1_; have HO413 := n2_; have HO418 := n3_; have HO422 := n4_; have HB := n5_; clear n0_ n1_ n2_ n3_ n4_ n5_; (try clear hb); (try clear hb2); (try clear hk); (try clear hi); (try clear ho0)))
                        go_roundg k1
                        case measure => have := HK1.out; omega
                        case rel => exact ⟨(y415), (t419), (wrap64 (x9_1 - 1)), (by first | rfl | (simp; done) | (simp [*]; done)), H', ⟨by have := HK1.out; omega⟩, ⟨by exact Kd.R_mono HO_7.out (fun _ hk => hk.2)⟩, ⟨by exact Kd.R_mono HO422.out (fun _ hk => hk.1.1.1.2)⟩, ⟨by repeat (first | (with_reducible first | exact HB.out | apply below_alloc | apply pw_below_drewN | apply below_drew1) | exact HB.out)⟩⟩
                      · rw [if_neg c21] at H
                        exact absurd H (by simp)
                    · rw [if_neg c18] at H
                      exact absurd H (by simp)
                  · rw [if_neg c17] at H
                    exact absurd H (by simp)
                · rw [if_neg c16] at H
                  exact absurd H (by simp)
              · rw [if_neg c15] at H
                have c15b0 : decide (0 ≤ x9_1) = false := decide_eq_false c15
                clear c15
                replace H := Option.bind_eq_some_iff.mp H
                obtain ⟨t401, A380, H⟩ := H
                try dsimp only at H
                have A38 := Aside0.mk A380
                clear A380
                simp only [Option.some.injEq, Prod.mk.injEq] at H
                obtain ⟨rfl, rfl⟩ := H
                obtain ⟨Ao39, co39, eo39⟩ := Kd.R_slice HO_7.out
                subst eo39
                go_wp2_with (first | ((with_reducible refine gate_callee (f := 102) rfl ?_); refine goesL_ (some 58) rfl rfl Tryz.func102 (by kernel_rfl) rfl #[.slice Ao39 x7_1.length co39] rfl (by (try simp only [List.map_toArray, List.map_cons, List.map_nil]); first | done | rfl | (simp only [List.length_drop, List.length_take]; rfl)) ?_; (with_reducible refine (fluxionref02_trim.calls k1 (fun k_ => some k_ = (.slice Ao39 x7_1.length co39 : Value).ownBlock) (.slice Ao39 x7_1.length co39) x7_1 t401 w _ ?side1 ?side2 A38.out).mono ?_); (case side1 => repeat (first | (with_reducible first | exact HB.out | apply below_alloc | apply pw_below_drewN | apply below_drew1) | exact HB.out)); (case side2 => exact Kd.R_tight rfl HO_7.out); rintro e w40 ⟨v402, rfl, ho0, hb, hkp⟩; refine ⟨_, rfl, ?_⟩; have n0_ := Aside0.mk (Kd.R_mono (ok' := fun k_ => some k_ ≠ (v402 : Value).ownBlock) (Kd.R_keptB (HO_8.out) hkp (fun k_ hk_ hs_ => (hk_) hs_)) (fun k_ hk_ => fun e_ => Or.elim (ho0.1 k_ e_.symm) (fun hs_ => hk_.2.1 hs_) (fun hn_ => Nat.not_le.2 hk_.2.2 hn_))); have n1_ := Aside0.mk (Kd.R_mono (ok' := fun k_ => some k_ ≠ (u8 : Value).ownBlock) ho0 (fun k_ hk_ => Or.elim hk_ (fun hs_ => fun e_ => (((HO_8.out).1 k_ e_.symm)) hs_) (fun hn_ => (Kd.fresh' (Kd.R_lt (by exact HO_8.out)) k_ hn_)))); have n2_ := Aside0.mk (hb); clear HO_8; clear HB; clear HO_7; have HO_8 := n0_; have HO403 := n1_; have HB := n2_; clear n0_ n1_ n2_; (try clear hb); (try clear hkp); (try clear ho0)))
                go_ret2
                exact ⟨_, _, by first | rfl | (simp [errW_none, errW_some] <;> rfl) | (simp only [← hji3]; first | rfl | (simp [errW_none, errW_some] <;> rfl)) | (simp [*, errW_none, errW_some] <;> rfl), by exact HO403.out, by exact HO_8.out, by repeat (first | (with_reducible first | exact HB.out | apply below_alloc | apply pw_below_drewN | apply below_drew1) | exact HB.out)⟩
        · rw [if_neg c8] at H
          exact absurd H (by simp)
      · rw [if_neg c7] at H
        exact absurd H (by simp)
    · rw [if_neg c5] at H
      exact absurd H (by simp)
  · rw [if_neg c4] at H
    exact absurd H (by simp)

end Go.Proofs.YtpncflaoikeidaaGreatDoor.P
namespace Go.Proofs.YtpncflaoikeidaaGreatDoor.H
open Go.RowKit Go.Proofs.YtpncflaoikeidaaGreatDoorW.PrintWords Go.Proofs.YtpncflaoikeidaaGreatDoorW.PrintLast Go.Proofs.YtpncflaoikeidaaGreatDoorW.PrintMore Go.Proofs.YtpncflaoikeidaaGreatDoor.P
theorem ok4_set {l : List Int} (hl : ok4 l) (i d : Nat) (hd : d < 10000) : ok4 (l.set i ((d : Nat) : Int)) := fun x hx => by
  rcases List.mem_or_eq_of_mem_set hx with h | rfl
  · exact hl x h
  · omega
theorem v4_set : ∀ (l : List Int) (i d : Nat), i < l.length → (l.getD i 0) = 0 → v4 (l.set i ((d : Nat) : Int)) = v4 l + 10000 ^ i * d
  | [], i, d, h, _ => by simp at h
  | x :: l, 0, d, h, h0 => by
    rw [List.getD_cons_zero] at h0
    subst h0
    simp [v4]; omega
  | x :: l, i + 1, d, h, h0 => by
    rw [List.getD_cons_succ] at h0
    rw [List.set_cons_succ, v4, v4, v4_set l i d (by simpa using h) h0, Nat.pow_succ, Nat.mul_add, Nat.mul_comm (10000 ^ i) 10000, Nat.mul_assoc]
    omega
theorem v4_cons_c4 (x r : Nat) (_hx : x < 10000) : v4 (((x : Nat) : Int) :: c4 r) = x + 10000 * r := by rw [v4, v4_c4, Int.toNat_natCast]
theorem getD_set_ne (l : List Int) {i j : Nat} (d : Int) (h : i ≠ j) : (l.set i d).getD j 0 = l.getD j 0 := by
  rw [List.getD_eq_getElem?_getD, List.getD_eq_getElem?_getD, List.getElem?_set_ne h]
theorem div_step {A b x : Nat} (hb : 0 < b) (hx : x < 10000) : (10000 * A + x) / b = 10000 * (A / b) + (x + 10000 * (A % b)) / b ∧ (10000 * A + x) % b = (x + 10000 * (A % b)) % b ∧ x + 10000 * (A % b) < b * 10000 := by
  have h1 := Nat.div_add_mod A b
  have h2 := Nat.mod_lt A hb
  have e : 10000 * A + x = (x + 10000 * (A % b)) + b * (10000 * (A / b)) := by
    conv => lhs; rw [← h1]
    rw [Nat.mul_add, Nat.mul_left_comm]; omega
  refine ⟨?_, ?_, ?_⟩
  · rw [e, Nat.add_mul_div_left _ _ hb]; omega
  · rw [e, Nat.add_mul_mod_self_left]
  · have h3 := Nat.mul_le_mul_right 10000 (show A % b + 1 ≤ b from h2)
    omega
structure Dm (a b i n : Nat) (q : List Int) : Prop where
  ok : ok4 q
  len : q.length = n
  eq : v4 q = 10000 ^ i * (a / 10000 ^ i / b)
  zero : ∀ j, j < i → q.getD j 0 = 0
theorem Dm.next {a b i n A x d : Nat} {q : List Int} (h : Dm a b (i + 1) n q) (hi : i < n) (hd : d < 10000) (hA : a / 10000 ^ (i + 1) = A) (hA' : a / 10000 ^ i = 10000 * A + x) (hq : (10000 * A + x) / b = 10000 * (A / b) + d) : Dm a b i n (q.set i ((d : Nat) : Int)) := by
  refine ⟨ok4_set h.ok i d hd, by rw [List.length_set, h.len], ?_, fun j hj => by rw [getD_set_ne _ _ (by omega)]; exact h.zero j (by omega)⟩
  rw [v4_set q i d (by rw [h.len]; exact hi) (h.zero i (by omega)), h.eq, hA, hA', hq, Nat.pow_succ, Nat.mul_add, Nat.mul_assoc]
theorem dm_l0 (a b n : Nat) (hb : 0 < b) (hn : n ≤ (c4 a).length) (ha : (c4 a).length < 300000) (hbl : (c4 b).length < 300000) (K : Nat) (hK : 2000000 ≤ K) : ∀ (i k : Nat) (q : List Int), i ≤ n → Dm a b i n q → K + i < k →
    fluxionref02_DivMod.l0 k (c4 a) (c4 b) q (c4 (a / 10000 ^ i % b)) ((i : Int) - 1) = some (c4 (a / b), c4 (a % b))
  | 0, k + 1, q, _, h, hk => by
    have h1 := h.eq
    have hl := h.len
    rw [Nat.pow_zero, Nat.one_mul, Nat.div_one] at h1
    rw [fluxionref02_DivMod.l0, if_neg (by omega), trim2_f h.ok (by omega) (by omega), Option.bind_some, h1, Nat.pow_zero, Nat.div_one]
  | i + 1, k + 1, q, hi, h, hk => by
    have ra := rd_c4 a i
    obtain ⟨A, hA⟩ : ∃ A, a / 10000 ^ (i + 1) = A := ⟨_, rfl⟩
    obtain ⟨x, hx⟩ : ∃ x, a / 10000 ^ i % 10000 = x := ⟨_, rfl⟩
    have hxl : x < 10000 := by rw [← hx]; exact Nat.mod_lt _ (by decide)
    have hA' : a / 10000 ^ i = 10000 * A + x := by rw [← hA, ← hx, div_pow_succ]; exact (Nat.div_add_mod _ _).symm
    rw [hx] at ra
    obtain ⟨s1, s2, s3⟩ := div_step (A := A) hb hxl
    obtain ⟨R, hR⟩ : ∃ R, A % b = R := ⟨_, rfl⟩
    have hRb : R < b := by rw [← hR]; exact Nat.mod_lt _ hb
    rw [hR] at s1 s2 s3
    have hd : (x + 10000 * R) / b < 10000 := Nat.div_lt_of_lt_mul s3
    have NX := h.next (by omega) hd hA hA' s1
    have hql := h.len
    have HA' := Aside0.mk hA'
    have S2 := Aside0.mk s2
    clear h hA' hx s1 s2
    have lr : (c4 R).length ≤ (c4 b).length := by
      have h1 := v4_lt (ok4_c4 b)
      rw [v4_c4] at h1
      exact c4_length_le _ _ (Nat.lt_trans hRb h1)
    have e0 : (((i + 1 : Nat) : Int) - 1) = (i : Int) := by omega
    have ok1 : ok4 ([((x : Nat) : Int)] ++ c4 R) := ok4_append.2 ⟨ok4_cons.2 ⟨by omega, ok4_nil⟩, ok4_c4 R⟩
    have t1 := trim2_f (l := [((x : Nat) : Int)] ++ c4 R) ok1 (by rw [List.length_append, List.length_singleton]; omega) (k := k) (by rw [List.length_append, List.length_singleton]; omega)
    rw [show v4 ([((x : Nat) : Int)] ++ c4 R) = x + 10000 * R from v4_cons_c4 x R hxl] at t1
    obtain ⟨T, hT⟩ : ∃ T, x + 10000 * R = T := ⟨_, rfl⟩
    rw [hT] at t1 hd s3 NX S2
    have t2 := digit2_f T b k (by omega) s3 (by omega)
    obtain ⟨d, hde⟩ : ∃ d, T / b = d := ⟨_, rfl⟩
    rw [hde] at t2 hd NX
    have t3 := times_f b d k (by omega) (by omega) (by omega)
    have hT1 := Nat.div_add_mod T b
    rw [hde] at hT1
    have lT : (c4 T).length ≤ (c4 b).length + 1 := by
      refine c4_length_le _ _ ?_
      have h1 := v4_lt (ok4_c4 b)
      rw [v4_c4] at h1
      rw [Nat.pow_succ]
      exact Nat.lt_trans s3 (Nat.mul_lt_mul_of_pos_right h1 (by decide))
    have t4 := sub_f T (b * d) k (by omega) (by omega) (by omega)
    rw [show T - b * d = T % b by omega] at t4
    have EW : Aside0 (wrap64 ((i : Int) - 1) = (i : Int) - 1) := ⟨by unfold wrap64; omega⟩
    have b1 : (i : Int) < ((c4 a).length : Int) := by omega
    have b2 : (i : Int) < ((q.length : Nat) : Int) := by omega
    have b3 : ([((x : Nat) : Int)] : List Int).length + (c4 R).length < 17592186044416 := by rw [List.length_singleton]; omega
    rw [fluxionref02_DivMod.l0, e0, if_pos (by omega), if_pos (by omega), if_pos b1, ra, hA, hR, Option.bind_some, if_pos b3, t1, Option.bind_some, t2, Option.bind_some, if_pos b2, t3, Option.bind_some, t4, Option.bind_some, EW.out, Int.toNat_natCast]
    have IH := dm_l0 a b n hb hn ha hbl K hK i k _ (by omega) NX (by omega)
    rw [HA'.out, S2.out] at IH
    exact IH
  | 0, 0, _, _, _, h => by omega
  | i + 1, 0, _, _, _, h => by omega
theorem c4_drop : ∀ (i n : Nat), (c4 n).drop i = c4 (n / 10000 ^ i)
  | 0, n => by simp
  | i + 1, n => by
    by_cases h : n = 0
    · subst h; rw [c4_zero, Nat.zero_div, c4_zero]; simp
    · rw [c4_pos h, List.drop_succ_cons, c4_drop i, Nat.div_div_eq_div_mul, Nat.pow_succ, Nat.mul_comm 10000]
theorem v4_zeros : ∀ m, v4 (List.replicate m 0) = 0
  | 0 => rfl
  | m + 1 => by rw [List.replicate_succ, v4, v4_zeros m]; rfl
theorem zeros_get (m j : Nat) : (List.replicate m (0 : Int)).getD j 0 = 0 := by
  rw [List.getD_eq_getElem?_getD, List.getElem?_replicate]; split <;> rfl
theorem ok4_zeros (m : Nat) : ok4 (List.replicate m 0) := fun x hx => by rw [List.eq_of_mem_replicate hx]; omega
theorem c4_ge {b n : Nat} (h : (c4 b).length = n + 1) : 10000 ^ n ≤ b := Nat.le_of_not_lt fun hc => by
  have := c4_length_le n b hc
  omega
theorem divmod2_f (a b k : Nat) (hb : 0 < b) (ha : (c4 a).length < 300000) (hbl : (c4 b).length < 300000) (hk : 2400000 ≤ k) : fluxionref02_DivMod.f k (c4 a) (c4 b) = some (c4 (a / b), c4 (a % b)) := by
  obtain ⟨n, hn⟩ : ∃ n, (c4 b).length = n + 1 := by
    cases h : (c4 b).length with
    | zero =>
      have := v4_c4 b
      rw [List.eq_nil_of_length_eq_zero h] at this
      simp only [v4] at this; omega
    | succ n => exact ⟨n, rfl⟩
  have hbn := c4_ge hn
  obtain ⟨t, ht⟩ : ∃ t, (c4 a).length - n = t := ⟨_, rfl⟩
  have e : mx (wrap64 ((wrap64 (((c4 a).length : Int) - ((c4 b).length : Int))) + 1)) 0 = (t : Int) := by
    rw [show wrap64 (((c4 a).length : Int) - ((c4 b).length : Int)) = ((c4 a).length : Int) - ((c4 b).length : Int) by clear hbn; unfold wrap64; omega]
    rw [show wrap64 (((c4 a).length : Int) - ((c4 b).length : Int) + 1) = ((c4 a).length : Int) - ((c4 b).length : Int) + 1 by clear hbn; unfold wrap64; omega]
    unfold mx
    clear hbn
    split <;> omega
  have hlt : a / 10000 ^ t < b := by
    have h1 := c4_drop t a
    have h2 := v4_lt (ok4_c4 (a / 10000 ^ t))
    rw [v4_c4, ← h1, List.length_drop] at h2
    refine Nat.lt_of_lt_of_le h2 (Nat.le_trans (Nat.pow_le_pow_right (by decide) ?_) hbn)
    clear h1 h2 hbn
    omega
  have EW : Aside0 (wrap64 ((t : Int) - 1) = (t : Int) - 1) := ⟨by clear hbn hlt e; unfold wrap64; omega⟩
  have D : Dm a b t t (List.replicate t 0) := ⟨ok4_zeros t, List.length_replicate, by rw [v4_zeros, Nat.div_eq_of_lt hlt, Nat.mul_zero], fun j _ => zeros_get t j⟩
  have h := dm_l0 a b t hb (by clear hbn hlt e; omega) ha hbl 2000000 (Nat.le_refl _) t k _ (Nat.le_refl _) D (by clear hbn hlt e; omega)
  rw [Nat.mod_eq_of_lt hlt] at h
  have b1 : t ≤ 35184372088832 := by clear hbn hlt e; omega
  have b2 : (t : Int) ≤ ((c4 a).length : Int) := by clear hbn hlt e; omega
  have b3 : ([] : List Int).length + ((c4 a).drop t).length < 17592186044416 := by clear hbn hlt e; rw [List.length_drop, List.length_nil]; omega
  unfold fluxionref02_DivMod.f
  rw [e, if_pos (Int.natCast_nonneg _), Int.toNat_natCast, if_pos b1, Option.bind_some, if_pos b2, if_pos b3, List.nil_append, EW.out, c4_drop]
  exact h
end Go.Proofs.YtpncflaoikeidaaGreatDoor.H
namespace Go.Proofs.YtpncflaoikeidaaGreatDoor.P
open Go.RowKit Go.Proofs.YtpncflaoikeidaaGreatDoorW.PrintWords Go.Proofs.YtpncflaoikeidaaGreatDoorW.PrintLast Go.Proofs.YtpncflaoikeidaaGreatDoorW.PrintMore
attribute [local go_sem] max2_int max_two
set_option linter.unusedVariables false
set_option linter.unusedSimpArgs false
def fluxionref02_Gcd.l0 : Nat → List Int → List Int → Option (List Int)
  | 0, _, _ => none
  | k + 1, x0, x1 => if (x1.length : Int) > 0 then ((fluxionref02_DivMod.f k x0 x1).bind fun bt423 => (fluxionref02_Gcd.l0 k x1 bt423.2)) else (some x0)
def fluxionref02_Gcd.f (k : Nat) (l0 : List Int) (l1 : List Int) : Option (List Int) := fluxionref02_Gcd.l0 k l0 l1
set_option maxHeartbeats 8000000 in
set_option maxRecDepth 100000 in
theorem fluxionref02_Gcd.calls (k : Nat) (P0_ : Nat → Prop) (A0 : Option Addr) (c0 : Nat) (l0 : List Int) (P1_ : Nat → Prop) (A1 : Option Addr) (c1 : Nat) (l1 : List Int) (r : List Int) (w : World) (hs0 : Kd.V (Kd.int .i64) 3 w w.heap.size (fun k_ => P0_ k_) (.slice A0 l0.length c0) l0) (hs1 : Kd.V (Kd.int .i64) 3 w w.heap.size (fun k_ => P1_ k_) (.slice A1 l1.length c1) l1) (h : fluxionref02_Gcd.f k l0 l1 = some r) :
    Calls Tryz.prog 68 #[.slice A0 l0.length c0, .slice A1 l1.length c1] w fun e w' => ∃ v0_ : Value, e = .returned (v0_) ∧ Kd.V (Kd.int .i64) 3 w' w.heap.size (fun k_ => ((P0_ k_ ∨ P1_ k_) ∨ w.heap.size ≤ k_)) v0_ r ∧ Below w.heap.size w w' := by
  have HO0 := Aside0.mk (show Kd.V (Kd.int .i64) 3 w w.heap.size (fun k_ => ((P0_ k_ ∨ P1_ k_) ∨ w.heap.size ≤ k_)) (.slice A0 l0.length c0) l0 from Kd.V_mono hs0 (fun k_ hk => .inl (.inl hk)))
  have HO1 := Aside0.mk (show Kd.V (Kd.int .i64) 3 w w.heap.size (fun k_ => ((P0_ k_ ∨ P1_ k_) ∨ w.heap.size ≤ k_)) (.slice A1 l1.length c1) l1 from Kd.V_mono hs1 (fun k_ hk => .inl (.inr hk)))
  have HB := Aside0.mk (Below.refl w.heap.size w)
  have H : (fluxionref02_Gcd.l0 k l0 l1) = some r := h
  clear h
  have H' := Aside0.mk H
  clear H
  go_enter Tryz.func68, Tryz.ntmps68
  go_wp2
  go_loopg [0, 1] k (fun kq v0 v1 w' => ∃ (x0_1 : List Int) (x1_1 : List Int), Aside0 (fluxionref02_Gcd.l0 kq x0_1 x1_1 = some r) ∧ Aside0 (kq ≤ k) ∧ Aside0 (Kd.V (Kd.int .i64) 3 w' w.heap.size (fun k_ => ((P0_ k_ ∨ P1_ k_) ∨ w.heap.size ≤ k_)) v0 x0_1) ∧ Aside0 (Kd.V (Kd.int .i64) 3 w' w.heap.size (fun k_ => ((P0_ k_ ∨ P1_ k_) ∨ w.heap.size ≤ k_)) v1 x1_1) ∧ Aside0 (Below w.heap.size w w'))
  case atStart => exact ⟨(l0), (l1), H', ⟨Nat.le_refl _⟩, ⟨by (with_reducible repeat (first | apply Kd.V_alloc | apply Kd.V_drewN | apply Kd.V_drew)); exact HO0.out⟩, ⟨by (with_reducible repeat (first | apply Kd.V_alloc | apply Kd.V_drewN | apply Kd.V_drew)); exact HO1.out⟩, ⟨by repeat (first | (with_reducible first | exact HB.out | apply below_alloc | apply pw_below_drewN | apply below_drew1) | exact HB.out)⟩⟩
  case round =>
    clear H'
    try clear c1
    try clear p2
    obtain ⟨x0_1, x1_1, HA, HK1, HO_0, HO_1, HB⟩ := hrel
    cases gk with
    | zero => exact absurd HA.out (by simp [fluxionref02_Gcd.l0])
    | succ k1 =>
      have H := HA.out
      clear HA
      simp only [fluxionref02_Gcd.l0] at H
      by_cases c3 : (x1_1.length : Int) > 0
      · rw [if_pos c3] at H
        have c3b0 : decide (0 < (x1_1.length : Int)) = true := decide_eq_true c3
        have c3b1 : decide (0 < x1_1.length) = true := decide_eq_true (by omega)
        clear c3
        replace H := Option.bind_eq_some_iff.mp H
        obtain ⟨⟨t423, t424⟩, A40, H⟩ := H
        try dsimp only at H
        have A4 := Aside0.mk A40
        clear A40
        have H' := Aside0.mk H
        clear H
        obtain ⟨Ao5, co5, eo5⟩ := Kd.V_slice HO_1.out
        subst eo5
        obtain ⟨Ao6, co6, eo6⟩ := Kd.V_slice HO_0.out
        subst eo6
        go_wp2_with (first | ((with_reducible refine gate_callee (f := 69) rfl ?_); refine goesL_ (some 13) rfl rfl Tryz.func69 (by kernel_rfl) rfl #[.slice Ao6 x0_1.length co6, .slice Ao5 x1_1.length co5] rfl (by (try simp only [List.map_toArray, List.map_cons, List.map_nil]); first | done | rfl | (simp only [List.length_drop, List.length_take]; rfl)) ?_; (with_reducible refine (fluxionref02_DivMod.calls k1 _ _ x0_1 _ _ x1_1 t423 t424 _ ?side1 ?side2 ?side3 ?side4 A4.out).mono ?_); (case side1 => repeat (first | exact (Kd.V_reads' HO_0.out).2.2 | (with_reducible refine Kd.C_alloc ?_ _) | (with_reducible refine Kd.C_drewN ?_ _) | (with_reducible refine Kd.C_drew ?_))); (case side2 => exact (Kd.V_reads' HO_0.out).2.1); (case side3 => repeat (first | exact (Kd.V_reads' HO_1.out).2.2 | (with_reducible refine Kd.C_alloc ?_ _) | (with_reducible refine Kd.C_drewN ?_ _) | (with_reducible refine Kd.C_drew ?_))); (case side4 => exact (Kd.V_reads' HO_1.out).2.1); rintro e w7 ⟨v425, v427, rfl, ho0, ho1, hb⟩; refine ⟨_, rfl, ?_⟩; have n0_ := Aside0.mk (Kd.V_mono (Kd.V_told (Kd.V_told (Kd.V_old (by (with_reducible repeat (first | apply Kd.V_alloc | apply Kd.V_drewN | apply Kd.V_drew)); exact HO_0.out) hb) (Kd.R_base ho0)) (Kd.R_base ho1)) (fun _ h_ => h_.1)); have n1_ := Aside0.mk (Kd.V_mono (Kd.V_told (Kd.V_told (Kd.V_old (by (with_reducible repeat (first | apply Kd.V_alloc | apply Kd.V_drewN | apply Kd.V_drew)); exact HO_1.out) hb) (Kd.R_base ho0)) (Kd.R_base ho1)) (fun _ h_ => h_.1)); have n2_ := Aside0.mk (Kd.R_lower (Kd.R_newM (M := fun k_ => (w.heap.size ≤ k_)) ho0 (below_size (by repeat (first | (with_reducible first | exact HB.out | apply below_alloc | apply pw_below_drewN | apply below_drew1) | exact HB.out))) (fun k_ h_ => h_)) (below_size (by repeat (first | (with_reducible first | exact HB.out | apply below_alloc | apply pw_below_drewN | apply below_drew1) | exact HB.out)))); have n3_ := Aside0.mk (Kd.R_lower (Kd.R_newM (M := fun k_ => (w.heap.size ≤ k_)) ho1 (below_size (by repeat (first | (with_reducible first | exact HB.out | apply below_alloc | apply pw_below_drewN | apply below_drew1) | exact HB.out))) (fun k_ h_ => h_)) (below_size (by repeat (first | (with_reducible first | exact HB.out | apply below_alloc | apply pw_below_drewN | apply below_drew1) | exact HB.out)))); have n4_ := Aside0.mk (below_step (by repeat (first | (with_reducible first | exact HB.out | apply below_alloc | apply pw_below_drewN | apply below_drew1) | exact HB.out)) hb); clear HO_0; clear HO_1; clear HB; have HO_0 := n0_; have HO_1 := n1_; have HO426 := n2_; have HO428 := n3_; have HB := n4_; clear n0_ n1_ n2_ n3_ n4_; (try clear hb); (try clear hb2); (try clear hk); (try clear hi); (try clear ho0); (try clear ho1)))
        go_roundg k1
        case measure => have := HK1.out; omega
        case rel => exact ⟨(x1_1), (t424), H', ⟨by have := HK1.out; omega⟩, ⟨by (with_reducible repeat (first | apply Kd.V_alloc | apply Kd.V_drewN | apply Kd.V_drew)); exact Kd.V_mono HO_1.out (fun _ hk => hk.1.1)⟩, ⟨Kd.V_mono (Kd.R_V (by exact Kd.R_mono HO428.out (fun _ hk => hk.1))) (fun k_ hk => by first | exact ⟨(.inr (hk.1)), hk.2⟩ | exact (.inr (hk)))⟩, ⟨by repeat (first | (with_reducible first | exact HB.out | apply below_alloc | apply pw_below_drewN | apply below_drew1) | exact HB.out)⟩⟩
      · rw [if_neg c3] at H
        have c3b0 : decide (0 < (x1_1.length : Int)) = false := decide_eq_false c3
        have c3b1 : decide (0 < x1_1.length) = false := decide_eq_false (by omega)
        clear c3
        obtain rfl := Option.some.inj H
        obtain ⟨Ao8, co8, eo8⟩ := Kd.V_slice HO_1.out
        subst eo8
        go_wp2
        go_ret
        exact ⟨_, by first | rfl | (simp [errW_none, errW_some] <;> rfl) | (simp [*, errW_none, errW_some] <;> rfl), by (with_reducible repeat (first | apply Kd.V_alloc | apply Kd.V_drewN | apply Kd.V_drew)); exact HO_0.out, by repeat (first | (with_reducible first | exact HB.out | apply below_alloc | apply pw_below_drewN | apply below_drew1) | exact HB.out)⟩

end Go.Proofs.YtpncflaoikeidaaGreatDoor.P
namespace Go.Proofs.YtpncflaoikeidaaGreatDoor.H
open Go.RowKit Go.Proofs.YtpncflaoikeidaaGreatDoorW.PrintWords Go.Proofs.YtpncflaoikeidaaGreatDoorW.PrintLast Go.Proofs.YtpncflaoikeidaaGreatDoorW.PrintMore Go.Proofs.YtpncflaoikeidaaGreatDoor.P
theorem c4_len0 (b : Nat) : (c4 b).length = 0 ↔ b = 0 := by
  constructor
  · intro h
    have := v4_c4 b
    rw [List.eq_nil_of_length_eq_zero h] at this
    simp only [v4] at this; omega
  · rintro rfl; rw [c4_zero]; rfl
theorem c4_le_len {a b : Nat} (h : a ≤ b) : (c4 a).length ≤ (c4 b).length := by
  have h1 := v4_lt (ok4_c4 b)
  rw [v4_c4] at h1
  exact c4_length_le _ _ (Nat.lt_of_le_of_lt h h1)
theorem gcd2_l0 : ∀ (b a k : Nat), 2400000 + b < k → (c4 a).length < 300000 → (c4 b).length < 300000 → fluxionref02_Gcd.l0 k (c4 a) (c4 b) = some (c4 (Nat.gcd a b)) := by
  intro b
  induction b using Nat.strongRecOn with
  | _ b ih =>
    intro a k hk ha hb
    obtain ⟨k, rfl⟩ : ∃ k2, k = k2 + 1 := ⟨k - 1, by omega⟩
    rw [fluxionref02_Gcd.l0]
    by_cases h0 : b = 0
    · subst h0
      rw [c4_zero, if_neg (by simp), Nat.gcd_zero_right]
    · have hp := mt (c4_len0 b).1 h0
      have hm := Nat.mod_lt a (Nat.pos_of_ne_zero h0)
      rw [if_pos (by omega), divmod2_f a b k (by omega) ha hb (by omega), Option.bind_some, ih (a % b) hm b k (by omega) hb (Nat.lt_of_le_of_lt (c4_le_len (Nat.le_of_lt hm)) hb), Nat.gcd_comm a b, Nat.gcd_rec b a, Nat.gcd_comm]
end Go.Proofs.YtpncflaoikeidaaGreatDoor.H
