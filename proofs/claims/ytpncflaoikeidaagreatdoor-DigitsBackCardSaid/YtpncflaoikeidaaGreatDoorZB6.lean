/- TEXTS OF THIS CLAIM, GATHERED: words printed by the kit, functions printed over the translation, contracts and plain laws by hand. -/
import Derived.Test.YtpncflaoikeidaaGreatDoorZB5
namespace Go.Proofs.YtpncflaoikeidaaGreatDoor.H
open Go.RowKit Go.Lib Go.Proofs.YtpncflaoikeidaaGreatDoorW.PrintWords Go.Proofs.YtpncflaoikeidaaGreatDoorW.PrintLast Go.Proofs.YtpncflaoikeidaaGreatDoorW.PrintMore Go.Proofs.YtpncflaoikeidaaGreatDoor.P
theorem half_w {T : Nat} (h : T < 100000) : wrap64 (Int.tdiv (T : Int) 2) = ((T / 2 : Nat) : Int) := by
  rw [Int.tdiv_eq_ediv_of_nonneg (by omega)]
  have e : (T : Int) / 2 = ((T / 2 : Nat) : Int) := by omega
  rw [e]; exact wrap_small (by omega) (by omega)
theorem half_m (T : Nat) : Int.tmod (T : Int) 2 = ((T % 2 : Nat) : Int) := by rw [Int.tmod_eq_emod_of_nonneg (by omega)]; omega
theorem short2_l0 (a n : Nat) (hn : n = (c4 a).length) (ha : n < 300000) (K : Nat) (hK : 300000 ≤ K) : ∀ (i k : Nat) (q : List Int), i ≤ n → Dm a 2 i n q → K + i < k →
    fluxionref01_Short.l0 k (c4 a) 2 q ((a / 10000 ^ i % 2 : Nat) : Int) ((i : Int) - 1) = some (c4 (a / 2), ((a % 2 : Nat) : Int))
  | _, 0, _, _, _, hk => by omega
  | 0, k + 1, q, _, h, hk => by
    have h1 := h.eq
    have hl := h.len
    rw [Nat.pow_zero, Nat.one_mul, Nat.div_one] at h1
    rw [fluxionref01_Short.l0, if_neg (by omega), trim1_f h.ok (by omega) (by omega), Option.bind_some, h1, Nat.pow_zero, Nat.div_one]
  | i + 1, k + 1, q, hi, h, hk => by
    have ra := rd_c4 a i
    obtain ⟨A, hA⟩ : ∃ A, a / 10000 ^ (i + 1) = A := ⟨_, rfl⟩
    obtain ⟨x, hx⟩ : ∃ x, a / 10000 ^ i % 10000 = x := ⟨_, rfl⟩
    have hxl : x < 10000 := by rw [← hx]; exact Nat.mod_lt _ (by decide)
    have hA' : a / 10000 ^ i = 10000 * A + x := by rw [← hA, ← hx, div_pow_succ]; exact (Nat.div_add_mod _ _).symm
    rw [hx] at ra
    obtain ⟨s1, s2, s3⟩ := div_step (A := A) (b := 2) (by decide) hxl
    obtain ⟨R, hR⟩ : ∃ R, A % 2 = R := ⟨_, rfl⟩
    have hRb : R < 2 := by rw [← hR]; exact Nat.mod_lt _ (by decide)
    rw [hR] at s1 s2 s3
    have hd : (x + 10000 * R) / 2 < 10000 := Nat.div_lt_of_lt_mul s3
    have NX := h.next (by omega) hd hA hA' s1
    have hql := h.len
    have HA' := Aside0.mk hA'
    clear h hA' hx s1 s3
    have EW : Aside0 (wrap64 ((i : Int) - 1) = (i : Int) - 1) := ⟨by clear ra s2 NX hA; unfold wrap64; omega⟩
    have E1 : Aside0 (wrap64 (wrap64 (((R : Nat) : Int) * 10000) + ((x : Nat) : Int)) = ((x + 10000 * R : Nat) : Int)) := ⟨by clear ra s2 NX hA hR hd; rw [wrap_small (x := (R : Int) * 10000) (by omega) (by omega), wrap_small (by omega) (by omega)]; omega⟩
    have E2 : Aside0 (wrap64 (Int.tdiv (((x + 10000 * R : Nat)) : Int) 2) = (((x + 10000 * R) / 2 : Nat) : Int)) := ⟨half_w (by clear ra s2 NX hA hR hd; omega)⟩
    have E3 : Aside0 (Int.tmod (((x + 10000 * R : Nat)) : Int) 2 = (((x + 10000 * R) % 2 : Nat) : Int)) := ⟨half_m _⟩
    have e0 : (((i + 1 : Nat) : Int) - 1) = (i : Int) := by omega
    have b1 : (i : Int) < ((c4 a).length : Int) := by omega
    have b2 : (i : Int) < (q.length : Int) := by omega
    rw [fluxionref01_Short.l0, e0, hA, hR, if_pos (Int.natCast_nonneg _), if_pos (Int.natCast_nonneg _), if_pos b1, if_neg (by decide), if_pos b2, ra, E1.out, E2.out, E3.out, EW.out, Int.toNat_natCast, ← s2, ← HA'.out]
    exact short2_l0 a n hn ha K hK i k _ (by omega) NX (by omega)
theorem short2_f (a k : Nat) (ha : (c4 a).length < 300000) (hk : 700000 ≤ k) : fluxionref01_Short.f k (c4 a) 2 = some (c4 (a / 2), ((a % 2 : Nat) : Int)) := by
  obtain ⟨n, hn⟩ : ∃ n, (c4 a).length = n := ⟨_, rfl⟩
  have ht : a / 10000 ^ n = 0 := by rw [← hn]; exact c4_top a
  have D : Dm a 2 n n (List.replicate n 0) := ⟨ok4_zeros n, List.length_replicate, by rw [v4_zeros, ht, Nat.zero_div, Nat.mul_zero], fun j _ => zeros_get n j⟩
  have h := short2_l0 a n hn.symm (by omega) 300000 (Nat.le_refl _) n k _ (Nat.le_refl _) D (by omega)
  rw [ht] at h
  have EW : Aside0 (wrap64 ((n : Int) - 1) = (n : Int) - 1) := ⟨by clear h D ht; unfold wrap64; omega⟩
  unfold fluxionref01_Short.f
  rw [hn, if_pos (Int.natCast_nonneg _), Int.toNat_natCast, if_pos (by omega), EW.out]
  exact h
theorem nbits_half {n : Nat} (h : n ≠ 0) : nbits n = nbits (n / 2) + 1 := by
  obtain ⟨K, hK⟩ : ∃ K, nbits (n / 2) = K := ⟨_, rfl⟩
  rw [hK]
  have h1 : n / 2 < 2 ^ K := Nat.lt_of_not_le fun hc => by have := (nbits_gt (n / 2) K).2 hc; omega
  rcases Nat.eq_zero_or_pos K with h0 | h0
  · subst h0
    refine nbits_of h ?_ ?_
    · rw [Nat.pow_zero]; omega
    · rw [Nat.pow_zero] at h1; rw [Nat.zero_add, Nat.pow_one]; omega
  · obtain ⟨J, rfl⟩ : ∃ J, K = J + 1 := ⟨K - 1, by omega⟩
    have h2 := (nbits_gt (n / 2) J).1 (by omega)
    refine nbits_of h ?_ ?_
    · rw [Nat.pow_succ]; omega
    · rw [Nat.pow_succ]; omega
theorem bits_l0 (K : Nat) (hK : 700000 ≤ K) : ∀ (B n b k : Nat), n < 2 ^ B → B < 100000 → (c4 n).length < 300000 → b + B < 1000000 → K + B < k → fluxionref01_Bits.l0 k (c4 n) (b : Int) = some ((b + nbits n : Nat) : Int)
  | _, _, _, 0, _, _, _, _, h => by omega
  | B, n, b, k + 1, hn, hB, hl, hb, hk => by
    rw [fluxionref01_Bits.l0]
    by_cases h0 : n = 0
    · subst h0; rw [c4_zero, if_neg (by decide), (nbits_zero 0).2 rfl]; rfl
    · have hp := mt (c4_len0 n).1 h0
      cases B with
      | zero => rw [Nat.pow_zero] at hn; omega
      | succ B =>
        have hh : n / 2 < 2 ^ B := by rw [Nat.pow_succ] at hn; omega
        have hlen := c4_le_len (Nat.div_le_self n 2)
        rw [nbits_half h0]
        obtain ⟨m, hm⟩ : ∃ m, n / 2 = m := ⟨_, rfl⟩
        have hsf := short2_f n k hl (by clear hn hh; omega)
        rw [hm] at hh hlen hsf ⊢
        have EW : Aside0 (wrap64 ((b : Int) + 1) = ((b + 1 : Nat) : Int)) := ⟨by clear hn hh hsf; unfold wrap64; omega⟩
        rw [if_pos (by clear hn hh hsf; omega), hsf, Option.bind_some, EW.out]
        simp only
        rw [bits_l0 K hK B m (b + 1) k hh (by clear hn hh hsf; omega) (by clear hn hh hsf; omega) (by clear hn hh hsf; omega) (by clear hn hh hsf; omega), Nat.add_assoc, Nat.add_comm 1]
theorem refBits_f (n B k : Nat) (hn : n < 2 ^ B) (hB : B < 100000) (hl : (c4 n).length < 300000) (hk : 900000 ≤ k) : fluxionref01_Bits.f k (c4 n) = some ((nbits n : Nat) : Int) := by
  unfold fluxionref01_Bits.f
  have := bits_l0 700000 (Nat.le_refl _) B n 0 k hn hB hl (by omega) (by omega)
  rw [Nat.zero_add] at this
  exact this
theorem limbs_last {n : Nat} (h : n ≠ 0) : rd (limbs n) (((limbs n).length : Int) - 1) ≠ 0 := by
  intro hc
  have hne : limbs n ≠ [] := by
    intro h0
    have := nval_limbs n
    rw [h0] at this
    exact h this.symm
  have hp : 0 < (limbs n).length := List.length_pos_iff.2 hne
  have e : limbs n = (limbs n).dropLast ++ [(limbs n).getLast hne] := (List.dropLast_concat_getLast hne).symm
  have hg : rd (limbs n) (((limbs n).length : Int) - 1) = (limbs n).getLast hne := by
    unfold rd
    rw [show (((limbs n).length : Int) - 1).toNat = (limbs n).length - 1 by omega, List.getLast_eq_getElem, List.getD_eq_getElem?_getD, List.getElem?_eq_getElem (by omega)]
    rfl
  rw [hg] at hc
  have h1 := trim_limbs (okl_limbs n)
  rw [nval_limbs] at h1
  have h2 : topN (limbs n) = topN (limbs n).dropLast := by
    conv => lhs; rw [e]
    rw [topN_snoc, if_pos hc]
  have h3 := topN_le (limbs n).dropLast
  have h4 := congrArg List.length h1
  rw [List.length_take, h2] at h4
  rw [List.length_dropLast] at h3
  omega
theorem canon_f (n : Nat) (hl : (limbs n).length < 1000000) : fluxionref01_Canonical.f (limbs n) = some true := by
  unfold fluxionref01_Canonical.f
  by_cases h : n = 0
  · subst h; rw [limbs_zero]; rfl
  · have h1 := limbs_last h
    have hp : (limbs n).length ≠ 0 := by
      intro h0
      have := nval_limbs n
      rw [List.eq_nil_of_length_eq_zero h0] at this
      exact h this.symm
    have w : wrap64 (((limbs n).length : Int) - 1) = ((limbs n).length : Int) - 1 := by unfold wrap64; omega
    rw [w, if_neg (by omega), if_pos (by omega), if_pos (by omega)]
    congr 1
    exact bne_iff_ne.2 h1
theorem refIs_f (n k : Nat) (hl : (limbs n).length < 90000) (hk : 5000400000 ≤ k) : fluxionref01_Is.f k (c4 n) (limbs n) = some true := by
  have h := c4_nval_len (okl_limbs n)
  rw [nval_limbs] at h
  unfold fluxionref01_Is.f
  rw [canon_f n (by omega), Option.bind_some, if_pos rfl, of_f (okl_limbs n) (by omega) (by omega), Option.bind_some, nval_limbs, cmp_f n n k (by omega) (by omega), Option.bind_some]
  unfold cmpN
  rw [if_neg (Nat.lt_irrefl _), if_neg (Nat.lt_irrefl _)]
  rfl
theorem refIsR_f (g : Bool) (n d k : Nat) (hn : (limbs n).length < 90000) (hd : (limbs d).length < 90000) (hk : 5000400000 ≤ k) : fluxionref03_Is.f k g (c4 n) (c4 d) g (limbs n) (limbs d) = some true := by
  unfold fluxionref03_Is.f
  rw [refIs_f n k hn hk, refIs_f d k hd hk]
  simp
end Go.Proofs.YtpncflaoikeidaaGreatDoor.H
namespace Go.Proofs.YtpncflaoikeidaaGreatDoor.P
open Go.RowKit Go.Proofs.YtpncflaoikeidaaGreatDoorW.PrintWords Go.Proofs.YtpncflaoikeidaaGreatDoorW.PrintLast Go.Proofs.YtpncflaoikeidaaGreatDoorW.PrintMore
attribute [local go_sem] max2_int max_two
set_option linter.unusedVariables false
set_option linter.unusedSimpArgs false

mutual
def fluxionlaw04_DigitsBack.j0 : Nat → List Int → ByteArray → Bool → Bool → List Int → List Int → Option (Bool)
  | 0, _, _, _, _, _, _ => none
  | k + 1, x0, x2, x29, x558000, x558001, x558002 => if x29 = true then ((fluxionlaw04_known.f k).bind fun t558 => (some t558)) else ((digits_Nat.f x0).bind fun t559 => ((digits_ParseNat.f t559).bind fun bt560 => ((fluxionref01_Of.f k x0).bind fun t564 => ((fluxionref01_Bits.f k t564).bind fun t567 => (if t567 > 1024 then (if bt560.2 = 14 then (if (bt560.1.length : Int) = 0 then (fluxionlaw04_DigitsBack.j1 k x2 x558000 x558001 x558002) else (some false)) else (some false)) else (if bt560.2 = 0 then ((fluxionref01_Of.f k x0).bind fun t568 => ((fluxionref01_Is.f k t568 bt560.1).bind fun t571 => (if t571 = true then (fluxionlaw04_DigitsBack.j1 k x2 x558000 x558001 x558002) else (some false)))) else (some false)))))))
def fluxionlaw04_DigitsBack.j1 : Nat → ByteArray → Bool → List Int → List Int → Option (Bool)
  | 0, _, _, _, _ => none
  | k + 1, x2, x558000, x558001, x558002 => (digits_Rat.f k x558000 x558001 x558002).bind fun t572 => ((digits_ParseRat.f k t572).bind fun bt573 => (if bt573.2.2.2 = 0 then ((fluxionref03_Of.f k x558000 x558001 x558002).bind fun bt582 => ((fluxionref03_Is.f k bt582.1 bt582.2.1 bt582.2.2 bt573.1 bt573.2.1 bt573.2.2.1).bind fun t589 => (fluxionlaw04_DigitsBack.j2 k x2 (!t589)))) else (fluxionlaw04_DigitsBack.j2 k x2 true)))
def fluxionlaw04_DigitsBack.j2 : Nat → ByteArray → Bool → Option (Bool)
  | 0, _, _ => none
  | k + 1, x2, x71 => if x71 = true then (some false) else ((digits_ParseNat.f x2).bind fun bt590 => (if bt590.2 = 0 then ((digits_Nat.f bt590.1).bind fun t594 => (fluxionlaw04_DigitsBack.j3 k x2 (t594.toList != x2.toList))) else (fluxionlaw04_DigitsBack.j3 k x2 false)))
def fluxionlaw04_DigitsBack.j3 : Nat → ByteArray → Bool → Option (Bool)
  | 0, _, _ => none
  | k + 1, x2, x84 => if x84 = true then (some false) else (if (x2.size : Int) > 120 then ((fluxionlaw04_known.f k).bind fun t595 => (some t595)) else ((digits_ParseRat.f k x2).bind fun bt596 => (if bt596.2.2.2 = 0 then ((digits_Rat.f k bt596.1 bt596.2.1 bt596.2.2.1).bind fun t605 => (if t605.toList = x2.toList then ((fluxionlaw04_known.f k).bind fun t606 => (some t606)) else (some false))) else ((fluxionlaw04_known.f k).bind fun t607 => (some t607)))))
end
def fluxionlaw04_DigitsBack.f (k : Nat) (l0 : List Int) (a1_0 : Bool) (l1_1 : List Int) (l1_2 : List Int) (a2 : ByteArray) : Option (Bool) := if (l0.length : Int) > 40 then (fluxionlaw04_DigitsBack.j0 k l0 a2 true a1_0 l1_1 l1_2) else (if (l1_1.length : Int) > 8 then (fluxionlaw04_DigitsBack.j0 k l0 a2 true a1_0 l1_1 l1_2) else (fluxionlaw04_DigitsBack.j0 k l0 a2 (decide ((l1_2.length : Int) > 8)) a1_0 l1_1 l1_2))
def fluxionlaw04_DigitsBack.T10 : Bool × List (List Nat × List Nat) := (true, [([], []), ([0], [0]), ([1], [1]), ([2], [2]), ([3, 2, 2], [2, 3]), ([2], [2]), ([4, 5, 4, 2], [2, 4, 5]), ([6, 2], [2, 6]), ([2, 7], [2, 7])])
def fluxionlaw04_DigitsBack.B10 : List Nat := [0, 1, 3, 7, 15, 7, 63, 127, 255]
theorem fluxionlaw04_DigitsBack.tab10 : rtab .any (opsOf Tryz.f5 10) = fluxionlaw04_DigitsBack.T10 := by kernel_rfl
theorem fluxionlaw04_DigitsBack.bits10 : waitsOk fluxionlaw04_DigitsBack.T10.2 fluxionlaw04_DigitsBack.B10 = true := by kernel_rfl
set_option maxHeartbeats 8000000 in
set_option maxRecDepth 100000 in
theorem fluxionlaw04_DigitsBack.calls (k : Nat) (A0 : Option Addr) (c0 : Nat) (l0 : List Int) (a1_0 : Bool) (A1_1 : Option Addr) (c1_1 : Nat) (l1_1 : List Int) (A1_2 : Option Addr) (c1_2 : Nat) (l1_2 : List Int) (a2 : ByteArray) (r : Bool) (w : World) (hr0 : Kd.C (Kd.int .u32) w A0 l0.length l0) (hc0 : l0.length ≤ c0) (hr1_1 : Kd.C (Kd.int .u32) w A1_1 l1_1.length l1_1) (hc1_1 : l1_1.length ≤ c1_1) (hr1_2 : Kd.C (Kd.int .u32) w A1_2 l1_2.length l1_2) (hc1_2 : l1_2.length ≤ c1_2) (h : fluxionlaw04_DigitsBack.f k l0 a1_0 l1_1 l1_2 a2 = some r) (hL : LaidT w) :
    Calls Tryz.prog 5 #[.slice A0 l0.length c0, .agg #[.bool a1_0, .slice A1_1 l1_1.length c1_1, .slice A1_2 l1_2.length c1_2], .string a2] w fun e w' => e = .returned (.bool r) ∧ Below w.heap.size w w' := by
  have hu25 := Tryz.underlying25
  have HR0 := Aside0.mk hr0
  have HC0 := Aside0.mk hc0
  clear hr0 hc0
  have HR1_1 := Aside0.mk hr1_1
  have HC1_1 := Aside0.mk hc1_1
  clear hr1_1 hc1_1
  have HR1_2 := Aside0.mk hr1_2
  have HC1_2 := Aside0.mk hc1_2
  clear hr1_2 hc1_2
  have HB := Aside0.mk (Below.refl w.heap.size w)
  have H : (if (l0.length : Int) > 40 then (fluxionlaw04_DigitsBack.j0 k l0 a2 true a1_0 l1_1 l1_2) else (if (l1_1.length : Int) > 8 then (fluxionlaw04_DigitsBack.j0 k l0 a2 true a1_0 l1_1 l1_2) else (fluxionlaw04_DigitsBack.j0 k l0 a2 (decide ((l1_2.length : Int) > 8)) a1_0 l1_1 l1_2))) = some r := h
  clear h
  have HC4 := Aside0.mk H
  clear H
  go_enter Tryz.func5, Tryz.ntmps5
  go_upto_region 1 with (first | ((with_reducible refine gate_dst (N := 4) rfl ?_); (try (refine gate_guard (by rfl) ?_; dsimp only)); refine box_event ?hg (N := 4) ?hd (cs := #[.bool a1_0, .slice A1_1 l1_1.length c1_1, .slice A1_2 l1_2.length c1_2]) (t := 25) ?hr ?_; (case hd => rfl); (case hg => rfl); (case hr => first | (go_simp; done) | (go_simp; rfl)); intro gb557 hg w5 hbox hb; have n0_ := Aside0.mk (below_step (by repeat (first | (with_reducible first | exact HB.out | apply below_alloc | apply pw_below_drewN | apply below_drew1) | exact HB.out)) hb); have n1_ := Aside0.mk (hbox); have n2_ := Aside0.mk ((by rw [hg]; exact (below_size (by repeat (first | (with_reducible first | exact HB.out | apply below_alloc | apply pw_below_drewN | apply below_drew1) | exact HB.out))) : w.heap.size ≤ gb557)); have n3_ := Aside0.mk ((by rw [hg]; exact (below_size (by repeat (first | (with_reducible first | exact HB.out | apply below_alloc | apply pw_below_drewN | apply below_drew1) | exact HB.out))) : w.heap.size ≤ gb557)); clear HB; have HB := n0_; have BK557 := n1_; have GW557 := n2_; have GE557 := n3_; clear n0_ n1_ n2_ n3_; clear hb hbox hg))
  (try simp only [Act.put, List.setIfInBounds_toArray, List.set_cons_zero, List.set_cons_succ])
  go_cut [29] (fun v29 wc => ∃ (kq : Nat) (x29_3 : Bool), v29 = .bool x29_3 ∧ Aside0 (fluxionlaw04_DigitsBack.j0 kq l0 a2 x29_3 a1_0 l1_1 l1_2 = some r) ∧ Aside0 (kq ≤ k) ∧ Aside0 (wc.heap[gb557]? = some (.cells #[.bool a1_0, (.slice A1_1 l1_1.length c1_1), (.slice A1_2 l1_2.length c1_2)] 25 (0, 0))) ∧ Aside0 (Below w.heap.size w wc))
  case first =>
    have H := HC4.out
    clear HC4
    by_cases c6 : (l0.length : Int) > 40
    · rw [if_pos c6] at H
      have c6b0 : decide (40 < (l0.length : Int)) = true := decide_eq_true c6
      have c6b1 : decide (40 < l0.length) = true := decide_eq_true (by omega)
      clear c6
      (first | rw [c6b0] | (simp only [i64_w, i32_w]; rw [c6b0]) | skip)
      have H' := Aside0.mk H
      clear H
      go_wp2
      go_meet
      case rel => exact ⟨_, (true), (by first | rfl | (simp; done) | (simp [*]; done)), H', ⟨by first | omega | exact Nat.le_refl _⟩, ⟨by (with_reducible repeat (first | refine blk_drewN ?_ _ | refine blk_drew ?_ | refine blk_alloc ?_ _)); exact BK557.out⟩, ⟨by repeat (first | (with_reducible first | exact HB.out | apply below_alloc | apply pw_below_drewN | apply below_drew1 | refine below_set ?_ GE557.out) | exact HB.out)⟩⟩
    · rw [if_neg c6] at H
      have c6b0 : decide (40 < (l0.length : Int)) = false := decide_eq_false c6
      have c6b1 : decide (40 < l0.length) = false := decide_eq_false (by omega)
      clear c6
      (first | rw [c6b0] | (simp only [i64_w, i32_w]; rw [c6b0]) | skip)
      by_cases c7 : (l1_1.length : Int) > 8
      · rw [if_pos c7] at H
        have c7b0 : decide (8 < (l1_1.length : Int)) = true := decide_eq_true c7
        have c7b1 : decide (8 < l1_1.length) = true := decide_eq_true (by omega)
        clear c7
        have H' := Aside0.mk H
        clear H
        have hcz8_0 : w5.cell? ⟨gb557, 0, none⟩ = some (.bool a1_0) := (blk_cell BK557.out 0).trans rfl
        have hcz8_1 : w5.cell? ⟨gb557, 1, none⟩ = some (.slice A1_1 l1_1.length c1_1) := (blk_cell BK557.out 1).trans rfl
        have hcz8_2 : w5.cell? ⟨gb557, 2, none⟩ = some (.slice A1_2 l1_2.length c1_2) := (blk_cell BK557.out 2).trans rfl
        have hfz8_0 := blk_frozen BK557.out 0
        have hfz8_1 := blk_frozen BK557.out 1
        have hfz8_2 := blk_frozen BK557.out 2
        go_wp2
        go_meet
        case rel => exact ⟨_, (true), (by first | rfl | (simp; done) | (simp [*]; done)), H', ⟨by first | omega | exact Nat.le_refl _⟩, ⟨by (with_reducible repeat (first | refine blk_drewN ?_ _ | refine blk_drew ?_ | refine blk_alloc ?_ _)); exact BK557.out⟩, ⟨by repeat (first | (with_reducible first | exact HB.out | apply below_alloc | apply pw_below_drewN | apply below_drew1 | refine below_set ?_ GE557.out) | exact HB.out)⟩⟩
      · rw [if_neg c7] at H
        have c7b0 : decide (8 < (l1_1.length : Int)) = false := decide_eq_false c7
        have c7b1 : decide (8 < l1_1.length) = false := decide_eq_false (by omega)
        clear c7
        have H' := Aside0.mk H
        clear H
        have hcz9_0 : w5.cell? ⟨gb557, 0, none⟩ = some (.bool a1_0) := (blk_cell BK557.out 0).trans rfl
        have hcz9_1 : w5.cell? ⟨gb557, 1, none⟩ = some (.slice A1_1 l1_1.length c1_1) := (blk_cell BK557.out 1).trans rfl
        have hcz9_2 : w5.cell? ⟨gb557, 2, none⟩ = some (.slice A1_2 l1_2.length c1_2) := (blk_cell BK557.out 2).trans rfl
        have hfz9_0 := blk_frozen BK557.out 0
        have hfz9_1 := blk_frozen BK557.out 1
        have hfz9_2 := blk_frozen BK557.out 2
        go_wp2
        go_meet
        case rel => exact ⟨_, (decide ((l1_2.length : Int) > 8)), (by first | rfl | (simp; done) | (simp [*]; done)), H', ⟨by first | omega | exact Nat.le_refl _⟩, ⟨by (with_reducible repeat (first | refine blk_drewN ?_ _ | refine blk_drew ?_ | refine blk_alloc ?_ _)); exact BK557.out⟩, ⟨by repeat (first | (with_reducible first | exact HB.out | apply below_alloc | apply pw_below_drewN | apply below_drew1 | refine below_set ?_ GE557.out) | exact HB.out)⟩⟩
  case rest =>
    clear HC4
    try clear c1
    try clear p2
    try clear c5
    try clear c6
    try clear c6b0
    try clear c6b1
    try clear c7
    try clear c7b0
    try clear c7b1
    try clear hcz8_0
    try clear hcz8_1
    try clear hcz8_2
    try clear hcz9_0
    try clear hcz9_1
    try clear hcz9_2
    try clear hfz8_0
    try clear hfz8_1
    try clear hfz8_2
    try clear hfz9_0
    try clear hfz9_1
    try clear hfz9_2
    obtain ⟨kq, x29_3, rfl, HA, HJ3, BK557, HB⟩ := hcut
    cases kq with
    | zero => exact absurd HA.out (by simp [fluxionlaw04_DigitsBack.j0])
    | succ kj3 =>
      have H := HA.out
      clear HA
      simp only [fluxionlaw04_DigitsBack.j0] at H
      by_cases c10 : x29_3 = true
      · subst c10
        have H1 : ((fluxionlaw04_known.f kj3).bind fun t558 => (some t558)) = some r := by rw [if_pos rfl] at H; exact H
        clear H
        have H := H1
        clear H1
        replace H := Option.bind_eq_some_iff.mp H
        obtain ⟨t558, A110, H⟩ := H
        replace H : (some t558) = some r := H
        have A11 := Aside0.mk A110
        clear A110
        obtain rfl := Option.some.inj H
        go_wp2_with (first | ((with_reducible refine gate_callee (f := 8) rfl ?_); refine goesL_ (some 30) rfl rfl Tryz.func8 (by kernel_rfl) rfl #[] rfl (by (try simp only [List.map_toArray, List.map_cons, List.map_nil]); first | done | rfl | (simp only [List.length_drop, List.length_take]; rfl)) ?_; (with_reducible refine (fluxionlaw04_known.calls kj3  t558 _ A11.out ?side1).mono ?_); (case side1 => exact LaidT.below hL (by repeat (first | (with_reducible first | exact HB.out | apply below_alloc | apply pw_below_drewN | apply below_drew1 | refine below_set ?_ GE557.out) | exact HB.out))); rintro e w12 ⟨rfl, hb⟩; refine ⟨_, rfl, ?_⟩; have n0_ := Aside0.mk (blk_below (g := gb557) (o := .cells #[.bool a1_0, .slice A1_1 l1_1.length c1_1, .slice A1_2 l1_2.length c1_2] 25 (0, 0)) (by (with_reducible repeat (first | refine blk_drewN ?_ _ | refine blk_drew ?_ | refine blk_alloc ?_ _)); exact BK557.out) hb); have n1_ := Aside0.mk (below_step (by repeat (first | (with_reducible first | exact HB.out | apply below_alloc | apply pw_below_drewN | apply below_drew1 | refine below_set ?_ GE557.out) | exact HB.out)) hb); clear BK557; clear HB; have BK557 := n0_; have HB := n1_; clear n0_ n1_; (try clear hb); (try clear hb2); (try clear hk); (try clear hi)))
        go_ret
        exact ⟨by first | rfl | (simp [errW_none, errW_some] <;> rfl) | (simp [*, errW_none, errW_some] <;> rfl), by repeat (first | (with_reducible first | exact HB.out | apply below_alloc | apply pw_below_drewN | apply below_drew1 | refine below_set ?_ GE557.out) | exact HB.out)⟩
      · replace c10 := Bool.eq_false_iff.mpr c10
        subst c10
        have H1 : ((digits_Nat.f l0).bind fun t559 => ((digits_ParseNat.f t559).bind fun bt560 => ((fluxionref01_Of.f kj3 l0).bind fun t564 => ((fluxionref01_Bits.f kj3 t564).bind fun t567 => (if t567 > 1024 then (if bt560.2 = 14 then (if (bt560.1.length : Int) = 0 then (fluxionlaw04_DigitsBack.j1 kj3 a2 a1_0 l1_1 l1_2) else (some false)) else (some false)) else (if bt560.2 = 0 then ((fluxionref01_Of.f kj3 l0).bind fun t568 => ((fluxionref01_Is.f kj3 t568 bt560.1).bind fun t571 => (if t571 = true then (fluxionlaw04_DigitsBack.j1 kj3 a2 a1_0 l1_1 l1_2) else (some false)))) else (some false))))))) = some r := by rw [if_neg (show ¬ (false = true) by decide)] at H; exact H
        clear H
        have H := H1
        clear H1
        replace H := Option.bind_eq_some_iff.mp H
        obtain ⟨t559, A130, H⟩ := H
        replace H : ((digits_ParseNat.f t559).bind fun bt560 => ((fluxionref01_Of.f kj3 l0).bind fun t564 => ((fluxionref01_Bits.f kj3 t564).bind fun t567 => (if t567 > 1024 then (if bt560.2 = 14 then (if (bt560.1.length : Int) = 0 then (fluxionlaw04_DigitsBack.j1 kj3 a2 a1_0 l1_1 l1_2) else (some false)) else (some false)) else (if bt560.2 = 0 then ((fluxionref01_Of.f kj3 l0).bind fun t568 => ((fluxionref01_Is.f kj3 t568 bt560.1).bind fun t571 => (if t571 = true then (fluxionlaw04_DigitsBack.j1 kj3 a2 a1_0 l1_1 l1_2) else (some false)))) else (some false)))))) = some r := H
        have A13 := Aside0.mk A130
        clear A130
        replace H := Option.bind_eq_some_iff.mp H
        obtain ⟨⟨t560, t561⟩, A140, H⟩ := H
        replace H : ((fluxionref01_Of.f kj3 l0).bind fun t564 => ((fluxionref01_Bits.f kj3 t564).bind fun t567 => (if t567 > 1024 then (if t561 = 14 then (if (t560.length : Int) = 0 then (fluxionlaw04_DigitsBack.j1 kj3 a2 a1_0 l1_1 l1_2) else (some false)) else (some false)) else (if t561 = 0 then ((fluxionref01_Of.f kj3 l0).bind fun t568 => ((fluxionref01_Is.f kj3 t568 t560).bind fun t571 => (if t571 = true then (fluxionlaw04_DigitsBack.j1 kj3 a2 a1_0 l1_1 l1_2) else (some false)))) else (some false))))) = some r := H
        have A14 := Aside0.mk A140
        clear A140
        replace H := Option.bind_eq_some_iff.mp H
        obtain ⟨t564, A150, H⟩ := H
        replace H : ((fluxionref01_Bits.f kj3 t564).bind fun t567 => (if t567 > 1024 then (if t561 = 14 then (if (t560.length : Int) = 0 then (fluxionlaw04_DigitsBack.j1 kj3 a2 a1_0 l1_1 l1_2) else (some false)) else (some false)) else (if t561 = 0 then ((fluxionref01_Of.f kj3 l0).bind fun t568 => ((fluxionref01_Is.f kj3 t568 t560).bind fun t571 => (if t571 = true then (fluxionlaw04_DigitsBack.j1 kj3 a2 a1_0 l1_1 l1_2) else (some false)))) else (some false)))) = some r := H
        have A15 := Aside0.mk A150
        clear A150
        replace H := Option.bind_eq_some_iff.mp H
        obtain ⟨t567, A160, H⟩ := H
        replace H : (if t567 > 1024 then (if t561 = 14 then (if (t560.length : Int) = 0 then (fluxionlaw04_DigitsBack.j1 kj3 a2 a1_0 l1_1 l1_2) else (some false)) else (some false)) else (if t561 = 0 then ((fluxionref01_Of.f kj3 l0).bind fun t568 => ((fluxionref01_Is.f kj3 t568 t560).bind fun t571 => (if t571 = true then (fluxionlaw04_DigitsBack.j1 kj3 a2 a1_0 l1_1 l1_2) else (some false)))) else (some false))) = some r := H
        have A16 := Aside0.mk A160
        clear A160
        have HC17 := Aside0.mk H
        clear H
        go_upto_if 40 with (first | ((with_reducible refine gate_callee (f := 17) rfl ?_); refine goesL_ (some 33) rfl rfl Tryz.func17 (by kernel_rfl) rfl #[.slice A0 l0.length c0] rfl (by (try simp only [List.map_toArray, List.map_cons, List.map_nil]); first | done | rfl | (simp only [List.length_drop, List.length_take]; rfl)) ?_; (with_reducible refine (digits_Nat.calls _ _ l0 t559 _ ?side1 ?side2 A13.out ?side3).mono ?_); (case side1 => repeat (first | exact (Kd.C_below HR0.out HB.out) | (with_reducible refine Kd.C_alloc ?_ _) | (with_reducible refine Kd.C_drewN ?_ _) | (with_reducible refine Kd.C_drew ?_))); (case side2 => exact HC0.out); (case side3 => exact LaidT.below hL (by repeat (first | (with_reducible first | exact HB.out | apply below_alloc | apply pw_below_drewN | apply below_drew1 | refine below_set ?_ GE557.out) | exact HB.out))); rintro e w18 ⟨rfl, hb⟩; refine ⟨_, rfl, ?_⟩; have n0_ := Aside0.mk (blk_below (g := gb557) (o := .cells #[.bool a1_0, .slice A1_1 l1_1.length c1_1, .slice A1_2 l1_2.length c1_2] 25 (0, 0)) (by (with_reducible repeat (first | refine blk_drewN ?_ _ | refine blk_drew ?_ | refine blk_alloc ?_ _)); exact BK557.out) hb); have n1_ := Aside0.mk (below_step (by repeat (first | (with_reducible first | exact HB.out | apply below_alloc | apply pw_below_drewN | apply below_drew1 | refine below_set ?_ GE557.out) | exact HB.out)) hb); clear BK557; clear HB; have BK557 := n0_; have HB := n1_; clear n0_ n1_; (try clear hb); (try clear hb2); (try clear hk); (try clear hi)) | ((with_reducible refine gate_callee (f := 16) rfl ?_); refine goesL_ (some 34) rfl rfl Tryz.func16 (by kernel_rfl) rfl #[.string t559] rfl (by (try simp only [List.map_toArray, List.map_cons, List.map_nil]); first | done | rfl | (simp only [List.length_drop, List.length_take]; rfl)) ?_; (with_reducible refine (digits_ParseNat.calls t559 t560 t561 _ A14.out).mono ?_); rintro e w19 ⟨v562, rfl, ho0, hb⟩; refine ⟨_, rfl, ?_⟩; have n0_ := Aside0.mk (Kd.R_lower ho0 (below_size (by repeat (first | (with_reducible first | exact HB.out | apply below_alloc | apply pw_below_drewN | apply below_drew1 | refine below_set ?_ GE557.out) | exact HB.out)))); have n1_ := Aside0.mk (blk_below (g := gb557) (o := .cells #[.bool a1_0, .slice A1_1 l1_1.length c1_1, .slice A1_2 l1_2.length c1_2] 25 (0, 0)) (by (with_reducible repeat (first | refine blk_drewN ?_ _ | refine blk_drew ?_ | refine blk_alloc ?_ _)); exact BK557.out) hb); have n2_ := Aside0.mk (below_step (by repeat (first | (with_reducible first | exact HB.out | apply below_alloc | apply pw_below_drewN | apply below_drew1 | refine below_set ?_ GE557.out) | exact HB.out)) hb); clear BK557; clear HB; have HO563 := n0_; have BK557 := n1_; have HB := n2_; clear n0_ n1_ n2_; (try clear hb); (try clear hb2); (try clear hk); (try clear hi); (try clear ho0)) | ((with_reducible refine gate_callee (f := 19) rfl ?_); refine goesL_ (some 38) rfl rfl Tryz.func19 (by kernel_rfl) rfl #[.slice A0 l0.length c0] rfl (by (try simp only [List.map_toArray, List.map_cons, List.map_nil]); first | done | rfl | (simp only [List.length_drop, List.length_take]; rfl)) ?_; (with_reducible refine (fluxionref01_Of.calls kj3 _ _ l0 t564 _ ?side1 ?side2 A15.out).mono ?_); (case side1 => repeat (first | exact (Kd.C_below HR0.out HB.out) | (with_reducible refine Kd.C_alloc ?_ _) | (with_reducible refine Kd.C_drewN ?_ _) | (with_reducible refine Kd.C_drew ?_))); (case side2 => exact HC0.out); rintro e w20 ⟨v565, rfl, ho0, hb⟩; refine ⟨_, rfl, ?_⟩; have n0_ := Aside0.mk (Kd.R_below (by (with_reducible repeat (first | apply Kd.R_alloc | apply Kd.R_drewN | apply Kd.R_drew)); exact HO563.out) hb); have n1_ := Aside0.mk (Kd.R_lower ho0 (below_size (by repeat (first | (with_reducible first | exact HB.out | apply below_alloc | apply pw_below_drewN | apply below_drew1 | refine below_set ?_ GE557.out) | exact HB.out)))); have n2_ := Aside0.mk (blk_below (g := gb557) (o := .cells #[.bool a1_0, .slice A1_1 l1_1.length c1_1, .slice A1_2 l1_2.length c1_2] 25 (0, 0)) (by (with_reducible repeat (first | refine blk_drewN ?_ _ | refine blk_drew ?_ | refine blk_alloc ?_ _)); exact BK557.out) hb); have n3_ := Aside0.mk (below_step (by repeat (first | (with_reducible first | exact HB.out | apply below_alloc | apply pw_below_drewN | apply below_drew1 | refine below_set ?_ GE557.out) | exact HB.out)) hb); clear HO563; clear BK557; clear HB; have HO563 := n0_; have HO566 := n1_; have BK557 := n2_; have HB := n3_; clear n0_ n1_ n2_ n3_; (try clear hb); (try clear hb2); (try clear hk); (try clear hi); (try clear ho0); obtain ⟨Ao21, co21, eo21⟩ := Kd.R_slice HO566.out; subst eo21) | ((with_reducible refine gate_callee (f := 18) rfl ?_); refine goesL_ (some 39) rfl rfl Tryz.func18 (by kernel_rfl) rfl #[.slice Ao21 t564.length co21] rfl (by (try simp only [List.map_toArray, List.map_cons, List.map_nil]); first | done | rfl | (simp only [List.length_drop, List.length_take]; rfl)) ?_; (with_reducible refine (fluxionref01_Bits.calls kj3 (fun k_ => some k_ = (.slice Ao21 t564.length co21 : Value).ownBlock) _ _ t564 t567 _ ?side1 A16.out).mono ?_); (case side1 => exact Kd.R_V (Kd.R_tight rfl (Kd.R_types (Kd.R_apart' (HO566.out) (Kd.R_typed HO563.out) (by decide)) BK557.out (by decide)))); rintro e w22 ⟨rfl, hb⟩; refine ⟨_, rfl, ?_⟩; have n0_ := Aside0.mk (Kd.R_below (by (with_reducible repeat (first | apply Kd.R_alloc | apply Kd.R_drewN | apply Kd.R_drew)); exact HO563.out) hb); have n1_ := Aside0.mk (Kd.R_below (by (with_reducible repeat (first | apply Kd.R_alloc | apply Kd.R_drewN | apply Kd.R_drew)); exact HO566.out) hb); have n2_ := Aside0.mk (blk_below (g := gb557) (o := .cells #[.bool a1_0, .slice A1_1 l1_1.length c1_1, .slice A1_2 l1_2.length c1_2] 25 (0, 0)) (by (with_reducible repeat (first | refine blk_drewN ?_ _ | refine blk_drew ?_ | refine blk_alloc ?_ _)); exact BK557.out) hb); have n3_ := Aside0.mk (below_step (by repeat (first | (with_reducible first | exact HB.out | apply below_alloc | apply pw_below_drewN | apply below_drew1 | refine below_set ?_ GE557.out) | exact HB.out)) hb); clear HO563; clear HO566; clear BK557; clear HB; have HO563 := n0_; have HO566 := n1_; have BK557 := n2_; have HB := n3_; clear n0_ n1_ n2_ n3_; (try clear hb); (try clear hb2); (try clear hk); (try clear hi)))
        (try simp only [Act.put, List.setIfInBounds_toArray, List.set_cons_zero, List.set_cons_succ])
        go_cut [] (fun wc => ∃ (kq : Nat), Aside0 (fluxionlaw04_DigitsBack.j1 kq a2 a1_0 l1_1 l1_2 = some r) ∧ Aside0 (kq ≤ kj3) ∧ Aside0 (wc.heap[gb557]? = some (.cells #[.bool a1_0, (.slice A1_1 l1_1.length c1_1), (.slice A1_2 l1_2.length c1_2)] 25 (0, 0))) ∧ Aside0 (Below w.heap.size w wc))
        case first =>
          have H := HC17.out
          clear HC17
          by_cases c23 : t567 > 1024
          · rw [if_pos c23] at H
            have c23b0 : decide (1024 < t567) = true := decide_eq_true c23
            clear c23
            (first | rw [c23b0] | (simp only [i64_w, i32_w]; rw [c23b0]) | skip)
            by_cases c24 : t561 = 14
            · rw [if_pos c24] at H
              have c24b0 : (t561 == 14) = true := beq_iff_eq.mpr c24
              have c24b1 : (t561 != 14) = false := bne_eq_false_iff_eq.mpr c24
              clear c24
              by_cases c25 : (t560.length : Int) = 0
              · rw [if_pos c25] at H
                have c25b0 : ((t560.length : Int) == 0) = true := beq_iff_eq.mpr c25
                have c25b1 : ((t560.length : Int) != 0) = false := bne_eq_false_iff_eq.mpr c25
                clear c25
                have H' := Aside0.mk H
                clear H
                obtain ⟨Ao26, co26, eo26⟩ := Kd.R_slice HO563.out
                subst eo26
                go_wp2
                go_meet
                case rel => exact ⟨_, H', ⟨by have := HJ3.out; first | omega | exact Nat.le_refl _⟩, ⟨by (with_reducible repeat (first | refine blk_drewN ?_ _ | refine blk_drew ?_ | refine blk_alloc ?_ _)); exact BK557.out⟩, ⟨by repeat (first | (with_reducible first | exact HB.out | apply below_alloc | apply pw_below_drewN | apply below_drew1 | refine below_set ?_ GE557.out) | exact HB.out)⟩⟩
              · rw [if_neg c25] at H
                have c25b0 : ((t560.length : Int) == 0) = false := beq_eq_false_iff_ne.mpr c25
                have c25b1 : ((t560.length : Int) != 0) = true := bne_iff_ne.mpr c25
                have c25b2 : ¬ (t560 = []) := fun h_ => c25 (by rw [h_]; rfl)
                obtain rfl := Option.some.inj H
                obtain ⟨Ao27, co27, eo27⟩ := Kd.R_slice HO563.out
                subst eo27
                go_wp2
                go_ret
                exact ⟨by first | rfl | (simp [errW_none, errW_some] <;> rfl) | (simp [*, errW_none, errW_some] <;> rfl), by repeat (first | (with_reducible first | exact HB.out | apply below_alloc | apply pw_below_drewN | apply below_drew1 | refine below_set ?_ GE557.out) | exact HB.out)⟩
            · rw [if_neg c24] at H
              have c24b0 : (t561 == 14) = false := beq_eq_false_iff_ne.mpr c24
              have c24b1 : (t561 != 14) = true := bne_iff_ne.mpr c24
              obtain rfl := Option.some.inj H
              go_wp2
              go_ret
              exact ⟨by first | rfl | (simp [errW_none, errW_some] <;> rfl) | (simp [*, errW_none, errW_some] <;> rfl), by repeat (first | (with_reducible first | exact HB.out | apply below_alloc | apply pw_below_drewN | apply below_drew1 | refine below_set ?_ GE557.out) | exact HB.out)⟩
          · rw [if_neg c23] at H
            have c23b0 : decide (1024 < t567) = false := decide_eq_false c23
            clear c23
            (first | rw [c23b0] | (simp only [i64_w, i32_w]; rw [c23b0]) | skip)
            by_cases c28 : t561 = 0
            · rw [if_pos c28] at H
              have c28b0 : (t561 == 0) = true := beq_iff_eq.mpr c28
              have c28b1 : (t561 != 0) = false := bne_eq_false_iff_eq.mpr c28
              clear c28
              replace H := Option.bind_eq_some_iff.mp H
              obtain ⟨t568, A290, H⟩ := H
              replace H : ((fluxionref01_Is.f kj3 t568 t560).bind fun t571 => (if t571 = true then (fluxionlaw04_DigitsBack.j1 kj3 a2 a1_0 l1_1 l1_2) else (some false))) = some r := H
              have A29 := Aside0.mk A290
              clear A290
              replace H := Option.bind_eq_some_iff.mp H
              obtain ⟨t571, A300, H⟩ := H
              replace H : (if t571 = true then (fluxionlaw04_DigitsBack.j1 kj3 a2 a1_0 l1_1 l1_2) else (some false)) = some r := H
              have A30 := Aside0.mk A300
              clear A300
              by_cases c31 : t571 = true
              · subst c31
                have H1 : (fluxionlaw04_DigitsBack.j1 kj3 a2 a1_0 l1_1 l1_2) = some r := by rw [if_pos rfl] at H; exact H
                clear H
                have H := H1
                clear H1
                have H' := Aside0.mk H
                clear H
                go_wp2_with (first | (go_at_call 19; (with_reducible refine (fluxionref01_Of.calls kj3 _ _ l0 t568 _ ?side1 ?side2 A29.out).mono ?_); (case side1 => repeat (first | exact (Kd.C_below HR0.out HB.out) | (with_reducible refine Kd.C_alloc ?_ _) | (with_reducible refine Kd.C_drewN ?_ _) | (with_reducible refine Kd.C_drew ?_))); (case side2 => exact HC0.out); rintro e w32 ⟨v569, rfl, ho0, hb⟩; have n0_ := Aside0.mk (Kd.R_below (by (with_reducible repeat (first | apply Kd.R_alloc | apply Kd.R_drewN | apply Kd.R_drew)); exact HO563.out) hb); have n1_ := Aside0.mk (Kd.R_elder' (by (with_reducible repeat (first | apply Kd.R_alloc | apply Kd.R_drewN | apply Kd.R_drew)); exact HO566.out) (Kd.R_base ho0) hb); have n2_ := Aside0.mk (Kd.R_lower (Kd.R_new' ho0 (Kd.R_lt (by (with_reducible repeat (first | apply Kd.R_alloc | apply Kd.R_drewN | apply Kd.R_drew)); exact HO566.out))) (below_size (by repeat (first | (with_reducible first | exact HB.out | apply below_alloc | apply pw_below_drewN | apply below_drew1 | refine below_set ?_ GE557.out) | exact HB.out)))); have n3_ := Aside0.mk (blk_below (g := gb557) (o := .cells #[.bool a1_0, .slice A1_1 l1_1.length c1_1, .slice A1_2 l1_2.length c1_2] 25 (0, 0)) (by (with_reducible repeat (first | refine blk_drewN ?_ _ | refine blk_drew ?_ | refine blk_alloc ?_ _)); exact BK557.out) hb); have n4_ := Aside0.mk (below_step (by repeat (first | (with_reducible first | exact HB.out | apply below_alloc | apply pw_below_drewN | apply below_drew1 | refine below_set ?_ GE557.out) | exact HB.out)) hb); clear HO563; clear HO566; clear BK557; clear HB; have HO563 := n0_; have HO566 := n1_; have HO570 := n2_; have BK557 := n3_; have HB := n4_; clear n0_ n1_ n2_ n3_ n4_; (try clear hb); (try clear hb2); (try clear hk); (try clear hi); (try clear ho0); obtain ⟨Ao33, co33, eo33⟩ := Kd.R_slice HO570.out; subst eo33; obtain ⟨Ao34, co34, eo34⟩ := Kd.R_slice HO563.out; subst eo34) | (go_at_call 20; (with_reducible refine (fluxionref01_Is.calls kj3 _ _ t568 _ _ t560 true _ ?side1 ?side2 ?side3 ?side4 A30.out).mono ?_); (case side1 => repeat (first | exact (Kd.R_reads' HO570.out).2.2 | (with_reducible refine Kd.C_alloc ?_ _) | (with_reducible refine Kd.C_drewN ?_ _) | (with_reducible refine Kd.C_drew ?_))); (case side2 => exact (Kd.R_reads' HO570.out).2.1); (case side3 => repeat (first | exact (Kd.R_reads' HO563.out).2.2 | (with_reducible refine Kd.C_alloc ?_ _) | (with_reducible refine Kd.C_drewN ?_ _) | (with_reducible refine Kd.C_drew ?_))); (case side4 => exact (Kd.R_reads' HO563.out).2.1); rintro e w35 ⟨rfl, hb⟩; have n0_ := Aside0.mk (Kd.R_below (by (with_reducible repeat (first | apply Kd.R_alloc | apply Kd.R_drewN | apply Kd.R_drew)); exact HO563.out) hb); have n1_ := Aside0.mk (Kd.R_below (by (with_reducible repeat (first | apply Kd.R_alloc | apply Kd.R_drewN | apply Kd.R_drew)); exact HO566.out) hb); have n2_ := Aside0.mk (Kd.R_below (by (with_reducible repeat (first | apply Kd.R_alloc | apply Kd.R_drewN | apply Kd.R_drew)); exact HO570.out) hb); have n3_ := Aside0.mk (blk_below (g := gb557) (o := .cells #[.bool a1_0, .slice A1_1 l1_1.length c1_1, .slice A1_2 l1_2.length c1_2] 25 (0, 0)) (by (with_reducible repeat (first | refine blk_drewN ?_ _ | refine blk_drew ?_ | refine blk_alloc ?_ _)); exact BK557.out) hb); have n4_ := Aside0.mk (below_step (by repeat (first | (with_reducible first | exact HB.out | apply below_alloc | apply pw_below_drewN | apply below_drew1 | refine below_set ?_ GE557.out) | exact HB.out)) hb); clear HO563; clear HO566; clear HO570; clear BK557; clear HB; have HO563 := n0_; have HO566 := n1_; have HO570 := n2_; have BK557 := n3_; have HB := n4_; clear n0_ n1_ n2_ n3_ n4_; (try clear hb); (try clear hb2); (try clear hk); (try clear hi)))
                go_meet
                case rel => exact ⟨_, H', ⟨by have := HJ3.out; first | omega | exact Nat.le_refl _⟩, ⟨by (with_reducible repeat (first | refine blk_drewN ?_ _ | refine blk_drew ?_ | refine blk_alloc ?_ _)); exact BK557.out⟩, ⟨by repeat (first | (with_reducible first | exact HB.out | apply below_alloc | apply pw_below_drewN | apply below_drew1 | refine below_set ?_ GE557.out) | exact HB.out)⟩⟩
              · replace c31 := Bool.eq_false_iff.mpr c31
                subst c31
                have H1 : (some false) = some r := by rw [if_neg (show ¬ (false = true) by decide)] at H; exact H
                clear H
                have H := H1
                clear H1
                obtain rfl := Option.some.inj H
                go_wp2_with (first | (go_at_call 19; (with_reducible refine (fluxionref01_Of.calls kj3 _ _ l0 t568 _ ?side1 ?side2 A29.out).mono ?_); (case side1 => repeat (first | exact (Kd.C_below HR0.out HB.out) | (with_reducible refine Kd.C_alloc ?_ _) | (with_reducible refine Kd.C_drewN ?_ _) | (with_reducible refine Kd.C_drew ?_))); (case side2 => exact HC0.out); rintro e w36 ⟨v569, rfl, ho0, hb⟩; have n0_ := Aside0.mk (Kd.R_below (by (with_reducible repeat (first | apply Kd.R_alloc | apply Kd.R_drewN | apply Kd.R_drew)); exact HO563.out) hb); have n1_ := Aside0.mk (Kd.R_elder' (by (with_reducible repeat (first | apply Kd.R_alloc | apply Kd.R_drewN | apply Kd.R_drew)); exact HO566.out) (Kd.R_base ho0) hb); have n2_ := Aside0.mk (Kd.R_lower (Kd.R_new' ho0 (Kd.R_lt (by (with_reducible repeat (first | apply Kd.R_alloc | apply Kd.R_drewN | apply Kd.R_drew)); exact HO566.out))) (below_size (by repeat (first | (with_reducible first | exact HB.out | apply below_alloc | apply pw_below_drewN | apply below_drew1 | refine below_set ?_ GE557.out) | exact HB.out)))); have n3_ := Aside0.mk (blk_below (g := gb557) (o := .cells #[.bool a1_0, .slice A1_1 l1_1.length c1_1, .slice A1_2 l1_2.length c1_2] 25 (0, 0)) (by (with_reducible repeat (first | refine blk_drewN ?_ _ | refine blk_drew ?_ | refine blk_alloc ?_ _)); exact BK557.out) hb); have n4_ := Aside0.mk (below_step (by repeat (first | (with_reducible first | exact HB.out | apply below_alloc | apply pw_below_drewN | apply below_drew1 | refine below_set ?_ GE557.out) | exact HB.out)) hb); clear HO563; clear HO566; clear BK557; clear HB; have HO563 := n0_; have HO566 := n1_; have HO570 := n2_; have BK557 := n3_; have HB := n4_; clear n0_ n1_ n2_ n3_ n4_; (try clear hb); (try clear hb2); (try clear hk); (try clear hi); (try clear ho0); obtain ⟨Ao37, co37, eo37⟩ := Kd.R_slice HO570.out; subst eo37; obtain ⟨Ao38, co38, eo38⟩ := Kd.R_slice HO563.out; subst eo38) | (go_at_call 20; (with_reducible refine (fluxionref01_Is.calls kj3 _ _ t568 _ _ t560 false _ ?side1 ?side2 ?side3 ?side4 A30.out).mono ?_); (case side1 => repeat (first | exact (Kd.R_reads' HO570.out).2.2 | (with_reducible refine Kd.C_alloc ?_ _) | (with_reducible refine Kd.C_drewN ?_ _) | (with_reducible refine Kd.C_drew ?_))); (case side2 => exact (Kd.R_reads' HO570.out).2.1); (case side3 => repeat (first | exact (Kd.R_reads' HO563.out).2.2 | (with_reducible refine Kd.C_alloc ?_ _) | (with_reducible refine Kd.C_drewN ?_ _) | (with_reducible refine Kd.C_drew ?_))); (case side4 => exact (Kd.R_reads' HO563.out).2.1); rintro e w39 ⟨rfl, hb⟩; have n0_ := Aside0.mk (Kd.R_below (by (with_reducible repeat (first | apply Kd.R_alloc | apply Kd.R_drewN | apply Kd.R_drew)); exact HO563.out) hb); have n1_ := Aside0.mk (Kd.R_below (by (with_reducible repeat (first | apply Kd.R_alloc | apply Kd.R_drewN | apply Kd.R_drew)); exact HO566.out) hb); have n2_ := Aside0.mk (Kd.R_below (by (with_reducible repeat (first | apply Kd.R_alloc | apply Kd.R_drewN | apply Kd.R_drew)); exact HO570.out) hb); have n3_ := Aside0.mk (blk_below (g := gb557) (o := .cells #[.bool a1_0, .slice A1_1 l1_1.length c1_1, .slice A1_2 l1_2.length c1_2] 25 (0, 0)) (by (with_reducible repeat (first | refine blk_drewN ?_ _ | refine blk_drew ?_ | refine blk_alloc ?_ _)); exact BK557.out) hb); have n4_ := Aside0.mk (below_step (by repeat (first | (with_reducible first | exact HB.out | apply below_alloc | apply pw_below_drewN | apply below_drew1 | refine below_set ?_ GE557.out) | exact HB.out)) hb); clear HO563; clear HO566; clear HO570; clear BK557; clear HB; have HO563 := n0_; have HO566 := n1_; have HO570 := n2_; have BK557 := n3_; have HB := n4_; clear n0_ n1_ n2_ n3_ n4_; (try clear hb); (try clear hb2); (try clear hk); (try clear hi)))
                go_ret
                exact ⟨by first | rfl | (simp [errW_none, errW_some] <;> rfl) | (simp [*, errW_none, errW_some] <;> rfl), by repeat (first | (with_reducible first | exact HB.out | apply below_alloc | apply pw_below_drewN | apply below_drew1 | refine below_set ?_ GE557.out) | exact HB.out)⟩
            · rw [if_neg c28] at H
              have c28b0 : (t561 == 0) = false := beq_eq_false_iff_ne.mpr c28
              have c28b1 : (t561 != 0) = true := bne_iff_ne.mpr c28
              obtain rfl := Option.some.inj H
              go_wp2
              go_ret
              exact ⟨by first | rfl | (simp [errW_none, errW_some] <;> rfl) | (simp [*, errW_none, errW_some] <;> rfl), by repeat (first | (with_reducible first | exact HB.out | apply below_alloc | apply pw_below_drewN | apply below_drew1 | refine below_set ?_ GE557.out) | exact HB.out)⟩
        case rest =>
          clear HC17
          try clear c1
          try clear c2
          try clear p2
          try clear c3
          try clear c5
          try clear c6
          try clear c6b0
          try clear c6b1
          try clear c7
          try clear c7b0
          try clear c7b1
          try clear c8
          try clear c10
          try clear c16
          try clear c17
          try clear c18
          try clear c19
          try clear c23
          try clear c23b0
          try clear c24
          try clear c24b0
          try clear c24b1
          try clear c25
          try clear c25b0
          try clear c25b1
          try clear c25b2
          try clear c28
          try clear c28b0
          try clear c28b1
          try clear c31
          try clear hcz8_0
          try clear hcz8_1
          try clear hcz8_2
          try clear hcz9_0
          try clear hcz9_1
          try clear hcz9_2
          try clear hfz8_0
          try clear hfz8_1
          try clear hfz8_2
          try clear hfz9_0
          try clear hfz9_1
          try clear hfz9_2
          try clear p2
          obtain ⟨kq, HA, HJ16, BK557, HB⟩ := hcut
          cases kq with
          | zero => exact absurd HA.out (by simp [fluxionlaw04_DigitsBack.j1])
          | succ kj16 =>
            have H := HA.out
            clear HA
            simp only [fluxionlaw04_DigitsBack.j1] at H
            replace H := Option.bind_eq_some_iff.mp H
            obtain ⟨t572, A400, H⟩ := H
            replace H : ((digits_ParseRat.f kj16 t572).bind fun bt573 => (if bt573.2.2.2 = 0 then ((fluxionref03_Of.f kj16 a1_0 l1_1 l1_2).bind fun bt582 => ((fluxionref03_Is.f kj16 bt582.1 bt582.2.1 bt582.2.2 bt573.1 bt573.2.1 bt573.2.2.1).bind fun t589 => (fluxionlaw04_DigitsBack.j2 kj16 a2 (!t589)))) else (fluxionlaw04_DigitsBack.j2 kj16 a2 true))) = some r := H
            have A40 := Aside0.mk A400
            clear A400
            replace H := Option.bind_eq_some_iff.mp H
            obtain ⟨⟨t573, t574, t577, t580⟩, A410, H⟩ := H
            replace H : (if t580 = 0 then ((fluxionref03_Of.f kj16 a1_0 l1_1 l1_2).bind fun bt582 => ((fluxionref03_Is.f kj16 bt582.1 bt582.2.1 bt582.2.2 t573 t574 t577).bind fun t589 => (fluxionlaw04_DigitsBack.j2 kj16 a2 (!t589)))) else (fluxionlaw04_DigitsBack.j2 kj16 a2 true)) = some r := H
            have A41 := Aside0.mk A410
            clear A410
            have HC42 := Aside0.mk H
            clear H
            have hcz43_0 : wc.cell? ⟨gb557, 0, none⟩ = some (.bool a1_0) := (blk_cell BK557.out 0).trans rfl
            have hcz43_1 : wc.cell? ⟨gb557, 1, none⟩ = some (.slice A1_1 l1_1.length c1_1) := (blk_cell BK557.out 1).trans rfl
            have hcz43_2 : wc.cell? ⟨gb557, 2, none⟩ = some (.slice A1_2 l1_2.length c1_2) := (blk_cell BK557.out 2).trans rfl
            have hfz43_0 := blk_frozen BK557.out 0
            have hfz43_1 := blk_frozen BK557.out 1
            have hfz43_2 := blk_frozen BK557.out 2
            go_upto_region 10 with (first | ((with_reducible refine gate_callee (f := 9) rfl ?_); refine goesL_ (some 59) rfl rfl Tryz.func9 (by kernel_rfl) rfl #[.agg #[.bool a1_0, .slice A1_1 l1_1.length c1_1, .slice A1_2 l1_2.length c1_2]] rfl (by (try simp only [List.map_toArray, List.map_cons, List.map_nil]); first | done | rfl | (simp only [List.length_drop, List.length_take]; rfl)) ?_; (with_reducible refine (digits_Rat.calls kj16 a1_0 _ _ l1_1 _ _ l1_2 t572 _ ?side1 ?side2 ?side3 ?side4 A40.out ?side5).mono ?_); (case side1 => repeat (first | exact (Kd.C_below HR1_1.out HB.out) | (with_reducible refine Kd.C_alloc ?_ _) | (with_reducible refine Kd.C_drewN ?_ _) | (with_reducible refine Kd.C_drew ?_))); (case side2 => exact HC1_1.out); (case side3 => repeat (first | exact (Kd.C_below HR1_2.out HB.out) | (with_reducible refine Kd.C_alloc ?_ _) | (with_reducible refine Kd.C_drewN ?_ _) | (with_reducible refine Kd.C_drew ?_))); (case side4 => exact HC1_2.out); (case side5 => exact LaidT.below hL (by repeat (first | (with_reducible first | exact HB.out | apply below_alloc | apply pw_below_drewN | apply below_drew1 | refine below_set ?_ GE557.out) | exact HB.out))); rintro e w44 ⟨rfl, hb⟩; refine ⟨_, rfl, ?_⟩; have n0_ := Aside0.mk (blk_below (g := gb557) (o := .cells #[.bool a1_0, .slice A1_1 l1_1.length c1_1, .slice A1_2 l1_2.length c1_2] 25 (0, 0)) (by (with_reducible repeat (first | refine blk_drewN ?_ _ | refine blk_drew ?_ | refine blk_alloc ?_ _)); exact BK557.out) hb); have n1_ := Aside0.mk (below_step (by repeat (first | (with_reducible first | exact HB.out | apply below_alloc | apply pw_below_drewN | apply below_drew1 | refine below_set ?_ GE557.out) | exact HB.out)) hb); clear BK557; clear HB; have BK557 := n0_; have HB := n1_; clear n0_ n1_; (try clear hb); (try clear hb2); (try clear hk); (try clear hi)) | ((with_reducible refine gate_callee (f := 12) rfl ?_); refine goesL_ (some 60) rfl rfl Tryz.func12 (by kernel_rfl) rfl #[.string t572] rfl (by (try simp only [List.map_toArray, List.map_cons, List.map_nil]); first | done | rfl | (simp only [List.length_drop, List.length_take]; rfl)) ?_; (with_reducible refine (digits_ParseRat.calls kj16 t572 t573 t574 t577 t580 _ A41.out ?side1).mono ?_); (case side1 => exact LaidT.below hL (by repeat (first | (with_reducible first | exact HB.out | apply below_alloc | apply pw_below_drewN | apply below_drew1 | refine below_set ?_ GE557.out) | exact HB.out))); rintro e w45 ⟨v575, v578, rfl, ho0, ho1, hb⟩; refine ⟨_, rfl, ?_⟩; have n0_ := Aside0.mk (Kd.R_lower ho0 (below_size (by repeat (first | (with_reducible first | exact HB.out | apply below_alloc | apply pw_below_drewN | apply below_drew1 | refine below_set ?_ GE557.out) | exact HB.out)))); have n1_ := Aside0.mk (Kd.R_lower ho1 (below_size (by repeat (first | (with_reducible first | exact HB.out | apply below_alloc | apply pw_below_drewN | apply below_drew1 | refine below_set ?_ GE557.out) | exact HB.out)))); have n2_ := Aside0.mk (blk_below (g := gb557) (o := .cells #[.bool a1_0, .slice A1_1 l1_1.length c1_1, .slice A1_2 l1_2.length c1_2] 25 (0, 0)) (by (with_reducible repeat (first | refine blk_drewN ?_ _ | refine blk_drew ?_ | refine blk_alloc ?_ _)); exact BK557.out) hb); have n3_ := Aside0.mk (below_step (by repeat (first | (with_reducible first | exact HB.out | apply below_alloc | apply pw_below_drewN | apply below_drew1 | refine below_set ?_ GE557.out) | exact HB.out)) hb); clear BK557; clear HB; have HO576 := n0_; have HO579 := n1_; have BK557 := n2_; have HB := n3_; clear n0_ n1_ n2_ n3_; (try clear hb); (try clear hb2); (try clear hk); (try clear hi); (try clear ho0); (try clear ho1)) | ((with_reducible refine gate_dst (N := 9) rfl ?_); (try (refine gate_guard (by rfl) ?_; dsimp only)); refine box_event ?hg (N := 9) ?hd (cs := #[.bool false, .slice none 0 0, .slice none 0 0]) (t := 25) ?hr ?_; (case hd => rfl); (case hg => rfl); (case hr => first | (go_simp; done) | (go_simp; rfl)); intro gb581 hg w46 hbox hb; have n0_ := Aside0.mk (Kd.R_below (by (with_reducible repeat (first | apply Kd.R_alloc | apply Kd.R_drewN | apply Kd.R_drew)); exact HO576.out) hb); have n1_ := Aside0.mk (Kd.R_below (by (with_reducible repeat (first | apply Kd.R_alloc | apply Kd.R_drewN | apply Kd.R_drew)); exact HO579.out) hb); have n2_ := Aside0.mk (blk_below (g := gb557) (o := .cells #[.bool a1_0, .slice A1_1 l1_1.length c1_1, .slice A1_2 l1_2.length c1_2] 25 (0, 0)) (by (with_reducible repeat (first | refine blk_drewN ?_ _ | refine blk_drew ?_ | refine blk_alloc ?_ _)); exact BK557.out) hb); have n3_ := Aside0.mk (below_step (by repeat (first | (with_reducible first | exact HB.out | apply below_alloc | apply pw_below_drewN | apply below_drew1 | refine below_set ?_ GE557.out) | exact HB.out)) hb); have n4_ := Aside0.mk (hbox); have n5_ := Aside0.mk ((by rw [hg]; exact (below_size (by repeat (first | (with_reducible first | exact HB.out | apply below_alloc | apply pw_below_drewN | apply below_drew1 | refine below_set ?_ GE557.out) | exact HB.out))) : w.heap.size ≤ gb581)); have n6_ := Aside0.mk ((by rw [hg]; exact (below_size (by repeat (first | (with_reducible first | exact HB.out | apply below_alloc | apply pw_below_drewN | apply below_drew1 | refine below_set ?_ GE557.out) | exact HB.out))) : w.heap.size ≤ gb581)); have n7_ := Aside0.mk ((by rw [hg]; exact Nat.ne_of_lt (blk_lt (g := gb557) (o := .cells #[.bool a1_0, .slice A1_1 l1_1.length c1_1, .slice A1_2 l1_2.length c1_2] 25 (0, 0)) (by (with_reducible repeat (first | refine blk_drewN ?_ _ | refine blk_drew ?_ | refine blk_alloc ?_ _)); exact BK557.out)) : gb557 ≠ gb581)); have n8_ := Aside0.mk ((by rw [hg]; exact Nat.ne_of_gt (blk_lt (g := gb557) (o := .cells #[.bool a1_0, .slice A1_1 l1_1.length c1_1, .slice A1_2 l1_2.length c1_2] 25 (0, 0)) (by (with_reducible repeat (first | refine blk_drewN ?_ _ | refine blk_drew ?_ | refine blk_alloc ?_ _)); exact BK557.out)) : gb581 ≠ gb557)); clear HO576; clear HO579; clear BK557; clear HB; have HO576 := n0_; have HO579 := n1_; have BK557 := n2_; have HB := n3_; have BK581 := n4_; have GW581 := n5_; have GE581 := n6_; have NB557_581 := n7_; have NB581_557 := n8_; clear n0_ n1_ n2_ n3_ n4_ n5_ n6_ n7_ n8_; clear hb hbox hg; have hnb47 := NB581_557.out; have hnc47 := NB557_581.out; have hcz48_0 : w46.cell? ⟨gb581, 0, none⟩ = some (.bool false) := (blk_cell BK581.out 0).trans rfl; have hcz48_1 : w46.cell? ⟨gb581, 1, none⟩ = some (.slice none 0 0) := (blk_cell BK581.out 1).trans rfl; have hcz48_2 : w46.cell? ⟨gb581, 2, none⟩ = some (.slice none 0 0) := (blk_cell BK581.out 2).trans rfl; have hfz48_0 := blk_frozen BK581.out 0; have hfz48_1 := blk_frozen BK581.out 1; have hfz48_2 := blk_frozen BK581.out 2; obtain ⟨Ao49, co49, eo49⟩ := Kd.R_slice HO576.out; subst eo49; obtain ⟨Ao50, co50, eo50⟩ := Kd.R_slice HO579.out; subst eo50))
            (try simp only [Act.put, List.setIfInBounds_toArray, List.set_cons_zero, List.set_cons_succ])
            go_cut [71] (fun v71 wc => ∃ (kq : Nat) (x71_41 : Bool), v71 = .bool x71_41 ∧ Aside0 (fluxionlaw04_DigitsBack.j2 kq a2 x71_41 = some r) ∧ Aside0 (kq ≤ kj16) ∧ Aside0 (Kd.R (Kd.int .u32) 56 wc w.heap.size (fun k_ => some k_ ≠ ((.slice Ao50 t577.length co50) : Value).ownBlock) (.slice Ao49 t574.length co49) t574) ∧ Aside0 (Kd.R (Kd.int .u32) 56 wc w.heap.size (fun k_ => some k_ ≠ ((.slice Ao49 t574.length co49) : Value).ownBlock) (.slice Ao50 t577.length co50) t577) ∧ Aside0 (wc.heap[gb557]? = some (.cells #[.bool a1_0, (.slice A1_1 l1_1.length c1_1), (.slice A1_2 l1_2.length c1_2)] 25 (0, 0))) ∧ Aside0 (wc.heap[gb581]? = some (.cells #[.bool t573, (.slice Ao49 t574.length co49), (.slice Ao50 t577.length co50)] 25 (0, 0))) ∧ Aside0 (Below w.heap.size w wc))
            case first =>
              have H := HC42.out
              clear HC42
              by_cases c51 : t580 = 0
              · rw [if_pos c51] at H
                have c51b0 : (t580 == 0) = true := beq_iff_eq.mpr c51
                have c51b1 : (t580 != 0) = false := bne_eq_false_iff_eq.mpr c51
                clear c51
                (first | rw [c51b0] | (simp only [i64_w, i32_w]; rw [c51b0]) | skip)
                replace H := Option.bind_eq_some_iff.mp H
                obtain ⟨⟨t582, t583, t586⟩, A520, H⟩ := H
                replace H : ((fluxionref03_Is.f kj16 t582 t583 t586 t573 t574 t577).bind fun t589 => (fluxionlaw04_DigitsBack.j2 kj16 a2 (!t589))) = some r := H
                have A52 := Aside0.mk A520
                clear A520
                replace H := Option.bind_eq_some_iff.mp H
                obtain ⟨t589, A530, H⟩ := H
                replace H : (fluxionlaw04_DigitsBack.j2 kj16 a2 (!t589)) = some r := H
                have A53 := Aside0.mk A530
                clear A530
                have H' := Aside0.mk H
                clear H
                try go_wp2
                have n0_ : Aside0 (Kd.R (Kd.int .u32) 56 (((w46.setCell ⟨gb581, 0, none⟩ (.bool t573)).setCell ⟨gb581, 1, none⟩ (.slice Ao49 t574.length co49)).setCell ⟨gb581, 2, none⟩ (.slice Ao50 t577.length co50)) w.heap.size (fun k_ => some k_ ≠ (.slice Ao50 t577.length co50 : Value).ownBlock) (.slice Ao49 t574.length co49) t574) := ⟨by (with_reducible repeat (first | apply Kd.R_alloc | apply Kd.R_drewN | apply Kd.R_drew)); exact Kd.R_mono (Kd.R_far (p := ⟨gb581, 2, none⟩) (Kd.R_far (p := ⟨gb581, 1, none⟩) (Kd.R_far (p := ⟨gb581, 0, none⟩) (Kd.R_types HO576.out BK581.out (by decide)) (fun _ hk => hk.2) (.bool t573)) (fun _ hk => hk.2) (.slice Ao49 t574.length co49)) (fun _ hk => hk.2) (.slice Ao50 t577.length co50)) (fun _ hk => hk.1)⟩
                have n1_ : Aside0 (Kd.R (Kd.int .u32) 56 (((w46.setCell ⟨gb581, 0, none⟩ (.bool t573)).setCell ⟨gb581, 1, none⟩ (.slice Ao49 t574.length co49)).setCell ⟨gb581, 2, none⟩ (.slice Ao50 t577.length co50)) w.heap.size (fun k_ => some k_ ≠ (.slice Ao49 t574.length co49 : Value).ownBlock) (.slice Ao50 t577.length co50) t577) := ⟨by (with_reducible repeat (first | apply Kd.R_alloc | apply Kd.R_drewN | apply Kd.R_drew)); exact Kd.R_mono (Kd.R_far (p := ⟨gb581, 2, none⟩) (Kd.R_far (p := ⟨gb581, 1, none⟩) (Kd.R_far (p := ⟨gb581, 0, none⟩) (Kd.R_types HO579.out BK581.out (by decide)) (fun _ hk => hk.2) (.bool t573)) (fun _ hk => hk.2) (.slice Ao49 t574.length co49)) (fun _ hk => hk.2) (.slice Ao50 t577.length co50)) (fun _ hk => hk.1)⟩
                have n2_ : Aside0 ((((w46.setCell ⟨gb581, 0, none⟩ (.bool t573)).setCell ⟨gb581, 1, none⟩ (.slice Ao49 t574.length co49)).setCell ⟨gb581, 2, none⟩ (.slice Ao50 t577.length co50)).heap[gb557]? = some (.cells #[.bool a1_0, .slice A1_1 l1_1.length c1_1, .slice A1_2 l1_2.length c1_2] 25 (0, 0))) := ⟨by (with_reducible repeat (first | refine blk_drewN ?_ _ | refine blk_drew ?_ | refine blk_alloc ?_ _)); refine blk_far ?_ NB557_581.out _; (with_reducible repeat (first | refine blk_drewN ?_ _ | refine blk_drew ?_ | refine blk_alloc ?_ _)); refine blk_far ?_ NB557_581.out _; (with_reducible repeat (first | refine blk_drewN ?_ _ | refine blk_drew ?_ | refine blk_alloc ?_ _)); refine blk_far ?_ NB557_581.out _; (with_reducible repeat (first | refine blk_drewN ?_ _ | refine blk_drew ?_ | refine blk_alloc ?_ _)); exact BK557.out⟩
                have n3_ : Aside0 ((((w46.setCell ⟨gb581, 0, none⟩ (.bool t573)).setCell ⟨gb581, 1, none⟩ (.slice Ao49 t574.length co49)).setCell ⟨gb581, 2, none⟩ (.slice Ao50 t577.length co50)).heap[gb581]? = some (.cells #[.bool t573, .slice Ao49 t574.length co49, .slice Ao50 t577.length co50] 25 (0, 0))) := ⟨by (with_reducible repeat (first | refine blk_drewN ?_ _ | refine blk_drew ?_ | refine blk_alloc ?_ _)); refine blk_put (cs := #[.bool t573, .slice Ao49 t574.length co49, .slice none 0 0]) ?_ 2 _ rfl; (with_reducible repeat (first | refine blk_drewN ?_ _ | refine blk_drew ?_ | refine blk_alloc ?_ _)); refine blk_put (cs := #[.bool t573, .slice none 0 0, .slice none 0 0]) ?_ 1 _ rfl; (with_reducible repeat (first | refine blk_drewN ?_ _ | refine blk_drew ?_ | refine blk_alloc ?_ _)); refine blk_put (cs := #[.bool false, .slice none 0 0, .slice none 0 0]) ?_ 0 _ rfl; (with_reducible repeat (first | refine blk_drewN ?_ _ | refine blk_drew ?_ | refine blk_alloc ?_ _)); exact BK581.out⟩
                have n4_ : Aside0 (Below w.heap.size w (((w46.setCell ⟨gb581, 0, none⟩ (.bool t573)).setCell ⟨gb581, 1, none⟩ (.slice Ao49 t574.length co49)).setCell ⟨gb581, 2, none⟩ (.slice Ao50 t577.length co50))) := ⟨by repeat (first | (with_reducible first | exact HB.out | apply below_alloc | apply pw_below_drewN | apply below_drew1 | refine below_set ?_ GE557.out | refine below_set ?_ GE581.out) | exact HB.out)⟩
                (try clear HO576)
                (try clear HO579)
                (try clear BK557)
                (try clear BK581)
                (try clear HB)
                generalize (((w46.setCell ⟨gb581, 0, none⟩ (.bool t573)).setCell ⟨gb581, 1, none⟩ (.slice Ao49 t574.length co49)).setCell ⟨gb581, 2, none⟩ (.slice Ao50 t577.length co50)) = w54 at n0_ n1_ n2_ n3_ n4_ ⊢
                have HO576 := n0_
                have HO579 := n1_
                have BK557 := n2_
                have BK581 := n3_
                have HB := n4_
                clear n0_ n1_ n2_ n3_ n4_
                have n0_ := Aside0.mk (Kd.R_drew HO576.out)
                have n1_ := Aside0.mk (Kd.R_drew HO579.out)
                have n2_ := Aside0.mk (blk_drew BK557.out)
                have n3_ := Aside0.mk (blk_drew BK581.out)
                have n4_ := Aside0.mk (below_drew1 HB.out)
                clear HO576
                clear HO579
                clear BK557
                clear BK581
                clear HB
                have HO576 := n0_
                have HO579 := n1_
                have BK557 := n2_
                have BK581 := n3_
                have HB := n4_
                clear n0_ n1_ n2_ n3_ n4_
                refine start_ (n := 9) (S := fun w' => w'.cell? ⟨gb557, 0, none⟩ = some (.bool a1_0) ∧ w'.cell? ⟨gb557, 1, none⟩ = some (.slice A1_1 l1_1.length c1_1) ∧ w'.cell? ⟨gb557, 2, none⟩ = some (.slice A1_2 l1_2.length c1_2) ∧ w'.cell? ⟨gb581, 0, none⟩ = some (.bool t573) ∧ w'.cell? ⟨gb581, 1, none⟩ = some (.slice Ao49 t574.length co49) ∧ w'.cell? ⟨gb581, 2, none⟩ = some (.slice Ao50 t577.length co50)) (ds := []) #[false, false, false, false, false, false, false, false, false] (by kernel_rfl) rfl rfl ⟨(blk_cell BK557.out 0).trans rfl, (blk_cell BK557.out 1).trans rfl, (blk_cell BK557.out 2).trans rfl, (blk_cell BK581.out 0).trans rfl, (blk_cell BK581.out 1).trans rfl, (blk_cell BK581.out 2).trans rfl⟩ (fun hHeld => ?_); refine with_tabW fluxionlaw04_DigitsBack.tab10 fluxionlaw04_DigitsBack.bits10 (fun HT_ HW_ => ?_)
                generalize w54.drew = w55 at HO576 HO579 BK557 BK581 HB hHeld ⊢
                refine pure_ (i := 0) (N := some 63) (v := ?_) (a' := ?_) #[true, false, false, false, false, false, false, false, false] rfl rfl (any_of HT_.out (by kernel_rfl)) (fun _ _ _ h => h) (Or.inl ⟨by rfl, ?_⟩) ?_ ?_
                rotate_left
                · intro w'
                  go_simp
                  with_reducible rfl
                rotate_left
                · simp only [Act.put, List.setIfInBounds_toArray, List.set_cons_zero, List.set_cons_succ, i64_w, i32_w]
                  rfl
                refine pure_ (i := 1) (N := some 64) (v := ?_) (a' := ?_) #[true, true, false, false, false, false, false, false, false] rfl rfl (any_of HT_.out (by kernel_rfl)) (fun _ _ _ h => h) (Or.inl ⟨by rfl, ?_⟩) ?_ ?_
                rotate_left
                · intro w'
                  go_simp
                  with_reducible rfl
                rotate_left
                · simp only [Act.put, List.setIfInBounds_toArray, List.set_cons_zero, List.set_cons_succ, i64_w, i32_w]
                  rfl
                refine pure_ (i := 2) (N := some 65) (v := ?_) (a' := ?_) #[true, true, true, false, false, false, false, false, false] rfl rfl (any_of HT_.out (by kernel_rfl)) (fun _ _ _ h => h) (Or.inl ⟨by rfl, ?_⟩) ?_ ?_
                rotate_left
                · intro w'
                  go_simp
                  with_reducible rfl
                rotate_left
                · simp only [Act.put, List.setIfInBounds_toArray, List.set_cons_zero, List.set_cons_succ, i64_w, i32_w]
                  rfl
                refine take_ (i := 3) (N := some 66) (v := ?_) (a' := ?_) #[true, true, true, true, false, false, false, false, false] rfl rfl (take_ofW HT_.out HW_.out (by kernel_rfl)) (fun _ _ _ h => h) (Or.inl ⟨by rfl, ?_⟩) hHeld ?_ ?_
                rotate_left
                · rintro w' ⟨s0, s1, s2, s3, s4, s5⟩
                  go_simp
                  with_reducible rfl
                rotate_left
                · simp only [Act.put, List.setIfInBounds_toArray, List.set_cons_zero, List.set_cons_succ, i64_w, i32_w]
                  rfl
                refine take_ (i := 5) (N := some 68) (v := ?_) (a' := ?_) #[true, true, true, true, false, true, false, false, false] rfl rfl (take_ofW HT_.out HW_.out (by kernel_rfl)) (fun _ _ _ h => h) (Or.inl ⟨by rfl, ?_⟩) hHeld ?_ ?_
                rotate_left
                · rintro w' ⟨s0, s1, s2, s3, s4, s5⟩
                  go_simp
                  with_reducible rfl
                rotate_left
                · simp only [Act.put, List.setIfInBounds_toArray, List.set_cons_zero, List.set_cons_succ, i64_w, i32_w]
                  rfl
                refine one_ (i := 4) (N := some 67) #[true, true, true, true, true, true, false, false, false] rfl rfl (one_of HT_.out (by kernel_rfl)) (by decide) (fun K hK => ?_)
                refine goes_ Tryz.func11 (by kernel_rfl) rfl #[.agg #[.bool a1_0, .slice A1_1 l1_1.length c1_1, .slice A1_2 l1_2.length c1_2]] (by rfl) rfl rfl (by (try simp only [List.map_toArray, List.map_cons, List.map_nil]); first | done | rfl | (simp only [List.length_drop, List.length_take]; rfl)) ?_
                with_reducible refine (fluxionref03_Of.calls kj16 a1_0 _ _ l1_1 _ _ l1_2 t582 t583 t586 _ ?side1 ?side2 ?side3 ?side4 A52.out).mono ?_
                (case side1 => repeat (first | exact (Kd.C_below HR1_1.out HB.out) | (with_reducible refine Kd.C_alloc ?_ _) | (with_reducible refine Kd.C_drewN ?_ _) | (with_reducible refine Kd.C_drew ?_)))
                (case side2 => exact HC1_1.out)
                (case side3 => repeat (first | exact (Kd.C_below HR1_2.out HB.out) | (with_reducible refine Kd.C_alloc ?_ _) | (with_reducible refine Kd.C_drewN ?_ _) | (with_reducible refine Kd.C_drew ?_)))
                (case side4 => exact HC1_2.out)
                rintro e w56 ⟨v584, v587, rfl, ho0, ho1, hb⟩
                refine ⟨_, rfl, ?_⟩
                have n0_ := Aside0.mk (Kd.R_below (by (with_reducible repeat (first | apply Kd.R_alloc | apply Kd.R_drewN | apply Kd.R_drew)); exact HO576.out) hb)
                have n1_ := Aside0.mk (Kd.R_below (by (with_reducible repeat (first | apply Kd.R_alloc | apply Kd.R_drewN | apply Kd.R_drew)); exact HO579.out) hb)
                have n2_ := Aside0.mk (Kd.R_lower ho0 (below_size (by repeat (first | (with_reducible first | exact HB.out | apply below_alloc | apply pw_below_drewN | apply below_drew1 | refine below_set ?_ GE557.out | refine below_set ?_ GE581.out) | exact HB.out))))
                have n3_ := Aside0.mk (Kd.R_lower ho1 (below_size (by repeat (first | (with_reducible first | exact HB.out | apply below_alloc | apply pw_below_drewN | apply below_drew1 | refine below_set ?_ GE557.out | refine below_set ?_ GE581.out) | exact HB.out))))
                have n4_ := Aside0.mk (blk_below (g := gb557) (o := .cells #[.bool a1_0, .slice A1_1 l1_1.length c1_1, .slice A1_2 l1_2.length c1_2] 25 (0, 0)) (by (with_reducible repeat (first | refine blk_drewN ?_ _ | refine blk_drew ?_ | refine blk_alloc ?_ _)); exact BK557.out) hb)
                have n5_ := Aside0.mk (blk_below (g := gb581) (o := .cells #[.bool t573, .slice Ao49 t574.length co49, .slice Ao50 t577.length co50] 25 (0, 0)) (by (with_reducible repeat (first | refine blk_drewN ?_ _ | refine blk_drew ?_ | refine blk_alloc ?_ _)); exact BK581.out) hb)
                have n6_ := Aside0.mk (below_step (by repeat (first | (with_reducible first | exact HB.out | apply below_alloc | apply pw_below_drewN | apply below_drew1 | refine below_set ?_ GE557.out | refine below_set ?_ GE581.out) | exact HB.out)) hb)
                clear HO576
                clear HO579
                clear BK557
                clear BK581
                clear HB
                have HO576 := n0_
                have HO579 := n1_
                have HO585 := n2_
                have HO588 := n3_
                have BK557 := n4_
                have BK581 := n5_
                have HB := n6_
                clear n0_ n1_ n2_ n3_ n4_ n5_ n6_
                (try clear hb)
                (try clear hb2)
                (try clear hk)
                (try clear hi)
                (try clear ho0)
                (try clear ho1)
                obtain ⟨Ao57, co57, eo57⟩ := Kd.R_slice HO585.out
                (first | subst eo57 | (injection eo57 with f1_ f2_ f3_; have f4_ := f1_.symm; have f5_ := f3_.symm; clear f1_ f2_ f3_; subst f4_; subst f5_))
                obtain ⟨Ao58, co58, eo58⟩ := Kd.R_slice HO588.out
                (first | subst eo58 | (injection eo58 with f1_ f2_ f3_; have f4_ := f1_.symm; have f5_ := f3_.symm; clear f1_ f2_ f3_; subst f4_; subst f5_))
                refine hK.out _ _ ⟨(blk_cell BK557.out 0).trans rfl, (blk_cell BK557.out 1).trans rfl, (blk_cell BK557.out 2).trans rfl, (blk_cell BK581.out 0).trans rfl, (blk_cell BK581.out 1).trans rfl, (blk_cell BK581.out 2).trans rfl⟩ (fun hHeld => ?_)
                clear hK K
                refine norm_ (a' := ?_) ?_ ?_
                rotate_left
                · show Act.put _ (some 67) _ = _
                  simp only [Act.put, List.setIfInBounds_toArray, List.set_cons_zero, List.set_cons_succ, i64_w, i32_w]
                  rfl
                refine one_ (i := 6) (N := some 69) #[true, true, true, true, true, true, true, false, false] rfl rfl (one_of HT_.out (by kernel_rfl)) (by decide) (fun K hK => ?_)
                refine goes_ Tryz.func15 (by kernel_rfl) rfl #[.agg #[.bool t582, .slice Ao57 t583.length co57, .slice Ao58 t586.length co58], .agg #[.bool t573, .slice Ao49 t574.length co49, .slice Ao50 t577.length co50]] (by rfl) rfl rfl (by (try simp only [List.map_toArray, List.map_cons, List.map_nil]); first | done | rfl | (simp only [List.length_drop, List.length_take]; rfl)) ?_
                with_reducible refine (fluxionref03_Is.calls kj16 t582 _ _ t583 _ _ t586 t573 _ _ t574 _ _ t577 t589 _ ?side1 ?side2 ?side3 ?side4 ?side5 ?side6 ?side7 ?side8 A53.out).mono ?_
                (case side1 => repeat (first | exact (Kd.R_reads' HO585.out).2.2 | (with_reducible refine Kd.C_alloc ?_ _) | (with_reducible refine Kd.C_drewN ?_ _) | (with_reducible refine Kd.C_drew ?_)))
                (case side2 => exact (Kd.R_reads' HO585.out).2.1)
                (case side3 => repeat (first | exact (Kd.R_reads' HO588.out).2.2 | (with_reducible refine Kd.C_alloc ?_ _) | (with_reducible refine Kd.C_drewN ?_ _) | (with_reducible refine Kd.C_drew ?_)))
                (case side4 => exact (Kd.R_reads' HO588.out).2.1)
                (case side5 => repeat (first | exact (Kd.R_reads' HO576.out).2.2 | (with_reducible refine Kd.C_alloc ?_ _) | (with_reducible refine Kd.C_drewN ?_ _) | (with_reducible refine Kd.C_drew ?_)))
                (case side6 => exact (Kd.R_reads' HO576.out).2.1)
                (case side7 => repeat (first | exact (Kd.R_reads' HO579.out).2.2 | (with_reducible refine Kd.C_alloc ?_ _) | (with_reducible refine Kd.C_drewN ?_ _) | (with_reducible refine Kd.C_drew ?_)))
                (case side8 => exact (Kd.R_reads' HO579.out).2.1)
                rintro e w59 ⟨rfl, hb⟩
                refine ⟨_, rfl, ?_⟩
                have n0_ := Aside0.mk (Kd.R_below (by (with_reducible repeat (first | apply Kd.R_alloc | apply Kd.R_drewN | apply Kd.R_drew)); exact HO576.out) hb)
                have n1_ := Aside0.mk (Kd.R_below (by (with_reducible repeat (first | apply Kd.R_alloc | apply Kd.R_drewN | apply Kd.R_drew)); exact HO579.out) hb)
                have n2_ := Aside0.mk (Kd.R_below (by (with_reducible repeat (first | apply Kd.R_alloc | apply Kd.R_drewN | apply Kd.R_drew)); exact HO585.out) hb)
                have n3_ := Aside0.mk (Kd.R_below (by (with_reducible repeat (first | apply Kd.R_alloc | apply Kd.R_drewN | apply Kd.R_drew)); exact HO588.out) hb)
                have n4_ := Aside0.mk (blk_below (g := gb557) (o := .cells #[.bool a1_0, .slice A1_1 l1_1.length c1_1, .slice A1_2 l1_2.length c1_2] 25 (0, 0)) (by (with_reducible repeat (first | refine blk_drewN ?_ _ | refine blk_drew ?_ | refine blk_alloc ?_ _)); exact BK557.out) hb)
                have n5_ := Aside0.mk (blk_below (g := gb581) (o := .cells #[.bool t573, .slice Ao49 t574.length co49, .slice Ao50 t577.length co50] 25 (0, 0)) (by (with_reducible repeat (first | refine blk_drewN ?_ _ | refine blk_drew ?_ | refine blk_alloc ?_ _)); exact BK581.out) hb)
                have n6_ := Aside0.mk (below_step (by repeat (first | (with_reducible first | exact HB.out | apply below_alloc | apply pw_below_drewN | apply below_drew1 | refine below_set ?_ GE557.out | refine below_set ?_ GE581.out) | exact HB.out)) hb)
                clear HO576
                clear HO579
                clear HO585
                clear HO588
                clear BK557
                clear BK581
                clear HB
                have HO576 := n0_
                have HO579 := n1_
                have HO585 := n2_
                have HO588 := n3_
                have BK557 := n4_
                have BK581 := n5_
                have HB := n6_
                clear n0_ n1_ n2_ n3_ n4_ n5_ n6_
                (try clear hb)
                (try clear hb2)
                (try clear hk)
                (try clear hi)
                refine hK.out _ _ ⟨(blk_cell BK557.out 0).trans rfl, (blk_cell BK557.out 1).trans rfl, (blk_cell BK557.out 2).trans rfl, (blk_cell BK581.out 0).trans rfl, (blk_cell BK581.out 1).trans rfl, (blk_cell BK581.out 2).trans rfl⟩ (fun hHeld => ?_)
                clear hK K
                refine norm_ (a' := ?_) ?_ ?_
                rotate_left
                · show Act.put _ (some 69) _ = _
                  simp only [Act.put, List.setIfInBounds_toArray, List.set_cons_zero, List.set_cons_succ, i64_w, i32_w]
                  rfl
                refine pure_ (i := 7) (N := some 70) (v := ?_) (a' := ?_) #[true, true, true, true, true, true, true, true, false] rfl rfl (any_of HT_.out (by kernel_rfl)) (fun _ _ _ h => h) (Or.inl ⟨by rfl, ?_⟩) ?_ ?_
                rotate_left
                · intro w'
                  go_simp
                  with_reducible rfl
                rotate_left
                · simp only [Act.put, List.setIfInBounds_toArray, List.set_cons_zero, List.set_cons_succ, i64_w, i32_w]
                  rfl
                refine pure_ (i := 8) (N := some 71) (v := ?_) (a' := ?_) #[true, true, true, true, true, true, true, true, true] rfl rfl (any_of HT_.out (by kernel_rfl)) (fun _ _ _ h => h) (Or.inl ⟨by rfl, ?_⟩) ?_ ?_
                rotate_left
                · intro w'
                  go_simp
                  with_reducible rfl
                rotate_left
                · simp only [Act.put, List.setIfInBounds_toArray, List.set_cons_zero, List.set_cons_succ, i64_w, i32_w]
                  rfl
                refine done_ (done_of HT_.out (by kernel_rfl)) ?_
                try go_wp2
                go_meet
                case rel => exact ⟨_, (!t589), (by first | rfl | (simp; done) | (simp [*]; done)), H', ⟨by have := HJ3.out; have := HJ16.out; first | omega | exact Nat.le_refl _⟩, ⟨by (with_reducible repeat (first | apply Kd.R_alloc | apply Kd.R_drewN | apply Kd.R_drew)); exact HO576.out⟩, ⟨by (with_reducible repeat (first | apply Kd.R_alloc | apply Kd.R_drewN | apply Kd.R_drew)); exact HO579.out⟩, ⟨by (with_reducible repeat (first | refine blk_drewN ?_ _ | refine blk_drew ?_ | refine blk_alloc ?_ _)); exact BK557.out⟩, ⟨by (with_reducible repeat (first | refine blk_drewN ?_ _ | refine blk_drew ?_ | refine blk_alloc ?_ _)); exact BK581.out⟩, ⟨by repeat (first | (with_reducible first | exact HB.out | apply below_alloc | apply pw_below_drewN | apply below_drew1 | refine below_set ?_ GE557.out | refine below_set ?_ GE581.out) | exact HB.out)⟩⟩
              · rw [if_neg c51] at H
                have c51b0 : (t580 == 0) = false := beq_eq_false_iff_ne.mpr c51
                have c51b1 : (t580 != 0) = true := bne_iff_ne.mpr c51
                (first | rw [c51b0] | (simp only [i64_w, i32_w]; rw [c51b0]) | skip)
                have H' := Aside0.mk H
                clear H
                try go_wp2
                have n0_ : Aside0 (Kd.R (Kd.int .u32) 56 (((w46.setCell ⟨gb581, 0, none⟩ (.bool t573)).setCell ⟨gb581, 1, none⟩ (.slice Ao49 t574.length co49)).setCell ⟨gb581, 2, none⟩ (.slice Ao50 t577.length co50)) w.heap.size (fun k_ => some k_ ≠ (.slice Ao50 t577.length co50 : Value).ownBlock) (.slice Ao49 t574.length co49) t574) := ⟨by (with_reducible repeat (first | apply Kd.R_alloc | apply Kd.R_drewN | apply Kd.R_drew)); exact Kd.R_mono (Kd.R_far (p := ⟨gb581, 2, none⟩) (Kd.R_far (p := ⟨gb581, 1, none⟩) (Kd.R_far (p := ⟨gb581, 0, none⟩) (Kd.R_types HO576.out BK581.out (by decide)) (fun _ hk => hk.2) (.bool t573)) (fun _ hk => hk.2) (.slice Ao49 t574.length co49)) (fun _ hk => hk.2) (.slice Ao50 t577.length co50)) (fun _ hk => hk.1)⟩
                have n1_ : Aside0 (Kd.R (Kd.int .u32) 56 (((w46.setCell ⟨gb581, 0, none⟩ (.bool t573)).setCell ⟨gb581, 1, none⟩ (.slice Ao49 t574.length co49)).setCell ⟨gb581, 2, none⟩ (.slice Ao50 t577.length co50)) w.heap.size (fun k_ => some k_ ≠ (.slice Ao49 t574.length co49 : Value).ownBlock) (.slice Ao50 t577.length co50) t577) := ⟨by (with_reducible repeat (first | apply Kd.R_alloc | apply Kd.R_drewN | apply Kd.R_drew)); exact Kd.R_mono (Kd.R_far (p := ⟨gb581, 2, none⟩) (Kd.R_far (p := ⟨gb581, 1, none⟩) (Kd.R_far (p := ⟨gb581, 0, none⟩) (Kd.R_types HO579.out BK581.out (by decide)) (fun _ hk => hk.2) (.bool t573)) (fun _ hk => hk.2) (.slice Ao49 t574.length co49)) (fun _ hk => hk.2) (.slice Ao50 t577.length co50)) (fun _ hk => hk.1)⟩
                have n2_ : Aside0 ((((w46.setCell ⟨gb581, 0, none⟩ (.bool t573)).setCell ⟨gb581, 1, none⟩ (.slice Ao49 t574.length co49)).setCell ⟨gb581, 2, none⟩ (.slice Ao50 t577.length co50)).heap[gb557]? = some (.cells #[.bool a1_0, .slice A1_1 l1_1.length c1_1, .slice A1_2 l1_2.length c1_2] 25 (0, 0))) := ⟨by (with_reducible repeat (first | refine blk_drewN ?_ _ | refine blk_drew ?_ | refine blk_alloc ?_ _)); refine blk_far ?_ NB557_581.out _; (with_reducible repeat (first | refine blk_drewN ?_ _ | refine blk_drew ?_ | refine blk_alloc ?_ _)); refine blk_far ?_ NB557_581.out _; (with_reducible repeat (first | refine blk_drewN ?_ _ | refine blk_drew ?_ | refine blk_alloc ?_ _)); refine blk_far ?_ NB557_581.out _; (with_reducible repeat (first | refine blk_drewN ?_ _ | refine blk_drew ?_ | refine blk_alloc ?_ _)); exact BK557.out⟩
                have n3_ : Aside0 ((((w46.setCell ⟨gb581, 0, none⟩ (.bool t573)).setCell ⟨gb581, 1, none⟩ (.slice Ao49 t574.length co49)).setCell ⟨gb581, 2, none⟩ (.slice Ao50 t577.length co50)).heap[gb581]? = some (.cells #[.bool t573, .slice Ao49 t574.length co49, .slice Ao50 t577.length co50] 25 (0, 0))) := ⟨by (with_reducible repeat (first | refine blk_drewN ?_ _ | refine blk_drew ?_ | refine blk_alloc ?_ _)); refine blk_put (cs := #[.bool t573, .slice Ao49 t574.length co49, .slice none 0 0]) ?_ 2 _ rfl; (with_reducible repeat (first | refine blk_drewN ?_ _ | refine blk_drew ?_ | refine blk_alloc ?_ _)); refine blk_put (cs := #[.bool t573, .slice none 0 0, .slice none 0 0]) ?_ 1 _ rfl; (with_reducible repeat (first | refine blk_drewN ?_ _ | refine blk_drew ?_ | refine blk_alloc ?_ _)); refine blk_put (cs := #[.bool false, .slice none 0 0, .slice none 0 0]) ?_ 0 _ rfl; (with_reducible repeat (first | refine blk_drewN ?_ _ | refine blk_drew ?_ | refine blk_alloc ?_ _)); exact BK581.out⟩
                have n4_ : Aside0 (Below w.heap.size w (((w46.setCell ⟨gb581, 0, none⟩ (.bool t573)).setCell ⟨gb581, 1, none⟩ (.slice Ao49 t574.length co49)).setCell ⟨gb581, 2, none⟩ (.slice Ao50 t577.length co50))) := ⟨by repeat (first | (with_reducible first | exact HB.out | apply below_alloc | apply pw_below_drewN | apply below_drew1 | refine below_set ?_ GE557.out | refine below_set ?_ GE581.out) | exact HB.out)⟩
                (try clear HO576)
                (try clear HO579)
                (try clear BK557)
                (try clear BK581)
                (try clear HB)
                generalize (((w46.setCell ⟨gb581, 0, none⟩ (.bool t573)).setCell ⟨gb581, 1, none⟩ (.slice Ao49 t574.length co49)).setCell ⟨gb581, 2, none⟩ (.slice Ao50 t577.length co50)) = w60 at n0_ n1_ n2_ n3_ n4_ ⊢
                have HO576 := n0_
                have HO579 := n1_
                have BK557 := n2_
                have BK581 := n3_
                have HB := n4_
                clear n0_ n1_ n2_ n3_ n4_
                have n0_ := Aside0.mk (Kd.R_drew HO576.out)
                have n1_ := Aside0.mk (Kd.R_drew HO579.out)
                have n2_ := Aside0.mk (blk_drew BK557.out)
                have n3_ := Aside0.mk (blk_drew BK581.out)
                have n4_ := Aside0.mk (below_drew1 HB.out)
                clear HO576
                clear HO579
                clear BK557
                clear BK581
                clear HB
                have HO576 := n0_
                have HO579 := n1_
                have BK557 := n2_
                have BK581 := n3_
                have HB := n4_
                clear n0_ n1_ n2_ n3_ n4_
                refine start_ (n := 9) (S := fun w' => True) (ds := []) #[false, false, false, false, false, false, false, false, false] (by kernel_rfl) rfl rfl trivial (fun hHeld => ?_); refine with_tabW fluxionlaw04_DigitsBack.tab10 fluxionlaw04_DigitsBack.bits10 (fun HT_ HW_ => ?_)
                generalize w60.drew = w61 at HO576 HO579 BK557 BK581 HB hHeld ⊢
                refine pure_ (i := 0) (N := some 63) (v := ?_) (a' := ?_) #[true, false, false, false, false, false, false, false, false] rfl rfl (any_of HT_.out (by kernel_rfl)) (fun _ _ _ h => h) (Or.inl ⟨by rfl, ?_⟩) ?_ ?_
                rotate_left
                · intro w'
                  go_simp
                  with_reducible rfl
                rotate_left
                · simp only [Act.put, List.setIfInBounds_toArray, List.set_cons_zero, List.set_cons_succ, i64_w, i32_w]
                  rfl
                refine pure_ (i := 1) (N := some 64) (v := ?_) (a' := ?_) #[true, true, false, false, false, false, false, false, false] rfl rfl (any_of HT_.out (by kernel_rfl)) (fun _ _ _ h => h) (Or.inl ⟨by rfl, ?_⟩) ?_ ?_
                rotate_left
                · intro w'
                  go_simp
                  with_reducible rfl
                rotate_left
                · simp only [Act.put, List.setIfInBounds_toArray, List.set_cons_zero, List.set_cons_succ, i64_w, i32_w]
                  rfl
                refine pure_ (i := 2) (N := some 65) (v := ?_) (a' := ?_) #[true, true, true, false, false, false, false, false, false] rfl rfl (any_of HT_.out (by kernel_rfl)) (fun _ _ _ h => h) (Or.inl ⟨by rfl, ?_⟩) ?_ ?_
                rotate_left
                · intro w'
                  go_simp
                  with_reducible rfl
                rotate_left
                · simp only [Act.put, List.setIfInBounds_toArray, List.set_cons_zero, List.set_cons_succ, i64_w, i32_w]
                  rfl
                refine pure_ (i := 3) (N := some 66) (v := undef) (a' := ?_) #[true, true, true, true, false, false, false, false, false] rfl rfl (any_of HT_.out (by kernel_rfl)) (fun _ _ _ h => h) (Or.inr ⟨by rfl, rfl⟩) ?_ ?_
                rotate_left
                · simp only [Act.put, List.setIfInBounds_toArray, List.set_cons_zero, List.set_cons_succ, i64_w, i32_w]
                  rfl
                refine pure_ (i := 4) (N := some 67) (v := undef) (a' := ?_) #[true, true, true, true, true, false, false, false, false] rfl rfl (any_of HT_.out (by kernel_rfl)) (fun _ _ _ h => h) (Or.inr ⟨by rfl, rfl⟩) ?_ ?_
                rotate_left
                · simp only [Act.put, List.setIfInBounds_toArray, List.set_cons_zero, List.set_cons_succ, i64_w, i32_w]
                  rfl
                refine pure_ (i := 5) (N := some 68) (v := undef) (a' := ?_) #[true, true, true, true, true, true, false, false, false] rfl rfl (any_of HT_.out (by kernel_rfl)) (fun _ _ _ h => h) (Or.inr ⟨by rfl, rfl⟩) ?_ ?_
                rotate_left
                · simp only [Act.put, List.setIfInBounds_toArray, List.set_cons_zero, List.set_cons_succ, i64_w, i32_w]
                  rfl
                refine pure_ (i := 6) (N := some 69) (v := undef) (a' := ?_) #[true, true, true, true, true, true, true, false, false] rfl rfl (any_of HT_.out (by kernel_rfl)) (fun _ _ _ h => h) (Or.inr ⟨by rfl, rfl⟩) ?_ ?_
                rotate_left
                · simp only [Act.put, List.setIfInBounds_toArray, List.set_cons_zero, List.set_cons_succ, i64_w, i32_w]
                  rfl
                refine pure_ (i := 7) (N := some 70) (v := undef) (a' := ?_) #[true, true, true, true, true, true, true, true, false] rfl rfl (any_of HT_.out (by kernel_rfl)) (fun _ _ _ h => h) (Or.inr ⟨by rfl, rfl⟩) ?_ ?_
                rotate_left
                · simp only [Act.put, List.setIfInBounds_toArray, List.set_cons_zero, List.set_cons_succ, i64_w, i32_w]
                  rfl
                refine pure_ (i := 8) (N := some 71) (v := ?_) (a' := ?_) #[true, true, true, true, true, true, true, true, true] rfl rfl (any_of HT_.out (by kernel_rfl)) (fun _ _ _ h => h) (Or.inl ⟨by rfl, ?_⟩) ?_ ?_
                rotate_left
                · intro w'
                  go_simp
                  with_reducible rfl
                rotate_left
                · simp only [Act.put, List.setIfInBounds_toArray, List.set_cons_zero, List.set_cons_succ, i64_w, i32_w]
                  rfl
                refine done_ (done_of HT_.out (by kernel_rfl)) ?_
                try go_wp2
                go_meet
                case rel => exact ⟨_, (true), (by first | rfl | (simp; done) | (simp [*]; done)), H', ⟨by have := HJ3.out; have := HJ16.out; first | omega | exact Nat.le_refl _⟩, ⟨by (with_reducible repeat (first | apply Kd.R_alloc | apply Kd.R_drewN | apply Kd.R_drew)); exact HO576.out⟩, ⟨by (with_reducible repeat (first | apply Kd.R_alloc | apply Kd.R_drewN | apply Kd.R_drew)); exact HO579.out⟩, ⟨by (with_reducible repeat (first | refine blk_drewN ?_ _ | refine blk_drew ?_ | refine blk_alloc ?_ _)); exact BK557.out⟩, ⟨by (with_reducible repeat (first | refine blk_drewN ?_ _ | refine blk_drew ?_ | refine blk_alloc ?_ _)); exact BK581.out⟩, ⟨by repeat (first | (with_reducible first | exact HB.out | apply below_alloc | apply pw_below_drewN | apply below_drew1 | refine below_set ?_ GE557.out | refine below_set ?_ GE581.out) | exact HB.out)⟩⟩
            case rest =>
              clear HC42
              try clear c1
              try clear c2
              try clear p2
              try clear c3
              try clear c4
              try clear c5
              try clear c6
              try clear c6b0
              try clear c6b1
              try clear c7
              try clear c7b0
              try clear c7b1
              try clear c8
              try clear c9
              try clear c10
              try clear c11
              try clear c12
              try clear c15
              try clear c16
              try clear c17
              try clear c18
              try clear c19
              try clear c23
              try clear c23b0
              try clear c24
              try clear c24b0
              try clear c24b1
              try clear c25
              try clear c25b0
              try clear c25b1
              try clear c25b2
              try clear c28
              try clear c28b0
              try clear c28b1
              try clear c31
              try clear c47
              try clear c51
              try clear c51b0
              try clear c51b1
              try clear hcz43_0
              try clear hcz43_1
              try clear hcz43_2
              try clear hcz48_0
              try clear hcz48_1
              try clear hcz48_2
              try clear hcz8_0
              try clear hcz8_1
              try clear hcz8_2
              try clear hcz9_0
              try clear hcz9_1
              try clear hcz9_2
              try clear hfz43_0
              try clear hfz43_1
              try clear hfz43_2
              try clear hfz48_0
              try clear hfz48_1
              try clear hfz48_2
              try clear hfz8_0
              try clear hfz8_1
              try clear hfz8_2
              try clear hfz9_0
              try clear hfz9_1
              try clear hfz9_2
              try clear p2
              obtain ⟨kq, x71_41, rfl, HA, HJ41, HO_582001, HO_582002, BK557, BK581, HB⟩ := hcut
              cases kq with
              | zero => exact absurd HA.out (by simp [fluxionlaw04_DigitsBack.j2])
              | succ kj41 =>
                have H := HA.out
                clear HA
                simp only [fluxionlaw04_DigitsBack.j2] at H
                by_cases c62 : x71_41 = true
                · subst c62
                  have H1 : (some false) = some r := by rw [if_pos rfl] at H; exact H
                  clear H
                  have H := H1
                  clear H1
                  obtain rfl := Option.some.inj H
                  go_wp2
                  go_ret
                  exact ⟨by first | rfl | (simp [errW_none, errW_some] <;> rfl) | (simp [*, errW_none, errW_some] <;> rfl), by repeat (first | (with_reducible first | exact HB.out | apply below_alloc | apply pw_below_drewN | apply below_drew1 | refine below_set ?_ GE557.out | refine below_set ?_ GE581.out) | exact HB.out)⟩
                · replace c62 := Bool.eq_false_iff.mpr c62
                  subst c62
                  have H1 : ((digits_ParseNat.f a2).bind fun bt590 => (if bt590.2 = 0 then ((digits_Nat.f bt590.1).bind fun t594 => (fluxionlaw04_DigitsBack.j3 kj41 a2 (t594.toList != a2.toList))) else (fluxionlaw04_DigitsBack.j3 kj41 a2 false))) = some r := by rw [if_neg (show ¬ (false = true) by decide)] at H; exact H
                  clear H
                  have H := H1
                  clear H1
                  replace H := Option.bind_eq_some_iff.mp H
                  obtain ⟨⟨t590, t591⟩, A630, H⟩ := H
                  replace H : (if t591 = 0 then ((digits_Nat.f t590).bind fun t594 => (fluxionlaw04_DigitsBack.j3 kj41 a2 (t594.toList != a2.toList))) else (fluxionlaw04_DigitsBack.j3 kj41 a2 false)) = some r := H
                  have A63 := Aside0.mk A630
                  clear A630
                  have HC64 := Aside0.mk H
                  clear H
                  go_upto_region 13 with (first | ((with_reducible refine gate_callee (f := 16) rfl ?_); refine goesL_ (some 74) rfl rfl Tryz.func16 (by kernel_rfl) rfl #[.string a2] rfl (by (try simp only [List.map_toArray, List.map_cons, List.map_nil]); first | done | rfl | (simp only [List.length_drop, List.length_take]; rfl)) ?_; (with_reducible refine (digits_ParseNat.calls a2 t590 t591 _ A63.out).mono ?_); rintro e w65 ⟨v592, rfl, ho0, hb⟩; refine ⟨_, rfl, ?_⟩; have n0_ := Aside0.mk (Kd.R_elder' (by (with_reducible repeat (first | apply Kd.R_alloc | apply Kd.R_drewN | apply Kd.R_drew)); exact HO_582001.out) (Kd.R_base ho0) hb); have n1_ := Aside0.mk (Kd.R_elder' (by (with_reducible repeat (first | apply Kd.R_alloc | apply Kd.R_drewN | apply Kd.R_drew)); exact HO_582002.out) (Kd.R_base ho0) hb); have n2_ := Aside0.mk (Kd.R_lower (Kd.R_new' (Kd.R_new' ho0 (Kd.R_lt (by (with_reducible repeat (first | apply Kd.R_alloc | apply Kd.R_drewN | apply Kd.R_drew)); exact HO_582001.out))) (Kd.R_lt (by (with_reducible repeat (first | apply Kd.R_alloc | apply Kd.R_drewN | apply Kd.R_drew)); exact HO_582002.out))) (below_size (by repeat (first | (with_reducible first | exact HB.out | apply below_alloc | apply pw_below_drewN | apply below_drew1 | refine below_set ?_ GE557.out | refine below_set ?_ GE581.out) | exact HB.out)))); have n3_ := Aside0.mk (blk_below (g := gb557) (o := .cells #[.bool a1_0, .slice A1_1 l1_1.length c1_1, .slice A1_2 l1_2.length c1_2] 25 (0, 0)) (by (with_reducible repeat (first | refine blk_drewN ?_ _ | refine blk_drew ?_ | refine blk_alloc ?_ _)); exact BK557.out) hb); have n4_ := Aside0.mk (blk_below (g := gb581) (o := .cells #[.bool t573, .slice Ao49 t574.length co49, .slice Ao50 t577.length co50] 25 (0, 0)) (by (with_reducible repeat (first | refine blk_drewN ?_ _ | refine blk_drew ?_ | refine blk_alloc ?_ _)); exact BK581.out) hb); have n5_ := Aside0.mk (below_step (by repeat (first | (with_reducible first | exact HB.out | apply below_alloc | apply pw_below_drewN | apply below_drew1 | refine below_set ?_ GE557.out | refine below_set ?_ GE581.out) | exact HB.out)) hb); clear HO_582001; clear HO_582002; clear BK557; clear BK581; clear HB; have HO_582001 := n0_; have HO_582002 := n1_; have HO593 := n2_; have BK557 := n3_; have BK581 := n4_; have HB := n5_; clear n0_ n1_ n2_ n3_ n4_ n5_; (try clear hb); (try clear hb2); (try clear hk); (try clear hi); (try clear ho0)))
                  (try simp only [Act.put, List.setIfInBounds_toArray, List.set_cons_zero, List.set_cons_succ])
                  go_cut [84] (fun v84 wc => ∃ (kq : Nat) (x84_63 : Bool), v84 = .bool x84_63 ∧ Aside0 (fluxionlaw04_DigitsBack.j3 kq a2 x84_63 = some r) ∧ Aside0 (kq ≤ kj41) ∧ Aside0 (Kd.R (Kd.int .u32) 56 wc w.heap.size (fun k_ => some k_ ≠ ((.slice Ao50 t577.length co50) : Value).ownBlock) (.slice Ao49 t574.length co49) t574) ∧ Aside0 (Kd.R (Kd.int .u32) 56 wc w.heap.size (fun k_ => some k_ ≠ ((.slice Ao49 t574.length co49) : Value).ownBlock) (.slice Ao50 t577.length co50) t577) ∧ Aside0 (wc.heap[gb557]? = some (.cells #[.bool a1_0, (.slice A1_1 l1_1.length c1_1), (.slice A1_2 l1_2.length c1_2)] 25 (0, 0))) ∧ Aside0 (wc.heap[gb581]? = some (.cells #[.bool t573, (.slice Ao49 t574.length co49), (.slice Ao50 t577.length co50)] 25 (0, 0))) ∧ Aside0 (Below w.heap.size w wc))
                  case first =>
                    have H := HC64.out
                    clear HC64
                    by_cases c66 : t591 = 0
                    · rw [if_pos c66] at H
                      have c66b0 : (t591 == 0) = true := beq_iff_eq.mpr c66
                      have c66b1 : (t591 != 0) = false := bne_eq_false_iff_eq.mpr c66
                      clear c66
                      (first | rw [c66b0] | (simp only [i64_w, i32_w]; rw [c66b0]) | skip)
                      replace H := Option.bind_eq_some_iff.mp H
                      obtain ⟨t594, A670, H⟩ := H
                      replace H : (fluxionlaw04_DigitsBack.j3 kj41 a2 (t594.toList != a2.toList)) = some r := H
                      have A67 := Aside0.mk A670
                      clear A670
                      have H' := Aside0.mk H
                      clear H
                      obtain ⟨Ao68, co68, eo68⟩ := Kd.R_slice HO593.out
                      subst eo68
                      go_wp2_with (first | (go_at_call 17; (with_reducible refine (digits_Nat.calls _ _ t590 t594 _ ?side1 ?side2 A67.out ?side3).mono ?_); (case side1 => repeat (first | exact (Kd.R_reads' HO593.out).2.2 | (with_reducible refine Kd.C_alloc ?_ _) | (with_reducible refine Kd.C_drewN ?_ _) | (with_reducible refine Kd.C_drew ?_))); (case side2 => exact (Kd.R_reads' HO593.out).2.1); (case side3 => exact LaidT.below hL (by repeat (first | (with_reducible first | exact HB.out | apply below_alloc | apply pw_below_drewN | apply below_drew1 | refine below_set ?_ GE557.out | refine below_set ?_ GE581.out) | exact HB.out))); rintro e w69 ⟨rfl, hb⟩; have n0_ := Aside0.mk (Kd.R_below (by (with_reducible repeat (first | apply Kd.R_alloc | apply Kd.R_drewN | apply Kd.R_drew)); exact HO_582001.out) hb); have n1_ := Aside0.mk (Kd.R_below (by (with_reducible repeat (first | apply Kd.R_alloc | apply Kd.R_drewN | apply Kd.R_drew)); exact HO_582002.out) hb); have n2_ := Aside0.mk (Kd.R_below (by (with_reducible repeat (first | apply Kd.R_alloc | apply Kd.R_drewN | apply Kd.R_drew)); exact HO593.out) hb); have n3_ := Aside0.mk (blk_below (g := gb557) (o := .cells #[.bool a1_0, .slice A1_1 l1_1.length c1_1, .slice A1_2 l1_2.length c1_2] 25 (0, 0)) (by (with_reducible repeat (first | refine blk_drewN ?_ _ | refine blk_drew ?_ | refine blk_alloc ?_ _)); exact BK557.out) hb); have n4_ := Aside0.mk (blk_below (g := gb581) (o := .cells #[.bool t573, .slice Ao49 t574.length co49, .slice Ao50 t577.length co50] 25 (0, 0)) (by (with_reducible repeat (first | refine blk_drewN ?_ _ | refine blk_drew ?_ | refine blk_alloc ?_ _)); exact BK581.out) hb); have n5_ := Aside0.mk (below_step (by repeat (first | (with_reducible first | exact HB.out | apply below_alloc | apply pw_below_drewN | apply below_drew1 | refine below_set ?_ GE557.out | refine below_set ?_ GE581.out) | exact HB.out)) hb); clear HO_582001; clear HO_582002; clear HO593; clear BK557; clear BK581; clear HB; have HO_582001 := n0_; have HO_582002 := n1_; have HO593 := n2_; have BK557 := n3_; have BK581 := n4_; have HB := n5_; clear n0_ n1_ n2_ n3_ n4_ n5_; (try clear hb); (try clear hb2); (try clear hk); (try clear hi)))
                      go_meet
                      case rel => exact ⟨_, ((t594.toList != a2.toList)), (by first | rfl | (simp; done) | (simp [*]; done)), H', ⟨by have := HJ3.out; have := HJ16.out; have := HJ41.out; first | omega | exact Nat.le_refl _⟩, ⟨by (with_reducible repeat (first | apply Kd.R_alloc | apply Kd.R_drewN | apply Kd.R_drew)); exact Kd.R_mono HO_582001.out (fun _ hk => hk.1)⟩, ⟨by (with_reducible repeat (first | apply Kd.R_alloc | apply Kd.R_drewN | apply Kd.R_drew)); exact Kd.R_mono HO_582002.out (fun _ hk => hk.1)⟩, ⟨by (with_reducible repeat (first | refine blk_drewN ?_ _ | refine blk_drew ?_ | refine blk_alloc ?_ _)); exact BK557.out⟩, ⟨by (with_reducible repeat (first | refine blk_drewN ?_ _ | refine blk_drew ?_ | refine blk_alloc ?_ _)); exact BK581.out⟩, ⟨by repeat (first | (with_reducible first | exact HB.out | apply below_alloc | apply pw_below_drewN | apply below_drew1 | refine below_set ?_ GE557.out | refine below_set ?_ GE581.out) | exact HB.out)⟩⟩
                    · rw [if_neg c66] at H
                      have c66b0 : (t591 == 0) = false := beq_eq_false_iff_ne.mpr c66
                      have c66b1 : (t591 != 0) = true := bne_iff_ne.mpr c66
                      (first | rw [c66b0] | (simp only [i64_w, i32_w]; rw [c66b0]) | skip)
                      have H' := Aside0.mk H
                      clear H
                      go_wp2
                      go_meet
                      case rel => exact ⟨_, (false), (by first | rfl | (simp; done) | (simp [*]; done)), H', ⟨by have := HJ3.out; have := HJ16.out; have := HJ41.out; first | omega | exact Nat.le_refl _⟩, ⟨by (with_reducible repeat (first | apply Kd.R_alloc | apply Kd.R_drewN | apply Kd.R_drew)); exact Kd.R_mono HO_582001.out (fun _ hk => hk.1)⟩, ⟨by (with_reducible repeat (first | apply Kd.R_alloc | apply Kd.R_drewN | apply Kd.R_drew)); exact Kd.R_mono HO_582002.out (fun _ hk => hk.1)⟩, ⟨by (with_reducible repeat (first | refine blk_drewN ?_ _ | refine blk_drew ?_ | refine blk_alloc ?_ _)); exact BK557.out⟩, ⟨by (with_reducible repeat (first | refine blk_drewN ?_ _ | refine blk_drew ?_ | refine blk_alloc ?_ _)); exact BK581.out⟩, ⟨by repeat (first | (with_reducible first | exact HB.out | apply below_alloc | apply pw_below_drewN | apply below_drew1 | refine below_set ?_ GE557.out | refine below_set ?_ GE581.out) | exact HB.out)⟩⟩
                  case rest =>
                    clear HC64
                    try clear c1
                    try clear c2
                    try clear p2
                    try clear c3
                    try clear c4
                    try clear c5
                    try clear c6
                    try clear c6b0
                    try clear c6b1
                    try clear c7
                    try clear c7b0
                    try clear c7b1
                    try clear c8
                    try clear c9
                    try clear c10
                    try clear c11
                    try clear c12
                    try clear c15
                    try clear c16
                    try clear c17
                    try clear c18
                    try clear c19
                    try clear c23
                    try clear c23b0
                    try clear c24
                    try clear c24b0
                    try clear c24b1
                    try clear c25
                    try clear c25b0
                    try clear c25b1
                    try clear c25b2
                    try clear c28
                    try clear c28b0
                    try clear c28b1
                    try clear c31
                    try clear c47
                    try clear c51
                    try clear c51b0
                    try clear c51b1
                    try clear c62
                    try clear c66
                    try clear c66b0
                    try clear c66b1
                    try clear hcz43_0
                    try clear hcz43_1
                    try clear hcz43_2
                    try clear hcz48_0
                    try clear hcz48_1
                    try clear hcz48_2
                    try clear hcz8_0
                    try clear hcz8_1
                    try clear hcz8_2
                    try clear hcz9_0
                    try clear hcz9_1
                    try clear hcz9_2
                    try clear hfz43_0
                    try clear hfz43_1
                    try clear hfz43_2
                    try clear hfz48_0
                    try clear hfz48_1
                    try clear hfz48_2
                    try clear hfz8_0
                    try clear hfz8_1
                    try clear hfz8_2
                    try clear hfz9_0
                    try clear hfz9_1
                    try clear hfz9_2
                    try clear p2
                    obtain ⟨kq, x84_63, rfl, HA, HJ63, HO_582001, HO_582002, BK557, BK581, HB⟩ := hcut
                    cases kq with
                    | zero => exact absurd HA.out (by simp [fluxionlaw04_DigitsBack.j3])
                    | succ kj63 =>
                      have H := HA.out
                      clear HA
                      simp only [fluxionlaw04_DigitsBack.j3] at H
                      by_cases c70 : x84_63 = true
                      · subst c70
                        have H1 : (some false) = some r := by rw [if_pos rfl] at H; exact H
                        clear H
                        have H := H1
                        clear H1
                        obtain rfl := Option.some.inj H
                        go_wp2
                        go_ret
                        exact ⟨by first | rfl | (simp [errW_none, errW_some] <;> rfl) | (simp [*, errW_none, errW_some] <;> rfl), by repeat (first | (with_reducible first | exact HB.out | apply below_alloc | apply pw_below_drewN | apply below_drew1 | refine below_set ?_ GE557.out | refine below_set ?_ GE581.out) | exact HB.out)⟩
                      · replace c70 := Bool.eq_false_iff.mpr c70
                        subst c70
                        have H1 : (if (a2.size : Int) > 120 then ((fluxionlaw04_known.f kj63).bind fun t595 => (some t595)) else ((digits_ParseRat.f kj63 a2).bind fun bt596 => (if bt596.2.2.2 = 0 then ((digits_Rat.f kj63 bt596.1 bt596.2.1 bt596.2.2.1).bind fun t605 => (if t605.toList = a2.toList then ((fluxionlaw04_known.f kj63).bind fun t606 => (some t606)) else (some false))) else ((fluxionlaw04_known.f kj63).bind fun t607 => (some t607))))) = some r := by rw [if_neg (show ¬ (false = true) by decide)] at H; exact H
                        clear H
                        have H := H1
                        clear H1
                        by_cases c71 : (a2.size : Int) > 120
                        · rw [if_pos c71] at H
                          have c71b0 : decide (120 < (a2.size : Int)) = true := decide_eq_true c71
                          have c71b1 : decide (120 < a2.size) = true := decide_eq_true (by omega)
                          clear c71
                          replace H := Option.bind_eq_some_iff.mp H
                          obtain ⟨t595, A720, H⟩ := H
                          replace H : (some t595) = some r := H
                          have A72 := Aside0.mk A720
                          clear A720
                          obtain rfl := Option.some.inj H
                          go_wp2_with (first | ((with_reducible refine gate_callee (f := 8) rfl ?_); refine goesL_ (some 88) rfl rfl Tryz.func8 (by kernel_rfl) rfl #[] rfl (by (try simp only [List.map_toArray, List.map_cons, List.map_nil]); first | done | rfl | (simp only [List.length_drop, List.length_take]; rfl)) ?_; (with_reducible refine (fluxionlaw04_known.calls kj63  t595 _ A72.out ?side1).mono ?_); (case side1 => exact LaidT.below hL (by repeat (first | (with_reducible first | exact HB.out | apply below_alloc | apply pw_below_drewN | apply below_drew1 | refine below_set ?_ GE557.out | refine below_set ?_ GE581.out) | exact HB.out))); rintro e w73 ⟨rfl, hb⟩; refine ⟨_, rfl, ?_⟩; have n0_ := Aside0.mk (Kd.R_below (by (with_reducible repeat (first | apply Kd.R_alloc | apply Kd.R_drewN | apply Kd.R_drew)); exact HO_582001.out) hb); have n1_ := Aside0.mk (Kd.R_below (by (with_reducible repeat (first | apply Kd.R_alloc | apply Kd.R_drewN | apply Kd.R_drew)); exact HO_582002.out) hb); have n2_ := Aside0.mk (blk_below (g := gb557) (o := .cells #[.bool a1_0, .slice A1_1 l1_1.length c1_1, .slice A1_2 l1_2.length c1_2] 25 (0, 0)) (by (with_reducible repeat (first | refine blk_drewN ?_ _ | refine blk_drew ?_ | refine blk_alloc ?_ _)); exact BK557.out) hb); have n3_ := Aside0.mk (blk_below (g := gb581) (o := .cells #[.bool t573, .slice Ao49 t574.length co49, .slice Ao50 t577.length co50] 25 (0, 0)) (by (with_reducible repeat (first | refine blk_drewN ?_ _ | refine blk_drew ?_ | refine blk_alloc ?_ _)); exact BK581.out) hb); have n4_ := Aside0.mk (below_step (by repeat (first | (with_reducible first | exact HB.out | apply below_alloc | apply pw_below_drewN | apply below_drew1 | refine below_set ?_ GE557.out | refine below_set ?_ GE581.out) | exact HB.out)) hb); clear HO_582001; clear HO_582002; clear BK557; clear BK581; clear HB; have HO_582001 := n0_; have HO_582002 := n1_; have BK557 := n2_; have BK581 := n3_; have HB := n4_; clear n0_ n1_ n2_ n3_ n4_; (try clear hb); (try clear hb2); (try clear hk); (try clear hi)))
                          go_ret
                          exact ⟨by first | rfl | (simp [errW_none, errW_some] <;> rfl) | (simp [*, errW_none, errW_some] <;> rfl), by repeat (first | (with_reducible first | exact HB.out | apply below_alloc | apply pw_below_drewN | apply below_drew1 | refine below_set ?_ GE557.out | refine below_set ?_ GE581.out) | exact HB.out)⟩
                        · rw [if_neg c71] at H
                          have c71b0 : decide (120 < (a2.size : Int)) = false := decide_eq_false c71
                          have c71b1 : decide (120 < a2.size) = false := decide_eq_false (by omega)
                          clear c71
                          replace H := Option.bind_eq_some_iff.mp H
                          obtain ⟨⟨t596, t597, t600, t603⟩, A740, H⟩ := H
                          replace H : (if t603 = 0 then ((digits_Rat.f kj63 t596 t597 t600).bind fun t605 => (if t605.toList = a2.toList then ((fluxionlaw04_known.f kj63).bind fun t606 => (some t606)) else (some false))) else ((fluxionlaw04_known.f kj63).bind fun t607 => (some t607))) = some r := H
                          have A74 := Aside0.mk A740
                          clear A740
                          by_cases c75 : t603 = 0
                          · rw [if_pos c75] at H
                            have c75b0 : (t603 == 0) = true := beq_iff_eq.mpr c75
                            have c75b1 : (t603 != 0) = false := bne_eq_false_iff_eq.mpr c75
                            clear c75
                            replace H := Option.bind_eq_some_iff.mp H
                            obtain ⟨t605, A760, H⟩ := H
                            replace H : (if t605.toList = a2.toList then ((fluxionlaw04_known.f kj63).bind fun t606 => (some t606)) else (some false)) = some r := H
                            have A76 := Aside0.mk A760
                            clear A760
                            by_cases c77 : t605.toList = a2.toList
                            · rw [if_pos c77] at H
                              have c77b0 : (t605.toList == a2.toList) = true := beq_iff_eq.mpr c77
                              have c77b1 : (t605.toList != a2.toList) = false := bne_eq_false_iff_eq.mpr c77
                              clear c77
                              replace H := Option.bind_eq_some_iff.mp H
                              obtain ⟨t606, A780, H⟩ := H
                              replace H : (some t606) = some r := H
                              have A78 := Aside0.mk A780
                              clear A780
                              obtain rfl := Option.some.inj H
                              go_wp2_with (first | ((with_reducible refine gate_callee (f := 12) rfl ?_); refine goesL_ (some 91) rfl rfl Tryz.func12 (by kernel_rfl) rfl #[.string a2] rfl (by (try simp only [List.map_toArray, List.map_cons, List.map_nil]); first | done | rfl | (simp only [List.length_drop, List.length_take]; rfl)) ?_; (with_reducible refine (digits_ParseRat.calls kj63 a2 t596 t597 t600 t603 _ A74.out ?side1).mono ?_); (case side1 => exact LaidT.below hL (by repeat (first | (with_reducible first | exact HB.out | apply below_alloc | apply pw_below_drewN | apply below_drew1 | refine below_set ?_ GE557.out | refine below_set ?_ GE581.out) | exact HB.out))); rintro e w79 ⟨v598, v601, rfl, ho0, ho1, hb⟩; refine ⟨_, rfl, ?_⟩; have n0_ := Aside0.mk (Kd.R_mono (Kd.R_told (Kd.R_told (Kd.R_old (by (with_reducible repeat (first | apply Kd.R_alloc | apply Kd.R_drewN | apply Kd.R_drew)); exact HO_582001.out) hb) (Kd.R_base ho0)) (Kd.R_base ho1)) (fun _ h_ => h_.1)); have n1_ := Aside0.mk (Kd.R_mono (Kd.R_told (Kd.R_told (Kd.R_old (by (with_reducible repeat (first | apply Kd.R_alloc | apply Kd.R_drewN | apply Kd.R_drew)); exact HO_582002.out) hb) (Kd.R_base ho0)) (Kd.R_base ho1)) (fun _ h_ => h_.1)); have n2_ := Aside0.mk (Kd.R_lower (Kd.R_new' (Kd.R_new' ho0 (Kd.R_lt (by (with_reducible repeat (first | apply Kd.R_alloc | apply Kd.R_drewN | apply Kd.R_drew)); exact HO_582001.out))) (Kd.R_lt (by (with_reducible repeat (first | apply Kd.R_alloc | apply Kd.R_drewN | apply Kd.R_drew)); exact HO_582002.out))) (below_size (by repeat (first | (with_reducible first | exact HB.out | apply below_alloc | apply pw_below_drewN | apply below_drew1 | refine below_set ?_ GE557.out | refine below_set ?_ GE581.out) | exact HB.out)))); have n3_ := Aside0.mk (Kd.R_lower (Kd.R_new' (Kd.R_new' ho1 (Kd.R_lt (by (with_reducible repeat (first | apply Kd.R_alloc | apply Kd.R_drewN | apply Kd.R_drew)); exact HO_582001.out))) (Kd.R_lt (by (with_reducible repeat (first | apply Kd.R_alloc | apply Kd.R_drewN | apply Kd.R_drew)); exact HO_582002.out))) (below_size (by repeat (first | (with_reducible first | exact HB.out | apply below_alloc | apply pw_below_drewN | apply below_drew1 | refine below_set ?_ GE557.out | refine below_set ?_ GE581.out) | exact HB.out)))); have n4_ := Aside0.mk (blk_below (g := gb557) (o := .cells #[.bool a1_0, .slice A1_1 l1_1.length c1_1, .slice A1_2 l1_2.length c1_2] 25 (0, 0)) (by (with_reducible repeat (first | refine blk_drewN ?_ _ | refine blk_drew ?_ | refine blk_alloc ?_ _)); exact BK557.out) hb); have n5_ := Aside0.mk (blk_below (g := gb581) (o := .cells #[.bool t573, .slice Ao49 t574.length co49, .slice Ao50 t577.length co50] 25 (0, 0)) (by (with_reducible repeat (first | refine blk_drewN ?_ _ | refine blk_drew ?_ | refine blk_alloc ?_ _)); exact BK581.out) hb); have n6_ := Aside0.mk (below_step (by repeat (first | (with_reducible first | exact HB.out | apply below_alloc | apply pw_below_drewN | apply below_drew1 | refine below_set ?_ GE557.out | refine below_set ?_ GE581.out) | exact HB.out)) hb); clear HO_582001; clear HO_582002; clear BK557; clear BK581; clear HB; have HO_582001 := n0_; have HO_582002 := n1_; have HO599 := n2_; have HO602 := n3_; have BK557 := n4_; have BK581 := n5_; have HB := n6_; clear n0_ n1_ n2_ n3_ n4_ n5_ n6_; (try clear hb); (try clear hb2); (try clear hk); (try clear hi); (try clear ho0); (try clear ho1)) | ((with_reducible refine gate_dst (N := 13) rfl ?_); (try (refine gate_guard (by rfl) ?_; dsimp only)); refine box_event ?hg (N := 13) ?hd (cs := #[.bool false, .slice none 0 0, .slice none 0 0]) (t := 25) ?hr ?_; (case hd => rfl); (case hg => rfl); (case hr => first | (go_simp; done) | (go_simp; rfl)); intro gb604 hg w80 hbox hb; have n0_ := Aside0.mk (Kd.R_below (by (with_reducible repeat (first | apply Kd.R_alloc | apply Kd.R_drewN | apply Kd.R_drew)); exact HO_582001.out) hb); have n1_ := Aside0.mk (Kd.R_below (by (with_reducible repeat (first | apply Kd.R_alloc | apply Kd.R_drewN | apply Kd.R_drew)); exact HO_582002.out) hb); have n2_ := Aside0.mk (Kd.R_below (by (with_reducible repeat (first | apply Kd.R_alloc | apply Kd.R_drewN | apply Kd.R_drew)); exact HO599.out) hb); have n3_ := Aside0.mk (Kd.R_below (by (with_reducible repeat (first | apply Kd.R_alloc | apply Kd.R_drewN | apply Kd.R_drew)); exact HO602.out) hb); have n4_ := Aside0.mk (blk_below (g := gb557) (o := .cells #[.bool a1_0, .slice A1_1 l1_1.length c1_1, .slice A1_2 l1_2.length c1_2] 25 (0, 0)) (by (with_reducible repeat (first | refine blk_drewN ?_ _ | refine blk_drew ?_ | refine blk_alloc ?_ _)); exact BK557.out) hb); have n5_ := Aside0.mk (blk_below (g := gb581) (o := .cells #[.bool t573, .slice Ao49 t574.length co49, .slice Ao50 t577.length co50] 25 (0, 0)) (by (with_reducible repeat (first | refine blk_drewN ?_ _ | refine blk_drew ?_ | refine blk_alloc ?_ _)); exact BK581.out) hb); have n6_ := Aside0.mk (below_step (by repeat (first | (with_reducible first | exact HB.out | apply below_alloc | apply pw_below_drewN | apply below_drew1 | refine below_set ?_ GE557.out | refine below_set ?_ GE581.out) | exact HB.out)) hb); have n7_ := Aside0.mk (hbox); have n8_ := Aside0.mk ((by rw [hg]; exact (below_size (by repeat (first | (with_reducible first | exact HB.out | apply below_alloc | apply pw_below_drewN | apply below_drew1 | refine below_set ?_ GE557.out | refine below_set ?_ GE581.out) | exact HB.out))) : w.heap.size ≤ gb604)); have n9_ := Aside0.mk ((by rw [hg]; exact (below_size (by repeat (first | (with_reducible first | exact HB.out | apply below_alloc | apply pw_below_drewN | apply below_drew1 | refine below_set ?_ GE557.out | refine below_set ?_ GE581.out) | exact HB.out))) : w.heap.size ≤ gb604)); have n10_ := Aside0.mk ((by rw [hg]; exact Nat.ne_of_lt (blk_lt (g := gb557) (o := .cells #[.bool a1_0, .slice A1_1 l1_1.length c1_1, .slice A1_2 l1_2.length c1_2] 25 (0, 0)) (by (with_reducible repeat (first | refine blk_drewN ?_ _ | refine blk_drew ?_ | refine blk_alloc ?_ _)); exact BK557.out)) : gb557 ≠ gb604)); have n11_ := Aside0.mk ((by rw [hg]; exact Nat.ne_of_gt (blk_lt (g := gb557) (o := .cells #[.bool a1_0, .slice A1_1 l1_1.length c1_1, .slice A1_2 l1_2.length c1_2] 25 (0, 0)) (by (with_reducible repeat (first | refine blk_drewN ?_ _ | refine blk_drew ?_ | refine blk_alloc ?_ _)); exact BK557.out)) : gb604 ≠ gb557)); have n12_ := Aside0.mk ((by rw [hg]; exact Nat.ne_of_lt (blk_lt (g := gb581) (o := .cells #[.bool t573, .slice Ao49 t574.length co49, .slice Ao50 t577.length co50] 25 (0, 0)) (by (with_reducible repeat (first | refine blk_drewN ?_ _ | refine blk_drew ?_ | refine blk_alloc ?_ _)); exact BK581.out)) : gb581 ≠ gb604)); have n13_ := Aside0.mk ((by rw [hg]; exact Nat.ne_of_gt (blk_lt (g := gb581) (o := .cells #[.bool t573, .slice Ao49 t574.length co49, .slice Ao50 t577.length co50] 25 (0, 0)) (by (with_reducible repeat (first | refine blk_drewN ?_ _ | refine blk_drew ?_ | refine blk_alloc ?_ _)); exact BK581.out)) : gb604 ≠ gb581)); clear HO_582001; clear HO_582002; clear HO599; clear HO602; clear BK557; clear BK581; clear HB; have HO_582001 := n0_; have HO_582002 := n1_; have HO599 := n2_; have HO602 := n3_; have BK557 := n4_; have BK581 := n5_; have HB := n6_; have BK604 := n7_; have GW604 := n8_; have GE604 := n9_; have NB557_604 := n10_; have NB604_557 := n11_; have NB581_604 := n12_; have NB604_581 := n13_; clear n0_ n1_ n2_ n3_ n4_ n5_ n6_ n7_ n8_ n9_ n10_ n11_ n12_ n13_; clear hb hbox hg; have hnb81 := NB604_557.out; have hnc81 := NB557_604.out; have hnb82 := NB604_581.out; have hnc82 := NB581_604.out; have hcz83_0 : w80.cell? ⟨gb604, 0, none⟩ = some (.bool false) := (blk_cell BK604.out 0).trans rfl; have hcz83_1 : w80.cell? ⟨gb604, 1, none⟩ = some (.slice none 0 0) := (blk_cell BK604.out 1).trans rfl; have hcz83_2 : w80.cell? ⟨gb604, 2, none⟩ = some (.slice none 0 0) := (blk_cell BK604.out 2).trans rfl; have hfz83_0 := blk_frozen BK604.out 0; have hfz83_1 := blk_frozen BK604.out 1; have hfz83_2 := blk_frozen BK604.out 2; obtain ⟨Ao84, co84, eo84⟩ := Kd.R_slice HO599.out; subst eo84; obtain ⟨Ao85, co85, eo85⟩ := Kd.R_slice HO602.out; subst eo85) | (go_at_call 9; (with_reducible refine (digits_Rat.calls kj63 t596 _ _ t597 _ _ t600 t605 _ ?side1 ?side2 ?side3 ?side4 A76.out ?side5).mono ?_); (case side1 => refine (Kd.R_reads' (e := 56) (base := w.heap.size) (ok := fun k_ => ((some k_ ≠ (.slice Ao85 t600.length co85 : Value).ownBlock ∧ some k_ ≠ (.slice Ao49 t574.length co49 : Value).ownBlock) ∧ some k_ ≠ (.slice Ao50 t577.length co50 : Value).ownBlock)) (n := t597.length) (c := co84) ?_).2.2; exact (by (with_reducible repeat (first | apply Kd.R_alloc | apply Kd.R_drewN | apply Kd.R_drew)); exact (Kd.R_mono (Kd.R_far (p := ⟨gb604, 2, none⟩) (Kd.R_far (p := ⟨gb604, 1, none⟩) (Kd.R_far (p := ⟨gb604, 0, none⟩) (Kd.R_types HO599.out BK604.out (by decide)) (fun _ hk => hk.2) (.bool t596)) (fun _ hk => hk.2) (.slice Ao84 t597.length co84)) (fun _ hk => hk.2) (.slice Ao85 t600.length co85)) (fun _ h_ => h_.1)))); (case side2 => exact (Kd.R_reads' HO599.out).2.1); (case side3 => refine (Kd.R_reads' (e := 56) (base := w.heap.size) (ok := fun k_ => ((some k_ ≠ (.slice Ao84 t597.length co84 : Value).ownBlock ∧ some k_ ≠ (.slice Ao49 t574.length co49 : Value).ownBlock) ∧ some k_ ≠ (.slice Ao50 t577.length co50 : Value).ownBlock)) (n := t600.length) (c := co85) ?_).2.2; exact (by (with_reducible repeat (first | apply Kd.R_alloc | apply Kd.R_drewN | apply Kd.R_drew)); exact (Kd.R_mono (Kd.R_far (p := ⟨gb604, 2, none⟩) (Kd.R_far (p := ⟨gb604, 1, none⟩) (Kd.R_far (p := ⟨gb604, 0, none⟩) (Kd.R_types HO602.out BK604.out (by decide)) (fun _ hk => hk.2) (.bool t596)) (fun _ hk => hk.2) (.slice Ao84 t597.length co84)) (fun _ hk => hk.2) (.slice Ao85 t600.length co85)) (fun _ h_ => h_.1)))); (case side4 => exact (Kd.R_reads' HO602.out).2.1); (case side5 => exact LaidT.below hL (by repeat (first | (with_reducible first | exact HB.out | apply below_alloc | apply pw_below_drewN | apply below_drew1 | refine below_set ?_ GE557.out | refine below_set ?_ GE581.out | refine below_set ?_ GE604.out) | exact HB.out))); rintro e w86 ⟨rfl, hb⟩; have n0_ := Aside0.mk (Kd.R_below (by (with_reducible repeat (first | apply Kd.R_alloc | apply Kd.R_drewN | apply Kd.R_drew)); exact (Kd.R_mono (Kd.R_far (p := ⟨gb604, 2, none⟩) (Kd.R_far (p := ⟨gb604, 1, none⟩) (Kd.R_far (p := ⟨gb604, 0, none⟩) (Kd.R_types HO_582001.out BK604.out (by decide)) (fun _ hk => hk.2) (.bool t596)) (fun _ hk => hk.2) (.slice Ao84 t597.length co84)) (fun _ hk => hk.2) (.slice Ao85 t600.length co85)) (fun _ h_ => h_.1))) hb); have n1_ := Aside0.mk (Kd.R_below (by (with_reducible repeat (first | apply Kd.R_alloc | apply Kd.R_drewN | apply Kd.R_drew)); exact (Kd.R_mono (Kd.R_far (p := ⟨gb604, 2, none⟩) (Kd.R_far (p := ⟨gb604, 1, none⟩) (Kd.R_far (p := ⟨gb604, 0, none⟩) (Kd.R_types HO_582002.out BK604.out (by decide)) (fun _ hk => hk.2) (.bool t596)) (fun _ hk => hk.2) (.slice Ao84 t597.length co84)) (fun _ hk => hk.2) (.slice Ao85 t600.length co85)) (fun _ h_ => h_.1))) hb); have n2_ := Aside0.mk (Kd.R_below (by (with_reducible repeat (first | apply Kd.R_alloc | apply Kd.R_drewN | apply Kd.R_drew)); exact (Kd.R_mono (Kd.R_far (p := ⟨gb604, 2, none⟩) (Kd.R_far (p := ⟨gb604, 1, none⟩) (Kd.R_far (p := ⟨gb604, 0, none⟩) (Kd.R_types HO599.out BK604.out (by decide)) (fun _ hk => hk.2) (.bool t596)) (fun _ hk => hk.2) (.slice Ao84 t597.length co84)) (fun _ hk => hk.2) (.slice Ao85 t600.length co85)) (fun _ h_ => h_.1))) hb); have n3_ := Aside0.mk (Kd.R_below (by (with_reducible repeat (first | apply Kd.R_alloc | apply Kd.R_drewN | apply Kd.R_drew)); exact (Kd.R_mono (Kd.R_far (p := ⟨gb604, 2, none⟩) (Kd.R_far (p := ⟨gb604, 1, none⟩) (Kd.R_far (p := ⟨gb604, 0, none⟩) (Kd.R_types HO602.out BK604.out (by decide)) (fun _ hk => hk.2) (.bool t596)) (fun _ hk => hk.2) (.slice Ao84 t597.length co84)) (fun _ hk => hk.2) (.slice Ao85 t600.length co85)) (fun _ h_ => h_.1))) hb); have n4_ := Aside0.mk (blk_below (g := gb557) (o := .cells #[.bool a1_0, .slice A1_1 l1_1.length c1_1, .slice A1_2 l1_2.length c1_2] 25 (0, 0)) (by (with_reducible repeat (first | refine blk_drewN ?_ _ | refine blk_drew ?_ | refine blk_alloc ?_ _)); refine blk_far ?_ NB557_604.out _; (with_reducible repeat (first | refine blk_drewN ?_ _ | refine blk_drew ?_ | refine blk_alloc ?_ _)); refine blk_far ?_ NB557_604.out _; (with_reducible repeat (first | refine blk_drewN ?_ _ | refine blk_drew ?_ | refine blk_alloc ?_ _)); refine blk_far ?_ NB557_604.out _; (with_reducible repeat (first | refine blk_drewN ?_ _ | refine blk_drew ?_ | refine blk_alloc ?_ _)); exact BK557.out) hb); have n5_ := Aside0.mk (blk_below (g := gb581) (o := .cells #[.bool t573, .slice Ao49 t574.length co49, .slice Ao50 t577.length co50] 25 (0, 0)) (by (with_reducible repeat (first | refine blk_drewN ?_ _ | refine blk_drew ?_ | refine blk_alloc ?_ _)); refine blk_far ?_ NB581_604.out _; (with_reducible repeat (first | refine blk_drewN ?_ _ | refine blk_drew ?_ | refine blk_alloc ?_ _)); refine blk_far ?_ NB581_604.out _; (with_reducible repeat (first | refine blk_drewN ?_ _ | refine blk_drew ?_ | refine blk_alloc ?_ _)); refine blk_far ?_ NB581_604.out _; (with_reducible repeat (first | refine blk_drewN ?_ _ | refine blk_drew ?_ | refine blk_alloc ?_ _)); exact BK581.out) hb); have n6_ := Aside0.mk (blk_below (g := gb604) (o := .cells #[.bool t596, .slice Ao84 t597.length co84, .slice Ao85 t600.length co85] 25 (0, 0)) (by (with_reducible repeat (first | refine blk_drewN ?_ _ | refine blk_drew ?_ | refine blk_alloc ?_ _)); refine blk_put (cs := #[.bool t596, .slice Ao84 t597.length co84, .slice none 0 0]) ?_ 2 _ rfl; (with_reducible repeat (first | refine blk_drewN ?_ _ | refine blk_drew ?_ | refine blk_alloc ?_ _)); refine blk_put (cs := #[.bool t596, .slice none 0 0, .slice none 0 0]) ?_ 1 _ rfl; (with_reducible repeat (first | refine blk_drewN ?_ _ | refine blk_drew ?_ | refine blk_alloc ?_ _)); refine blk_put (cs := #[.bool false, .slice none 0 0, .slice none 0 0]) ?_ 0 _ rfl; (with_reducible repeat (first | refine blk_drewN ?_ _ | refine blk_drew ?_ | refine blk_alloc ?_ _)); exact BK604.out) hb); have n7_ := Aside0.mk (below_step (by repeat (first | (with_reducible first | exact HB.out | apply below_alloc | apply pw_below_drewN | apply below_drew1 | refine below_set ?_ GE557.out | refine below_set ?_ GE581.out | refine below_set ?_ GE604.out) | exact HB.out)) hb); clear HO_582001; clear HO_582002; clear HO599; clear HO602; clear BK557; clear BK581; clear BK604; clear HB; have HO_582001 := n0_; have HO_582002 := n1_; have HO599 := n2_; have HO602 := n3_; have BK557 := n4_; have BK581 := n5_; have BK604 := n6_; have HB := n7_; clear n0_ n1_ n2_ n3_ n4_ n5_ n6_ n7_; (try clear hb); (try clear hb2); (try clear hk); (try clear hi)) | (go_at_call 8; (with_reducible refine (fluxionlaw04_known.calls kj63  t606 _ A78.out ?side1).mono ?_); (case side1 => exact LaidT.below hL (by repeat (first | (with_reducible first | exact HB.out | apply below_alloc | apply pw_below_drewN | apply below_drew1 | refine below_set ?_ GE557.out | refine below_set ?_ GE581.out | refine below_set ?_ GE604.out) | exact HB.out))); rintro e w87 ⟨rfl, hb⟩; have n0_ := Aside0.mk (Kd.R_below (by (with_reducible repeat (first | apply Kd.R_alloc | apply Kd.R_drewN | apply Kd.R_drew)); exact HO_582001.out) hb); have n1_ := Aside0.mk (Kd.R_below (by (with_reducible repeat (first | apply Kd.R_alloc | apply Kd.R_drewN | apply Kd.R_drew)); exact HO_582002.out) hb); have n2_ := Aside0.mk (Kd.R_below (by (with_reducible repeat (first | apply Kd.R_alloc | apply Kd.R_drewN | apply Kd.R_drew)); exact HO599.out) hb); have n3_ := Aside0.mk (Kd.R_below (by (with_reducible repeat (first | apply Kd.R_alloc | apply Kd.R_drewN | apply Kd.R_drew)); exact HO602.out) hb); have n4_ := Aside0.mk (blk_below (g := gb557) (o := .cells #[.bool a1_0, .slice A1_1 l1_1.length c1_1, .slice A1_2 l1_2.length c1_2] 25 (0, 0)) (by (with_reducible repeat (first | refine blk_drewN ?_ _ | refine blk_drew ?_ | refine blk_alloc ?_ _)); exact BK557.out) hb); have n5_ := Aside0.mk (blk_below (g := gb581) (o := .cells #[.bool t573, .slice Ao49 t574.length co49, .slice Ao50 t577.length co50] 25 (0, 0)) (by (with_reducible repeat (first | refine blk_drewN ?_ _ | refine blk_drew ?_ | refine blk_alloc ?_ _)); exact BK581.out) hb); have n6_ := Aside0.mk (blk_below (g := gb604) (o := .cells #[.bool t596, .slice Ao84 t597.length co84, .slice Ao85 t600.length co85] 25 (0, 0)) (by (with_reducible repeat (first | refine blk_drewN ?_ _ | refine blk_drew ?_ | refine blk_alloc ?_ _)); exact BK604.out) hb); have n7_ := Aside0.mk (below_step (by repeat (first | (with_reducible first | exact HB.out | apply below_alloc | apply pw_below_drewN | apply below_drew1 | refine below_set ?_ GE557.out | refine below_set ?_ GE581.out | refine below_set ?_ GE604.out) | exact HB.out)) hb); clear HO_582001; clear HO_582002; clear HO599; clear HO602; clear BK557; clear BK581; clear BK604; clear HB; have HO_582001 := n0_; have HO_582002 := n1_; have HO599 := n2_; have HO602 := n3_; have BK557 := n4_; have BK581 := n5_; have BK604 := n6_; have HB := n7_; clear n0_ n1_ n2_ n3_ n4_ n5_ n6_ n7_; (try clear hb); (try clear hb2); (try clear hk); (try clear hi)))
                              go_ret
                              exact ⟨by first | rfl | (simp [errW_none, errW_some] <;> rfl) | (simp [*, errW_none, errW_some] <;> rfl), by repeat (first | (with_reducible first | exact HB.out | apply below_alloc | apply pw_below_drewN | apply below_drew1 | refine below_set ?_ GE557.out | refine below_set ?_ GE581.out | refine below_set ?_ GE604.out) | exact HB.out)⟩
                            · rw [if_neg c77] at H
                              have c77b0 : (t605.toList == a2.toList) = false := beq_eq_false_iff_ne.mpr c77
                              have c77b1 : (t605.toList != a2.toList) = true := bne_iff_ne.mpr c77
                              obtain rfl := Option.some.inj H
                              go_wp2_with (first | ((with_reducible refine gate_callee (f := 12) rfl ?_); refine goesL_ (some 91) rfl rfl Tryz.func12 (by kernel_rfl) rfl #[.string a2] rfl (by (try simp only [List.map_toArray, List.map_cons, List.map_nil]); first | done | rfl | (simp only [List.length_drop, List.length_take]; rfl)) ?_; (with_reducible refine (digits_ParseRat.calls kj63 a2 t596 t597 t600 t603 _ A74.out ?side1).mono ?_); (case side1 => exact LaidT.below hL (by repeat (first | (with_reducible first | exact HB.out | apply below_alloc | apply pw_below_drewN | apply below_drew1 | refine below_set ?_ GE557.out | refine below_set ?_ GE581.out) | exact HB.out))); rintro e w88 ⟨v598, v601, rfl, ho0, ho1, hb⟩; refine ⟨_, rfl, ?_⟩; have n0_ := Aside0.mk (Kd.R_mono (Kd.R_told (Kd.R_told (Kd.R_old (by (with_reducible repeat (first | apply Kd.R_alloc | apply Kd.R_drewN | apply Kd.R_drew)); exact HO_582001.out) hb) (Kd.R_base ho0)) (Kd.R_base ho1)) (fun _ h_ => h_.1)); have n1_ := Aside0.mk (Kd.R_mono (Kd.R_told (Kd.R_told (Kd.R_old (by (with_reducible repeat (first | apply Kd.R_alloc | apply Kd.R_drewN | apply Kd.R_drew)); exact HO_582002.out) hb) (Kd.R_base ho0)) (Kd.R_base ho1)) (fun _ h_ => h_.1)); have n2_ := Aside0.mk (Kd.R_lower (Kd.R_new' (Kd.R_new' ho0 (Kd.R_lt (by (with_reducible repeat (first | apply Kd.R_alloc | apply Kd.R_drewN | apply Kd.R_drew)); exact HO_582001.out))) (Kd.R_lt (by (with_reducible repeat (first | apply Kd.R_alloc | apply Kd.R_drewN | apply Kd.R_drew)); exact HO_582002.out))) (below_size (by repeat (first | (with_reducible first | exact HB.out | apply below_alloc | apply pw_below_drewN | apply below_drew1 | refine below_set ?_ GE557.out | refine below_set ?_ GE581.out) | exact HB.out)))); have n3_ := Aside0.mk (Kd.R_lower (Kd.R_new' (Kd.R_new' ho1 (Kd.R_lt (by (with_reducible repeat (first | apply Kd.R_alloc | apply Kd.R_drewN | apply Kd.R_drew)); exact HO_582001.out))) (Kd.R_lt (by (with_reducible repeat (first | apply Kd.R_alloc | apply Kd.R_drewN | apply Kd.R_drew)); exact HO_582002.out))) (below_size (by repeat (first | (with_reducible first | exact HB.out | apply below_alloc | apply pw_below_drewN | apply below_drew1 | refine below_set ?_ GE557.out | refine below_set ?_ GE581.out) | exact HB.out)))); have n4_ := Aside0.mk (blk_below (g := gb557) (o := .cells #[.bool a1_0, .slice A1_1 l1_1.length c1_1, .slice A1_2 l1_2.length c1_2] 25 (0, 0)) (by (with_reducible repeat (first | refine blk_drewN ?_ _ | refine blk_drew ?_ | refine blk_alloc ?_ _)); exact BK557.out) hb); have n5_ := Aside0.mk (blk_below (g := gb581) (o := .cells #[.bool t573, .slice Ao49 t574.length co49, .slice Ao50 t577.length co50] 25 (0, 0)) (by (with_reducible repeat (first | refine blk_drewN ?_ _ | refine blk_drew ?_ | refine blk_alloc ?_ _)); exact BK581.out) hb); have n6_ := Aside0.mk (below_step (by repeat (first | (with_reducible first | exact HB.out | apply below_alloc | apply pw_below_drewN | apply below_drew1 | refine below_set ?_ GE557.out | refine below_set ?_ GE581.out) | exact HB.out)) hb); clear HO_582001; clear HO_582002; clear BK557; clear BK581; clear HB; have HO_582001 := n0_; have HO_582002 := n1_; have HO599 := n2_; have HO602 := n3_; have BK557 := n4_; have BK581 := n5_; have HB := n6_; clear n0_ n1_ n2_ n3_ n4_ n5_ n6_; (try clear hb); (try clear hb2); (try clear hk); (try clear hi); (try clear ho0); (try clear ho1)) | ((with_reducible refine gate_dst (N := 13) rfl ?_); (try (refine gate_guard (by rfl) ?_; dsimp only)); refine box_event ?hg (N := 13) ?hd (cs := #[.bool false, .slice none 0 0, .slice none 0 0]) (t := 25) ?hr ?_; (case hd => rfl); (case hg => rfl); (case hr => first | (go_simp; done) | (go_simp; rfl)); intro gb604 hg w89 hbox hb; have n0_ := Aside0.mk (Kd.R_below (by (with_reducible repeat (first | apply Kd.R_alloc | apply Kd.R_drewN | apply Kd.R_drew)); exact HO_582001.out) hb); have n1_ := Aside0.mk (Kd.R_below (by (with_reducible repeat (first | apply Kd.R_alloc | apply Kd.R_drewN | apply Kd.R_drew)); exact HO_582002.out) hb); have n2_ := Aside0.mk (Kd.R_below (by (with_reducible repeat (first | apply Kd.R_alloc | apply Kd.R_drewN | apply Kd.R_drew)); exact HO599.out) hb); have n3_ := Aside0.mk (Kd.R_below (by (with_reducible repeat (first | apply Kd.R_alloc | apply Kd.R_drewN | apply Kd.R_drew)); exact HO602.out) hb); have n4_ := Aside0.mk (blk_below (g := gb557) (o := .cells #[.bool a1_0, .slice A1_1 l1_1.length c1_1, .slice A1_2 l1_2.length c1_2] 25 (0, 0)) (by (with_reducible repeat (first | refine blk_drewN ?_ _ | refine blk_drew ?_ | refine blk_alloc ?_ _)); exact BK557.out) hb); have n5_ := Aside0.mk (blk_below (g := gb581) (o := .cells #[.bool t573, .slice Ao49 t574.length co49, .slice Ao50 t577.length co50] 25 (0, 0)) (by (with_reducible repeat (first | refine blk_drewN ?_ _ | refine blk_drew ?_ | refine blk_alloc ?_ _)); exact BK581.out) hb); have n6_ := Aside0.mk (below_step (by repeat (first | (with_reducible first | exact HB.out | apply below_alloc | apply pw_below_drewN | apply below_drew1 | refine below_set ?_ GE557.out | refine below_set ?_ GE581.out) | exact HB.out)) hb); have n7_ := Aside0.mk (hbox); have n8_ := Aside0.mk ((by rw [hg]; exact (below_size (by repeat (first | (with_reducible first | exact HB.out | apply below_alloc | apply pw_below_drewN | apply below_drew1 | refine below_set ?_ GE557.out | refine below_set ?_ GE581.out) | exact HB.out))) : w.heap.size ≤ gb604)); have n9_ := Aside0.mk ((by rw [hg]; exact (below_size (by repeat (first | (with_reducible first | exact HB.out | apply below_alloc | apply pw_below_drewN | apply below_drew1 | refine below_set ?_ GE557.out | refine below_set ?_ GE581.out) | exact HB.out))) : w.heap.size ≤ gb604)); have n10_ := Aside0.mk ((by rw [hg]; exact Nat.ne_of_lt (blk_lt (g := gb557) (o := .cells #[.bool a1_0, .slice A1_1 l1_1.length c1_1, .slice A1_2 l1_2.length c1_2] 25 (0, 0)) (by (with_reducible repeat (first | refine blk_drewN ?_ _ | refine blk_drew ?_ | refine blk_alloc ?_ _)); exact BK557.out)) : gb557 ≠ gb604)); have n11_ := Aside0.mk ((by rw [hg]; exact Nat.ne_of_gt (blk_lt (g := gb557) (o := .cells #[.bool a1_0, .slice A1_1 l1_1.length c1_1, .slice A1_2 l1_2.length c1_2] 25 (0, 0)) (by (with_reducible repeat (first | refine blk_drewN ?_ _ | refine blk_drew ?_ | refine blk_alloc ?_ _)); exact BK557.out)) : gb604 ≠ gb557)); have n12_ := Aside0.mk ((by rw [hg]; exact Nat.ne_of_lt (blk_lt (g := gb581) (o := .cells #[.bool t573, .slice Ao49 t574.length co49, .slice Ao50 t577.length co50] 25 (0, 0)) (by (with_reducible repeat (first | refine blk_drewN ?_ _ | refine blk_drew ?_ | refine blk_alloc ?_ _)); exact BK581.out)) : gb581 ≠ gb604)); have n13_ := Aside0.mk ((by rw [hg]; exact Nat.ne_of_gt (blk_lt (g := gb581) (o := .cells #[.bool t573, .slice Ao49 t574.length co49, .slice Ao50 t577.length co50] 25 (0, 0)) (by (with_reducible repeat (first | refine blk_drewN ?_ _ | refine blk_drew ?_ | refine blk_alloc ?_ _)); exact BK581.out)) : gb604 ≠ gb581)); clear HO_582001; clear HO_582002; clear HO599; clear HO602; clear BK557; clear BK581; clear HB; have HO_582001 := n0_; have HO_582002 := n1_; have HO599 := n2_; have HO602 := n3_; have BK557 := n4_; have BK581 := n5_; have HB := n6_; have BK604 := n7_; have GW604 := n8_; have GE604 := n9_; have NB557_604 := n10_; have NB604_557 := n11_; have NB581_604 := n12_; have NB604_581 := n13_; clear n0_ n1_ n2_ n3_ n4_ n5_ n6_ n7_ n8_ n9_ n10_ n11_ n12_ n13_; clear hb hbox hg; have hnb90 := NB604_557.out; have hnc90 := NB557_604.out; have hnb91 := NB604_581.out; have hnc91 := NB581_604.out; have hcz92_0 : w89.cell? ⟨gb604, 0, none⟩ = some (.bool false) := (blk_cell BK604.out 0).trans rfl; have hcz92_1 : w89.cell? ⟨gb604, 1, none⟩ = some (.slice none 0 0) := (blk_cell BK604.out 1).trans rfl; have hcz92_2 : w89.cell? ⟨gb604, 2, none⟩ = some (.slice none 0 0) := (blk_cell BK604.out 2).trans rfl; have hfz92_0 := blk_frozen BK604.out 0; have hfz92_1 := blk_frozen BK604.out 1; have hfz92_2 := blk_frozen BK604.out 2; obtain ⟨Ao93, co93, eo93⟩ := Kd.R_slice HO599.out; subst eo93; obtain ⟨Ao94, co94, eo94⟩ := Kd.R_slice HO602.out; subst eo94) | (go_at_call 9; (with_reducible refine (digits_Rat.calls kj63 t596 _ _ t597 _ _ t600 t605 _ ?side1 ?side2 ?side3 ?side4 A76.out ?side5).mono ?_); (case side1 => refine (Kd.R_reads' (e := 56) (base := w.heap.size) (ok := fun k_ => ((some k_ ≠ (.slice Ao94 t600.length co94 : Value).ownBlock ∧ some k_ ≠ (.slice Ao49 t574.length co49 : Value).ownBlock) ∧ some k_ ≠ (.slice Ao50 t577.length co50 : Value).ownBlock)) (n := t597.length) (c := co93) ?_).2.2; exact (by (with_reducible repeat (first | apply Kd.R_alloc | apply Kd.R_drewN | apply Kd.R_drew)); exact (Kd.R_mono (Kd.R_far (p := ⟨gb604, 2, none⟩) (Kd.R_far (p := ⟨gb604, 1, none⟩) (Kd.R_far (p := ⟨gb604, 0, none⟩) (Kd.R_types HO599.out BK604.out (by decide)) (fun _ hk => hk.2) (.bool t596)) (fun _ hk => hk.2) (.slice Ao93 t597.length co93)) (fun _ hk => hk.2) (.slice Ao94 t600.length co94)) (fun _ h_ => h_.1)))); (case side2 => exact (Kd.R_reads' HO599.out).2.1); (case side3 => refine (Kd.R_reads' (e := 56) (base := w.heap.size) (ok := fun k_ => ((some k_ ≠ (.slice Ao93 t597.length co93 : Value).ownBlock ∧ some k_ ≠ (.slice Ao49 t574.length co49 : Value).ownBlock) ∧ some k_ ≠ (.slice Ao50 t577.length co50 : Value).ownBlock)) (n := t600.length) (c := co94) ?_).2.2; exact (by (with_reducible repeat (first | apply Kd.R_alloc | apply Kd.R_drewN | apply Kd.R_drew)); exact (Kd.R_mono (Kd.R_far (p := ⟨gb604, 2, none⟩) (Kd.R_far (p := ⟨gb604, 1, none⟩) (Kd.R_far (p := ⟨gb604, 0, none⟩) (Kd.R_types HO602.out BK604.out (by decide)) (fun _ hk => hk.2) (.bool t596)) (fun _ hk => hk.2) (.slice Ao93 t597.length co93)) (fun _ hk => hk.2) (.slice Ao94 t600.length co94)) (fun _ h_ => h_.1)))); (case side4 => exact (Kd.R_reads' HO602.out).2.1); (case side5 => exact LaidT.below hL (by repeat (first | (with_reducible first | exact HB.out | apply below_alloc | apply pw_below_drewN | apply below_drew1 | refine below_set ?_ GE557.out | refine below_set ?_ GE581.out | refine below_set ?_ GE604.out) | exact HB.out))); rintro e w95 ⟨rfl, hb⟩; have n0_ := Aside0.mk (Kd.R_below (by (with_reducible repeat (first | apply Kd.R_alloc | apply Kd.R_drewN | apply Kd.R_drew)); exact (Kd.R_mono (Kd.R_far (p := ⟨gb604, 2, none⟩) (Kd.R_far (p := ⟨gb604, 1, none⟩) (Kd.R_far (p := ⟨gb604, 0, none⟩) (Kd.R_types HO_582001.out BK604.out (by decide)) (fun _ hk => hk.2) (.bool t596)) (fun _ hk => hk.2) (.slice Ao93 t597.length co93)) (fun _ hk => hk.2) (.slice Ao94 t600.length co94)) (fun _ h_ => h_.1))) hb); have n1_ := Aside0.mk (Kd.R_below (by (with_reducible repeat (first | apply Kd.R_alloc | apply Kd.R_drewN | apply Kd.R_drew)); exact (Kd.R_mono (Kd.R_far (p := ⟨gb604, 2, none⟩) (Kd.R_far (p := ⟨gb604, 1, none⟩) (Kd.R_far (p := ⟨gb604, 0, none⟩) (Kd.R_types HO_582002.out BK604.out (by decide)) (fun _ hk => hk.2) (.bool t596)) (fun _ hk => hk.2) (.slice Ao93 t597.length co93)) (fun _ hk => hk.2) (.slice Ao94 t600.length co94)) (fun _ h_ => h_.1))) hb); have n2_ := Aside0.mk (Kd.R_below (by (with_reducible repeat (first | apply Kd.R_alloc | apply Kd.R_drewN | apply Kd.R_drew)); exact (Kd.R_mono (Kd.R_far (p := ⟨gb604, 2, none⟩) (Kd.R_far (p := ⟨gb604, 1, none⟩) (Kd.R_far (p := ⟨gb604, 0, none⟩) (Kd.R_types HO599.out BK604.out (by decide)) (fun _ hk => hk.2) (.bool t596)) (fun _ hk => hk.2) (.slice Ao93 t597.length co93)) (fun _ hk => hk.2) (.slice Ao94 t600.length co94)) (fun _ h_ => h_.1))) hb); have n3_ := Aside0.mk (Kd.R_below (by (with_reducible repeat (first | apply Kd.R_alloc | apply Kd.R_drewN | apply Kd.R_drew)); exact (Kd.R_mono (Kd.R_far (p := ⟨gb604, 2, none⟩) (Kd.R_far (p := ⟨gb604, 1, none⟩) (Kd.R_far (p := ⟨gb604, 0, none⟩) (Kd.R_types HO602.out BK604.out (by decide)) (fun _ hk => hk.2) (.bool t596)) (fun _ hk => hk.2) (.slice Ao93 t597.length co93)) (fun _ hk => hk.2) (.slice Ao94 t600.length co94)) (fun _ h_ => h_.1))) hb); have n4_ := Aside0.mk (blk_below (g := gb557) (o := .cells #[.bool a1_0, .slice A1_1 l1_1.length c1_1, .slice A1_2 l1_2.length c1_2] 25 (0, 0)) (by (with_reducible repeat (first | refine blk_drewN ?_ _ | refine blk_drew ?_ | refine blk_alloc ?_ _)); refine blk_far ?_ NB557_604.out _; (with_reducible repeat (first | refine blk_drewN ?_ _ | refine blk_drew ?_ | refine blk_alloc ?_ _)); refine blk_far ?_ NB557_604.out _; (with_reducible repeat (first | refine blk_drewN ?_ _ | refine blk_drew ?_ | refine blk_alloc ?_ _)); refine blk_far ?_ NB557_604.out _; (with_reducible repeat (first | refine blk_drewN ?_ _ | refine blk_drew ?_ | refine blk_alloc ?_ _)); exact BK557.out) hb); have n5_ := Aside0.mk (blk_below (g := gb581) (o := .cells #[.bool t573, .slice Ao49 t574.length co49, .slice Ao50 t577.length co50] 25 (0, 0)) (by (with_reducible repeat (first | refine blk_drewN ?_ _ | refine blk_drew ?_ | refine blk_alloc ?_ _)); refine blk_far ?_ NB581_604.out _; (with_reducible repeat (first | refine blk_drewN ?_ _ | refine blk_drew ?_ | refine blk_alloc ?_ _)); refine blk_far ?_ NB581_604.out _; (with_reducible repeat (first | refine blk_drewN ?_ _ | refine blk_drew ?_ | refine blk_alloc ?_ _)); refine blk_far ?_ NB581_604.out _; (with_reducible repeat (first | refine blk_drewN ?_ _ | refine blk_drew ?_ | refine blk_alloc ?_ _)); exact BK581.out) hb); have n6_ := Aside0.mk (blk_below (g := gb604) (o := .cells #[.bool t596, .slice Ao93 t597.length co93, .slice Ao94 t600.length co94] 25 (0, 0)) (by (with_reducible repeat (first | refine blk_drewN ?_ _ | refine blk_drew ?_ | refine blk_alloc ?_ _)); refine blk_put (cs := #[.bool t596, .slice Ao93 t597.length co93, .slice none 0 0]) ?_ 2 _ rfl; (with_reducible repeat (first | refine blk_drewN ?_ _ | refine blk_drew ?_ | refine blk_alloc ?_ _)); refine blk_put (cs := #[.bool t596, .slice none 0 0, .slice none 0 0]) ?_ 1 _ rfl; (with_reducible repeat (first | refine blk_drewN ?_ _ | refine blk_drew ?_ | refine blk_alloc ?_ _)); refine blk_put (cs := #[.bool false, .slice none 0 0, .slice none 0 0]) ?_ 0 _ rfl; (with_reducible repeat (first | refine blk_drewN ?_ _ | refine blk_drew ?_ | refine blk_alloc ?_ _)); exact BK604.out) hb); have n7_ := Aside0.mk (below_step (by repeat (first | (with_reducible first | exact HB.out | apply below_alloc | apply pw_below_drewN | apply below_drew1 | refine below_set ?_ GE557.out | refine below_set ?_ GE581.out | refine below_set ?_ GE604.out) | exact HB.out)) hb); clear HO_582001; clear HO_582002; clear HO599; clear HO602; clear BK557; clear BK581; clear BK604; clear HB; have HO_582001 := n0_; have HO_582002 := n1_; have HO599 := n2_; have HO602 := n3_; have BK557 := n4_; have BK581 := n5_; have BK604 := n6_; have HB := n7_; clear n0_ n1_ n2_ n3_ n4_ n5_ n6_ n7_; (try clear hb); (try clear hb2); (try clear hk); (try clear hi)))
                              go_ret
                              exact ⟨by first | rfl | (simp [errW_none, errW_some] <;> rfl) | (simp [*, errW_none, errW_some] <;> rfl), by repeat (first | (with_reducible first | exact HB.out | apply below_alloc | apply pw_below_drewN | apply below_drew1 | refine below_set ?_ GE557.out | refine below_set ?_ GE581.out | refine below_set ?_ GE604.out) | exact HB.out)⟩
                          · rw [if_neg c75] at H
                            have c75b0 : (t603 == 0) = false := beq_eq_false_iff_ne.mpr c75
                            have c75b1 : (t603 != 0) = true := bne_iff_ne.mpr c75
                            replace H := Option.bind_eq_some_iff.mp H
                            obtain ⟨t607, A960, H⟩ := H
                            replace H : (some t607) = some r := H
                            have A96 := Aside0.mk A960
                            clear A960
                            obtain rfl := Option.some.inj H
                            go_wp2_with (first | ((with_reducible refine gate_callee (f := 12) rfl ?_); refine goesL_ (some 91) rfl rfl Tryz.func12 (by kernel_rfl) rfl #[.string a2] rfl (by (try simp only [List.map_toArray, List.map_cons, List.map_nil]); first | done | rfl | (simp only [List.length_drop, List.length_take]; rfl)) ?_; (with_reducible refine (digits_ParseRat.calls kj63 a2 t596 t597 t600 t603 _ A74.out ?side1).mono ?_); (case side1 => exact LaidT.below hL (by repeat (first | (with_reducible first | exact HB.out | apply below_alloc | apply pw_below_drewN | apply below_drew1 | refine below_set ?_ GE557.out | refine below_set ?_ GE581.out) | exact HB.out))); rintro e w97 ⟨v598, v601, rfl, ho0, ho1, hb⟩; refine ⟨_, rfl, ?_⟩; have n0_ := Aside0.mk (Kd.R_mono (Kd.R_told (Kd.R_told (Kd.R_old (by (with_reducible repeat (first | apply Kd.R_alloc | apply Kd.R_drewN | apply Kd.R_drew)); exact HO_582001.out) hb) (Kd.R_base ho0)) (Kd.R_base ho1)) (fun _ h_ => h_.1)); have n1_ := Aside0.mk (Kd.R_mono (Kd.R_told (Kd.R_told (Kd.R_old (by (with_reducible repeat (first | apply Kd.R_alloc | apply Kd.R_drewN | apply Kd.R_drew)); exact HO_582002.out) hb) (Kd.R_base ho0)) (Kd.R_base ho1)) (fun _ h_ => h_.1)); have n2_ := Aside0.mk (Kd.R_lower (Kd.R_new' (Kd.R_new' ho0 (Kd.R_lt (by (with_reducible repeat (first | apply Kd.R_alloc | apply Kd.R_drewN | apply Kd.R_drew)); exact HO_582001.out))) (Kd.R_lt (by (with_reducible repeat (first | apply Kd.R_alloc | apply Kd.R_drewN | apply Kd.R_drew)); exact HO_582002.out))) (below_size (by repeat (first | (with_reducible first | exact HB.out | apply below_alloc | apply pw_below_drewN | apply below_drew1 | refine below_set ?_ GE557.out | refine below_set ?_ GE581.out) | exact HB.out)))); have n3_ := Aside0.mk (Kd.R_lower (Kd.R_new' (Kd.R_new' ho1 (Kd.R_lt (by (with_reducible repeat (first | apply Kd.R_alloc | apply Kd.R_drewN | apply Kd.R_drew)); exact HO_582001.out))) (Kd.R_lt (by (with_reducible repeat (first | apply Kd.R_alloc | apply Kd.R_drewN | apply Kd.R_drew)); exact HO_582002.out))) (below_size (by repeat (first | (with_reducible first | exact HB.out | apply below_alloc | apply pw_below_drewN | apply below_drew1 | refine below_set ?_ GE557.out | refine below_set ?_ GE581.out) | exact HB.out)))); have n4_ := Aside0.mk (blk_below (g := gb557) (o := .cells #[.bool a1_0, .slice A1_1 l1_1.length c1_1, .slice A1_2 l1_2.length c1_2] 25 (0, 0)) (by (with_reducible repeat (first | refine blk_drewN ?_ _ | refine blk_drew ?_ | refine blk_alloc ?_ _)); exact BK557.out) hb); have n5_ := Aside0.mk (blk_below (g := gb581) (o := .cells #[.bool t573, .slice Ao49 t574.length co49, .slice Ao50 t577.length co50] 25 (0, 0)) (by (with_reducible repeat (first | refine blk_drewN ?_ _ | refine blk_drew ?_ | refine blk_alloc ?_ _)); exact BK581.out) hb); have n6_ := Aside0.mk (below_step (by repeat (first | (with_reducible first | exact HB.out | apply below_alloc | apply pw_below_drewN | apply below_drew1 | refine below_set ?_ GE557.out | refine below_set ?_ GE581.out) | exact HB.out)) hb); clear HO_582001; clear HO_582002; clear BK557; clear BK581; clear HB; have HO_582001 := n0_; have HO_582002 := n1_; have HO599 := n2_; have HO602 := n3_; have BK557 := n4_; have BK581 := n5_; have HB := n6_; clear n0_ n1_ n2_ n3_ n4_ n5_ n6_; (try clear hb); (try clear hb2); (try clear hk); (try clear hi); (try clear ho0); (try clear ho1)) | ((with_reducible refine gate_dst (N := 13) rfl ?_); (try (refine gate_guard (by rfl) ?_; dsimp only)); refine box_event ?hg (N := 13) ?hd (cs := #[.bool false, .slice none 0 0, .slice none 0 0]) (t := 25) ?hr ?_; (case hd => rfl); (case hg => rfl); (case hr => first | (go_simp; done) | (go_simp; rfl)); intro gb604 hg w98 hbox hb; have n0_ := Aside0.mk (Kd.R_below (by (with_reducible repeat (first | apply Kd.R_alloc | apply Kd.R_drewN | apply Kd.R_drew)); exact HO_582001.out) hb); have n1_ := Aside0.mk (Kd.R_below (by (with_reducible repeat (first | apply Kd.R_alloc | apply Kd.R_drewN | apply Kd.R_drew)); exact HO_582002.out) hb); have n2_ := Aside0.mk (Kd.R_below (by (with_reducible repeat (first | apply Kd.R_alloc | apply Kd.R_drewN | apply Kd.R_drew)); exact HO599.out) hb); have n3_ := Aside0.mk (Kd.R_below (by (with_reducible repeat (first | apply Kd.R_alloc | apply Kd.R_drewN | apply Kd.R_drew)); exact HO602.out) hb); have n4_ := Aside0.mk (blk_below (g := gb557) (o := .cells #[.bool a1_0, .slice A1_1 l1_1.length c1_1, .slice A1_2 l1_2.length c1_2] 25 (0, 0)) (by (with_reducible repeat (first | refine blk_drewN ?_ _ | refine blk_drew ?_ | refine blk_alloc ?_ _)); exact BK557.out) hb); have n5_ := Aside0.mk (blk_below (g := gb581) (o := .cells #[.bool t573, .slice Ao49 t574.length co49, .slice Ao50 t577.length co50] 25 (0, 0)) (by (with_reducible repeat (first | refine blk_drewN ?_ _ | refine blk_drew ?_ | refine blk_alloc ?_ _)); exact BK581.out) hb); have n6_ := Aside0.mk (below_step (by repeat (first | (with_reducible first | exact HB.out | apply below_alloc | apply pw_below_drewN | apply below_drew1 | refine below_set ?_ GE557.out | refine below_set ?_ GE581.out) | exact HB.out)) hb); have n7_ := Aside0.mk (hbox); have n8_ := Aside0.mk ((by rw [hg]; exact (below_size (by repeat (first | (with_reducible first | exact HB.out | apply below_alloc | apply pw_below_drewN | apply below_drew1 | refine below_set ?_ GE557.out | refine below_set ?_ GE581.out) | exact HB.out))) : w.heap.size ≤ gb604)); have n9_ := Aside0.mk ((by rw [hg]; exact (below_size (by repeat (first | (with_reducible first | exact HB.out | apply below_alloc | apply pw_below_drewN | apply below_drew1 | refine below_set ?_ GE557.out | refine below_set ?_ GE581.out) | exact HB.out))) : w.heap.size ≤ gb604)); have n10_ := Aside0.mk ((by rw [hg]; exact Nat.ne_of_lt (blk_lt (g := gb557) (o := .cells #[.bool a1_0, .slice A1_1 l1_1.length c1_1, .slice A1_2 l1_2.length c1_2] 25 (0, 0)) (by (with_reducible repeat (first | refine blk_drewN ?_ _ | refine blk_drew ?_ | refine blk_alloc ?_ _)); exact BK557.out)) : gb557 ≠ gb604)); have n11_ := Aside0.mk ((by rw [hg]; exact Nat.ne_of_gt (blk_lt (g := gb557) (o := .cells #[.bool a1_0, .slice A1_1 l1_1.length c1_1, .slice A1_2 l1_2.length c1_2] 25 (0, 0)) (by (with_reducible repeat (first | refine blk_drewN ?_ _ | refine blk_drew ?_ | refine blk_alloc ?_ _)); exact BK557.out)) : gb604 ≠ gb557)); have n12_ := Aside0.mk ((by rw [hg]; exact Nat.ne_of_lt (blk_lt (g := gb581) (o := .cells #[.bool t573, .slice Ao49 t574.length co49, .slice Ao50 t577.length co50] 25 (0, 0)) (by (with_reducible repeat (first | refine blk_drewN ?_ _ | refine blk_drew ?_ | refine blk_alloc ?_ _)); exact BK581.out)) : gb581 ≠ gb604)); have n13_ := Aside0.mk ((by rw [hg]; exact Nat.ne_of_gt (blk_lt (g := gb581) (o := .cells #[.bool t573, .slice Ao49 t574.length co49, .slice Ao50 t577.length co50] 25 (0, 0)) (by (with_reducible repeat (first | refine blk_drewN ?_ _ | refine blk_drew ?_ | refine blk_alloc ?_ _)); exact BK581.out)) : gb604 ≠ gb581)); clear HO_582001; clear HO_582002; clear HO599; clear HO602; clear BK557; clear BK581; clear HB; have HO_582001 := n0_; have HO_582002 := n1_; have HO599 := n2_; have HO602 := n3_; have BK557 := n4_; have BK581 := n5_; have HB := n6_; have BK604 := n7_; have GW604 := n8_; have GE604 := n9_; have NB557_604 := n10_; have NB604_557 := n11_; have NB581_604 := n12_; have NB604_581 := n13_; clear n0_ n1_ n2_ n3_ n4_ n5_ n6_ n7_ n8_ n9_ n10_ n11_ n12_ n13_; clear hb hbox hg; have hnb99 := NB604_557.out; have hnc99 := NB557_604.out; have hnb100 := NB604_581.out; have hnc100 := NB581_604.out; have hcz101_0 : w98.cell? ⟨gb604, 0, none⟩ = some (.bool false) := (blk_cell BK604.out 0).trans rfl; have hcz101_1 : w98.cell? ⟨gb604, 1, none⟩ = some (.slice none 0 0) := (blk_cell BK604.out 1).trans rfl; have hcz101_2 : w98.cell? ⟨gb604, 2, none⟩ = some (.slice none 0 0) := (blk_cell BK604.out 2).trans rfl; have hfz101_0 := blk_frozen BK604.out 0; have hfz101_1 := blk_frozen BK604.out 1; have hfz101_2 := blk_frozen BK604.out 2; obtain ⟨Ao102, co102, eo102⟩ := Kd.R_slice HO599.out; subst eo102; obtain ⟨Ao103, co103, eo103⟩ := Kd.R_slice HO602.out; subst eo103) | (go_at_call 8; (with_reducible refine (fluxionlaw04_known.calls kj63  t607 _ A96.out ?side1).mono ?_); (case side1 => exact LaidT.below hL (by repeat (first | (with_reducible first | exact HB.out | apply below_alloc | apply pw_below_drewN | apply below_drew1 | refine below_set ?_ GE557.out | refine below_set ?_ GE581.out | refine below_set ?_ GE604.out) | exact HB.out))); rintro e w104 ⟨rfl, hb⟩; have n0_ := Aside0.mk (Kd.R_below (by (with_reducible repeat (first | apply Kd.R_alloc | apply Kd.R_drewN | apply Kd.R_drew)); exact (Kd.R_mono (Kd.R_far (p := ⟨gb604, 2, none⟩) (Kd.R_far (p := ⟨gb604, 1, none⟩) (Kd.R_far (p := ⟨gb604, 0, none⟩) (Kd.R_types HO_582001.out BK604.out (by decide)) (fun _ hk => hk.2) (.bool t596)) (fun _ hk => hk.2) (.slice Ao102 t597.length co102)) (fun _ hk => hk.2) (.slice Ao103 t600.length co103)) (fun _ h_ => h_.1))) hb); have n1_ := Aside0.mk (Kd.R_below (by (with_reducible repeat (first | apply Kd.R_alloc | apply Kd.R_drewN | apply Kd.R_drew)); exact (Kd.R_mono (Kd.R_far (p := ⟨gb604, 2, none⟩) (Kd.R_far (p := ⟨gb604, 1, none⟩) (Kd.R_far (p := ⟨gb604, 0, none⟩) (Kd.R_types HO_582002.out BK604.out (by decide)) (fun _ hk => hk.2) (.bool t596)) (fun _ hk => hk.2) (.slice Ao102 t597.length co102)) (fun _ hk => hk.2) (.slice Ao103 t600.length co103)) (fun _ h_ => h_.1))) hb); have n2_ := Aside0.mk (Kd.R_below (by (with_reducible repeat (first | apply Kd.R_alloc | apply Kd.R_drewN | apply Kd.R_drew)); exact (Kd.R_mono (Kd.R_far (p := ⟨gb604, 2, none⟩) (Kd.R_far (p := ⟨gb604, 1, none⟩) (Kd.R_far (p := ⟨gb604, 0, none⟩) (Kd.R_types HO599.out BK604.out (by decide)) (fun _ hk => hk.2) (.bool t596)) (fun _ hk => hk.2) (.slice Ao102 t597.length co102)) (fun _ hk => hk.2) (.slice Ao103 t600.length co103)) (fun _ h_ => h_.1))) hb); have n3_ := Aside0.mk (Kd.R_below (by (with_reducible repeat (first | apply Kd.R_alloc | apply Kd.R_drewN | apply Kd.R_drew)); exact (Kd.R_mono (Kd.R_far (p := ⟨gb604, 2, none⟩) (Kd.R_far (p := ⟨gb604, 1, none⟩) (Kd.R_far (p := ⟨gb604, 0, none⟩) (Kd.R_types HO602.out BK604.out (by decide)) (fun _ hk => hk.2) (.bool t596)) (fun _ hk => hk.2) (.slice Ao102 t597.length co102)) (fun _ hk => hk.2) (.slice Ao103 t600.length co103)) (fun _ h_ => h_.1))) hb); have n4_ := Aside0.mk (blk_below (g := gb557) (o := .cells #[.bool a1_0, .slice A1_1 l1_1.length c1_1, .slice A1_2 l1_2.length c1_2] 25 (0, 0)) (by (with_reducible repeat (first | refine blk_drewN ?_ _ | refine blk_drew ?_ | refine blk_alloc ?_ _)); refine blk_far ?_ NB557_604.out _; (with_reducible repeat (first | refine blk_drewN ?_ _ | refine blk_drew ?_ | refine blk_alloc ?_ _)); refine blk_far ?_ NB557_604.out _; (with_reducible repeat (first | refine blk_drewN ?_ _ | refine blk_drew ?_ | refine blk_alloc ?_ _)); refine blk_far ?_ NB557_604.out _; (with_reducible repeat (first | refine blk_drewN ?_ _ | refine blk_drew ?_ | refine blk_alloc ?_ _)); exact BK557.out) hb); have n5_ := Aside0.mk (blk_below (g := gb581) (o := .cells #[.bool t573, .slice Ao49 t574.length co49, .slice Ao50 t577.length co50] 25 (0, 0)) (by (with_reducible repeat (first | refine blk_drewN ?_ _ | refine blk_drew ?_ | refine blk_alloc ?_ _)); refine blk_far ?_ NB581_604.out _; (with_reducible repeat (first | refine blk_drewN ?_ _ | refine blk_drew ?_ | refine blk_alloc ?_ _)); refine blk_far ?_ NB581_604.out _; (with_reducible repeat (first | refine blk_drewN ?_ _ | refine blk_drew ?_ | refine blk_alloc ?_ _)); refine blk_far ?_ NB581_604.out _; (with_reducible repeat (first | refine blk_drewN ?_ _ | refine blk_drew ?_ | refine blk_alloc ?_ _)); exact BK581.out) hb); have n6_ := Aside0.mk (blk_below (g := gb604) (o := .cells #[.bool t596, .slice Ao102 t597.length co102, .slice Ao103 t600.length co103] 25 (0, 0)) (by (with_reducible repeat (first | refine blk_drewN ?_ _ | refine blk_drew ?_ | refine blk_alloc ?_ _)); refine blk_put (cs := #[.bool t596, .slice Ao102 t597.length co102, .slice none 0 0]) ?_ 2 _ rfl; (with_reducible repeat (first | refine blk_drewN ?_ _ | refine blk_drew ?_ | refine blk_alloc ?_ _)); refine blk_put (cs := #[.bool t596, .slice none 0 0, .slice none 0 0]) ?_ 1 _ rfl; (with_reducible repeat (first | refine blk_drewN ?_ _ | refine blk_drew ?_ | refine blk_alloc ?_ _)); refine blk_put (cs := #[.bool false, .slice none 0 0, .slice none 0 0]) ?_ 0 _ rfl; (with_reducible repeat (first | refine blk_drewN ?_ _ | refine blk_drew ?_ | refine blk_alloc ?_ _)); exact BK604.out) hb); have n7_ := Aside0.mk (below_step (by repeat (first | (with_reducible first | exact HB.out | apply below_alloc | apply pw_below_drewN | apply below_drew1 | refine below_set ?_ GE557.out | refine below_set ?_ GE581.out | refine below_set ?_ GE604.out) | exact HB.out)) hb); clear HO_582001; clear HO_582002; clear HO599; clear HO602; clear BK557; clear BK581; clear BK604; clear HB; have HO_582001 := n0_; have HO_582002 := n1_; have HO599 := n2_; have HO602 := n3_; have BK557 := n4_; have BK581 := n5_; have BK604 := n6_; have HB := n7_; clear n0_ n1_ n2_ n3_ n4_ n5_ n6_ n7_; (try clear hb); (try clear hb2); (try clear hk); (try clear hi)))
                            go_ret
                            exact ⟨by first | rfl | (simp [errW_none, errW_some] <;> rfl) | (simp [*, errW_none, errW_some] <;> rfl), by repeat (first | (with_reducible first | exact HB.out | apply below_alloc | apply pw_below_drewN | apply below_drew1 | refine below_set ?_ GE557.out | refine below_set ?_ GE581.out | refine below_set ?_ GE604.out) | exact HB.out)⟩

end Go.Proofs.YtpncflaoikeidaaGreatDoor.P
namespace Go.Proofs.YtpncflaoikeidaaGreatDoor.H
open Go.RowKit Go.Lib Go.Proofs.YtpncflaoikeidaaGreatDoorW.PrintWords Go.Proofs.YtpncflaoikeidaaGreatDoorW.PrintLast Go.Proofs.YtpncflaoikeidaaGreatDoorW.PrintMore Go.Proofs.YtpncflaoikeidaaGreatDoor.P
theorem PR_ok {l : List UInt8} (h : (PR l).2 = 0) : ∃ g a b, (PR l).1 = redN g a b ∧ ¬ big a = true ∧ ¬ big b = true := by
  unfold PR at h ⊢
  split
  · rename_i h1
    rw [if_pos h1] at h
    split
    · rename_i h2; rw [if_pos h2] at h; cases h
    · rename_i h2
      rw [if_neg h2] at h
      rw [Bool.or_eq_true] at h2
      split
      · exact ⟨_, _, _, rfl, fun hc => h2 (.inl hc), fun hc => h2 (.inr hc)⟩
      · rename_i h3; rw [if_neg h3] at h; cases h
  · rename_i h1; rw [if_neg h1] at h; cases h
theorem red_limbs {m : Nat} (g : Bool) {a b : Nat} (ha : (limbs a).length ≤ m) (hb : (limbs b).length ≤ m) (hm : 0 < m) : (limbs (redN g a b).2.1).length ≤ m ∧ (limbs (redN g a b).2.2).length ≤ m := by
  obtain ⟨q1, q2⟩ := redN_le g a b
  have p1 := limbs_mono q1
  have p2 := limbs_mono q2
  refine ⟨by omega, ?_⟩
  rcases Nat.le_total b 1 with h | h
  · rw [Nat.max_eq_right h] at p2
    have := limbs_length_le 1 1 (by decide)
    omega
  · rw [Nat.max_eq_left h] at p2; omega
theorem short_notbig {n : Nat} (h : (limbs n).length ≤ 32) : big n = false := by
  have h1 := mt (big_len n).1 (by omega)
  simpa using h1
theorem PN_dec (n : Nat) : PN (decDigits n) = if big n = true then (0, 14) else (n, 0) := by
  unfold PN; rw [if_pos (natB_dec n), (dec_spec n).2.1]
theorem PN_back {l : List UInt8} (h : (PN l).2 = 0) : decDigits (PN l).1 = l ∧ (limbs (PN l).1).length ≤ 32 := by
  unfold PN at h ⊢
  by_cases h1 : natB l = true
  · rw [if_pos h1] at h ⊢
    by_cases h2 : big (dv l) = true
    · rw [if_pos h2] at h; cases h
    · rw [if_neg h2]
      exact ⟨dec_dv h1, Nat.le_of_not_lt fun hc => h2 ((big_len _).2 hc)⟩
  · rw [if_neg h1] at h; cases h
theorem back_j3 (s : ByteArray) (k : Nat) : fluxionlaw04_DigitsBack.j3 (k + 2) s false = some true := by
  have kn : fluxionlaw04_known.f (k + 1) = some true := known04_f k
  have hs := size_len s
  rw [fluxionlaw04_DigitsBack.j3, if_neg (by decide), kn]
  by_cases h : 120 < s.size
  · rw [if_pos (by omega)]; rfl
  · rw [if_neg (by omega), parseRat_f k s (by omega), Option.bind_some]
    simp only
    by_cases he : (PR s.data.toList).2 = 0
    · obtain ⟨g, a, b, hx, ha, hb⟩ := PR_ok he
      have hid := redN_idem g a b
      rw [← hx] at hid
      obtain ⟨l1, l2⟩ := red_limbs g (m := 32) (Nat.le_of_not_lt fun hc => ha ((big_len _).2 hc)) (Nat.le_of_not_lt fun hc => hb ((big_len _).2 hc)) (by decide)
      rw [← hx] at l1 l2
      rw [if_pos he, digRat_f k _ (okl_limbs _) (okl_limbs _) (by omega) (by omega), Option.bind_some, nval_limbs, nval_limbs, hid, bytes_list, toList_data, ratT_PR he, if_pos rfl]
      rfl
    · rw [if_neg he]; rfl
theorem back_j2 (s : ByteArray) (k : Nat) : fluxionlaw04_DigitsBack.j2 (k + 3) s false = some true := by
  rw [fluxionlaw04_DigitsBack.j2, if_neg (by decide), parseNat_f, Option.bind_some]
  simp only
  by_cases he : (PN s.data.toList).2 = 0
  · obtain ⟨h1, h2⟩ := PN_back he
    rw [if_pos he, digN_f _ (by omega), Option.bind_some, bytes_list, toList_data, h1]
    rw [show (s.data.toList != s.data.toList) = false by simp]
    exact back_j3 s k
  · rw [if_neg he]; exact back_j3 s k
theorem back_j1 (s : ByteArray) (g : Bool) {l1 l2 : List Int} (o1 : okl l1) (o2 : okl l2) (n1 : l1.length ≤ 8) (n2 : l2.length ≤ 8) (k : Nat) (hk : 5002600010 + nval l2 ≤ k) : fluxionlaw04_DigitsBack.j1 (k + 4) s g l1 l2 = some true := by
  obtain ⟨q1, q2⟩ := red_len g o1 o2 (m := 9) (by omega) (by omega) (by decide)
  have hp := PR_ratT (redN_idem g (nval l1) (nval l2)) (short_notbig (by omega)) (short_notbig (by omega))
  have pr := parseRat_f (k + 2) ⟨(ratT (redN g (nval l1) (nval l2))).toArray⟩ (by
    rw [bytes_size]
    have d1 := decN_size (n := (redN g (nval l1) (nval l2)).2.1) (by omega)
    have d2 := decN_size (n := (redN g (nval l1) (nval l2)).2.2) (by omega)
    unfold ratT
    rw [List.length_append, List.length_append]
    split <;> split <;> simp <;> omega)
  rw [bytes_data, hp] at pr
  have hi := refIsR_f (redN g (nval l1) (nval l2)).1 (redN g (nval l1) (nval l2)).2.1 (redN g (nval l1) (nval l2)).2.2 (k + 3) (by omega) (by omega) (by omega)
  rw [fluxionlaw04_DigitsBack.j1, digRat_f (k + 2) g o1 o2 (by omega) (by omega), Option.bind_some, pr, Option.bind_some]
  simp only
  rw [if_pos trivial, refOf_f g o1 o2 (by omega) (by omega) (by omega), Option.bind_some]
  simp only
  rw [hi, Option.bind_some, Bool.not_true]
  exact back_j2 s k
theorem back_law (s : ByteArray) (g : Bool) {l0 l1 l2 : List Int} (o0 : okl l0) (o1 : okl l1) (o2 : okl l2) (k : Nat) (hk : 5002600010 + nval l2 ≤ k) : fluxionlaw04_DigitsBack.f (k + 5) l0 g l1 l2 s = some true := by
  have kn : fluxionlaw04_known.f (k + 4) = some true := known04_f (k + 3)
  have big8 : fluxionlaw04_DigitsBack.j0 (k + 5) l0 s true g l1 l2 = some true := by
    rw [fluxionlaw04_DigitsBack.j0, if_pos rfl, kn]; rfl
  unfold fluxionlaw04_DigitsBack.f
  by_cases h0 : 40 < l0.length
  · rw [if_pos (by omega), big8]
  rw [if_neg (by omega)]
  by_cases h1 : 8 < l1.length
  · rw [if_pos (by omega), big8]
  rw [if_neg (by omega)]
  by_cases h2 : 8 < l2.length
  · rw [decide_eq_true (show ((l2.length : Int) > 8) by omega), big8]
  rw [decide_eq_false (show ¬ ((l2.length : Int) > 8) by omega)]
  have j1 := back_j1 s g o1 o2 (by omega) (by omega) k hk
  have dn : digits_Nat.f l0 = some ⟨(decDigits (nval l0)).toArray⟩ := by unfold digits_Nat.f; rw [if_pos ⟨o0, by omega⟩]
  have pn := parseNat_f ⟨(decDigits (nval l0)).toArray⟩
  rw [bytes_data, PN_dec] at pn
  have hof := of_f o0 (by omega) (k := k + 4) (by omega)
  have hlen := c4_nval_len o0
  have hlt := nval_lt o0
  rw [pw32] at hlt
  have hb := refBits_f (nval l0) (32 * l0.length) (k + 4) hlt (by clear hlt; omega) (by clear hlt; omega) (by clear hlt; omega)
  clear hlt
  rw [fluxionlaw04_DigitsBack.j0, if_neg (by decide), dn, Option.bind_some, pn, Option.bind_some, hof, Option.bind_some, hb, Option.bind_some]
  by_cases hB : 1024 < nbits (nval l0)
  · have : big (nval l0) = true := decide_eq_true hB
    have e : (if (true = true) then ((0 : Nat), (14 : Int)) else (nval l0, 0)) = (0, 14) := if_pos rfl
    rw [if_pos (by omega), this, e, limbs_zero]
    simp only
    rw [if_pos trivial, if_pos (by rfl), j1]
  · have hbf : big (nval l0) = false := decide_eq_false hB
    have e : (if (false = true) then ((0 : Nat), (14 : Int)) else (nval l0, 0)) = (nval l0, 0) := if_neg (by decide)
    rw [if_neg (by omega), hbf, e]
    simp only
    have hl := limbs_trim_le o0
    rw [if_pos trivial, Option.bind_some, refIs_f _ _ (by omega) (by omega), Option.bind_some, if_pos rfl, j1]
end Go.Proofs.YtpncflaoikeidaaGreatDoor.H
