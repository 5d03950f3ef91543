/-
  PROVED: the law DigitsUnlike of this program returns true for every two rationals, and leaves them as they were; the variables that the row lists are tied to the program's text. Conditions: none beside the card's own.
-/
import Derived.Test.YtpncflaoikeidaaGreatDoorTie
import Derived.Test.YtpncflaoikeidaaGreatDoorCards
import Derived.SevenTiedAt
import Derived.Test.YtpncflaoikeidaaGreatDoorZU6
namespace Go.Proofs.YtpncflaoikeidaaGreatDoor.digitsUnlike
open Go.ChangeShapes Go.WideShapes Go.ChangeAt Go.RowKit Go.Joins
open Go.Proofs.YtpncflaoikeidaaGreatDoor.R
set_option maxRecDepth 100000 in
theorem lifted (os : Os) (started : os.Started) (X : Type) (enc : TypeId × Value → X) (F : Stop.Interp) :
    ReturnsInHanded {} Tryz.checked os 6 .any ((OpenSpec.ofChange Rows.digitsUnlikeSpec).preRow enc Tryz.prog Tryz.f6 Rows.digitsUnlikeRow.domain false Rows.digitsUnlikeRow.laid) (((OpenSpec.ofChange Rows.digitsUnlikeSpec).at F).post enc Tryz.prog Tryz.f6 false true false false) := by
  refine returnsInHanded_of_row (C := Tryz.checked) (s := OpenSpec.ofChange Rows.digitsUnlikeSpec) own started (by kernel_rfl) Tryz.func6
    (ChangeSpec.witness_shaped (enc := enc) (C := Tryz.checked) (os := os) (s := Rows.digitsUnlikeSpec) (X := fun w _ => laidMetH Tryz.prog Rows.digitsUnlikeRow.laid w) false (World.laidAll Tryz.prog os Rows.digitsUnlikeRow.laid) #[.agg #[.bool false, .slice none 0 0, .slice none 0 0], .agg #[.bool false, .slice none 0 0, .slice none 0 0]] 8 (World.laidAll_os _ _ _)
      (World.shaped_of_ZipB (by kernel_rfl) (by kernel_rfl)) (by kernel_rfl) (by kernel_rfl) (by kernel_rfl)
      (by rw [MakeChecks.laidMetH_plain _ _ _ (by kernel_rfl)]; exact laidMet_laidAll _ (by kernel_rfl) (by kernel_rfl))) ?_
  intro W base args ds gs before hval0 hW _ _ _ hL0 hsh _
  have hL : laidMet Tryz.prog Rows.digitsUnlikeRow.laid W := by rw [← MakeChecks.laidMetH_plain _ _ _ (by kernel_rfl)]; exact hL0
  have hT := laidT_of hL (.tail _ (.tail _ (.head _))) (.tail _ (.tail _ (.tail _ (.tail _ (.head _))))) (.tail _ (.tail _ (.tail _ (.head _)))) hsh
  have hval : ∀ (j : Nat) t v, Tryz.f6.params[j]? = some t → args[j]? = some v → Value.okWide Tryz.prog W .any base t v := hval0
  have hW' := hW
  obtain ⟨p, q, hA0, hV, rfl, hfz, hnd⟩ := hW
  have hA : DataW.TrodAll enc Tryz.prog W 0 (fun _ => true) true Tryz.f6.params.toList args.toList ds p := hA0
  rw [Tryz.params6] at hA hval
  obtain ⟨v0, vs0, d0, ds0, p0, q0, hargs, rfl, rfl, h0, r0⟩ := trodAll_cons hA
  obtain ⟨v1, vs1, d1, ds1, p1, q1, rfl, rfl, rfl, h1, r1⟩ := trodAll_cons r0
  obtain ⟨rfl, rfl, rfl⟩ := trodAll_nil r1
  obtain rfl : args = #[v0, v1] := by cases args; simp_all
  obtain ⟨rfl, rfl⟩ := trodVars_none hV
  have k0 := h0
  have k1 := h1
  have lt0 : ∀ x ∈ p0, x.block < W.heap.size := by obtain ⟨m, hm⟩ := k0; exact DataW.trod_lt m _ _ _ hm
  have lt1 : ∀ x ∈ p1, x.block < W.heap.size := by obtain ⟨m, hm⟩ := k1; exact DataW.trod_lt m _ _ _ hm
  obtain ⟨g, A1, A2, c1, c2, l1, l2, rfl, rr1, z1, o1, rr2, z2, o2⟩ := open_rat (hval 0 25 v0 rfl rfl) h0
  obtain ⟨g', B1, B2, e1, e2, m1, m2, rfl, ss1, y1, u1, ss2, y2, u2⟩ := open_rat (hval 1 25 v1 rfl rfl) h1
  clear hA0 hval0 hL0 hL hsh hargs
  refine (P.fluxionlaw04_DigitsUnlike.calls _ g A1 c1 l1 A2 c2 l2 g' B1 e1 m1 B2 e2 m2 true W rr1 z1 rr2 z2 ss1 y1 ss2 y2 (YtpncflaoikeidaaGreatDoor.H.unlike_law g g' o1 o2 u1 u2 _ (Nat.le_refl _)) hT).mono fun e W' ⟨he, bel⟩ => ?_
  subst he
  exact ⟨_, rfl, _, _, _, [], _, [], hW', trodAll_mk1 (shut_bool Tryz.underlying4 _), (trodAll_cons_mk (Below.trod laidOut (by kernel_rfl) (of_decide_eq_true (by kernel_rfl)) k0 bel lt0) (trodAll_cons_mk (Below.trod laidOut (by kernel_rfl) (of_decide_eq_true (by kernel_rfl)) k1 bel lt1) trodAll_mk0)), rfl, bel.frame _, fun h => by cases h⟩
theorem over : Rows.DigitsUnlikeSaid :=
  OpenClaim.holds_of_cond 6 Tryz.f6 rfl rfl rfl rfl rfl rfl rfl ⟨rfl, rfl, rfl, rfl, rfl⟩ rfl rfl rfl rfl rfl (by kernel_rfl) Tryz.func6 (by kernel_rfl)
    (of_decide_eq_true (by kernel_rfl)) (by unfold Func.isWrapper; first | (rw [if_pos (by decide +kernel)]; kernel_rfl) | (rw [if_neg (by decide +kernel)]; exact ⟨rfl, rfl⟩))
    (fun os started X enc _ F0 => by rw [OpenClaim.pre_eq_preRow]; exact lifted os started X enc F0)
end Go.Proofs.YtpncflaoikeidaaGreatDoor.digitsUnlike
namespace Go.Proofs.YtpncflaoikeidaaGreatDoor
/-- the card -/
theorem digitsUnlike_card : Rows.DigitsUnlikeCardSaid :=
  Claim7.holds_tied_plain_at .later [] [.data, .data, .data, .sentinel, .sentinel] true (true, "b196da40c08f70e33603c28a60ff85ba8cf6bb1f9fdb4b9f9080038ea40ba9a8") true
    digitsUnlike.over (fun _ h => by cases h) (by kernel_rfl) (fun _ h => by cases h) digitsUnlike_row_tie rfl ⟨rfl, rfl⟩ (by kernel_rfl) rfl
    (fun f fn hf hfn => by
      obtain rfl : f = 6 := Option.some.inj ((show Tryz.prog.funcNamed "fluxion/fluxionlaw04.DigitsUnlike" = some 6 by kernel_rfl).symm.trans hf) |>.symm
      obtain rfl : fn = Tryz.f6 := (Option.some.inj (Tryz.func6.symm.trans hfn)).symm
      exact ⟨by kernel_rfl, fun j t ht => by
        rw [Tryz.params6] at ht
        have hm : t ∈ [25, 25] := by simpa using Array.mem_of_getElem? ht
        have hall : ([25, 25].all fun u => !Tryz.prog.wantsStandIn u) = true := by kernel_rfl
        exact (show Tryz.prog.wantsStandIn t = false by simpa using List.all_eq_true.1 hall t hm)⟩)
    (by kernel_rfl)
#print axioms digitsUnlike_card
end Go.Proofs.YtpncflaoikeidaaGreatDoor
