/-
  PROVED: the law DigitsTexts of this program returns true for every text of bulk at most 1048576, and leaves it as it was; the variables that the row lists are tied to the program's text. Conditions: the second form's bound on the bulk, and the card's own.
-/
import Derived.Test.YtpncflaoikeidaaGreatDoorTie
import Derived.Test.YtpncflaoikeidaaGreatDoorCards
import Derived.SevenTiedAt
import Derived.Test.YtpncflaoikeidaaGreatDoorZT6
namespace Go.Proofs.YtpncflaoikeidaaGreatDoor.digitsTexts
open Go.ChangeShapes Go.WideShapes Go.ChangeAt Go.RowKit Go.Joins
open Go.Proofs.YtpncflaoikeidaaGreatDoor.R
theorem witness_ok (os : Os) : Input.okWideB Tryz.prog ((World.laidAll Tryz.prog os Rows.digitsTextsUptoRow.laid).forCall (fun _ _ => 0) ⟨#[], #[.string ByteArray.empty], []⟩) 4 ⟨#[], #[.string ByteArray.empty], []⟩ = true := by kernel_rfl
theorem witness_row (os : Os) {X : Type} (enc : TypeId × Value → X) :
    (Rows.OpenSpec.upto Rows.digitsTextsSpec).preRow enc Tryz.prog Tryz.f4 Rows.digitsTextsUptoRow.domain false Rows.digitsTextsUptoRow.laid ((World.laidAll Tryz.prog os Rows.digitsTextsUptoRow.laid).forCall (fun _ _ => 0) ⟨#[], #[.string ByteArray.empty], []⟩).memory #[.string ByteArray.empty] := by
  have hw : (DataW.whole enc Tryz.prog ((World.laidAll Tryz.prog os Rows.digitsTextsUptoRow.laid).forCall (fun _ _ => 0) ⟨#[], #[.string ByteArray.empty], []⟩).memory Tryz.f4.params.toList (Rows.OpenSpec.upto Rows.digitsTextsSpec).vars false #[Value.string ByteArray.empty].toList 8).map (fun x => (x.1, x.2.1)) = some ([.lit (.string [])], []) := by kernel_rfl
  obtain ⟨⟨x1, x2, x3⟩, hx, hx1⟩ := Option.map_eq_some_iff.1 hw
  simp only [Prod.mk.injEq] at hx1
  obtain ⟨rfl, rfl⟩ := hx1
  exact OpenSpec.preRow_of_cond 8 hx (by kernel_rfl) (fun k hk => by cases hk; rfl) (by kernel_rfl)
    (by rw [MakeChecks.laidMetH_plain _ _ _ (by kernel_rfl)]; exact laidMet_laidAll _ (by kernel_rfl) (by kernel_rfl))
set_option maxRecDepth 100000 in
theorem lifted (os : Os) (started : os.Started) (X : Type) (enc : TypeId × Value → X) (F : Stop.Interp) :
    ReturnsInHanded {} Tryz.checked os 4 .any ((Rows.OpenSpec.upto Rows.digitsTextsSpec).preRow enc Tryz.prog Tryz.f4 Rows.digitsTextsUptoRow.domain false Rows.digitsTextsUptoRow.laid) (((Rows.OpenSpec.upto Rows.digitsTextsSpec).at F).post enc Tryz.prog Tryz.f4 false true false false) := by
  refine returnsInHanded_of_row (C := Tryz.checked) (s := Rows.OpenSpec.upto Rows.digitsTextsSpec) own started (by kernel_rfl) Tryz.func4
    ⟨World.laidAll Tryz.prog os Rows.digitsTextsUptoRow.laid, fun _ _ => 0, ⟨#[], #[.string ByteArray.empty], []⟩, World.laidAll_os _ _ _, World.shaped_of_ZipB (by kernel_rfl) (by kernel_rfl), (Input.okWide_of_okWideB (base := 0) (witness_ok os)).1, (Input.okWide_of_okWideB (witness_ok os)).2, witness_row os enc, by
      simp only [Assume.holds]
      exact ⟨by simp, by simp, fun h => (by cases h), by simp, by simp⟩⟩ ?_
  intro W base args ds gs before hval0 hW _ hcond0 _ hL0 hsh _
  have hcond : Rows.uptoSmall X (ds ++ gs) = true := hcond0 _ rfl
  have hL : laidMet Tryz.prog Rows.digitsTextsUptoRow.laid W := by rw [← MakeChecks.laidMetH_plain _ _ _ (by kernel_rfl)]; exact hL0
  have hT := laidT_of hL (.tail _ (.tail _ (.head _))) (.tail _ (.tail _ (.tail _ (.tail _ (.head _))))) (.tail _ (.tail _ (.tail _ (.head _)))) hsh
  have hval : ∀ (j : Nat) t v, Tryz.f4.params[j]? = some t → args[j]? = some v → Value.okWide Tryz.prog W .any base t v := hval0
  have hW' := hW
  obtain ⟨p, q, hA0, hV, rfl, hfz, hnd⟩ := hW
  have hA : DataW.TrodAll enc Tryz.prog W 0 (fun _ => true) true Tryz.f4.params.toList args.toList ds p := hA0
  rw [Tryz.params4] at hA hval
  obtain ⟨v0, d0, rfl, rfl, h0⟩ := trodAll_one hA
  obtain ⟨rfl, rfl⟩ := trodVars_none hV
  obtain ⟨s, rfl, rfl, rfl, y0⟩ := Go.ChangeMaps.open_string Tryz.underlying9 (hval 0 9 v0 rfl rfl) h0
  have hz : s.size < 4294967281 := by
    have h : Rows.uptoBulkAll ([.lit (.string s.data.toList)] ++ [] : List (DataW X)) ≤ 1048576 := of_decide_eq_true hcond
    simp only [List.append_nil, Rows.uptoBulkAll, Rows.uptoBulk, Array.length_toList] at h
    have e : s.data.size = s.size := rfl
    omega
  clear hA0 hval0 hL0 hL hsh hcond hcond0
  obtain ⟨k, hk⟩ := YtpncflaoikeidaaGreatDoor.H.texts_law s hz
  refine (P.fluxionlaw04_DigitsTexts.calls k s true W hk hT).mono fun e W' ⟨he, bel⟩ => ?_
  subst he
  exact ⟨_, rfl, _, _, _, [], _, [], hW', trodAll_mk1 (shut_bool Tryz.underlying4 _), trodAll_mk1 (Go.ChangeMaps.shut_string Tryz.underlying9 y0), rfl, bel.frame _, fun h => by cases h⟩
theorem over : Rows.DigitsTextsUptoSaid :=
  OpenClaim.holds_of_cond 4 Tryz.f4 rfl rfl rfl rfl rfl rfl rfl ⟨rfl, rfl, rfl, rfl, rfl⟩ rfl rfl rfl rfl rfl (by kernel_rfl) Tryz.func4 (by kernel_rfl)
    (of_decide_eq_true (by kernel_rfl)) (by unfold Func.isWrapper; first | (rw [if_pos (by decide +kernel)]; kernel_rfl) | (rw [if_neg (by decide +kernel)]; exact ⟨rfl, rfl⟩))
    (fun os started X enc _ F0 => by rw [OpenClaim.pre_eq_preRow]; exact lifted os started X enc F0)
end Go.Proofs.YtpncflaoikeidaaGreatDoor.digitsTexts
namespace Go.Proofs.YtpncflaoikeidaaGreatDoor
/-- the card -/
theorem digitsTextsUpto_card : Rows.DigitsTextsUptoCardSaid :=
  Claim7.holds_tied_plain_at .later [] [.data, .data, .data, .sentinel, .sentinel] true (true, "b196da40c08f70e33603c28a60ff85ba8cf6bb1f9fdb4b9f9080038ea40ba9a8") true
    digitsTexts.over (fun _ h => by cases h) (by kernel_rfl) (fun _ h => by cases h) digitsTextsUpto_row_tie rfl ⟨rfl, rfl⟩ (by kernel_rfl) rfl
    (fun f fn hf hfn => by
      obtain rfl : f = 4 := Option.some.inj ((show Tryz.prog.funcNamed "fluxion/fluxionlaw04.DigitsTexts" = some 4 by kernel_rfl).symm.trans hf) |>.symm
      obtain rfl : fn = Tryz.f4 := (Option.some.inj (Tryz.func4.symm.trans hfn)).symm
      exact ⟨by kernel_rfl, fun j t ht => by
        rw [Tryz.params4] at ht
        have hm : t ∈ [9] := by simpa using Array.mem_of_getElem? ht
        have hall : ([9].all fun u => !Tryz.prog.wantsStandIn u) = true := by kernel_rfl
        exact (show Tryz.prog.wantsStandIn t = false by simpa using List.all_eq_true.1 hall t hm)⟩)
    (by kernel_rfl)
#print axioms digitsTextsUpto_card
end Go.Proofs.YtpncflaoikeidaaGreatDoor
