/-
  The tied card of 'agoralaw12.ActFields' is proved: for every input the law returns true, and each argument reads afterwards as it read before.
  Conditions: those of the card's own row alone (the listed package variables hold what the program's text lays in them, which the given tie shows).
-/
import Derived.Test.YtmkjbdimmgkfdaaDoorMe2
import Derived.Test.YtmkjbdimmgkfdaaDoorCards
import Derived.Test.YtmkjbdimmgkfdaaDoorTie
namespace Go.Proofs.YtmkjbdimmgkfdaaDoor
open Go Go.ChangeShapes Go.WideShapes Go.RowKit Go.Proofs.YtmkjbdimmgkfdaaDoor.Ax
set_option linter.unusedVariables false
set_option maxRecDepth 100000

theorem rep_string (W : World) (s : ByteArray) : Rep (G0 W) W (.str s.data.toList) (.string s) := by
  show Value.string s = bstr s.data.toList
  unfold bstr
  rw [Array.toArray_toList]
theorem readable_actFields : ∀ t ∈ Tryd.f6.params.toList, Tryd.prog.readableRec t = true ∧ t < Tryd.prog.types.size := by
  have h : (Tryd.f6.params.toList.all fun t => Tryd.prog.readableRec t && decide (t < Tryd.prog.types.size)) = true := by kernel_rfl
  intro t ht
  have := List.all_eq_true.1 h t ht
  simpa using this
theorem lifted_actFields (os : Os) (started : os.Started) (H : Type) (enc : TypeId × Value → H) :
    ReturnsInHanded {} Tryd.checked os 6 .any (fun w args => (Rows.actFieldsSpec.pre enc Tryd.prog Tryd.f6 [] false w args ∧ laidMetH Tryd.prog seatLaid w) ∧ sizedMet enc Tryd.prog Tryd.f6 (OpenSpec.ofChange Rows.actFieldsSpec) false w args)
      (Rows.actFieldsSpec.post enc Tryd.prog Tryd.f6 false true false false) := by
  refine returnsInHanded_of_change_and (C := Tryd.checked) (X := fun w _ => laidMetH Tryd.prog seatLaid w) (fun _ _ _ hh h => h.of_heap hh) ownKnobs started (by kernel_rfl) Tryd.func6
    (ChangeSpec.witness_shaped (enc := enc) (C := Tryd.checked) (os := os) (X := fun w _ => laidMetH Tryd.prog seatLaid w) false (wit os) #[.agg #[.string ⟨#[]⟩, .int .i64 0, .string ⟨#[]⟩, .int .i64 0, .int .i64 0, .string ⟨#[]⟩, .string ⟨#[]⟩, .int .i64 0, .string ⟨#[]⟩, .slice none 0 0, .string ⟨#[]⟩, .string ⟨#[]⟩, .string ⟨#[]⟩, .string ⟨#[]⟩, .int .i64 0, .slice none 0 0, .int .i64 0, .int .i64 0, .int .i64 0, .int .i64 0]] 8 (wit_os os) (wit_shaped os _) (by kernel_rfl) (by kernel_rfl) (by kernel_rfl) (wit_met os _)) ?_
  intro W base args ds gs before hval0 hW _ hwt hL _
  have hval : ∀ (j : Nat) t v, Tryd.f6.params[j]? = some t → args[j]? = some v → Value.okWide Tryd.prog W .any base t v := hval0
  have hW' := hW
  obtain ⟨p, q, hA0, hV, rfl, hfz, hnd⟩ := hW
  have hA : DataW.TrodAll enc Tryd.prog W 0 (fun _ => true) true Tryd.f6.params.toList args.toList ds p := hA0
  rw [Tryd.params6] at hA hval
  obtain ⟨v0, d0, rfl, rfl, h0⟩ := trodAll_one hA
  obtain ⟨rfl, rfl⟩ := trodVars_none hV
  have ht : Tryd.f6.params.toList ++ Rows.actFieldsSpec.plain.varTypes Tryd.prog = [29] := by rw [Tryd.params6]; rfl
  have hwt' : (DataW.weightsEach Tryd.prog (Tryd.f6.params.toList ++ Rows.actFieldsSpec.plain.varTypes Tryd.prog) ([d0] ++ [])).all (· ≤ reachBytes) = true := hwt
  rw [ht] at hwt'
  have hws : ∀ m ∈ DataW.weightsEach Tryd.prog [29] [d0], m ≤ reachBytes := fun m hm => by simpa using List.all_eq_true.1 hwt' m (by simpa using hm)
  simp only [DataW.weightsEach, List.mem_append] at hws
  obtain ⟨a0, r0, o0⟩ := open_struct Tryd.underlying29 ty_act (hval 0 29 v0 rfl rfl) h0 (fun m hm => hws m (.inl hm))
  obtain ⟨f0, n0⟩ := act_ok a0 o0
  have hrep : RepL (G0 W) W [ActT.toAV a0] [v0] := by
    simp only [RepL]
    exact ⟨_, [], rfl, r0, rfl⟩
  refine (run_law (W := W) (ok_lFields a0 f0 n0) (ginv_of_laid hL) hrep).mono fun e W' ⟨he, hb⟩ => ?_
  exact ⟨_, he, post_below laidOuts readable_actFields rfl hW' rfl (show Tryd.f6.resultTypes = #[4] by kernel_rfl) Tryd.underlying4 hb⟩
theorem actFields_said : Rows.ActFieldsSaid :=
  OpenClaim.holds_of_wide 6 Tryd.f6 rfl rfl rfl rfl rfl rfl rfl ⟨rfl, rfl, rfl, rfl, rfl⟩ rfl rfl rfl rfl rfl (by kernel_rfl) Tryd.func6 (by kernel_rfl)
    (of_decide_eq_true (by kernel_rfl)) (by unfold Func.isWrapper; first | (rw [if_pos (by decide +kernel)]; kernel_rfl) | (rw [if_neg (by decide +kernel)]; exact ⟨rfl, rfl⟩))
    (fun os started H enc _ => lifted_actFields os started H enc)
theorem actFields_holds : Rows.ActFieldsCardSaid :=
  Claim7.holds_tied_plain_at .later [] [.data, .funcs, .pinned] true (true, "200f15eed518c1482771695cce7f1241006d2c22c06276f3e08b58a3df64c2cd") false actFields_said (fun _ h => by cases h) (by kernel_rfl) (fun _ h => by cases h) actFields_row_tie rfl ⟨rfl, rfl⟩ (by kernel_rfl) rfl
    (fun f fn hf hfn => by
      obtain rfl : f = 6 := Option.some.inj ((show Tryd.prog.funcNamed "agora/agoralaw12.ActFields" = some 6 by kernel_rfl).symm.trans hf) |>.symm
      obtain rfl : fn = Tryd.f6 := (Option.some.inj (Tryd.func6.symm.trans hfn)).symm
      exact ⟨by kernel_rfl, fun j t ht => by
        rw [Tryd.params6] at ht
        have hm : t ∈ [29] := by have := Array.mem_of_getElem? ht; simp at this ⊢; omega
        have hall : ([29].all fun u => !Tryd.prog.wantsStandIn u) = true := by kernel_rfl
        exact (show Tryd.prog.wantsStandIn t = false by simpa using List.all_eq_true.1 hall t hm)⟩)
    (by kernel_rfl)
end Go.Proofs.YtmkjbdimmgkfdaaDoor
