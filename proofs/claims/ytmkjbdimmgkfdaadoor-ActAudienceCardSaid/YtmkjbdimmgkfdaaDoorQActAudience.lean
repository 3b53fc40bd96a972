/-
  The tied card of 'agoralaw12.ActAudience' is proved: for every input the law returns true, and each argument reads afterwards as it read before.
  Conditions: those of the card's own row alone (the listed package variables hold what the program's text lays in them, which the given tie shows).
-/
import Derived.Test.YtmkjbdimmgkfdaaDoorMe2
import Derived.Test.YtmkjbdimmgkfdaaDoorCards
import Derived.Test.YtmkjbdimmgkfdaaDoorTie
namespace Go.Proofs.YtmkjbdimmgkfdaaDoor
open Go Go.ChangeShapes Go.WideShapes Go.RowKit Go.Proofs.YtmkjbdimmgkfdaaDoor.Ax
set_option linter.unusedVariables false
set_option maxRecDepth 100000

theorem rep_string (W : World) (s : ByteArray) : Rep (G0 W) W (.str s.data.toList) (.string s) := by
  show Value.string s = bstr s.data.toList
  unfold bstr
  rw [Array.toArray_toList]
theorem readable_actAudience : ∀ t ∈ Tryd.f7.params.toList, Tryd.prog.readableRec t = true ∧ t < Tryd.prog.types.size := by
  have h : (Tryd.f7.params.toList.all fun t => Tryd.prog.readableRec t && decide (t < Tryd.prog.types.size)) = true := by kernel_rfl
  intro t ht
  have := List.all_eq_true.1 h t ht
  simpa using this
theorem lifted_actAudience (os : Os) (started : os.Started) (H : Type) (enc : TypeId × Value → H) :
    ReturnsInHanded {} Tryd.checked os 7 .any (fun w args => (Rows.actAudienceSpec.pre enc Tryd.prog Tryd.f7 [] false w args ∧ laidMetH Tryd.prog seatLaid w) ∧ sizedMet enc Tryd.prog Tryd.f7 (OpenSpec.ofChange Rows.actAudienceSpec) false w args)
      (Rows.actAudienceSpec.post enc Tryd.prog Tryd.f7 false true false false) := by
  refine returnsInHanded_of_change_and (C := Tryd.checked) (X := fun w _ => laidMetH Tryd.prog seatLaid w) (fun _ _ _ hh h => h.of_heap hh) ownKnobs started (by kernel_rfl) Tryd.func7
    (ChangeSpec.witness_shaped (enc := enc) (C := Tryd.checked) (os := os) (X := fun w _ => laidMetH Tryd.prog seatLaid w) false (wit os) #[.agg #[.string ⟨#[]⟩, .int .i64 0, .string ⟨#[]⟩, .int .i64 0, .int .i64 0, .string ⟨#[]⟩, .string ⟨#[]⟩, .int .i64 0, .string ⟨#[]⟩, .slice none 0 0, .string ⟨#[]⟩, .string ⟨#[]⟩, .string ⟨#[]⟩, .string ⟨#[]⟩, .int .i64 0, .slice none 0 0, .int .i64 0, .int .i64 0, .int .i64 0, .int .i64 0], .int .i64 0, .string ⟨#[]⟩, .string ⟨#[]⟩] 8 (wit_os os) (wit_shaped os _) (by kernel_rfl) (by kernel_rfl) (by kernel_rfl) (wit_met os _)) ?_
  intro W base args ds gs before hval0 hW _ hwt hL _
  have hval : ∀ (j : Nat) t v, Tryd.f7.params[j]? = some t → args[j]? = some v → Value.okWide Tryd.prog W .any base t v := hval0
  have hW' := hW
  obtain ⟨p, q, hA0, hV, rfl, hfz, hnd⟩ := hW
  have hA : DataW.TrodAll enc Tryd.prog W 0 (fun _ => true) true Tryd.f7.params.toList args.toList ds p := hA0
  rw [Tryd.params7] at hA hval
  obtain ⟨v0, vs, d0, ds0, p0, q0, hargs, rfl, rfl, h0, hA⟩ := trodAll_cons hA
  obtain ⟨v1, vs1, d1, ds1, p1, q1, rfl, rfl, rfl, h1, hA⟩ := trodAll_cons hA
  obtain ⟨v2, vs2, d2, ds2, p2, q2, rfl, rfl, rfl, h2, hA⟩ := trodAll_cons hA
  obtain ⟨v3, vs3, d3, ds3, p3, q3, rfl, rfl, rfl, h3, hA⟩ := trodAll_cons hA
  obtain ⟨rfl, rfl, rfl⟩ := trodAll_nil hA
  obtain rfl : args = #[v0, v1, v2, v3] := by cases args; simp_all
  obtain ⟨rfl, rfl⟩ := trodVars_none hV
  have ht : Tryd.f7.params.toList ++ Rows.actAudienceSpec.plain.varTypes Tryd.prog = [29, 3, 9, 9] := by rw [Tryd.params7]; rfl
  have hwt' : (DataW.weightsEach Tryd.prog (Tryd.f7.params.toList ++ Rows.actAudienceSpec.plain.varTypes Tryd.prog) ([d0, d1, d2, d3] ++ [])).all (· ≤ reachBytes) = true := hwt
  rw [ht] at hwt'
  have hws : ∀ m ∈ DataW.weightsEach Tryd.prog [29, 3, 9, 9] [d0, d1, d2, d3], m ≤ reachBytes := fun m hm => by simpa using List.all_eq_true.1 hwt' m (by simpa using hm)
  simp only [DataW.weightsEach, List.mem_append] at hws
  obtain ⟨a0, r0, o0⟩ := open_struct Tryd.underlying29 ty_act (hval 0 29 v0 rfl rfl) h0 (fun m hm => hws m (.inl hm))
  obtain ⟨f0, n0⟩ := act_ok a0 o0
  obtain ⟨z1, rfl, _, _, w1⟩ := open_int Tryd.underlying3 (hval 1 3 v1 rfl rfl) h1
  obtain ⟨s2, rfl, _⟩ := ChangeMaps.open_string Tryd.underlying9 (hval 2 9 v2 rfl rfl) h2
  obtain ⟨s3, rfl, _⟩ := ChangeMaps.open_string Tryd.underlying9 (hval 3 9 v3 rfl rfl) h3
  have hrep : RepL (G0 W) W [ActT.toAV a0, .int .i64 z1, .str s2.data.toList, .str s3.data.toList] [v0, .int .i64 z1, .string s2, .string s3] := by
    simp only [RepL]
    exact ⟨_, [.int .i64 z1, .string s2, .string s3], rfl, r0, ⟨_, [.string s2, .string s3], rfl, rfl, ⟨_, [.string s3], rfl, (rep_string W s2), ⟨_, [], rfl, (rep_string W s3), rfl⟩⟩⟩⟩
  refine (run_law (W := W) (ok_lAudience a0 z1 s2.data.toList s3.data.toList f0 n0 (wf64 w1)) (ginv_of_laid hL) hrep).mono fun e W' ⟨he, hb⟩ => ?_
  exact ⟨_, he, post_below laidOuts readable_actAudience rfl hW' rfl (show Tryd.f7.resultTypes = #[4] by kernel_rfl) Tryd.underlying4 hb⟩
theorem actAudience_said : Rows.ActAudienceSaid :=
  OpenClaim.holds_of_wide 7 Tryd.f7 rfl rfl rfl rfl rfl rfl rfl ⟨rfl, rfl, rfl, rfl, rfl⟩ rfl rfl rfl rfl rfl (by kernel_rfl) Tryd.func7 (by kernel_rfl)
    (of_decide_eq_true (by kernel_rfl)) (by unfold Func.isWrapper; first | (rw [if_pos (by decide +kernel)]; kernel_rfl) | (rw [if_neg (by decide +kernel)]; exact ⟨rfl, rfl⟩))
    (fun os started H enc _ => lifted_actAudience os started H enc)
theorem actAudience_holds : Rows.ActAudienceCardSaid :=
  Claim7.holds_tied_plain_at .later [] [.data, .funcs, .pinned] true (true, "200f15eed518c1482771695cce7f1241006d2c22c06276f3e08b58a3df64c2cd") false actAudience_said (fun _ h => by cases h) (by kernel_rfl) (fun _ h => by cases h) actAudience_row_tie rfl ⟨rfl, rfl⟩ (by kernel_rfl) rfl
    (fun f fn hf hfn => by
      obtain rfl : f = 7 := Option.some.inj ((show Tryd.prog.funcNamed "agora/agoralaw12.ActAudience" = some 7 by kernel_rfl).symm.trans hf) |>.symm
      obtain rfl : fn = Tryd.f7 := (Option.some.inj (Tryd.func7.symm.trans hfn)).symm
      exact ⟨by kernel_rfl, fun j t ht => by
        rw [Tryd.params7] at ht
        have hm : t ∈ [29, 3, 9] := by have := Array.mem_of_getElem? ht; simp at this ⊢; omega
        have hall : ([29, 3, 9].all fun u => !Tryd.prog.wantsStandIn u) = true := by kernel_rfl
        exact (show Tryd.prog.wantsStandIn t = false by simpa using List.all_eq_true.1 hall t hm)⟩)
    (by kernel_rfl)
end Go.Proofs.YtmkjbdimmgkfdaaDoor
