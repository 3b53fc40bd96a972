/-
  The tied card of 'agoralaw12.ActReads' is proved: for every input the law returns true, and each argument reads afterwards as it read before.
  Conditions: those of the card's own row alone (the listed package variables hold what the program's text lays in them, which the given tie shows).
-/
import Derived.Test.YtmkjbdimmgkfdaaDoorMe2
import Derived.Test.YtmkjbdimmgkfdaaDoorCards
import Derived.Test.YtmkjbdimmgkfdaaDoorTie
namespace Go.Proofs.YtmkjbdimmgkfdaaDoor
open Go Go.ChangeShapes Go.WideShapes Go.RowKit Go.Proofs.YtmkjbdimmgkfdaaDoor.Ax
set_option linter.unusedVariables false
set_option maxRecDepth 100000

theorem rep_string (W : World) (s : ByteArray) : Rep (G0 W) W (.str s.data.toList) (.string s) := by
  show Value.string s = bstr s.data.toList
  unfold bstr
  rw [Array.toArray_toList]
theorem readable_actReads : ∀ t ∈ Tryd.f3.params.toList, Tryd.prog.readableRec t = true ∧ t < Tryd.prog.types.size := by
  have h : (Tryd.f3.params.toList.all fun t => Tryd.prog.readableRec t && decide (t < Tryd.prog.types.size)) = true := by kernel_rfl
  intro t ht
  have := List.all_eq_true.1 h t ht
  simpa using this
theorem lifted_actReads (os : Os) (started : os.Started) (H : Type) (enc : TypeId × Value → H) :
    ReturnsInHanded {} Tryd.checked os 3 .any (fun w args => (Rows.actReadsSpec.pre enc Tryd.prog Tryd.f3 [] false w args ∧ laidMetH Tryd.prog seatLaid w) ∧ sizedMet enc Tryd.prog Tryd.f3 (OpenSpec.ofChange Rows.actReadsSpec) false w args)
      (Rows.actReadsSpec.post enc Tryd.prog Tryd.f3 false true false false) := by
  refine returnsInHanded_of_change_and (C := Tryd.checked) (X := fun w _ => laidMetH Tryd.prog seatLaid w) (fun _ _ _ hh h => h.of_heap hh) ownKnobs started (by kernel_rfl) Tryd.func3
    (ChangeSpec.witness_shaped (enc := enc) (C := Tryd.checked) (os := os) (X := fun w _ => laidMetH Tryd.prog seatLaid w) false (wit os) #[.agg #[.string ⟨#[]⟩, .int .i64 0, .string ⟨#[]⟩, .int .i64 0, .int .i64 0, .string ⟨#[]⟩, .string ⟨#[]⟩, .int .i64 0, .string ⟨#[]⟩, .slice none 0 0, .string ⟨#[]⟩, .string ⟨#[]⟩, .string ⟨#[]⟩, .string ⟨#[]⟩, .int .i64 0, .slice none 0 0, .int .i64 0, .int .i64 0, .int .i64 0, .int .i64 0], .string ⟨#[]⟩] 8 (wit_os os) (wit_shaped os _) (by kernel_rfl) (by kernel_rfl) (by kernel_rfl) (wit_met os _)) ?_
  intro W base args ds gs before hval0 hW _ hwt hL _
  have hval : ∀ (j : Nat) t v, Tryd.f3.params[j]? = some t → args[j]? = some v → Value.okWide Tryd.prog W .any base t v := hval0
  have hW' := hW
  obtain ⟨p, q, hA0, hV, rfl, hfz, hnd⟩ := hW
  have hA : DataW.TrodAll enc Tryd.prog W 0 (fun _ => true) true Tryd.f3.params.toList args.toList ds p := hA0
  rw [Tryd.params3] at hA hval
  obtain ⟨v0, v1, d0, d1, p0, p1, rfl, rfl, rfl, h0, h1⟩ := trodAll_two hA
  obtain ⟨rfl, rfl⟩ := trodVars_none hV
  have ht : Tryd.f3.params.toList ++ Rows.actReadsSpec.plain.varTypes Tryd.prog = [29, 9] := by rw [Tryd.params3]; rfl
  have hwt' : (DataW.weightsEach Tryd.prog (Tryd.f3.params.toList ++ Rows.actReadsSpec.plain.varTypes Tryd.prog) ([d0, d1] ++ [])).all (· ≤ reachBytes) = true := hwt
  rw [ht] at hwt'
  have hws : ∀ m ∈ DataW.weightsEach Tryd.prog [29, 9] [d0, d1], m ≤ reachBytes := fun m hm => by simpa using List.all_eq_true.1 hwt' m (by simpa using hm)
  simp only [DataW.weightsEach, List.mem_append] at hws
  obtain ⟨a0, r0, o0⟩ := open_struct Tryd.underlying29 ty_act (hval 0 29 v0 rfl rfl) h0 (fun m hm => hws m (.inl hm))
  obtain ⟨f0, n0⟩ := act_ok a0 o0
  obtain ⟨s1, rfl, _⟩ := ChangeMaps.open_string Tryd.underlying9 (hval 1 9 v1 rfl rfl) h1
  have hrep : RepL (G0 W) W [ActT.toAV a0, .str s1.data.toList] [v0, .string s1] := by
    simp only [RepL]
    exact ⟨_, [.string s1], rfl, r0, ⟨_, [], rfl, (rep_string W s1), rfl⟩⟩
  refine (run_law (W := W) (ok_lReads a0 s1.data.toList f0 n0) (ginv_of_laid hL) hrep).mono fun e W' ⟨he, hb⟩ => ?_
  exact ⟨_, he, post_below laidOuts readable_actReads rfl hW' rfl (show Tryd.f3.resultTypes = #[4] by kernel_rfl) Tryd.underlying4 hb⟩
theorem actReads_said : Rows.ActReadsSaid :=
  OpenClaim.holds_of_wide 3 Tryd.f3 rfl rfl rfl rfl rfl rfl rfl ⟨rfl, rfl, rfl, rfl, rfl⟩ rfl rfl rfl rfl rfl (by kernel_rfl) Tryd.func3 (by kernel_rfl)
    (of_decide_eq_true (by kernel_rfl)) (by unfold Func.isWrapper; first | (rw [if_pos (by decide +kernel)]; kernel_rfl) | (rw [if_neg (by decide +kernel)]; exact ⟨rfl, rfl⟩))
    (fun os started H enc _ => lifted_actReads os started H enc)
theorem actReads_holds : Rows.ActReadsCardSaid :=
  Claim7.holds_tied_plain_at .later [] [.data, .funcs, .pinned] true (true, "200f15eed518c1482771695cce7f1241006d2c22c06276f3e08b58a3df64c2cd") false actReads_said (fun _ h => by cases h) (by kernel_rfl) (fun _ h => by cases h) actReads_row_tie rfl ⟨rfl, rfl⟩ (by kernel_rfl) rfl
    (fun f fn hf hfn => by
      obtain rfl : f = 3 := Option.some.inj ((show Tryd.prog.funcNamed "agora/agoralaw12.ActReads" = some 3 by kernel_rfl).symm.trans hf) |>.symm
      obtain rfl : fn = Tryd.f3 := (Option.some.inj (Tryd.func3.symm.trans hfn)).symm
      exact ⟨by kernel_rfl, fun j t ht => by
        rw [Tryd.params3] at ht
        have hm : t ∈ [29, 9] := by have := Array.mem_of_getElem? ht; simp at this ⊢; omega
        have hall : ([29, 9].all fun u => !Tryd.prog.wantsStandIn u) = true := by kernel_rfl
        exact (show Tryd.prog.wantsStandIn t = false by simpa using List.all_eq_true.1 hall t hm)⟩)
    (by kernel_rfl)
end Go.Proofs.YtmkjbdimmgkfdaaDoor
