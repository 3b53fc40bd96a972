/-
  A world that meets the condition; arguments opened.
-/
import Derived.Test.YtmkjbdimmgkfdaaDoorMe1
namespace Go.Proofs.YtmkjbdimmgkfdaaDoor
open Go Go.ChangeShapes Go.WideShapes Go.RowKit Go.Proofs.YtmkjbdimmgkfdaaDoor.Ax
set_option linter.unusedVariables false
set_option maxRecDepth 100000

theorem ownKnobs : ownKnob Tryd.prog.godebug = none := by kernel_rfl
theorem laidOuts : laidOutB Tryd.prog = true := by kernel_rfl
noncomputable def wit (os : Os) : World := (World.doorLaid Tryd.prog 168 os).layVars Tryd.prog [("unicode/utf8.first", Rows.laid_unicode_utf8_first)]
theorem wit_os (os : Os) : (wit os).os = os := World.layVars_os _ _ _
abbrev plainLaid : List (String × DataW Unit) := [("unicode/utf8.acceptRanges", Rows.laid_unicode_utf8_acceptRanges), ("unicode/utf8.first", Rows.laid_unicode_utf8_first)]
theorem wit_fits (os : Os) : (World.doorLaid Tryd.prog 168 os).layFits Tryd.prog [("unicode/utf8.first", Rows.laid_unicode_utf8_first)] [4] = true := by kernel_rfl
theorem wit_ifaces (os : Os) : (World.doorLaid Tryd.prog 168 os).layIfaces Tryd.prog [("unicode/utf8.first", Rows.laid_unicode_utf8_first)] (wit os) = true := by kernel_rfl
theorem wit_in (os : Os) : LaidIn Tryd.prog (wit os) [("unicode/utf8.acceptRanges", Rows.laid_unicode_utf8_acceptRanges)] [4] :=
  LaidIn.of_run _ 8 (by kernel_rfl) (by kernel_rfl) (by kernel_rfl) (by kernel_rfl)
theorem wit_plain (os : Os) : laidMet Tryd.prog plainLaid (wit os) :=
  laidMet_layVars (w0 := World.doorLaid Tryd.prog 168 os) ["unicode/utf8.first"] [4] rfl (wit_fits os) (wit_ifaces os) (wit_in os)
theorem wit_met (os : Os) (args : Array Value) : laidMetH Tryd.prog seatLaid ((wit os).forCall (fun _ _ => 0) ⟨#[], args, []⟩).memory :=
  laidMetH_of_parts3 (fuel := 8) ((wit_plain os).of_heap (by simp [World.memory, World.forCall, Input.heap])) (by kernel_rfl) (by kernel_rfl)
theorem wit_shaped (os : Os) (args : Array Value) : ((wit os).forCall (fun _ _ => 0) ⟨#[], args, []⟩).Shaped Tryd.prog :=
  World.shaped_of_ZipB (by kernel_rfl) (by kernel_rfl)
section
variable {H : Type} {enc : TypeId × Value → H} {P : Program} {W : World} {base b0 : Nat} {sp : Nat → Bool} {held : Bool} {r : Reach}
theorem cell_spot {u : TypeId} {v : Value} (h : Cell.okWide P W r b0 u v) : spotV v := by
  cases v <;> try exact trivial
  rename_i a l c
  cases a with
  | none => exact trivial
  | some a =>
    show a.spot = none
    unfold Cell.okWide at h
    split at h <;> try (simp_all; done)
    unfold Cell.ok at h
    split at h <;> try (simp_all; done)
    rename_i e
    cases e
    exact h.2.2.2.1
/-- A struct of plain data among the arguments. -/
theorem open_struct {tid : TypeId} {fs : Array Field} {t : Ty} {k : Nat} {v : Value} {d : DataW H} {ps : List MemPlace} (hu : P.underlying tid = some (.struct fs)) (ht : tyIs P k tid t = true)
    (hval : Value.okWide P W r b0 tid v) (h : DataW.Trod enc P W base sp held tid v d ps) (hw : ∀ m ∈ d.weights P tid, m ≤ reachBytes) : ∃ a : t.den, Rep (G0 W) W (.agg (t.toCells a)) v ∧ okT t a := by
  unfold Value.okWide at hval
  rw [hu] at hval
  obtain ⟨cs, rfl, _, ts, _, _, hc⟩ := hval
  obtain ⟨fuel, h⟩ := h
  obtain ⟨a, ha, oa⟩ := open_ty k tid t ht fuel _ (d, ps) h (fun v hv => .inl (by
    obtain ⟨i, hi⟩ := List.getElem?_of_mem hv
    obtain ⟨u, _, hk⟩ := hc i v (by simpa [Value.cells] using hi)
    exact cell_spot hk)) hw
  refine ⟨a, ⟨cs.toList, by simp, ?_⟩, oa⟩
  exact (repL_toCells t a _).2 ha
end
theorem ty_act : tyIs Tryd.prog 8 29 ActT = true := by kernel_rfl
theorem ty_key : tyIs Tryd.prog 8 41 KeyT = true := by kernel_rfl
theorem wf64 {n : Int} (h : (Lit.int .i64 n).wf = true) : Sp.i64Ok n := by
  simp only [Lit.wf, Bool.and_eq_true, decide_eq_true_eq] at h
  have h1 : (IntKind.i64.min : Int) = -9223372036854775808 := by decide
  have h2 : (IntKind.i64.max : Int) = 9223372036854775807 := by decide
  rw [h1, h2] at h
  unfold Sp.i64Ok
  omega
theorem str48 {s : Bs} (h : s.length ≤ reachBytes) : Sp.s48 s := by
  have e : reachBytes = 140737488351232 := by decide
  unfold Sp.s48
  omega
theorem act_ok (a : Sp.Act) (h : okT ActT a) : Sp.fewOk a ∧ Sp.actNums a := by
  obtain ⟨aAu, aSeq, aPrev, aKind, aTime, aObj, aTgt, aScope, aGrp, aTo, aText, ⟨aBn, aBd, aBt⟩, aEp, aWr, aN, aM, aE, aS⟩ := a
  obtain ⟨h1, h2, h3, h4, h5, h6, h7, h8, h9, h10, h11, ⟨h12, h13, h14⟩, h15, h16, h17, h18, h19, h20⟩ := h
  refine ⟨⟨⟨str48 h1, str48 h3, str48 h6, str48 h7, str48 h9, str48 h11, str48 h12, str48 h13, str48 h14⟩, fun x hx => str48 (h10 x hx), fun w hw => ?_⟩, ⟨wf64 h2, wf64 h4, wf64 h5, wf64 h8, wf64 h15, wf64 h17, wf64 h18, wf64 h19, wf64 h20⟩, fun w hw => ?_⟩
  · obtain ⟨_, _, k3, k4, k5⟩ := h16 w hw
    exact ⟨str48 k3, str48 k4, str48 k5⟩
  · obtain ⟨k1, k2, _⟩ := h16 w hw
    exact ⟨wf64 k1, wf64 k2⟩
end Go.Proofs.YtmkjbdimmgkfdaaDoor
