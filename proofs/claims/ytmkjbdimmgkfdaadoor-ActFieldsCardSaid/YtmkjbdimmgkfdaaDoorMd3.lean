/-
  The walks of two laws.
-/
import Derived.Test.YtmkjbdimmgkfdaaDoorMd2
namespace Go.Proofs.YtmkjbdimmgkfdaaDoor
open Go Go.Proofs.YtmkjbdimmgkfdaaDoor.Ax
set_option linter.unusedVariables false
set_option maxRecDepth 100000

theorem hf_lFields : Tryd.prog.funcs[6]? = some Tryd.f6 := by kernel_rfl
theorem en_lFields : Go.Proofs.YtmkjbdimmgkfdaaDoor.Ax.Enters Tryd.prog 6 := entersOf Tryd.f6 hf_lFields (by kernel_rfl) (by kernel_rfl)
def vc_lFields (aAu : Bs) (aSeq : Int) (aPrev : Bs) (aKind : Int) (aTime : Int) (aObj : Bs) (aTgt : Bs) (aScope : Int) (aGrp : Bs) (aTo : List Bs) (aText : Bs) (aBn : Bs) (aBd : Bs) (aBt : Bs) (aEp : Int) (aWr : List Sp.Wrap) (aN : Int) (aM : Int) (aE : Int) (aS : Int) (K : AV → St → Prop) : Prop :=
  ∀ (x : Bool), x = true → Sp.fewOk (aAu, aSeq, aPrev, aKind, aTime, aObj, aTgt, aScope, aGrp, aTo, aText, (aBn, aBd, aBt), aEp, aWr, aN, aM, aE, aS) ∧ ∀ (x_1 : Bool), x_1 = Sp.few (aAu, aSeq, aPrev, aKind, aTime, aObj, aTgt, aScope, aGrp, aTo, aText, (aBn, aBd, aBt), aEp, aWr, aN, aM, aE, aS) → ∀ (x_2 : Bool), x_2 = !x_1 → ((!x_2) = true → ((!x_2) = true → (!x_2) = true) ∧ Sp.actOk (aAu, aSeq, aPrev, aKind, aTime, aObj, aTgt, aScope, aGrp, aTo, aText, (aBn, aBd, aBt), aEp, aWr, aN, aM, aE, aS)) ∧ ∀ (x_3 : Bool), x_3 = Sp.right (aAu, aSeq, aPrev, aKind, aTime, aObj, aTgt, aScope, aGrp, aTo, aText, (aBn, aBd, aBt), aEp, aWr, aN, aM, aE, aS) → ((!x_2) = true → (!x_2) = true → (!x_2) = true) ∧ ∀ (x_4 : Bool), x_4 = !x_3 → ((true && !x_2) = true → (!x_2) = true) ∧ ∀ (x_5 : Bool), (x_5 = bif x_2 then true else x_4) → bcase x_5 (K (AV.bool x) []) (∀ (x_6 : Bool), x_6 = Sp.idOk aAu → ∀ (x_7 : Bool), x_7 = !x_6 → ((!x_7) = true → (!x_7) = true → (!x_7) = true) ∧ ((!x_7) = true → ((!x_7) = true → (!x_7) = true) ∧ Sp.rowOk aTo) ∧ ∀ (x_8 : Bool), x_8 = Sp.ids aTo → ((!x_7) = true → (!x_7) = true → (!x_7) = true) ∧ ∀ (x_9 : Bool), x_9 = !x_8 → ((true && !x_7) = true → (!x_7) = true) ∧ ∀ (x_10 : Bool), (x_10 = bif x_7 then true else x_9) → ((!x_10) = true → (!x_10) = true → (!x_10) = true) ∧ ((!x_10) = true → (!x_10) = true → (!x_10) = true) ∧ ∀ (x_11 : Bool), x_11 = (aSeq == (0 : Int)) → ((!x_10) = true → (!x_10) = true → (!x_10) = true) ∧ ((!x_10) = true → (!x_10) = true → (!x_10) = true) ∧ ∀ (x_12 : Bool), x_12 = (aKind == (0 : Int)) → ((!x_10) = true → ((!x_10) = true → (!x_10) = true) ∧ ((!x_10) = true → (!x_10) = true)) ∧ ∀ (x_13 : Bool), x_13 = !x_11 == x_12 → ((true && !x_10) = true → (!x_10) = true) ∧ ∀ (x_14 : Bool), (x_14 = bif x_10 then true else x_13) → ((!x_14) = true → (!x_14) = true → (!x_14) = true) ∧ ((!x_14) = true → (!x_14) = true → (!x_14) = true) ∧ ∀ (x_15 : Bool), x_15 = (aSeq == (0 : Int)) → ((!x_14) = true → (!x_14) = true → (!x_14) = true) ∧ ((!x_14) = true → (!x_14) = true → (!x_14) = true) ∧ ∀ (x_16 : Bool), x_16 = (aPrev == []) → ((!x_14) = true → ((!x_14) = true → (!x_14) = true) ∧ ((!x_14) = true → (!x_14) = true)) ∧ ∀ (x_17 : Bool), x_17 = !x_15 == x_16 → ((true && !x_14) = true → (!x_14) = true) ∧ ∀ (x_18 : Bool), (x_18 = bif x_14 then true else x_17) → ((!x_18) = true → (!x_18) = true → (!x_18) = true) ∧ ((!x_18) = true → (!x_18) = true → (!x_18) = true) ∧ ∀ (x_19 : Bool), x_19 = decide (aSeq > (0 : Int)) → ((!x_18 && !x_18 && x_19) = true → (!x_18 && !x_18 && x_19) = true → (!x_18 && !x_18 && x_19) = true) ∧ ((!x_18 && !x_18 && x_19) = true → (!x_18 && !x_18 && x_19) = true → (!x_18 && !x_18 && x_19) = true) ∧ ((!x_18 && !x_18 && x_19) = true → (!x_18 && !x_18 && x_19) = true → (!x_18 && !x_18 && x_19) = true) ∧ ∀ (x_20 : Bool), x_20 = ((↑(List.length aPrev) : Int) != (32 : Int)) → ((!x_18) = true → ((!x_18) = true → (!x_18 && !x_18) = true) ∧ ((!x_18 && x_19) = true → (!x_18 && !x_18 && x_19) = true)) ∧ ∀ (x_21 : Bool), (x_21 = bif x_19 then x_20 else false) → ((true && !x_18) = true → (!x_18) = true) ∧ ∀ (x_22 : Bool), (x_22 = bif x_18 then true else x_21) → bcase x_22 (K (AV.bool false) []) (∀ (x_23 : Bool), x_23 = decide (aKind ≥ (7 : Int)) → (x_23 = true → x_23 = true → x_23 = true) ∧ (x_23 = true → x_23 = true → x_23 = true) ∧ ∀ (x_24 : Bool), x_24 = decide (aKind ≤ (11 : Int)) → ((true && x_23) = true → x_23 = true) ∧ ∀ (x_25 : Bool), (x_25 = bif x_23 then x_24 else false) → ∀ (x_26 : Bool), x_26 = Sp.posting aKind → (x_26 = true → x_26 = true → x_26 = true) ∧ (x_26 = true → x_26 = true → x_26 = true) ∧ ∀ (x_27 : Bool), x_27 = (aScope != (0 : Int)) → ((true && x_26) = true → x_26 = true) ∧ ∀ (x_28 : Bool), (x_28 = bif x_26 then x_27 else false) → (x_28 = true → x_28 = true → x_28 = true) ∧ (x_28 = true → x_28 = true → x_28 = true) ∧ ∀ (x_29 : Bool), x_29 = !aText == [] → ((x_28 && x_28 && !x_29) = true → (x_28 && x_28 && !x_29) = true → (x_28 && x_28 && !x_29) = true) ∧ ((x_28 && x_28 && !x_29) = true → (x_28 && x_28 && !x_29) = true → (x_28 && x_28 && !x_29) = true) ∧ ((x_28 && x_28 && !x_29) = true → (x_28 && x_28 && !x_29) = true → (x_28 && x_28 && !x_29) = true) ∧ ((x_28 && x_28 && !x_29) = true → (x_28 && x_28 && !x_29) = true → (x_28 && x_28 && !x_29) = true) ∧ ∀ (x_30 : Bool), x_30 = ((↑(List.length aBn) : Int) != (32 : Int)) → (x_28 = true → (x_28 = true → (x_28 && x_28) = true) ∧ ((x_28 && !x_29) = true → (x_28 && x_28 && !x_29) = true)) ∧ ∀ (x_31 : Bool), (x_31 = bif x_29 then true else x_30) → ((true && x_28) = true → x_28 = true) ∧ ∀ (x_32 : Bool), (x_32 = bif x_28 then x_31 else false) → ((!x_32 && !x_32 && x_25) = true → (!x_32 && !x_32 && x_25) = true → (!x_32 && !x_32 && x_25) = true) ∧ ((!x_32 && !x_32 && x_25) = true → (!x_32 && !x_32 && x_25) = true → (!x_32 && !x_32 && x_25) = true) ∧ ∀ (x_33 : Bool), x_33 = Sp.idOk aTgt → ((!x_32 && !x_32 && x_25) = true → (!x_32 && !x_32 && x_25) = true → (!x_32 && !x_32 && x_25) = true) ∧ ∀ (x_34 : Bool), x_34 = !x_33 → ((!x_32 && !x_32 && x_25 && (!x_32 && !x_32 && x_25) && !x_34) = true → (!x_32 && !x_32 && x_25 && (!x_32 && !x_32 && x_25) && !x_34) = true → (!x_32 && !x_32 && x_25 && (!x_32 && !x_32 && x_25) && !x_34) = true) ∧ ((!x_32 && !x_32 && x_25 && (!x_32 && !x_32 && x_25) && !x_34) = true → (!x_32 && !x_32 && x_25 && (!x_32 && !x_32 && x_25) && !x_34) = true → (!x_32 && !x_32 && x_25 && (!x_32 && !x_32 && x_25) && !x_34) = true) ∧ ∀ (x_35 : Bool), x_35 = !aObj == [] → ((!x_32 && !x_32 && x_25) = true → ((!x_32 && !x_32 && x_25) = true → (!x_32 && !x_32 && x_25 && (!x_32 && !x_32 && x_25)) = true) ∧ ((!x_32 && !x_32 && x_25 && !x_34) = true → (!x_32 && !x_32 && x_25 && (!x_32 && !x_32 && x_25) && !x_34) = true)) ∧ ∀ (x_36 : Bool), (x_36 = bif x_34 then true else x_35) → ((!x_32 && !x_32 && x_25 && (!x_32 && !x_32 && x_25) && !x_36) = true → (!x_32 && !x_32 && x_25 && (!x_32 && !x_32 && x_25) && !x_36) = true → (!x_32 && !x_32 && x_25 && (!x_32 && !x_32 && x_25) && !x_36) = true) ∧ ((!x_32 && !x_32 && x_25 && (!x_32 && !x_32 && x_25) && !x_36) = true → (!x_32 && !x_32 && x_25 && (!x_32 && !x_32 && x_25) && !x_36) = true → (!x_32 && !x_32 && x_25 && (!x_32 && !x_32 && x_25) && !x_36) = true) ∧ ∀ (x_37 : Bool), x_37 = !aText == [] → ((!x_32 && !x_32 && x_25) = true → ((!x_32 && !x_32 && x_25) = true → (!x_32 && !x_32 && x_25 && (!x_32 && !x_32 && x_25)) = true) ∧ ((!x_32 && !x_32 && x_25 && !x_36) = true → (!x_32 && !x_32 && x_25 && (!x_32 && !x_32 && x_25) && !x_36) = true)) ∧ ∀ (x_38 : Bool), (x_38 = bif x_36 then true else x_37) → ((!x_32 && !x_32 && x_25 && (!x_32 && !x_32 && x_25) && !x_38) = true → (!x_32 && !x_32 && x_25 && (!x_32 && !x_32 && x_25) && !x_38) = true → (!x_32 && !x_32 && x_25 && (!x_32 && !x_32 && x_25) && !x_38) = true) ∧ ((!x_32 && !x_32 && x_25 && (!x_32 && !x_32 && x_25) && !x_38) = true → (!x_32 && !x_32 && x_25 && (!x_32 && !x_32 && x_25) && !x_38) = true → (!x_32 && !x_32 && x_25 && (!x_32 && !x_32 && x_25) && !x_38) = true) ∧ ((!x_32 && !x_32 && x_25 && (!x_32 && !x_32 && x_25) && !x_38) = true → (!x_32 && !x_32 && x_25 && (!x_32 && !x_32 && x_25) && !x_38) = true → (!x_32 && !x_32 && x_25 && (!x_32 && !x_32 && x_25) && !x_38) = true) ∧ ∀ (x_39 : Bool), x_39 = decide ((↑(List.length aTo) : Int) > (0 : Int)) → ((!x_32 && !x_32 && x_25) = true → ((!x_32 && !x_32 && x_25) = true → (!x_32 && !x_32 && x_25 && (!x_32 && !x_32 && x_25)) = true) ∧ ((!x_32 && !x_32 && x_25 && !x_38) = true → (!x_32 && !x_32 && x_25 && (!x_32 && !x_32 && x_25) && !x_38) = true)) ∧ ∀ (x_40 : Bool), (x_40 = bif x_38 then true else x_39) → ((!x_32) = true → ((!x_32) = true → (!x_32 && !x_32) = true) ∧ ((!x_32 && x_25) = true → (!x_32 && !x_32 && x_25) = true)) ∧ ∀ (x_41 : Bool), (x_41 = bif x_25 then x_40 else false) → ((true && !x_32) = true → (!x_32) = true) ∧ ∀ (x_42 : Bool), (x_42 = bif x_32 then true else x_41) → bcase x_42 (K (AV.bool false) []) (∀ (x_43 : Bool), x_43 = (aKind == (16 : Int)) → ((!x_43) = true → (!x_43) = true → (!x_43) = true) ∧ ((!x_43) = true → (!x_43) = true → (!x_43) = true) ∧ ∀ (x_44 : Bool), x_44 = (aKind == (19 : Int)) → ((true && !x_43) = true → (!x_43) = true) ∧ ∀ (x_45 : Bool), (x_45 = bif x_43 then true else x_44) → (x_45 = true → x_45 = true → x_45 = true) ∧ (x_45 = true → x_45 = true → x_45 = true) ∧ (x_45 = true → x_45 = true → x_45 = true) ∧ (x_45 = true → x_45 = true → x_45 = true) ∧ (x_45 = true → (x_45 = true → x_45 = true) ∧ (x_45 = true → x_45 = true)) ∧ ∀ (x_46 : Bool), x_46 = ((↑(List.length aWr) : Int) != (↑(List.length aTo) : Int)) → ((true && x_45) = true → x_45 = true) ∧ ∀ (x_47 : Bool), (x_47 = bif x_45 then x_46 else false) → ((!x_47) = true → (!x_47) = true → (!x_47) = true) ∧ ∀ (x_48 : Bool), x_48 = !x_45 → ((!x_47 && !x_47 && x_48) = true → (!x_47 && !x_47 && x_48) = true → (!x_47 && !x_47 && x_48) = true) ∧ ((!x_47 && !x_47 && x_48) = true → (!x_47 && !x_47 && x_48) = true → (!x_47 && !x_47 && x_48) = true) ∧ ((!x_47 && !x_47 && x_48) = true → (!x_47 && !x_47 && x_48) = true → (!x_47 && !x_47 && x_48) = true) ∧ ∀ (x_49 : Bool), x_49 = decide ((↑(List.length aWr) : Int) > (0 : Int)) → ((!x_47) = true → ((!x_47) = true → (!x_47 && !x_47) = true) ∧ ((!x_47 && x_48) = true → (!x_47 && !x_47 && x_48) = true)) ∧ ∀ (x_50 : Bool), (x_50 = bif x_48 then x_49 else false) → ((true && !x_47) = true → (!x_47) = true) ∧ ∀ (x_51 : Bool), (x_51 = bif x_47 then true else x_50) → bcase x_51 (K (AV.bool false) []) (List.length aObj + (1 : Nat) ≤ (9223372036854775807 : Nat) ∧ List.length aTgt + (1 : Nat) ≤ (9223372036854775807 : Nat) ∧ (1 : Nat) + List.length aWr ≤ (4611686018427387904 : Nat) ∧ ((1 : Nat) + List.length aWr) * (64 : Nat) ≤ (140737488355328 : Nat) ∧ (x_45 = true → x_45 = true → x_45 = true) ∧ (x_45 = true → x_45 = true → x_45 = true) ∧ ∀ (x_52 : Bool), x_52 = (aKind == (16 : Int)) → ((true && x_45) = true → x_45 = true) ∧ ∀ (x_53 : Bool), (x_53 = bif x_45 then x_52 else false) → ((!x_53) = true → (!x_53) = true → (!x_53) = true) ∧ ((!x_53) = true → (!x_53) = true → (!x_53) = true) ∧ ∀ (x_54 : Bool), x_54 = (aScope != (0 : Int)) → ((true && !x_53) = true → (!x_53) = true) ∧ ∀ (x_55 : Bool), (x_55 = bif x_53 then true else x_54) → ∀ (x_56 : Bool), x_56 = (aKind == (0 : Int)) → ((!x_56) = true → (!x_56) = true → (!x_56) = true) ∧ ((!x_56) = true → (!x_56) = true → (!x_56) = true) ∧ ∀ (x_57 : Bool), x_57 = (aKind == (18 : Int)) → ((true && !x_56) = true → (!x_56) = true) ∧ ∀ (x_58 : Bool), (x_58 = bif x_56 then true else x_57) → ((!x_58) = true → (!x_58) = true → (!x_58) = true) ∧ ((!x_58) = true → (!x_58) = true → (!x_58) = true) ∧ ∀ (x_59 : Bool), x_59 = (aKind == (19 : Int)) → ((true && !x_58) = true → (!x_58) = true) ∧ ∀ (x_60 : Bool), (x_60 = bif x_58 then true else x_59) → ((x && x && !x_55) = true → ((x && x && !x_55) = true → (x && x && !x_55) = true) ∧ Sp.actOk (aAu, aSeq, aPrev, aKind, aTime, aObj, aTgt, aScope, aGrp, aTo, aText, (aBn, aBd, aBt), IntKind.wrap IntKind.i64 (aEp + (1 : Int)), aWr, aN, aM, aE, aS)) ∧ ∀ (x_61 : Bool), x_61 = Sp.right (aAu, aSeq, aPrev, aKind, aTime, aObj, aTgt, aScope, aGrp, aTo, aText, (aBn, aBd, aBt), IntKind.wrap IntKind.i64 (aEp + (1 : Int)), aWr, aN, aM, aE, aS) → ((x && x && !x_55) = true → (x && x && !x_55) = true → (x && x && !x_55) = true) ∧ ∀ (x_62 : Bool), x_62 = !x_61 → (x = true → (x = true → (x && x) = true) ∧ ((x && !x_55) = true → (x && x && !x_55) = true)) ∧ ∀ (x_63 : Bool), (x_63 = bif x_55 then true else x_62) → ((true && x) = true → x = true) ∧ ∀ (x_64 : Bool), (x_64 = bif x then x_63 else false) → ((x_64 && x_64 && !x_60) = true → ((x_64 && x_64 && !x_60) = true → (x_64 && x_64 && !x_60) = true) ∧ Sp.actOk (aAu, aSeq, aPrev, aKind, aTime, aObj, aTgt, aScope, aGrp, aTo, aText, (aBn, aBd, aBt), aEp, aWr, aN, IntKind.wrap IntKind.i64 (aM - (1 : Int)), aE, aS)) ∧ ∀ (x : Bool), x = Sp.right (aAu, aSeq, aPrev, aKind, aTime, aObj, aTgt, aScope, aGrp, aTo, aText, (aBn, aBd, aBt), aEp, aWr, aN, IntKind.wrap IntKind.i64 (aM - (1 : Int)), aE, aS) → ((x_64 && x_64 && !x_60) = true → (x_64 && x_64 && !x_60) = true → (x_64 && x_64 && !x_60) = true) ∧ ∀ (x_65 : Bool), x_65 = !x → (x_64 = true → (x_64 = true → (x_64 && x_64) = true) ∧ ((x_64 && !x_60) = true → (x_64 && x_64 && !x_60) = true)) ∧ ∀ (x : Bool), (x = bif x_60 then true else x_65) → ((true && x_64) = true → x_64 = true) ∧ ∀ (x_66 : Bool), (x_66 = bif x_64 then x else false) → (x_66 = true → (x_66 = true → x_66 = true) ∧ Sp.actOk (aAu, aSeq, aPrev, aKind, aTime, aObj ++ [(120 : UInt8)], aTgt, aScope, aGrp, aTo, aText, (aBn, aBd, aBt), aEp, aWr, aN, aM, aE, aS)) ∧ ∀ (x : Bool), x = Sp.right (aAu, aSeq, aPrev, aKind, aTime, aObj ++ [(120 : UInt8)], aTgt, aScope, aGrp, aTo, aText, (aBn, aBd, aBt), aEp, aWr, aN, aM, aE, aS) → (x_66 = true → x_66 = true → x_66 = true) ∧ ∀ (x_67 : Bool), x_67 = !x → ((true && x_66) = true → x_66 = true) ∧ ∀ (x : Bool), (x = bif x_66 then x_67 else false) → (x = true → (x = true → x = true) ∧ Sp.actOk (aAu, aSeq, aPrev, aKind, aTime, aObj, aTgt ++ [(120 : UInt8)], aScope, aGrp, aTo, aText, (aBn, aBd, aBt), aEp, aWr, aN, aM, aE, aS)) ∧ ∀ (x_68 : Bool), x_68 = Sp.right (aAu, aSeq, aPrev, aKind, aTime, aObj, aTgt ++ [(120 : UInt8)], aScope, aGrp, aTo, aText, (aBn, aBd, aBt), aEp, aWr, aN, aM, aE, aS) → (x = true → x = true → x = true) ∧ ∀ (x_69 : Bool), x_69 = !x_68 → ((true && x) = true → x = true) ∧ ∀ (x_70 : Bool), (x_70 = bif x then x_69 else false) → (x_70 = true → (x_70 = true → x_70 = true) ∧ Sp.actOk (aAu, aSeq, aPrev, aKind, aTime, aObj, aTgt, aScope, aGrp, aTo, aText, (aBn, aBd, aBt), aEp, [((1 : Int), (1 : Int), [], [], [])] ++ aWr, aN, aM, aE, aS)) ∧ ∀ (x : Bool), x = Sp.right (aAu, aSeq, aPrev, aKind, aTime, aObj, aTgt, aScope, aGrp, aTo, aText, (aBn, aBd, aBt), aEp, [((1 : Int), (1 : Int), [], [], [])] ++ aWr, aN, aM, aE, aS) → (x_70 = true → x_70 = true → x_70 = true) ∧ ∀ (x_71 : Bool), x_71 = !x → ((true && x_70) = true → x_70 = true) ∧ ∀ (x : Bool), (x = bif x_70 then x_71 else false) → K (AV.bool x) []))))
theorem ev_lFields (aAu : Bs) (aSeq : Int) (aPrev : Bs) (aKind : Int) (aTime : Int) (aObj : Bs) (aTgt : Bs) (aScope : Int) (aGrp : Bs) (aTo : List Bs) (aText : Bs) (aBn : Bs) (aBd : Bs) (aBt : Bs) (aEp : Int) (aWr : List Sp.Wrap) (aN : Int) (aM : Int) (aE : Int) (aS : Int) (K : AV → St → Prop) : fnA Tryd.prog csR shHints Tryd.f6 [.agg [.str aAu, .int .i64 aSeq, .str aPrev, .int .i64 aKind, .int .i64 aTime, .str aObj, .str aTgt, .int .i64 aScope, .str aGrp, .sl .str aTo, .str aText, .str aBn, .str aBd, .str aBt, .int .i64 aEp, .sl WrapT aWr, .int .i64 aN, .int .i64 aM, .int .i64 aE, .int .i64 aS]] [] K = vc_lFields aAu aSeq aPrev aKind aTime aObj aTgt aScope aGrp aTo aText aBn aBd aBt aEp aWr aN aM aE aS K := by kernel_rfl
theorem go_lFields (aAu : Bs) (aSeq : Int) (aPrev : Bs) (aKind : Int) (aTime : Int) (aObj : Bs) (aTgt : Bs) (aScope : Int) (aGrp : Bs) (aTo : List Bs) (aText : Bs) (aBn : Bs) (aBd : Bs) (aBt : Bs) (aEp : Int) (aWr : List Sp.Wrap) (aN : Int) (aM : Int) (aE : Int) (aS : Int) {K : AV → St → Prop} (hvc : vc_lFields aAu aSeq aPrev aKind aTime aObj aTgt aScope aGrp aTo aText aBn aBd aBt aEp aWr aN aM aE aS K) : callA Tryd.prog 6 [.agg [.str aAu, .int .i64 aSeq, .str aPrev, .int .i64 aKind, .int .i64 aTime, .str aObj, .str aTgt, .int .i64 aScope, .str aGrp, .sl .str aTo, .str aText, .str aBn, .str aBd, .str aBt, .int .i64 aEp, .sl WrapT aWr, .int .i64 aN, .int .i64 aM, .int .i64 aE, .int .i64 aS]] [] K :=
  callA_of (P := Tryd.prog) (cs := csR) (H := shHints) (f := 6) (fn := Tryd.f6) (args := [.agg [.str aAu, .int .i64 aSeq, .str aPrev, .int .i64 aKind, .int .i64 aTime, .str aObj, .str aTgt, .int .i64 aScope, .str aGrp, .sl .str aTo, .str aText, .str aBn, .str aBd, .str aBt, .int .i64 aEp, .sl WrapT aWr, .int .i64 aN, .int .i64 aM, .int .i64 aE, .int .i64 aS]]) (L := []) (K := K) hf_lFields (Eq.mpr (ev_lFields aAu aSeq aPrev aKind aTime aObj aTgt aScope aGrp aTo aText aBn aBd aBt aEp aWr aN aM aE aS K) hvc)
theorem hf_lAudience : Tryd.prog.funcs[7]? = some Tryd.f7 := by kernel_rfl
theorem en_lAudience : Go.Proofs.YtmkjbdimmgkfdaaDoor.Ax.Enters Tryd.prog 7 := entersOf Tryd.f7 hf_lAudience (by kernel_rfl) (by kernel_rfl)
def vc_lAudience (aAu : Bs) (aSeq : Int) (aPrev : Bs) (aKind : Int) (aTime : Int) (aObj : Bs) (aTgt : Bs) (aScope : Int) (aGrp : Bs) (aTo : List Bs) (aText : Bs) (aBn : Bs) (aBd : Bs) (aBt : Bs) (aEp : Int) (aWr : List Sp.Wrap) (aN : Int) (aM : Int) (aE : Int) (aS : Int) (sc : Int) (gr tx : Bs) (K : AV → St → Prop) : Prop :=
  ∀ (x : Bool), x = true → Sp.fewOk (aAu, aSeq, aPrev, aKind, aTime, aObj, aTgt, aScope, aGrp, aTo, aText, (aBn, aBd, aBt), aEp, aWr, aN, aM, aE, aS) ∧ ∀ (x_1 : Bool), x_1 = Sp.few (aAu, aSeq, aPrev, aKind, aTime, aObj, aTgt, aScope, aGrp, aTo, aText, (aBn, aBd, aBt), aEp, aWr, aN, aM, aE, aS) → ∀ (x_2 : Bool), x_2 = !x_1 → ((!x_2) = true → ((!x_2) = true → (!x_2) = true) ∧ Sp.actOk (aAu, aSeq, aPrev, aKind, aTime, aObj, aTgt, aScope, aGrp, aTo, aText, (aBn, aBd, aBt), aEp, aWr, aN, aM, aE, aS)) ∧ ∀ (x_3 : Bool), x_3 = Sp.right (aAu, aSeq, aPrev, aKind, aTime, aObj, aTgt, aScope, aGrp, aTo, aText, (aBn, aBd, aBt), aEp, aWr, aN, aM, aE, aS) → ((!x_2) = true → (!x_2) = true → (!x_2) = true) ∧ ∀ (x_4 : Bool), x_4 = !x_3 → ((true && !x_2) = true → (!x_2) = true) ∧ ∀ (x_5 : Bool), (x_5 = bif x_2 then true else x_4) → ((!x_5) = true → (!x_5) = true → (!x_5) = true) ∧ ((!x_5) = true → (!x_5) = true → (!x_5) = true) ∧ ∀ (x_6 : Bool), x_6 = Sp.posting aKind → ((!x_5) = true → (!x_5) = true → (!x_5) = true) ∧ ∀ (x_7 : Bool), x_7 = !x_6 → ((true && !x_5) = true → (!x_5) = true) ∧ ∀ (x_8 : Bool), (x_8 = bif x_5 then true else x_7) → ((!x_8) = true → (!x_8) = true → (!x_8) = true) ∧ ((!x_8) = true → (!x_8) = true → (!x_8) = true) ∧ ∀ (x_9 : Bool), x_9 = decide ((↑(List.length tx) : Int) > (600 : Int)) → ((true && !x_8) = true → (!x_8) = true) ∧ ∀ (x_10 : Bool), (x_10 = bif x_8 then true else x_9) → ((!x_10) = true → (!x_10) = true → (!x_10) = true) ∧ ((!x_10) = true → (!x_10) = true → (!x_10) = true) ∧ ∀ (x_11 : Bool), x_11 = decide ((↑(List.length gr) : Int) > (100 : Int)) → ((true && !x_10) = true → (!x_10) = true) ∧ ∀ (x_12 : Bool), (x_12 = bif x_10 then true else x_11) → bcase x_12 (K (AV.bool x) []) (Sp.actOk (aAu, aSeq, aPrev, aKind, aTime, aObj, aTgt, (0 : Int), [], aTo, tx, ([], [], []), (0 : Int), aWr, aN, aM, aE, aS) ∧ ∀ (x_13 : Bool), x_13 = Sp.right (aAu, aSeq, aPrev, aKind, aTime, aObj, aTgt, (0 : Int), [], aTo, tx, ([], [], []), (0 : Int), aWr, aN, aM, aE, aS) → ∀ (x_14 : Bool), x_14 = decide ((↑(List.length tx) : Int) ≤ (500 : Int)) → ∀ (x_15 : Bool), x_15 = !x_13 == x_14 → ((!x_15) = true → ((!x_15) = true → (!x_15) = true) ∧ Sp.actOk (aAu, aSeq, aPrev, aKind, aTime, aObj, aTgt, sc, gr, aTo, aText, (aBn, aBd, aBt), aEp, aWr, aN, aM, aE, aS)) ∧ ∀ (x_16 : Bool), x_16 = Sp.right (aAu, aSeq, aPrev, aKind, aTime, aObj, aTgt, sc, gr, aTo, aText, (aBn, aBd, aBt), aEp, aWr, aN, aM, aE, aS) → ((!x_15 && !x_15 && x_16) = true → (!x_15 && !x_15 && x_16) = true → (!x_15 && !x_15 && x_16) = true) ∧ ∀ (x_17 : Bool), x_17 = decide (sc < (0 : Int)) → ((!x_15 && !x_15 && x_16 && (!x_15 && !x_15 && x_16) && !x_17) = true → (!x_15 && !x_15 && x_16 && (!x_15 && !x_15 && x_16) && !x_17) = true → (!x_15 && !x_15 && x_16 && (!x_15 && !x_15 && x_16) && !x_17) = true) ∧ ∀ (x_18 : Bool), x_18 = decide (sc > (3 : Int)) → ((!x_15 && !x_15 && x_16) = true → ((!x_15 && !x_15 && x_16) = true → (!x_15 && !x_15 && x_16 && (!x_15 && !x_15 && x_16)) = true) ∧ ((!x_15 && !x_15 && x_16 && !x_17) = true → (!x_15 && !x_15 && x_16 && (!x_15 && !x_15 && x_16) && !x_17) = true)) ∧ ∀ (x_19 : Bool), (x_19 = bif x_17 then true else x_18) → ((!x_15) = true → ((!x_15) = true → (!x_15 && !x_15) = true) ∧ ((!x_15 && x_16) = true → (!x_15 && !x_15 && x_16) = true)) ∧ ∀ (x_20 : Bool), (x_20 = bif x_16 then x_19 else false) → ((true && !x_15) = true → (!x_15) = true) ∧ ∀ (x_21 : Bool), (x_21 = bif x_15 then true else x_20) → bcase x_21 (K (AV.bool false) []) (Sp.actOk (aAu, aSeq, aPrev, aKind, aTime, aObj, aTgt, sc, gr, aTo, aText, (aBn, aBd, aBt), aEp, aWr, aN, aM, aE, aS) ∧ ∀ (x_22 : Bool), x_22 = Sp.right (aAu, aSeq, aPrev, aKind, aTime, aObj, aTgt, sc, gr, aTo, aText, (aBn, aBd, aBt), aEp, aWr, aN, aM, aE, aS) → (x_22 = true → x_22 = true → x_22 = true) ∧ ∀ (x_23 : Bool), x_23 = (sc == (2 : Int)) → (x_22 = true → x_22 = true → x_22 = true) ∧ ∀ (x_24 : Bool), x_24 = !gr == [] → (x_22 = true → (x_22 = true → x_22 = true) ∧ (x_22 = true → x_22 = true)) ∧ ∀ (x_25 : Bool), x_25 = !x_23 == x_24 → ((true && x_22) = true → x_22 = true) ∧ ∀ (x_26 : Bool), (x_26 = bif x_22 then x_25 else false) → ((!x_26) = true → ((!x_26) = true → (!x_26) = true) ∧ Sp.actOk (aAu, aSeq, aPrev, aKind, aTime, aObj, aTgt, sc, gr, aTo, aText, (aBn, aBd, aBt), aEp, aWr, aN, aM, aE, aS)) ∧ ∀ (x_27 : Bool), x_27 = Sp.right (aAu, aSeq, aPrev, aKind, aTime, aObj, aTgt, sc, gr, aTo, aText, (aBn, aBd, aBt), aEp, aWr, aN, aM, aE, aS) → ((!x_26 && !x_26 && x_27) = true → (!x_26 && !x_26 && x_27) = true → (!x_26 && !x_26 && x_27) = true) ∧ ∀ (x_28 : Bool), x_28 = !gr == [] → ((!x_26) = true → ((!x_26) = true → (!x_26 && !x_26) = true) ∧ ((!x_26 && x_27) = true → (!x_26 && !x_26 && x_27) = true)) ∧ ∀ (x_29 : Bool), (x_29 = bif x_27 then x_28 else false) → ((!x_26 && !x_26 && x_29) = true → ((!x_26 && !x_26 && x_29) = true → (!x_26 && !x_26 && x_29) = true) ∧ Sp.lenOk63 gr) ∧ ∀ (x_30 : Bool), x_30 = Sp.name gr → ((!x_26 && !x_26 && x_29) = true → (!x_26 && !x_26 && x_29) = true → (!x_26 && !x_26 && x_29) = true) ∧ ∀ (x_31 : Bool), x_31 = !x_30 → ((!x_26) = true → ((!x_26) = true → (!x_26 && !x_26) = true) ∧ ((!x_26 && x_29) = true → (!x_26 && !x_26 && x_29) = true)) ∧ ∀ (x_32 : Bool), (x_32 = bif x_29 then x_31 else false) → ((true && !x_26) = true → (!x_26) = true) ∧ ∀ (x_33 : Bool), (x_33 = bif x_26 then true else x_32) → bcase x_33 (K (AV.bool false) []) ((x = true → (x = true → x = true) ∧ Sp.actOk (aAu, aSeq, aPrev, aKind, aTime, aObj, aTgt, sc, gr, aTo, aText, (aBn, aBd, aBt), aEp, aWr, aN, aM, aE, aS)) ∧ ∀ (x_34 : Bool), x_34 = Sp.right (aAu, aSeq, aPrev, aKind, aTime, aObj, aTgt, sc, gr, aTo, aText, (aBn, aBd, aBt), aEp, aWr, aN, aM, aE, aS) → (x = true → x = true → x = true) ∧ ∀ (x_35 : Bool), x_35 = !x_34 → ((x && x && !x_35) = true → (x && x && !x_35) = true → (x && x && !x_35) = true) ∧ ∀ (x_36 : Bool), x_36 = (sc == (0 : Int)) → ((x && x && !x_35) = true → (x && x && !x_35) = true → (x && x && !x_35) = true) ∧ ((x && x && !x_35) = true → (x && x && !x_35) = true → (x && x && !x_35) = true) ∧ ∀ (x_37 : Bool), x_37 = (aScope == (0 : Int)) → ((x && x && !x_35) = true → ((x && x && !x_35) = true → (x && x && !x_35) = true) ∧ ((x && x && !x_35) = true → (x && x && !x_35) = true)) ∧ ∀ (x_38 : Bool), x_38 = (x_36 == x_37) → (x = true → (x = true → (x && x) = true) ∧ ((x && !x_35) = true → (x && x && !x_35) = true)) ∧ ∀ (x_39 : Bool), (x_39 = bif x_35 then true else x_38) → ((true && x) = true → x = true) ∧ ∀ (x_40 : Bool), (x_40 = bif x then x_39 else false) → K (AV.bool x_40) [])))
theorem ev_lAudience (aAu : Bs) (aSeq : Int) (aPrev : Bs) (aKind : Int) (aTime : Int) (aObj : Bs) (aTgt : Bs) (aScope : Int) (aGrp : Bs) (aTo : List Bs) (aText : Bs) (aBn : Bs) (aBd : Bs) (aBt : Bs) (aEp : Int) (aWr : List Sp.Wrap) (aN : Int) (aM : Int) (aE : Int) (aS : Int) (sc : Int) (gr tx : Bs) (K : AV → St → Prop) : fnA Tryd.prog csR shHints Tryd.f7 [.agg [.str aAu, .int .i64 aSeq, .str aPrev, .int .i64 aKind, .int .i64 aTime, .str aObj, .str aTgt, .int .i64 aScope, .str aGrp, .sl .str aTo, .str aText, .str aBn, .str aBd, .str aBt, .int .i64 aEp, .sl WrapT aWr, .int .i64 aN, .int .i64 aM, .int .i64 aE, .int .i64 aS], .int .i64 sc, .str gr, .str tx] [] K = vc_lAudience aAu aSeq aPrev aKind aTime aObj aTgt aScope aGrp aTo aText aBn aBd aBt aEp aWr aN aM aE aS sc gr tx K := by kernel_rfl
theorem go_lAudience (aAu : Bs) (aSeq : Int) (aPrev : Bs) (aKind : Int) (aTime : Int) (aObj : Bs) (aTgt : Bs) (aScope : Int) (aGrp : Bs) (aTo : List Bs) (aText : Bs) (aBn : Bs) (aBd : Bs) (aBt : Bs) (aEp : Int) (aWr : List Sp.Wrap) (aN : Int) (aM : Int) (aE : Int) (aS : Int) (sc : Int) (gr tx : Bs) {K : AV → St → Prop} (hvc : vc_lAudience aAu aSeq aPrev aKind aTime aObj aTgt aScope aGrp aTo aText aBn aBd aBt aEp aWr aN aM aE aS sc gr tx K) : callA Tryd.prog 7 [.agg [.str aAu, .int .i64 aSeq, .str aPrev, .int .i64 aKind, .int .i64 aTime, .str aObj, .str aTgt, .int .i64 aScope, .str aGrp, .sl .str aTo, .str aText, .str aBn, .str aBd, .str aBt, .int .i64 aEp, .sl WrapT aWr, .int .i64 aN, .int .i64 aM, .int .i64 aE, .int .i64 aS], .int .i64 sc, .str gr, .str tx] [] K :=
  callA_of (P := Tryd.prog) (cs := csR) (H := shHints) (f := 7) (fn := Tryd.f7) (args := [.agg [.str aAu, .int .i64 aSeq, .str aPrev, .int .i64 aKind, .int .i64 aTime, .str aObj, .str aTgt, .int .i64 aScope, .str aGrp, .sl .str aTo, .str aText, .str aBn, .str aBd, .str aBt, .int .i64 aEp, .sl WrapT aWr, .int .i64 aN, .int .i64 aM, .int .i64 aE, .int .i64 aS], .int .i64 sc, .str gr, .str tx]) (L := []) (K := K) hf_lAudience (Eq.mpr (ev_lAudience aAu aSeq aPrev aKind aTime aObj aTgt aScope aGrp aTo aText aBn aBd aBt aEp aWr aN aM aE aS sc gr tx K) hvc)
theorem wrap64_range (n : Int) : Sp.i64Ok (IntKind.wrap .i64 n) := by rw [IntKind.wrap_i64]; unfold Sp.i64Ok; omega
theorem posting_iff (n : Int) : Sp.posting n = true ↔ n = 1 ∨ n = 2 ∨ n = 3 := by simp [Sp.posting]
theorem fields1 (aAu : Bs) (aSeq : Int) (aPrev : Bs) (aKind : Int) (aTime : Int) (aObj : Bs) (aTgt : Bs) (aScope : Int) (aGrp : Bs) (aTo : List Bs) (aText : Bs) (aBn : Bs) (aBd : Bs) (aBt : Bs) (aEp : Int) (aWr : List Sp.Wrap) (aN : Int) (aM : Int) (aE : Int) (aS : Int) (hr : Sp.right (aAu, aSeq, aPrev, aKind, aTime, aObj, aTgt, aScope, aGrp, aTo, aText, (aBn, aBd, aBt), aEp, aWr, aN, aM, aE, aS) = true) : Sp.idOk aAu = true ∧ Sp.ids aTo = true ∧ (aKind == 0) = (aSeq == 0) ∧ (aPrev == []) = (aSeq == 0) ∧ (bif decide (aSeq > 0) then ((aPrev.length : Int) != 32) else false) = false := by
  have hids := right_ids aAu aSeq aPrev aKind aTime aObj aTgt aScope aGrp aTo aText aBn aBd aBt aEp aWr aN aM aE aS hr
  obtain ⟨fl, r, hf⟩ := (right_facts aAu aSeq aPrev aKind aTime aObj aTgt aScope aGrp aTo aText aBn aBd aBt aEp aWr aN aM aE aS).1 hr
  obtain ⟨hk, ⟨b11, b12, b13, b14⟩, ⟨b21, b22⟩, ⟨b31, b32, b33⟩, b4, b5⟩ := hf
  refine ⟨b11, hids, ?_, ?_, ?_⟩
  · show decide (aKind = 0) = decide (aSeq = 0)
    exact decide_eq_decide.2 b14
  · rw [str_nil]
    show decide _ = decide (aSeq = 0)
    refine decide_eq_decide.2 ⟨fun h => ?_, b31⟩
    rcases Int.lt_or_le 0 aSeq with h1 | h1
    · have := b32 h1
      rw [h] at this
      cases this
    · omega
  · by_cases h : aSeq > 0
    · have := b32 h
      rw [decide_eq_true h, this]
      rfl
    · rw [decide_eq_false h]
      rfl
theorem fields2 (aAu : Bs) (aSeq : Int) (aPrev : Bs) (aKind : Int) (aTime : Int) (aObj : Bs) (aTgt : Bs) (aScope : Int) (aGrp : Bs) (aTo : List Bs) (aText : Bs) (aBn : Bs) (aBd : Bs) (aBt : Bs) (aEp : Int) (aWr : List Sp.Wrap) (aN : Int) (aM : Int) (aE : Int) (aS : Int) (hr : Sp.right (aAu, aSeq, aPrev, aKind, aTime, aObj, aTgt, aScope, aGrp, aTo, aText, (aBn, aBd, aBt), aEp, aWr, aN, aM, aE, aS) = true) : (bif (bif (bif Sp.posting aKind then (aScope != 0) else false) then (bif (!aText == []) then true else ((aBn.length : Int) != 32)) else false) then true else (bif (bif decide (aKind ≥ 7) then decide (aKind ≤ 11) else false) then (bif (bif (bif !Sp.idOk aTgt then true else !aObj == []) then true else !aText == []) then true else decide ((aTo.length : Int) > 0)) else false)) = false := by
  have e1 : (bif (bif Sp.posting aKind then (aScope != 0) else false) then (bif (!aText == []) then true else ((aBn.length : Int) != 32)) else false) = false := by
    cases hp : Sp.posting aKind with
    | false => rfl
    | true =>
      have ha := right_post aAu aSeq aPrev aKind aTime aObj aTgt aScope aGrp aTo aText aBn aBd aBt aEp aWr aN aM aE aS ((posting_iff _).1 hp) hr
      rw [audience_iff] at ha
      rw [cond_true]
      rcases ha.2 with h | h
      · rw [h.1]; rfl
      · rw [h.2.2.2.1]
        have hb := (isBox_iff _ _ _).1 h.2.2.2.2.1
        rw [hb.1]
        have : (aScope != 0) = true := by simpa using h.1
        rw [this]
        rfl
  have e2 : (bif (bif decide (aKind ≥ 7) then decide (aKind ≤ 11) else false) then (bif (bif (bif !Sp.idOk aTgt then true else !aObj == []) then true else !aText == []) then true else decide ((aTo.length : Int) > 0)) else false) = false := by
    by_cases h : 7 ≤ aKind ∧ aKind ≤ 11
    · obtain ⟨h1, h2, h3, h4⟩ := right_follow aAu aSeq aPrev aKind aTime aObj aTgt aScope aGrp aTo aText aBn aBd aBt aEp aWr aN aM aE aS h hr
      rw [h1, h2, h3, h4, decide_eq_true (show aKind ≥ 7 from h.1), decide_eq_true h.2]
      rfl
    · have : (bif decide (aKind ≥ 7) then decide (aKind ≤ 11) else false) = false := by
        by_cases h7 : aKind ≥ 7
        · rw [decide_eq_true h7, cond_true]; exact decide_eq_false (by omega)
        · rw [decide_eq_false h7]; rfl
      rw [this]
      rfl
  rw [e1, e2]
  rfl
theorem fields3 (aAu : Bs) (aSeq : Int) (aPrev : Bs) (aKind : Int) (aTime : Int) (aObj : Bs) (aTgt : Bs) (aScope : Int) (aGrp : Bs) (aTo : List Bs) (aText : Bs) (aBn : Bs) (aBd : Bs) (aBt : Bs) (aEp : Int) (aWr : List Sp.Wrap) (aN : Int) (aM : Int) (aE : Int) (aS : Int) (hr : Sp.right (aAu, aSeq, aPrev, aKind, aTime, aObj, aTgt, aScope, aGrp, aTo, aText, (aBn, aBd, aBt), aEp, aWr, aN, aM, aE, aS) = true) : (bif (bif (bif aKind == 16 then true else aKind == 19) then ((aWr.length : Int) != (aTo.length : Int)) else false) then true else (bif (!bif aKind == 16 then true else aKind == 19) then decide ((aWr.length : Int) > 0) else false)) = false := by
  obtain ⟨h1, h2⟩ := right_wraps aAu aSeq aPrev aKind aTime aObj aTgt aScope aGrp aTo aText aBn aBd aBt aEp aWr aN aM aE aS hr
  by_cases h : aKind = 16 ∨ aKind = 19
  · have e : (bif aKind == 16 then true else aKind == 19) = true := by
      rcases h with h | h <;> rw [h] <;> rfl
    rw [e, h1 h]
    simp
  · have e : (bif aKind == 16 then true else aKind == 19) = false := by
      have a1 : (aKind == 16) = false := by simp; omega
      have a2 : (aKind == 19) = false := by simp; omega
      rw [a1, a2]; rfl
    rw [e, h2 ⟨by omega, by omega⟩]
    rfl
theorem fields4 (aAu : Bs) (aSeq : Int) (aPrev : Bs) (aKind : Int) (aTime : Int) (aObj : Bs) (aTgt : Bs) (aScope : Int) (aGrp : Bs) (aTo : List Bs) (aText : Bs) (aBn : Bs) (aBd : Bs) (aBt : Bs) (aEp : Int) (aWr : List Sp.Wrap) (aN : Int) (aM : Int) (aE : Int) (aS : Int) (hr : Sp.right (aAu, aSeq, aPrev, aKind, aTime, aObj, aTgt, aScope, aGrp, aTo, aText, (aBn, aBd, aBt), aEp, aWr, aN, aM, aE, aS) = true) : (bif (bif (bif (bif aKind == 16 then true else aKind == 19) then aKind == 16 else false) then true else aScope != 0) then true else !Sp.right (aAu, aSeq, aPrev, aKind, aTime, aObj, aTgt, aScope, aGrp, aTo, aText, (aBn, aBd, aBt), IntKind.wrap IntKind.i64 (aEp + 1), aWr, aN, aM, aE, aS)) = true := by
  by_cases h16 : aKind = 16
  · rw [h16]; rfl
  have a1 : (aKind == 16) = false := by simpa using h16
  by_cases h0 : aScope = 0
  · have hn : Sp.right (aAu, aSeq, aPrev, aKind, aTime, aObj, aTgt, aScope, aGrp, aTo, aText, (aBn, aBd, aBt), IntKind.wrap IntKind.i64 (aEp + 1), aWr, aN, aM, aE, aS) = false := by
      cases hc : Sp.right (aAu, aSeq, aPrev, aKind, aTime, aObj, aTgt, aScope, aGrp, aTo, aText, (aBn, aBd, aBt), IntKind.wrap IntKind.i64 (aEp + 1), aWr, aN, aM, aE, aS) with
      | false => rfl
      | true =>
        have h1 := right_ep aAu aSeq aPrev aKind aTime aObj aTgt aScope aGrp aTo aText aBn aBd aBt aEp aWr aN aM aE aS h16 h0 hr
        have h2 := right_ep aAu aSeq aPrev aKind aTime aObj aTgt aScope aGrp aTo aText aBn aBd aBt (IntKind.wrap IntKind.i64 (aEp + 1)) aWr aN aM aE aS h16 h0 hc
        rw [h1, wrap64 _ (by omega) (by omega)] at h2
        omega
    rw [hn]
    simp
  · have : (aScope != 0) = true := by simpa using h0
    rw [this, a1]
    cases (aKind == 19) <;> rfl
theorem fields5 (aAu : Bs) (aSeq : Int) (aPrev : Bs) (aKind : Int) (aTime : Int) (aObj : Bs) (aTgt : Bs) (aScope : Int) (aGrp : Bs) (aTo : List Bs) (aText : Bs) (aBn : Bs) (aBd : Bs) (aBt : Bs) (aEp : Int) (aWr : List Sp.Wrap) (aN : Int) (aM : Int) (aE : Int) (aS : Int) (hr : Sp.right (aAu, aSeq, aPrev, aKind, aTime, aObj, aTgt, aScope, aGrp, aTo, aText, (aBn, aBd, aBt), aEp, aWr, aN, aM, aE, aS) = true) : (bif (bif (bif aKind == 0 then true else aKind == 18) then true else aKind == 19) then true else !Sp.right (aAu, aSeq, aPrev, aKind, aTime, aObj, aTgt, aScope, aGrp, aTo, aText, (aBn, aBd, aBt), aEp, aWr, aN, IntKind.wrap IntKind.i64 (aM - 1), aE, aS)) = true := by
  by_cases h : aKind = 0 ∨ aKind = 18 ∨ aKind = 19
  · have : (bif (bif aKind == 0 then true else aKind == 18) then true else aKind == 19) = true := by
      rcases h with h | h | h <;> rw [h] <;> rfl
    rw [this]; rfl
  · have hn : Sp.right (aAu, aSeq, aPrev, aKind, aTime, aObj, aTgt, aScope, aGrp, aTo, aText, (aBn, aBd, aBt), aEp, aWr, aN, IntKind.wrap IntKind.i64 (aM - 1), aE, aS) = false := by
      cases hc : Sp.right (aAu, aSeq, aPrev, aKind, aTime, aObj, aTgt, aScope, aGrp, aTo, aText, (aBn, aBd, aBt), aEp, aWr, aN, IntKind.wrap IntKind.i64 (aM - 1), aE, aS) with
      | false => rfl
      | true =>
        have hh : aKind ≠ 0 ∧ aKind ≠ 18 ∧ aKind ≠ 19 := ⟨by omega, by omega, by omega⟩
        have h1 := right_m aAu aSeq aPrev aKind aTime aObj aTgt aScope aGrp aTo aText aBn aBd aBt aEp aWr aN aM aE aS hh hr
        have h2 := right_m aAu aSeq aPrev aKind aTime aObj aTgt aScope aGrp aTo aText aBn aBd aBt aEp aWr aN (IntKind.wrap IntKind.i64 (aM - 1)) aE aS hh hc
        rw [h1, wrap64 _ (by omega) (by omega)] at h2
        omega
    rw [hn]
    simp
theorem fields6 (aAu : Bs) (aSeq : Int) (aPrev : Bs) (aKind : Int) (aTime : Int) (aObj : Bs) (aTgt : Bs) (aScope : Int) (aGrp : Bs) (aTo : List Bs) (aText : Bs) (aBn : Bs) (aBd : Bs) (aBt : Bs) (aEp : Int) (aWr : List Sp.Wrap) (aN : Int) (aM : Int) (aE : Int) (aS : Int) (hr : Sp.right (aAu, aSeq, aPrev, aKind, aTime, aObj, aTgt, aScope, aGrp, aTo, aText, (aBn, aBd, aBt), aEp, aWr, aN, aM, aE, aS) = true) : Sp.right (aAu, aSeq, aPrev, aKind, aTime, aObj ++ [120], aTgt, aScope, aGrp, aTo, aText, (aBn, aBd, aBt), aEp, aWr, aN, aM, aE, aS) = false := by
  cases hc : Sp.right (aAu, aSeq, aPrev, aKind, aTime, aObj ++ [120], aTgt, aScope, aGrp, aTo, aText, (aBn, aBd, aBt), aEp, aWr, aN, aM, aE, aS) with
  | false => rfl
  | true =>
    have h1 := right_obj aAu aSeq aPrev aKind aTime aObj aTgt aScope aGrp aTo aText aBn aBd aBt aEp aWr aN aM aE aS hr
    have h2 := right_obj aAu aSeq aPrev aKind aTime (aObj ++ [120]) aTgt aScope aGrp aTo aText aBn aBd aBt aEp aWr aN aM aE aS hc
    rcases h2 with h2 | h2
    · exact absurd (List.append_eq_nil_iff.1 h2).2 (by simp)
    · rw [List.length_append, List.length_singleton] at h2
      rcases h1 with h1 | h1
      · rw [h1] at h2; cases h2
      · omega
theorem fields7 (aAu : Bs) (aSeq : Int) (aPrev : Bs) (aKind : Int) (aTime : Int) (aObj : Bs) (aTgt : Bs) (aScope : Int) (aGrp : Bs) (aTo : List Bs) (aText : Bs) (aBn : Bs) (aBd : Bs) (aBt : Bs) (aEp : Int) (aWr : List Sp.Wrap) (aN : Int) (aM : Int) (aE : Int) (aS : Int) (hr : Sp.right (aAu, aSeq, aPrev, aKind, aTime, aObj, aTgt, aScope, aGrp, aTo, aText, (aBn, aBd, aBt), aEp, aWr, aN, aM, aE, aS) = true) : Sp.right (aAu, aSeq, aPrev, aKind, aTime, aObj, aTgt ++ [120], aScope, aGrp, aTo, aText, (aBn, aBd, aBt), aEp, aWr, aN, aM, aE, aS) = false := by
  cases hc : Sp.right (aAu, aSeq, aPrev, aKind, aTime, aObj, aTgt ++ [120], aScope, aGrp, aTo, aText, (aBn, aBd, aBt), aEp, aWr, aN, aM, aE, aS) with
  | false => rfl
  | true =>
    have h1 := right_tgt aAu aSeq aPrev aKind aTime aObj aTgt aScope aGrp aTo aText aBn aBd aBt aEp aWr aN aM aE aS hr
    have h2 := right_tgt aAu aSeq aPrev aKind aTime aObj (aTgt ++ [120]) aScope aGrp aTo aText aBn aBd aBt aEp aWr aN aM aE aS hc
    rcases h2 with h2 | h2
    · exact absurd (List.append_eq_nil_iff.1 h2).2 (by simp)
    · replace h2 := idOk_len _ h2
      rw [List.length_append, List.length_singleton] at h2
      rcases h1 with h1 | h1
      · rw [h1] at h2; cases h2
      · have := idOk_len _ h1
        omega
theorem fields8 (aAu : Bs) (aSeq : Int) (aPrev : Bs) (aKind : Int) (aTime : Int) (aObj : Bs) (aTgt : Bs) (aScope : Int) (aGrp : Bs) (aTo : List Bs) (aText : Bs) (aBn : Bs) (aBd : Bs) (aBt : Bs) (aEp : Int) (aWr : List Sp.Wrap) (aN : Int) (aM : Int) (aE : Int) (aS : Int) (hr : Sp.right (aAu, aSeq, aPrev, aKind, aTime, aObj, aTgt, aScope, aGrp, aTo, aText, (aBn, aBd, aBt), aEp, aWr, aN, aM, aE, aS) = true) : Sp.right (aAu, aSeq, aPrev, aKind, aTime, aObj, aTgt, aScope, aGrp, aTo, aText, (aBn, aBd, aBt), aEp, [(1, 1, [], [], [])] ++ aWr, aN, aM, aE, aS) = false := by
  cases hc : Sp.right (aAu, aSeq, aPrev, aKind, aTime, aObj, aTgt, aScope, aGrp, aTo, aText, (aBn, aBd, aBt), aEp, [(1, 1, [], [], [])] ++ aWr, aN, aM, aE, aS) with
  | false => rfl
  | true =>
    have h1 := right_wrapall aAu aSeq aPrev aKind aTime aObj aTgt aScope aGrp aTo aText aBn aBd aBt aEp ([(1, 1, [], [], [])] ++ aWr) aN aM aE aS hc (1, 1, [], [], []) (by simp)
    exact absurd h1 (by decide)
theorem ok_lFields (a : Sp.Act) (hfa : Sp.fewOk a) (hna : Sp.actNums a) : callA Tryd.prog 6 [ActT.toAV a] [] (fun r _ => r = .bool true ∧ below 0 r = true) := by
  obtain ⟨aAu, aSeq, aPrev, aKind, aTime, aObj, aTgt, aScope, aGrp, aTo, aText, ⟨aBn, aBd, aBt⟩, aEp, aWr, aN, aM, aE, aS⟩ := a
  refine go_lFields aAu aSeq aPrev aKind aTime aObj aTgt aScope aGrp aTo aText aBn aBd aBt aEp aWr aN aM aE aS ?_
  unfold vc_lFields
  rintro _ rfl
  refine ⟨hfa, ?_⟩
  rintro _ rfl _ rfl
  cases hfew : Sp.few (aAu, aSeq, aPrev, aKind, aTime, aObj, aTgt, aScope, aGrp, aTo, aText, (aBn, aBd, aBt), aEp, aWr, aN, aM, aE, aS) with
  | false =>
    rw [Bool.not_false]
    (repeat' first | (rintro _ rfl) | refine ⟨fun h => (by cases h), ?_⟩ | fail)
    exact ⟨rfl, rfl⟩
  | true =>
  have hm := few_mid _ hfew hna
  have hok := mid_actOk _ hm
  have hsz := few_sz _ hfew
  rw [Bool.not_true]
  refine ⟨fun _ => ⟨fun h => h, hok⟩, ?_⟩
  rintro _ rfl
  refine ⟨fun h _ => h, ?_⟩
  rintro _ rfl
  refine ⟨fun h => h, ?_⟩
  rintro _ rfl
  refine bc_split (fun _ => ⟨rfl, rfl⟩) (fun h => ?_)
  have hr : Sp.right (aAu, aSeq, aPrev, aKind, aTime, aObj, aTgt, aScope, aGrp, aTo, aText, (aBn, aBd, aBt), aEp, aWr, aN, aM, aE, aS) = true := by
    cases h1 : Sp.right (aAu, aSeq, aPrev, aKind, aTime, aObj, aTgt, aScope, aGrp, aTo, aText, (aBn, aBd, aBt), aEp, aWr, aN, aM, aE, aS) with
    | true => rfl
    | false => rw [h1] at h; cases h
  clear h
  have hto := actOk_to aAu aSeq aPrev aKind aTime aObj aTgt aScope aGrp aTo aText aBn aBd aBt aEp aWr aN aM aE aS hok
  simp only [Sp.actSz] at hsz
  obtain ⟨⟨i1, i2, i3, i4, i5, i6, i7, i8, i9⟩, hw⟩ := hna
  have mb : Sp.actOk (aAu, aSeq, aPrev, aKind, aTime, aObj, aTgt, aScope, aGrp, aTo, aText, (aBn, aBd, aBt), IntKind.wrap IntKind.i64 (aEp + 1), aWr, aN, aM, aE, aS) := mid_actOk _ ⟨by simp only [Sp.actSz]; omega, ⟨i1, i2, i3, i4, wrap64_range _, i6, i7, i8, i9⟩, hw⟩
  have mc : Sp.actOk (aAu, aSeq, aPrev, aKind, aTime, aObj, aTgt, aScope, aGrp, aTo, aText, (aBn, aBd, aBt), aEp, aWr, aN, IntKind.wrap IntKind.i64 (aM - 1), aE, aS) := mid_actOk _ ⟨by simp only [Sp.actSz]; omega, ⟨i1, i2, i3, i4, i5, i6, wrap64_range _, i8, i9⟩, hw⟩
  have md : Sp.actOk (aAu, aSeq, aPrev, aKind, aTime, aObj ++ [120], aTgt, aScope, aGrp, aTo, aText, (aBn, aBd, aBt), aEp, aWr, aN, aM, aE, aS) := mid_actOk _ ⟨by simp only [Sp.actSz, List.length_append, List.length_singleton]; omega, ⟨i1, i2, i3, i4, i5, i6, i7, i8, i9⟩, hw⟩
  have me : Sp.actOk (aAu, aSeq, aPrev, aKind, aTime, aObj, aTgt ++ [120], aScope, aGrp, aTo, aText, (aBn, aBd, aBt), aEp, aWr, aN, aM, aE, aS) := mid_actOk _ ⟨by simp only [Sp.actSz, List.length_append, List.length_singleton]; omega, ⟨i1, i2, i3, i4, i5, i6, i7, i8, i9⟩, hw⟩
  have w0 : (([(1, 1, [], [], [])] : List Sp.Wrap).map Sp.wrapLen).sum = 60 := by decide
  have mf : Sp.actOk (aAu, aSeq, aPrev, aKind, aTime, aObj, aTgt, aScope, aGrp, aTo, aText, (aBn, aBd, aBt), aEp, [(1, 1, [], [], [])] ++ aWr, aN, aM, aE, aS) := mid_actOk _ ⟨by simp only [Sp.actSz, List.map_append, List.sum_append, w0]; omega, ⟨i1, i2, i3, i4, i5, i6, i7, i8, i9⟩, fun w h => by
    rcases List.mem_append.1 h with h | h
    · rw [List.mem_singleton] at h; subst h; exact ⟨lit_i64 1 (by omega), lit_i64 1 (by omega)⟩
    · exact hw w h⟩
  have lw := len_wrapSum aWr
  obtain ⟨f1, f2, f3, f4, f5⟩ := fields1 aAu aSeq aPrev aKind aTime aObj aTgt aScope aGrp aTo aText aBn aBd aBt aEp aWr aN aM aE aS hr
  have g2 := fields2 aAu aSeq aPrev aKind aTime aObj aTgt aScope aGrp aTo aText aBn aBd aBt aEp aWr aN aM aE aS hr
  have g3 := fields3 aAu aSeq aPrev aKind aTime aObj aTgt aScope aGrp aTo aText aBn aBd aBt aEp aWr aN aM aE aS hr
  have g4 := fields4 aAu aSeq aPrev aKind aTime aObj aTgt aScope aGrp aTo aText aBn aBd aBt aEp aWr aN aM aE aS hr
  have g5 := fields5 aAu aSeq aPrev aKind aTime aObj aTgt aScope aGrp aTo aText aBn aBd aBt aEp aWr aN aM aE aS hr
  rw [f1, f2, f3, f4, fields6 aAu aSeq aPrev aKind aTime aObj aTgt aScope aGrp aTo aText aBn aBd aBt aEp aWr aN aM aE aS hr, fields7 aAu aSeq aPrev aKind aTime aObj aTgt aScope aGrp aTo aText aBn aBd aBt aEp aWr aN aM aE aS hr, fields8 aAu aSeq aPrev aKind aTime aObj aTgt aScope aGrp aTo aText aBn aBd aBt aEp aWr aN aM aE aS hr]
  (repeat' first | (rintro _ rfl) | refine ⟨by first | assumption | exact fun h => h | exact fun h _ => h | exact ob3 | exact fun h => ⟨fun h => h, by assumption⟩ | exact fun h => ⟨⟨fun h => h, fun h => h⟩, by assumption⟩ | exact fun h => ⟨fun h => h, fun h => h⟩ | exact fun h => ⟨⟨fun h => h, fun h => h, fun h => h⟩, by assumption⟩ | fail, ?_⟩ | fail)
  refine bc_split (fun h => ?_) (fun _ => ?_)
  · exfalso
    rw [f5] at h
    simp at h
  (repeat' first | (rintro _ rfl) | refine ⟨by first | assumption | exact fun h => h | exact fun h _ => h | exact ob3 | exact fun h => ⟨fun h => h, by assumption⟩ | exact fun h => ⟨⟨fun h => h, fun h => h⟩, by assumption⟩ | exact fun h => ⟨fun h => h, fun h => h⟩ | exact fun h => ⟨⟨fun h => h, fun h => h, fun h => h⟩, by assumption⟩ | fail, ?_⟩ | fail)
  refine bc_split (fun h => ?_) (fun _ => ?_)
  · exfalso
    exact absurd (g2.symm.trans h) (by simp)
  (repeat' first | (rintro _ rfl) | refine ⟨by first | assumption | exact fun h => h | exact fun h _ => h | exact ob3 | exact fun h => ⟨fun h => h, by assumption⟩ | exact fun h => ⟨⟨fun h => h, fun h => h⟩, by assumption⟩ | exact fun h => ⟨fun h => h, fun h => h⟩ | exact fun h => ⟨⟨fun h => h, fun h => h, fun h => h⟩, by assumption⟩ | fail, ?_⟩ | fail)
  refine bc_split (fun h => ?_) (fun _ => ?_)
  · exfalso
    exact absurd (g3.symm.trans h) (by simp)
  refine ⟨by omega, by omega, by omega, by omega, ?_⟩
  (repeat' first | (rintro _ rfl) | refine ⟨by first | assumption | exact fun h => h | exact fun h _ => h | exact ob3 | exact fun h => ⟨fun h => h, by assumption⟩ | exact fun h => ⟨⟨fun h => h, fun h => h⟩, by assumption⟩ | exact fun h => ⟨fun h => h, fun h => h⟩ | exact fun h => ⟨⟨fun h => h, fun h => h, fun h => h⟩, by assumption⟩ | fail, ?_⟩ | fail)
  refine ⟨congrArg AV.bool ?_, rfl⟩
  rw [f3] at g5
  rw [g4, g5]
  rfl
--Q
theorem name_ne (s : Bs) (h : Sp.name s = true) : s ≠ [] := by
  intro e
  rw [e] at h
  cases h
/-- A posting's kind has one of two rows. -/
theorem post_row {n : Int} {fl : Sp.Flags} {r : Option ACon} (hp : n = 1 ∨ n = 2 ∨ n = 3) (h : kAt n krows = some (fl, r)) : (fl = (false, false, true, false, false, false, false, false, false) ∨ fl = (true, false, true, false, false, false, false, false, false)) ∧ r = some a_audience := by
  rcases kinds_cases h with ⟨hn, rfl, rfl⟩ | ⟨hn, rfl, rfl⟩ | ⟨hn, rfl, rfl⟩ | ⟨hn, rfl, rfl⟩ | ⟨hn, rfl, rfl⟩ | ⟨hn, rfl, rfl⟩ | ⟨hn, rfl, rfl⟩ | ⟨hn, rfl, rfl⟩ | ⟨hn, rfl, rfl⟩ | ⟨hn, rfl, rfl⟩ | ⟨hn, rfl, rfl⟩ | ⟨hn, rfl, rfl⟩ | ⟨hn, rfl, rfl⟩
  · exfalso; omega
  · exact ⟨.inl rfl, rfl⟩
  · exact ⟨.inr rfl, rfl⟩
  all_goals (exfalso; omega)
theorem aud1 (aAu : Bs) (aSeq : Int) (aPrev : Bs) (aKind : Int) (aTime : Int) (aObj : Bs) (aTgt : Bs) (aScope : Int) (aGrp : Bs) (aTo : List Bs) (aText : Bs) (aBn : Bs) (aBd : Bs) (aBt : Bs) (aEp : Int) (aWr : List Sp.Wrap) (aN : Int) (aM : Int) (aE : Int) (aS : Int) (tx : Bs) (hp : aKind = 1 ∨ aKind = 2 ∨ aKind = 3) (hr : Sp.right (aAu, aSeq, aPrev, aKind, aTime, aObj, aTgt, aScope, aGrp, aTo, aText, (aBn, aBd, aBt), aEp, aWr, aN, aM, aE, aS) = true) : Sp.right (aAu, aSeq, aPrev, aKind, aTime, aObj, aTgt, 0, [], aTo, tx, ([], [], []), 0, aWr, aN, aM, aE, aS) = decide ((tx.length : Int) ≤ 500) := by
  have hids := right_ids aAu aSeq aPrev aKind aTime aObj aTgt aScope aGrp aTo aText aBn aBd aBt aEp aWr aN aM aE aS hr
  rw [Bool.eq_iff_iff, decide_eq_true_iff]
  constructor
  · intro h
    have ha := right_post aAu aSeq aPrev aKind aTime aObj aTgt (0) ([]) aTo (tx) ([]) ([]) ([]) (0) aWr aN aM aE aS hp h
    rw [audience_iff] at ha
    rcases ha.2 with h | h
    · have := h.2.2.2.1; omega
    · exact absurd rfl h.1
  · intro hl
    obtain ⟨fl, r, hf⟩ := (right_facts aAu aSeq aPrev aKind aTime aObj aTgt aScope aGrp aTo aText aBn aBd aBt aEp aWr aN aM aE aS).1 hr
    obtain ⟨hk, b1, b2, ⟨b31, b32, b33⟩, b4, b5⟩ := hf
    have hau : Sp.audience (aAu, aSeq, aPrev, aKind, aTime, aObj, aTgt, 0, [], aTo, tx, ([], [], []), 0, aWr, aN, aM, aE, aS) = true := (audience_iff aAu aSeq aPrev aKind aTime aObj aTgt (0) ([]) aTo (tx) ([]) ([]) ([]) (0) aWr aN aM aE aS).2 ⟨hids, .inl ⟨rfl, rfl, rfl, by omega, rfl, rfl, rfl⟩⟩
    obtain ⟨hfl, rfl⟩ := post_row hp hk
    rcases hfl with rfl | rfl
    · obtain ⟨u1, u2, u3, u4, u5, u6, u7, u8, u9⟩ := (unused_iff _ _ _ _ _ _ _ _ _ aAu aSeq aPrev aKind aTime aObj aTgt aScope aGrp aTo aText aBn aBd aBt aEp aWr aN aM aE aS).1 b33
      exact (right_facts aAu aSeq aPrev aKind aTime aObj aTgt (0) ([]) aTo (tx) ([]) ([]) ([]) (0) aWr aN aM aE aS).2 ⟨_, _, hk, b1, b2, ⟨b31, b32, (unused_iff _ _ _ _ _ _ _ _ _ aAu aSeq aPrev aKind aTime aObj aTgt (0) ([]) aTo (tx) ([]) ([]) ([]) (0) aWr aN aM aE aS).2 ⟨u1, u2, .inl rfl, .inl (.inl rfl), .inl (.inl rfl), .inl (.inl rfl), u7, u8, u9⟩⟩, b4, hau⟩
    · obtain ⟨u1, u2, u3, u4, u5, u6, u7, u8, u9⟩ := (unused_iff _ _ _ _ _ _ _ _ _ aAu aSeq aPrev aKind aTime aObj aTgt aScope aGrp aTo aText aBn aBd aBt aEp aWr aN aM aE aS).1 b33
      exact (right_facts aAu aSeq aPrev aKind aTime aObj aTgt (0) ([]) aTo (tx) ([]) ([]) ([]) (0) aWr aN aM aE aS).2 ⟨_, _, hk, b1, b2, ⟨b31, b32, (unused_iff _ _ _ _ _ _ _ _ _ aAu aSeq aPrev aKind aTime aObj aTgt (0) ([]) aTo (tx) ([]) ([]) ([]) (0) aWr aN aM aE aS).2 ⟨u1, u2, .inl rfl, .inl (.inl rfl), .inl (.inl rfl), .inl (.inl rfl), u7, u8, u9⟩⟩, b4, hau⟩
theorem aud2 (aAu : Bs) (aSeq : Int) (aPrev : Bs) (aKind : Int) (aTime : Int) (aObj : Bs) (aTgt : Bs) (aScope : Int) (aGrp : Bs) (aTo : List Bs) (aText : Bs) (aBn : Bs) (aBd : Bs) (aBt : Bs) (aEp : Int) (aWr : List Sp.Wrap) (aN : Int) (aM : Int) (aE : Int) (aS : Int) (sc : Int) (gr : Bs) (hp : aKind = 1 ∨ aKind = 2 ∨ aKind = 3) (hr : Sp.right (aAu, aSeq, aPrev, aKind, aTime, aObj, aTgt, aScope, aGrp, aTo, aText, (aBn, aBd, aBt), aEp, aWr, aN, aM, aE, aS) = true) (h : Sp.right (aAu, aSeq, aPrev, aKind, aTime, aObj, aTgt, sc, gr, aTo, aText, (aBn, aBd, aBt), aEp, aWr, aN, aM, aE, aS) = true) : (0 ≤ sc ∧ sc ≤ 3) ∧ (sc == 2) = (!gr == []) ∧ (gr ≠ [] → Sp.name gr = true) ∧ (sc == 0) = (aScope == 0) := by
  have h1 := (audience_iff aAu aSeq aPrev aKind aTime aObj aTgt aScope aGrp aTo aText aBn aBd aBt aEp aWr aN aM aE aS).1 (right_post aAu aSeq aPrev aKind aTime aObj aTgt aScope aGrp aTo aText aBn aBd aBt aEp aWr aN aM aE aS hp hr)
  have h2 := (audience_iff aAu aSeq aPrev aKind aTime aObj aTgt (sc) (gr) aTo aText aBn aBd aBt aEp aWr aN aM aE aS).1 (right_post aAu aSeq aPrev aKind aTime aObj aTgt (sc) (gr) aTo aText aBn aBd aBt aEp aWr aN aM aE aS hp h)
  have e1 : (gr == []) = decide (gr = []) := str_nil gr
  rw [e1]
  have e2 : (sc == 0) = decide (sc = 0) := rfl
  have e3 : (aScope == 0) = decide (aScope = 0) := rfl
  have e4 : (sc == 2) = decide (sc = 2) := rfl
  rw [e2, e3, e4]
  rcases h2.2 with c | c
  · have hs : aScope = 0 := by
      rcases h1.2 with d | d
      · exact d.1
      · have := (isBox_iff _ _ _).1 d.2.2.2.2.1
        rw [c.2.2.2.2.1] at this
        exact absurd this.1 (by simp)
    rw [c.1, c.2.1, hs]
    exact ⟨by omega, rfl, fun h => absurd rfl h, rfl⟩
  · have hs : aScope ≠ 0 := by
      rcases h1.2 with d | d
      · have := (isBox_iff _ _ _).1 c.2.2.2.2.1
        rw [d.2.2.2.2.1] at this
        exact absurd this.1 (by simp)
      · exact d.1
    rcases (grouped_iff _ _).1 c.2.1 with g | g
    · have hne := name_ne gr g.2
      rw [g.1, decide_eq_false hne, decide_eq_false hs]
      exact ⟨by omega, rfl, fun _ => g.2, rfl⟩
    · rw [g.2, decide_eq_false hs, decide_eq_false c.1, decide_eq_false (show ¬ sc = 2 by omega)]
      exact ⟨by omega, rfl, fun h => absurd rfl h, rfl⟩
theorem ok_lAudience (a : Sp.Act) (sc : Int) (gr tx : Bs) (hfa : Sp.fewOk a) (hna : Sp.actNums a) (hsc : Sp.i64Ok sc) : callA Tryd.prog 7 [ActT.toAV a, .int .i64 sc, .str gr, .str tx] [] (fun r _ => r = .bool true ∧ below 0 r = true) := by
  obtain ⟨aAu, aSeq, aPrev, aKind, aTime, aObj, aTgt, aScope, aGrp, aTo, aText, ⟨aBn, aBd, aBt⟩, aEp, aWr, aN, aM, aE, aS⟩ := a
  refine go_lAudience aAu aSeq aPrev aKind aTime aObj aTgt aScope aGrp aTo aText aBn aBd aBt aEp aWr aN aM aE aS sc gr tx ?_
  unfold vc_lAudience
  rintro _ rfl
  refine ⟨hfa, ?_⟩
  rintro _ rfl _ rfl
  cases hfew : Sp.few (aAu, aSeq, aPrev, aKind, aTime, aObj, aTgt, aScope, aGrp, aTo, aText, (aBn, aBd, aBt), aEp, aWr, aN, aM, aE, aS) with
  | false =>
    rw [Bool.not_false]
    (repeat' first | (rintro _ rfl) | refine ⟨fun h => (by cases h), ?_⟩ | fail)
    exact ⟨rfl, rfl⟩
  | true =>
  have hm := few_mid _ hfew hna
  have hok := mid_actOk _ hm
  have hsz := few_sz _ hfew
  rw [Bool.not_true]
  refine ⟨fun _ => ⟨fun h => h, hok⟩, ?_⟩
  (repeat' first | (rintro _ rfl) | refine ⟨by first | assumption | exact fun h => h | exact fun h _ => h | exact ob3 | exact fun h => ⟨fun h => h, by assumption⟩ | exact fun h => ⟨⟨fun h => h, fun h => h⟩, by assumption⟩ | exact fun h => ⟨fun h => h, fun h => h⟩ | exact fun h => ⟨⟨fun h => h, fun h => h, fun h => h⟩, by assumption⟩ | fail, ?_⟩ | fail)
  refine bc_split (fun _ => ⟨rfl, rfl⟩) (fun h => ?_)
  have hs : Sp.right (aAu, aSeq, aPrev, aKind, aTime, aObj, aTgt, aScope, aGrp, aTo, aText, (aBn, aBd, aBt), aEp, aWr, aN, aM, aE, aS) = true ∧ Sp.posting aKind = true ∧ tx.length ≤ 600 ∧ gr.length ≤ 100 := by
    cases h1 : Sp.right (aAu, aSeq, aPrev, aKind, aTime, aObj, aTgt, aScope, aGrp, aTo, aText, (aBn, aBd, aBt), aEp, aWr, aN, aM, aE, aS) with
    | false => rw [h1] at h; cases h
    | true =>
    cases h2 : Sp.posting aKind with
    | false => rw [h1, h2] at h; cases h
    | true =>
    rw [h1, h2] at h
    by_cases h3 : (tx.length : Int) > 600
    · rw [decide_eq_true h3] at h; cases h
    · rw [decide_eq_false h3] at h
      have := of_decide_eq_false h
      exact ⟨rfl, rfl, by omega, by omega⟩
  obtain ⟨hr, hpo, htx, hgr⟩ := hs
  clear h
  have hp := (posting_iff _).1 hpo
  simp only [Sp.actSz] at hsz
  obtain ⟨⟨i1, i2, i3, i4, i5, i6, i7, i8, i9⟩, hw⟩ := hna
  have mb : Sp.actOk (aAu, aSeq, aPrev, aKind, aTime, aObj, aTgt, 0, [], aTo, tx, ([], [], []), 0, aWr, aN, aM, aE, aS) := mid_actOk _ ⟨by simp only [Sp.actSz, List.length_nil]; omega, ⟨i1, i2, i3, lit_i64 0 (by omega), lit_i64 0 (by omega), i6, i7, i8, i9⟩, hw⟩
  have mc : Sp.actOk (aAu, aSeq, aPrev, aKind, aTime, aObj, aTgt, sc, gr, aTo, aText, (aBn, aBd, aBt), aEp, aWr, aN, aM, aE, aS) := mid_actOk _ ⟨by simp only [Sp.actSz]; omega, ⟨i1, i2, i3, hsc, i5, i6, i7, i8, i9⟩, hw⟩
  have hl63 : Sp.lenOk63 gr := by unfold Sp.lenOk63; omega
  have k1 := aud1 aAu aSeq aPrev aKind aTime aObj aTgt aScope aGrp aTo aText aBn aBd aBt aEp aWr aN aM aE aS tx hp hr
  have k2 := aud2 aAu aSeq aPrev aKind aTime aObj aTgt aScope aGrp aTo aText aBn aBd aBt aEp aWr aN aM aE aS sc gr hp hr
  refine ⟨mb, ?_⟩
  rw [k1]
  clear k1
  (repeat' first | (rintro _ rfl) | refine ⟨by first | assumption | exact fun h => h | exact fun h _ => h | exact ob3 | exact fun h => ⟨fun h => h, by assumption⟩ | exact fun h => ⟨⟨fun h => h, fun h => h⟩, by assumption⟩ | exact fun h => ⟨fun h => h, fun h => h⟩ | exact fun h => ⟨⟨fun h => h, fun h => h, fun h => h⟩, by assumption⟩ | fail, ?_⟩ | fail)
  refine bc_split (fun h => ?_) (fun _ => ?_)
  · exfalso
    rw [beq_self_eq_true] at h
    cases hrc : Sp.right (aAu, aSeq, aPrev, aKind, aTime, aObj, aTgt, sc, gr, aTo, aText, (aBn, aBd, aBt), aEp, aWr, aN, aM, aE, aS) with
    | false => rw [hrc] at h; cases h
    | true =>
      rw [hrc] at h
      obtain ⟨q1, _⟩ := k2 hrc
      rw [decide_eq_false (show ¬ sc < 0 by omega), decide_eq_false (show ¬ sc > 3 by omega)] at h
      cases h
  refine ⟨mc, ?_⟩
  (repeat' first | (rintro _ rfl) | refine ⟨by first | assumption | exact fun h => h | exact fun h _ => h | exact ob3 | exact fun h => ⟨fun h => h, by assumption⟩ | exact fun h => ⟨⟨fun h => h, fun h => h⟩, by assumption⟩ | exact fun h => ⟨fun h => h, fun h => h⟩ | exact fun h => ⟨⟨fun h => h, fun h => h, fun h => h⟩, by assumption⟩ | fail, ?_⟩ | fail)
  refine bc_split (fun h => ?_) (fun _ => ?_)
  · exfalso
    cases hrc : Sp.right (aAu, aSeq, aPrev, aKind, aTime, aObj, aTgt, sc, gr, aTo, aText, (aBn, aBd, aBt), aEp, aWr, aN, aM, aE, aS) with
    | false => rw [hrc] at h; cases h
    | true =>
      rw [hrc] at h
      obtain ⟨_, q2, q3, _⟩ := k2 hrc
      rw [q2, beq_self_eq_true] at h
      have e1 : (gr == []) = decide (gr = []) := str_nil gr
      rw [e1] at h
      by_cases hg : gr = []
      · rw [decide_eq_true hg] at h; cases h
      · rw [decide_eq_false hg, q3 hg] at h; cases h
  (repeat' first | (rintro _ rfl) | refine ⟨by first | assumption | exact fun h => h | exact fun h _ => h | exact ob3 | exact fun h => ⟨fun h => h, by assumption⟩ | exact fun h => ⟨⟨fun h => h, fun h => h⟩, by assumption⟩ | exact fun h => ⟨fun h => h, fun h => h⟩ | exact fun h => ⟨⟨fun h => h, fun h => h, fun h => h⟩, by assumption⟩ | fail, ?_⟩ | fail)
  refine ⟨congrArg AV.bool ?_, rfl⟩
  cases hrc : Sp.right (aAu, aSeq, aPrev, aKind, aTime, aObj, aTgt, sc, gr, aTo, aText, (aBn, aBd, aBt), aEp, aWr, aN, aM, aE, aS) with
  | false => rfl
  | true =>
    obtain ⟨_, _, _, q4⟩ := k2 hrc
    rw [q4, beq_self_eq_true]
    rfl
--Q
end Go.Proofs.YtmkjbdimmgkfdaaDoor
