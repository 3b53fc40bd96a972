/-
  What is valid.
-/
import Derived.Test.YtmkjbdimmgkfdaaDoorMb3
namespace Go.Proofs.YtmkjbdimmgkfdaaDoor
open Go Go.Proofs.YtmkjbdimmgkfdaaDoor.Ax
set_option linter.unusedVariables false
set_option maxRecDepth 100000

namespace Sp
def pub (n : Int) : Bool := within n 1 2305843009213693950
def isBox (n d t : Bs) : Bool := decide (n.length = 32) && (decide (t.length = 16) && short d)
def posting (n : Int) : Bool := decide (n = 1) || (decide (n = 2) || decide (n = 3))
def grouped (scope : Int) (grp : Bs) : Bool := if scope = 2 then name grp else if scope = 1 ∨ scope = 3 then decide (grp = []) else false
def isWrap (w : Wrap) : Bool := pub w.1 && (pub w.2.1 && isBox w.2.2.1 w.2.2.2.1 w.2.2.2.2)
def allWraps (l : List Wrap) : Bool := l.all isWrap
def wraps (to : List Bs) (l : List Wrap) : Bool := decide (l.length = to.length) && allWraps l
end Sp
theorem drop_getD {α : Type} (l : List α) (d : α) (i : Nat) (h : i < l.length) : l.drop i = l.getD i d :: l.drop (i + 1) := by
  have e : l.getD i d = l[i] := by rw [List.getD_eq_getElem?_getD, List.getElem?_eq_getElem h, Option.getD_some]
  rw [e]
  exact List.drop_eq_getElem_cons h
theorem len_eq (s : Bs) (k : Nat) : ((s.length : Int) == (k : Int)) = decide (s.length = k) := by
  show decide _ = _
  exact decide_eq_decide.2 (by omega)
theorem str_nil (s : Bs) : (s == []) = decide (s = []) := by cases s <;> rfl
abbrev csL0 : Cons Tryd.prog := ⟨[k_within, k_short, k_isDigest], [], []⟩
theorem hf_isPub : Tryd.prog.funcs[122]? = some Tryd.f122 := by kernel_rfl
theorem en_isPub : Go.Proofs.YtmkjbdimmgkfdaaDoor.Ax.Enters Tryd.prog 122 := entersOf Tryd.f122 hf_isPub (by kernel_rfl) (by kernel_rfl)
def vc_isPub (n : Int) (K : AV → St → Prop) : Prop :=
  K (AV.bool (Sp.within n (1 : Int) (2305843009213693950 : Int))) []
theorem ev_isPub (n : Int) (K : AV → St → Prop) : fnA Tryd.prog csL0 noHints Tryd.f122 [.int .i64 n] [] K = vc_isPub n K := by kernel_rfl
theorem go_isPub (n : Int) {K : AV → St → Prop} (hvc : vc_isPub n K) : callA Tryd.prog 122 [.int .i64 n] [] K :=
  callA_of (P := Tryd.prog) (cs := csL0) (H := noHints) (f := 122) (fn := Tryd.f122) (args := [.int .i64 n]) (L := []) (K := K) hf_isPub (Eq.mpr (ev_isPub n K) hvc)
theorem hf_isBx : Tryd.prog.funcs[135]? = some Tryd.f135 := by kernel_rfl
theorem en_isBx : Go.Proofs.YtmkjbdimmgkfdaaDoor.Ax.Enters Tryd.prog 135 := entersOf Tryd.f135 hf_isBx (by kernel_rfl) (by kernel_rfl)
def vc_isBx (n d t : Bs) (K : AV → St → Prop) : Prop :=
  (((↑(List.length n) : Int) == (32 : Int)) = true → ((↑(List.length n) : Int) == (32 : Int)) = true → ((↑(List.length n) : Int) == (32 : Int)) = true) ∧ (((↑(List.length n) : Int) == (32 : Int)) = true → ((↑(List.length n) : Int) == (32 : Int)) = true → ((↑(List.length n) : Int) == (32 : Int)) = true) ∧ (((↑(List.length n) : Int) == (32 : Int)) = true → ((↑(List.length n) : Int) == (32 : Int)) = true → ((↑(List.length n) : Int) == (32 : Int)) = true) ∧ ((true && (↑(List.length n) : Int) == (32 : Int)) = true → ((↑(List.length n) : Int) == (32 : Int)) = true) ∧ ((bif (↑(List.length n) : Int) == (32 : Int) then (↑(List.length t) : Int) == (16 : Int) else false) = true → (bif (↑(List.length n) : Int) == (32 : Int) then (↑(List.length t) : Int) == (16 : Int) else false) = true → (bif (↑(List.length n) : Int) == (32 : Int) then (↑(List.length t) : Int) == (16 : Int) else false) = true) ∧ ((bif (↑(List.length n) : Int) == (32 : Int) then (↑(List.length t) : Int) == (16 : Int) else false) = true → (bif (↑(List.length n) : Int) == (32 : Int) then (↑(List.length t) : Int) == (16 : Int) else false) = true → (bif (↑(List.length n) : Int) == (32 : Int) then (↑(List.length t) : Int) == (16 : Int) else false) = true) ∧ ((true && bif (↑(List.length n) : Int) == (32 : Int) then (↑(List.length t) : Int) == (16 : Int) else false) = true → (bif (↑(List.length n) : Int) == (32 : Int) then (↑(List.length t) : Int) == (16 : Int) else false) = true) ∧ K (AV.bool (bif bif (↑(List.length n) : Int) == (32 : Int) then (↑(List.length t) : Int) == (16 : Int) else false then Sp.short d else false)) []
theorem ev_isBx (n d t : Bs) (K : AV → St → Prop) : fnA Tryd.prog csL0 noHints Tryd.f135 [.agg [.str n, .str d, .str t]] [] K = vc_isBx n d t K := by kernel_rfl
theorem go_isBx (n d t : Bs) {K : AV → St → Prop} (hvc : vc_isBx n d t K) : callA Tryd.prog 135 [.agg [.str n, .str d, .str t]] [] K :=
  callA_of (P := Tryd.prog) (cs := csL0) (H := noHints) (f := 135) (fn := Tryd.f135) (args := [.agg [.str n, .str d, .str t]]) (L := []) (K := K) hf_isBx (Eq.mpr (ev_isBx n d t K) hvc)
theorem hf_posting : Tryd.prog.funcs[21]? = some Tryd.f21 := by kernel_rfl
theorem en_posting : Go.Proofs.YtmkjbdimmgkfdaaDoor.Ax.Enters Tryd.prog 21 := entersOf Tryd.f21 hf_posting (by kernel_rfl) (by kernel_rfl)
def vc_posting (n : Int) (K : AV → St → Prop) : Prop :=
  ((!n == (1 : Int)) = true → (!n == (1 : Int)) = true → (!n == (1 : Int)) = true) ∧ ((true && !n == (1 : Int)) = true → (!n == (1 : Int)) = true) ∧ ((!bif n == (1 : Int) then true else n == (2 : Int)) = true → (!bif n == (1 : Int) then true else n == (2 : Int)) = true → (!bif n == (1 : Int) then true else n == (2 : Int)) = true) ∧ ((true && !bif n == (1 : Int) then true else n == (2 : Int)) = true → (!bif n == (1 : Int) then true else n == (2 : Int)) = true) ∧ K (AV.bool (bif bif n == (1 : Int) then true else n == (2 : Int) then true else n == (3 : Int))) []
theorem ev_posting (n : Int) (K : AV → St → Prop) : fnA Tryd.prog csL0 noHints Tryd.f21 [.int .i64 n] [] K = vc_posting n K := by kernel_rfl
theorem go_posting (n : Int) {K : AV → St → Prop} (hvc : vc_posting n K) : callA Tryd.prog 21 [.int .i64 n] [] K :=
  callA_of (P := Tryd.prog) (cs := csL0) (H := noHints) (f := 21) (fn := Tryd.f21) (args := [.int .i64 n]) (L := []) (K := K) hf_posting (Eq.mpr (ev_posting n K) hvc)
theorem hf_reason : Tryd.prog.funcs[124]? = some Tryd.f124 := by kernel_rfl
theorem en_reason : Go.Proofs.YtmkjbdimmgkfdaaDoor.Ax.Enters Tryd.prog 124 := entersOf Tryd.f124 hf_reason (by kernel_rfl) (by kernel_rfl)
def vc_reason (aAu : Bs) (aSeq : Int) (aPrev : Bs) (aKind : Int) (aTime : Int) (aObj : Bs) (aTgt : Bs) (aScope : Int) (aGrp : Bs) (aTo : List Bs) (aText : Bs) (aBn : Bs) (aBd : Bs) (aBt : Bs) (aEp : Int) (aWr : List Sp.Wrap) (aN : Int) (aM : Int) (aE : Int) (aS : Int) (K : AV → St → Prop) : Prop :=
  K (AV.bool (Sp.short aText)) []
theorem ev_reason (aAu : Bs) (aSeq : Int) (aPrev : Bs) (aKind : Int) (aTime : Int) (aObj : Bs) (aTgt : Bs) (aScope : Int) (aGrp : Bs) (aTo : List Bs) (aText : Bs) (aBn : Bs) (aBd : Bs) (aBt : Bs) (aEp : Int) (aWr : List Sp.Wrap) (aN : Int) (aM : Int) (aE : Int) (aS : Int) (K : AV → St → Prop) : fnA Tryd.prog csL0 noHints Tryd.f124 [.agg [.str aAu, .int .i64 aSeq, .str aPrev, .int .i64 aKind, .int .i64 aTime, .str aObj, .str aTgt, .int .i64 aScope, .str aGrp, .sl .str aTo, .str aText, .str aBn, .str aBd, .str aBt, .int .i64 aEp, .sl WrapT aWr, .int .i64 aN, .int .i64 aM, .int .i64 aE, .int .i64 aS]] [] K = vc_reason aAu aSeq aPrev aKind aTime aObj aTgt aScope aGrp aTo aText aBn aBd aBt aEp aWr aN aM aE aS K := by kernel_rfl
theorem go_reason (aAu : Bs) (aSeq : Int) (aPrev : Bs) (aKind : Int) (aTime : Int) (aObj : Bs) (aTgt : Bs) (aScope : Int) (aGrp : Bs) (aTo : List Bs) (aText : Bs) (aBn : Bs) (aBd : Bs) (aBt : Bs) (aEp : Int) (aWr : List Sp.Wrap) (aN : Int) (aM : Int) (aE : Int) (aS : Int) {K : AV → St → Prop} (hvc : vc_reason aAu aSeq aPrev aKind aTime aObj aTgt aScope aGrp aTo aText aBn aBd aBt aEp aWr aN aM aE aS K) : callA Tryd.prog 124 [.agg [.str aAu, .int .i64 aSeq, .str aPrev, .int .i64 aKind, .int .i64 aTime, .str aObj, .str aTgt, .int .i64 aScope, .str aGrp, .sl .str aTo, .str aText, .str aBn, .str aBd, .str aBt, .int .i64 aEp, .sl WrapT aWr, .int .i64 aN, .int .i64 aM, .int .i64 aE, .int .i64 aS]] [] K :=
  callA_of (P := Tryd.prog) (cs := csL0) (H := noHints) (f := 124) (fn := Tryd.f124) (args := [.agg [.str aAu, .int .i64 aSeq, .str aPrev, .int .i64 aKind, .int .i64 aTime, .str aObj, .str aTgt, .int .i64 aScope, .str aGrp, .sl .str aTo, .str aText, .str aBn, .str aBd, .str aBt, .int .i64 aEp, .sl WrapT aWr, .int .i64 aN, .int .i64 aM, .int .i64 aE, .int .i64 aS]]) (L := []) (K := K) hf_reason (Eq.mpr (ev_reason aAu aSeq aPrev aKind aTime aObj aTgt aScope aGrp aTo aText aBn aBd aBt aEp aWr aN aM aE aS K) hvc)
theorem hf_grouped : Tryd.prog.funcs[127]? = some Tryd.f127 := by kernel_rfl
theorem en_grouped : Go.Proofs.YtmkjbdimmgkfdaaDoor.Ax.Enters Tryd.prog 127 := entersOf Tryd.f127 hf_grouped (by kernel_rfl) (by kernel_rfl)
def vc_grouped (aAu : Bs) (aSeq : Int) (aPrev : Bs) (aKind : Int) (aTime : Int) (aObj : Bs) (aTgt : Bs) (aScope : Int) (aGrp : Bs) (aTo : List Bs) (aText : Bs) (aBn : Bs) (aBd : Bs) (aBt : Bs) (aEp : Int) (aWr : List Sp.Wrap) (aN : Int) (aM : Int) (aE : Int) (aS : Int) (K : AV → St → Prop) : Prop :=
  bcase (aScope == (2 : Int)) (Sp.lenOk63 aGrp ∧ K (AV.bool (Sp.name aGrp)) []) (bcase (aScope == (1 : Int)) (bcase (aScope == (1 : Int)) (K (AV.bool (aGrp == [])) []) (K (AV.bool false) [])) (bcase (aScope == (3 : Int)) (K (AV.bool (aGrp == [])) []) (K (AV.bool false) [])))
theorem ev_grouped (aAu : Bs) (aSeq : Int) (aPrev : Bs) (aKind : Int) (aTime : Int) (aObj : Bs) (aTgt : Bs) (aScope : Int) (aGrp : Bs) (aTo : List Bs) (aText : Bs) (aBn : Bs) (aBd : Bs) (aBt : Bs) (aEp : Int) (aWr : List Sp.Wrap) (aN : Int) (aM : Int) (aE : Int) (aS : Int) (K : AV → St → Prop) : fnA Tryd.prog ⟨[k_iName], [], []⟩ noHints Tryd.f127 [.agg [.str aAu, .int .i64 aSeq, .str aPrev, .int .i64 aKind, .int .i64 aTime, .str aObj, .str aTgt, .int .i64 aScope, .str aGrp, .sl .str aTo, .str aText, .str aBn, .str aBd, .str aBt, .int .i64 aEp, .sl WrapT aWr, .int .i64 aN, .int .i64 aM, .int .i64 aE, .int .i64 aS]] [] K = vc_grouped aAu aSeq aPrev aKind aTime aObj aTgt aScope aGrp aTo aText aBn aBd aBt aEp aWr aN aM aE aS K := by kernel_rfl
theorem go_grouped (aAu : Bs) (aSeq : Int) (aPrev : Bs) (aKind : Int) (aTime : Int) (aObj : Bs) (aTgt : Bs) (aScope : Int) (aGrp : Bs) (aTo : List Bs) (aText : Bs) (aBn : Bs) (aBd : Bs) (aBt : Bs) (aEp : Int) (aWr : List Sp.Wrap) (aN : Int) (aM : Int) (aE : Int) (aS : Int) {K : AV → St → Prop} (hvc : vc_grouped aAu aSeq aPrev aKind aTime aObj aTgt aScope aGrp aTo aText aBn aBd aBt aEp aWr aN aM aE aS K) : callA Tryd.prog 127 [.agg [.str aAu, .int .i64 aSeq, .str aPrev, .int .i64 aKind, .int .i64 aTime, .str aObj, .str aTgt, .int .i64 aScope, .str aGrp, .sl .str aTo, .str aText, .str aBn, .str aBd, .str aBt, .int .i64 aEp, .sl WrapT aWr, .int .i64 aN, .int .i64 aM, .int .i64 aE, .int .i64 aS]] [] K :=
  callA_of (P := Tryd.prog) (cs := ⟨[k_iName], [], []⟩) (H := noHints) (f := 127) (fn := Tryd.f127) (args := [.agg [.str aAu, .int .i64 aSeq, .str aPrev, .int .i64 aKind, .int .i64 aTime, .str aObj, .str aTgt, .int .i64 aScope, .str aGrp, .sl .str aTo, .str aText, .str aBn, .str aBd, .str aBt, .int .i64 aEp, .sl WrapT aWr, .int .i64 aN, .int .i64 aM, .int .i64 aE, .int .i64 aS]]) (L := []) (K := K) hf_grouped (Eq.mpr (ev_grouped aAu aSeq aPrev aKind aTime aObj aTgt aScope aGrp aTo aText aBn aBd aBt aEp aWr aN aM aE aS K) hvc)
theorem ok_isPub (n : Int) : callA Tryd.prog 122 [.int .i64 n] [] (fun r _ => r = .bool (Sp.pub n) ∧ below 0 r = true) := by
  exact go_isPub n ⟨rfl, rfl⟩
--Q
theorem ok_isBx (b : Bs × Bs × Bs) : callA Tryd.prog 135 [BoxT.toAV b] [] (fun r _ => r = .bool (Sp.isBox b.1 b.2.1 b.2.2) ∧ below 0 r = true) := by
  obtain ⟨n, d, t⟩ := b
  refine go_isBx n d t ?_
  unfold vc_isBx
  (repeat' first | (intro x hx) | refine ⟨by first | assumption | exact ob3 | exact fun h => h | exact fun h => ⟨fun h => h, by assumption⟩ | exact fun h _ => h | exact fun h => ⟨fun h => h, fun h => h⟩ | exact fun h => ⟨⟨fun h => h, fun h => h⟩, rfl, rfl, rfl⟩ | exact fun h => ⟨⟨fun h => h, fun h => h⟩, rfl, rfl⟩ | (intros; simp_all; done) | fail, ?_⟩ | fail)
  refine ⟨congrArg AV.bool ?_, rfl⟩
  have e1 : ((n.length : Int) == 32) = decide (n.length = 32) := len_eq n 32
  have e2 : ((t.length : Int) == 16) = decide (t.length = 16) := len_eq t 16
  rw [e1, e2]
  unfold Sp.isBox
  cases decide (n.length = 32) <;> cases decide (t.length = 16) <;> simp
--Q
theorem ok_posting (n : Int) : callA Tryd.prog 21 [.int .i64 n] [] (fun r _ => r = .bool (Sp.posting n) ∧ below 0 r = true) := by
  refine go_posting n ?_
  unfold vc_posting
  (repeat' first | (intro x hx) | refine ⟨by first | assumption | exact ob3 | exact fun h => h | exact fun h => ⟨fun h => h, by assumption⟩ | exact fun h _ => h | exact fun h => ⟨fun h => h, fun h => h⟩ | exact fun h => ⟨⟨fun h => h, fun h => h⟩, rfl, rfl, rfl⟩ | exact fun h => ⟨⟨fun h => h, fun h => h⟩, rfl, rfl⟩ | (intros; simp_all; done) | fail, ?_⟩ | fail)
  refine ⟨congrArg AV.bool ?_, rfl⟩
  rw [Bool.eq_iff_iff]
  simp [Sp.posting, or_assoc]
--Q
theorem ok_reason (a : Sp.Act) : callA Tryd.prog 124 [ActT.toAV a] [] (fun r _ => r = .bool (Sp.short a.2.2.2.2.2.2.2.2.2.2.1) ∧ below 0 r = true) := by
  obtain ⟨aAu, aSeq, aPrev, aKind, aTime, aObj, aTgt, aScope, aGrp, aTo, aText, ⟨aBn, aBd, aBt⟩, aEp, aWr, aN, aM, aE, aS⟩ := a
  exact go_reason aAu aSeq aPrev aKind aTime aObj aTgt aScope aGrp aTo aText aBn aBd aBt aEp aWr aN aM aE aS ⟨rfl, rfl⟩
--Q
theorem ok_grouped (a : Sp.Act) (h : Sp.lenOk63 a.2.2.2.2.2.2.2.2.1) : callA Tryd.prog 127 [ActT.toAV a] [] (fun r _ => r = .bool (Sp.grouped a.2.2.2.2.2.2.2.1 a.2.2.2.2.2.2.2.2.1) ∧ below 0 r = true) := by
  obtain ⟨aAu, aSeq, aPrev, aKind, aTime, aObj, aTgt, aScope, aGrp, aTo, aText, ⟨aBn, aBd, aBt⟩, aEp, aWr, aN, aM, aE, aS⟩ := a
  refine go_grouped aAu aSeq aPrev aKind aTime aObj aTgt aScope aGrp aTo aText aBn aBd aBt aEp aWr aN aM aE aS ?_
  unfold vc_grouped
  unfold Sp.grouped
  simp only
  by_cases h2 : aScope = 2
  · subst h2
    exact ⟨h, rfl, rfl⟩
  · have d2 : (aScope == 2) = false := by simpa using h2
    rw [d2, bcase_f, if_neg h2]
    by_cases h1 : aScope = 1
    · subst h1
      simp only [true_or, if_true]
      exact ⟨by rw [← str_nil], rfl⟩
    · have d1 : (aScope == 1) = false := by simpa using h1
      rw [d1, bcase_f]
      by_cases h3 : aScope = 3
      · subst h3
        simp only [or_true, if_true]
        exact ⟨by rw [← str_nil], rfl⟩
      · have d3 : (aScope == 3) = false := by simpa using h3
        rw [d3, bcase_f, if_neg (by omega)]
        exact ⟨rfl, rfl⟩
--Q
def k_isPub : PCon Tryd.prog := mkP [I] 122 (fun _ => none) (fun x => .bool (Sp.pub x.1)) (fun x _ => ok_isPub x.1) en_isPub
def k_isBx : PCon Tryd.prog := mkP [BoxT] 135 (fun _ => none) (fun x => .bool (Sp.isBox x.1.1 x.1.2.1 x.1.2.2)) (fun x _ => ok_isBx x.1) en_isBx
def k_posting : PCon Tryd.prog := mkP [I] 21 (fun _ => none) (fun x => .bool (Sp.posting x.1)) (fun x _ => ok_posting x.1) en_posting
def k_reason : PCon Tryd.prog := mkP [ActT] 124 (fun _ => none) (fun x => .bool (Sp.short x.1.2.2.2.2.2.2.2.2.2.2.1)) (fun x _ => ok_reason x.1) en_reason
def k_grouped : PCon Tryd.prog := mkP [ActT] 127 (fun x => some (Sp.lenOk63 x.1.2.2.2.2.2.2.2.2.1)) (fun x => .bool (Sp.grouped x.1.2.2.2.2.2.2.2.1 x.1.2.2.2.2.2.2.2.2.1)) (fun x h => ok_grouped x.1 h) en_grouped
abbrev csM1 : Cons Tryd.prog := ⟨[k_within, k_short, k_isDigest, k_isPub, k_isBx, k_iRight, k_iName, k_iIds, k_grouped, k_equalS, k_equalW], [], []⟩
theorem hf_isWrap : Tryd.prog.funcs[138]? = some Tryd.f138 := by kernel_rfl
theorem en_isWrap : Go.Proofs.YtmkjbdimmgkfdaaDoor.Ax.Enters Tryd.prog 138 := entersOf Tryd.f138 hf_isWrap (by kernel_rfl) (by kernel_rfl)
def vc_isWrap (to eph : Int) (n d t : Bs) (K : AV → St → Prop) : Prop :=
  (Sp.pub to = true → Sp.pub to = true → Sp.pub to = true) ∧ (Sp.pub to = true → Sp.pub to = true → Sp.pub to = true) ∧ ((true && Sp.pub to) = true → Sp.pub to = true) ∧ ((bif Sp.pub to then Sp.pub eph else false) = true → (bif Sp.pub to then Sp.pub eph else false) = true → (bif Sp.pub to then Sp.pub eph else false) = true) ∧ ((bif Sp.pub to then Sp.pub eph else false) = true → (bif Sp.pub to then Sp.pub eph else false) = true → (bif Sp.pub to then Sp.pub eph else false) = true) ∧ ((true && bif Sp.pub to then Sp.pub eph else false) = true → (bif Sp.pub to then Sp.pub eph else false) = true) ∧ K (AV.bool (bif bif Sp.pub to then Sp.pub eph else false then Sp.isBox n d t else false)) []
theorem ev_isWrap (to eph : Int) (n d t : Bs) (K : AV → St → Prop) : fnA Tryd.prog csM1 noHints Tryd.f138 [.agg [.int .i64 to, .int .i64 eph, .str n, .str d, .str t]] [] K = vc_isWrap to eph n d t K := by kernel_rfl
theorem go_isWrap (to eph : Int) (n d t : Bs) {K : AV → St → Prop} (hvc : vc_isWrap to eph n d t K) : callA Tryd.prog 138 [.agg [.int .i64 to, .int .i64 eph, .str n, .str d, .str t]] [] K :=
  callA_of (P := Tryd.prog) (cs := csM1) (H := noHints) (f := 138) (fn := Tryd.f138) (args := [.agg [.int .i64 to, .int .i64 eph, .str n, .str d, .str t]]) (L := []) (K := K) hf_isWrap (Eq.mpr (ev_isWrap to eph n d t K) hvc)
theorem ok_isWrap (w : Sp.Wrap) : callA Tryd.prog 138 [WrapT.toAV w] [] (fun r _ => r = .bool (Sp.isWrap w) ∧ below 0 r = true) := by
  obtain ⟨to, eph, n, d, t⟩ := w
  refine go_isWrap to eph n d t ?_
  unfold vc_isWrap
  (repeat' first | (intro x hx) | refine ⟨by first | assumption | exact ob3 | exact fun h => h | exact fun h => ⟨fun h => h, by assumption⟩ | exact fun h _ => h | exact fun h => ⟨fun h => h, fun h => h⟩ | exact fun h => ⟨⟨fun h => h, fun h => h⟩, rfl, rfl, rfl⟩ | exact fun h => ⟨⟨fun h => h, fun h => h⟩, rfl, rfl⟩ | (intros; simp_all; done) | fail, ?_⟩ | fail)
  refine ⟨congrArg AV.bool ?_, rfl⟩
  unfold Sp.isWrap
  simp only
  cases Sp.pub to <;> cases Sp.pub eph <;> simp
--Q
def k_isWrap : PCon Tryd.prog := mkP [WrapT] 138 (fun _ => none) (fun x => .bool (Sp.isWrap x.1)) (fun x _ => ok_isWrap x.1) en_isWrap
theorem hf_wraps1 : Tryd.prog.funcs[137]? = some Tryd.f137 := by kernel_rfl
theorem en_wraps1 : Go.Proofs.YtmkjbdimmgkfdaaDoor.Ax.Enters Tryd.prog 137 := entersOf Tryd.f137 hf_wraps1 (by kernel_rfl) (by kernel_rfl)
def vc_wraps1 (to eph : Int) (n d t : Bs) (K : AV → St → Prop) : Prop :=
  K (AV.bool !Sp.isWrap (to, eph, n, d, t)) []
theorem ev_wraps1 (to eph : Int) (n d t : Bs) (K : AV → St → Prop) : fnA Tryd.prog ⟨[k_isWrap], [], []⟩ noHints Tryd.f137 [.agg [.int .i64 to, .int .i64 eph, .str n, .str d, .str t]] [] K = vc_wraps1 to eph n d t K := by kernel_rfl
theorem go_wraps1 (to eph : Int) (n d t : Bs) {K : AV → St → Prop} (hvc : vc_wraps1 to eph n d t K) : callA Tryd.prog 137 [.agg [.int .i64 to, .int .i64 eph, .str n, .str d, .str t]] [] K :=
  callA_of (P := Tryd.prog) (cs := ⟨[k_isWrap], [], []⟩) (H := noHints) (f := 137) (fn := Tryd.f137) (args := [.agg [.int .i64 to, .int .i64 eph, .str n, .str d, .str t]]) (L := []) (K := K) hf_wraps1 (Eq.mpr (ev_wraps1 to eph n d t K) hvc)
theorem ok_wraps1 (w : Sp.Wrap) : callA Tryd.prog 137 [WrapT.toAV w] [] (fun r _ => r = .bool (!Sp.isWrap w) ∧ below 0 r = true) := by
  obtain ⟨to, eph, n, d, t⟩ := w
  exact go_wraps1 to eph n d t ⟨rfl, rfl⟩
--Q
def k_wraps1 : PCon Tryd.prog := mkP [WrapT] 137 (fun _ => none) (fun x => .bool (!Sp.isWrap x.1)) (fun x _ => ok_wraps1 x.1) en_wraps1
abbrev h_ixf : Hints := keepH [(0, [0, 1, 6, 7, 8])] false
namespace Sp
def badFrom : Nat → List Wrap → Int
  | _, [] => -1
  | i, w :: r => bif isWrap w then badFrom (i + 1) r else i
def bad (l : List Wrap) : Int := badFrom 0 l
end Sp
theorem badFrom_pos (l : List Sp.Wrap) : ∀ i, decide (Sp.badFrom i l ≥ 0) = !Sp.allWraps l := by
  induction l with
  | nil => intro i; rfl
  | cons w r ih =>
    intro i
    unfold Sp.badFrom Sp.allWraps
    cases hw : Sp.isWrap w with
    | true =>
      have := ih (i + 1)
      unfold Sp.allWraps at this
      simp only [cond_true, List.all_cons, hw, Bool.true_and]
      exact this
    | false => simp [hw]
theorem hf_ixf : Tryd.prog.funcs[139]? = some Tryd.f139 := by kernel_rfl
theorem en_ixf : Go.Proofs.YtmkjbdimmgkfdaaDoor.Ax.Enters Tryd.prog 139 := entersOf Tryd.f139 hf_ixf (by kernel_rfl) (by kernel_rfl)
def vc_ixf (l : List Sp.Wrap) (K : AV → St → Prop) : Prop :=
  LoopAt Tryd.prog (Cons.mk [k_wraps1] [] []) h_ixf Tryd.f139 (0 : Nat) K (fun (fr : List AV) (L : List AObj) ↦ False) (0 : Nat) (frmA [((0 : Nat), AV.sl WrapT l), ((1 : Nat), AV.fn (Fn.func (137 : FuncId)) [] []), ((6 : Nat), AV.sl WrapT l), ((7 : Nat), AV.int IntKind.i64 (↑(List.length l) : Int)), ((8 : Nat), AV.int IntKind.i64 (0 : Int))] (0 : Nat) (19 : Nat)) []
theorem ev_ixf (l : List Sp.Wrap) (K : AV → St → Prop) : fnA Tryd.prog ⟨[k_wraps1], [], []⟩ h_ixf Tryd.f139 [.sl WrapT l, .fn (.func 137) [] []] [] K = vc_ixf l K := by kernel_rfl
theorem go_ixf (l : List Sp.Wrap) {K : AV → St → Prop} (hvc : vc_ixf l K) : callA Tryd.prog 139 [.sl WrapT l, .fn (.func 137) [] []] [] K :=
  callA_of (P := Tryd.prog) (cs := ⟨[k_wraps1], [], []⟩) (H := h_ixf) (f := 139) (fn := Tryd.f139) (args := [.sl WrapT l, .fn (.func 137) [] []]) (L := []) (K := K) hf_ixf (Eq.mpr (ev_ixf l K) hvc)
def vr_ixf (l : List Sp.Wrap) (i : Int) (K : AV → St → Prop) (Nx N : List AV → St → Prop) : Prop :=
  bcase (decide (i < (↑(List.length l) : Int))) (((0 : Int) ≤ i ∧ i < (↑(List.length l) : Int)) ∧ bcase (!Sp.isWrap (Prod.fst (List.getD l (Int.toNat i) (Ty.dflt WrapT)), Prod.fst (Prod.snd (List.getD l (Int.toNat i) (Ty.dflt WrapT))), Prod.fst (Prod.snd (Prod.snd (List.getD l (Int.toNat i) (Ty.dflt WrapT)))), Prod.fst (Prod.snd (Prod.snd (Prod.snd (List.getD l (Int.toNat i) (Ty.dflt WrapT))))), Prod.snd (Prod.snd (Prod.snd (Prod.snd (List.getD l (Int.toNat i) (Ty.dflt WrapT))))))) (K (AV.int IntKind.i64 i) []) (N (frmA [((0 : Nat), AV.sl WrapT l), ((1 : Nat), AV.fn (Fn.func (137 : FuncId)) [] []), ((6 : Nat), AV.sl WrapT l), ((7 : Nat), AV.int IntKind.i64 (↑(List.length l) : Int)), ((8 : Nat), AV.int IntKind.i64 (IntKind.wrap IntKind.i64 (i + (1 : Int))))] (0 : Nat) (19 : Nat)) [])) (K (AV.int IntKind.i64 (-1 : Int)) [])
theorem er_ixf (l : List Sp.Wrap) (i : Int) (K : AV → St → Prop) (Nx N : List AV → St → Prop) : RoundAt Tryd.prog ⟨[k_wraps1], [], []⟩ h_ixf Tryd.f139 0 K Nx 0 0 N (frmA [(0, .sl WrapT l), (1, .fn (.func 137) [] []), (6, .sl WrapT l), (7, .int .i64 (l.length : Int)), (8, .int .i64 i)] 0 Tryd.f139.ntmps) [] = vr_ixf l i K Nx N := by kernel_rfl
theorem gr_ixf (l : List Sp.Wrap) (i : Int) {K : AV → St → Prop} {Nx N : List AV → St → Prop} (hvc : vr_ixf l i K Nx N) : RoundAt Tryd.prog ⟨[k_wraps1], [], []⟩ h_ixf Tryd.f139 0 K Nx 0 0 N (frmA [(0, .sl WrapT l), (1, .fn (.func 137) [] []), (6, .sl WrapT l), (7, .int .i64 (l.length : Int)), (8, .int .i64 i)] 0 Tryd.f139.ntmps) [] := Eq.mpr (er_ixf l i K Nx N) hvc
theorem ok_ixf (l : List Sp.Wrap) (h : Sp.rowOk l) : callA Tryd.prog 139 [.sl WrapT l, .fn (.func 137) [] []] [] (fun r _ => r = .int .i64 (Sp.bad l) ∧ below 0 r = true) := by
  have hl : l.length < 4611686018427387904 := h
  refine go_ixf l ?_
  refine loopAt_st (σ := Nat) (fun i => frmA [(0, .sl WrapT l), (1, .fn (.func 137) [] []), (6, .sl WrapT l), (7, .int .i64 (l.length : Int)), (8, .int .i64 (i : Int))] 0 19) (fun _ => []) (fun i => l.length - i) (fun i => i ≤ l.length ∧ Sp.bad l = Sp.badFrom i (l.drop i)) [0, 1, 6, 7, 8] (by intros; rfl) ?_ 0 ⟨by omega, rfl⟩ rfl rfl
  rintro i ⟨hle, hinv⟩
  refine gr_ixf l i ?_
  unfold vr_ixf
  by_cases hi : i < l.length
  · have hd : decide ((i : Int) < (l.length : Int)) = true := decide_eq_true (by omega)
    have hw : IntKind.wrap .i64 ((i : Int) + 1) = ((i + 1 : Nat) : Int) := by rw [wrap64 _ (by omega) (by omega)]; omega
    have ei : Int.toNat (i : Int) = i := by omega
    rw [hd, bcase_t, hw, ei]
    have hdrop : l.drop i = l.getD i (Ty.dflt WrapT) :: l.drop (i + 1) := drop_getD l _ i hi
    rw [hdrop] at hinv
    unfold Sp.badFrom at hinv
    refine ⟨by omega, ?_⟩
    cases hw : Sp.isWrap (l.getD i (Ty.dflt WrapT)) with
    | false =>
      rw [hw] at hinv
      refine bcase_eq (b := true) ?_ ⟨?_, rfl⟩
      · exact rfl
      · rw [hinv]; rfl
    | true =>
      rw [hw] at hinv
      refine bcase_eq (b := false) ?_ ⟨i + 1, by omega, ⟨by omega, hinv⟩, rfl, rfl⟩
      exact rfl
  · have hd : decide ((i : Int) < (l.length : Int)) = false := decide_eq_false (by omega)
    rw [hd, bcase_f]
    have e : i = l.length := by omega
    rw [e, List.drop_length] at hinv
    exact ⟨by rw [hinv]; rfl, rfl⟩
--Q
def fnArgs (args : List AV) : Option (List Sp.Wrap) :=
  match args with
  | [x, .fn (.func g) [] []] => match Nat.beq g 137, (Ty.slice WrapT).ofAV x with
    | true, some l => some l
    | _, _ => none
  | _ => none
theorem fnArgs_rep {args : List AV} {l : List Sp.Wrap} (h : fnArgs args = some l) {G : Gh} {w : World} {vs : List Value} (hv : RepL G w args vs) : RepL G w [.sl WrapT l, .fn (.func 137) [] []] vs := by
  unfold fnArgs at h
  split at h
  · rename_i x g
    split at h
    · rename_i l' hg hx
      cases h
      have := Nat.eq_of_beq_eq_true hg
      subst this
      simp only [RepL] at hv ⊢
      obtain ⟨v, r, e, h1, h2⟩ := hv
      exact ⟨v, r, e, ofAV_toAV hx h1, h2⟩
    · cases h
  · cases h
def k_ixf : PCon Tryd.prog where
  f := 139
  pre := fun args => match fnArgs args with | some l => some (Sp.rowOk l) | none => some False
  out := fun args => match fnArgs args with | some l => .int .i64 (Sp.bad l) | none => .any
  ok := by
    intro args h
    cases hw : fnArgs args with
    | none => rw [hw] at h; exact h.elim
    | some l => rw [hw] at h; exact callA_args (ok_ixf l h) (fun G w vs hv => fnArgs_rep hw hv)
  enters := en_ixf
theorem hf_cof : Tryd.prog.funcs[136]? = some Tryd.f136 := by kernel_rfl
theorem en_cof : Go.Proofs.YtmkjbdimmgkfdaaDoor.Ax.Enters Tryd.prog 136 := entersOf Tryd.f136 hf_cof (by kernel_rfl) (by kernel_rfl)
def vc_cof (l : List Sp.Wrap) (K : AV → St → Prop) : Prop :=
  Sp.rowOk l ∧ K (AV.bool (decide (Sp.bad l ≥ (0 : Int)))) []
theorem ev_cof (l : List Sp.Wrap) (K : AV → St → Prop) : fnA Tryd.prog ⟨[k_ixf], [], []⟩ noHints Tryd.f136 [.sl WrapT l, .fn (.func 137) [] []] [] K = vc_cof l K := by kernel_rfl
theorem go_cof (l : List Sp.Wrap) {K : AV → St → Prop} (hvc : vc_cof l K) : callA Tryd.prog 136 [.sl WrapT l, .fn (.func 137) [] []] [] K :=
  callA_of (P := Tryd.prog) (cs := ⟨[k_ixf], [], []⟩) (H := noHints) (f := 136) (fn := Tryd.f136) (args := [.sl WrapT l, .fn (.func 137) [] []]) (L := []) (K := K) hf_cof (Eq.mpr (ev_cof l K) hvc)
theorem ok_cof (l : List Sp.Wrap) (h : Sp.rowOk l) : callA Tryd.prog 136 [.sl WrapT l, .fn (.func 137) [] []] [] (fun r _ => r = .bool (!Sp.allWraps l) ∧ below 0 r = true) := by
  exact go_cof l ⟨h, congrArg AV.bool (badFrom_pos l 0), rfl⟩
--Q
def k_cof : PCon Tryd.prog where
  f := 136
  pre := fun args => match fnArgs args with | some l => some (Sp.rowOk l) | none => some False
  out := fun args => match fnArgs args with | some l => .bool (!Sp.allWraps l) | none => .any
  ok := by
    intro args h
    cases hw : fnArgs args with
    | none => rw [hw] at h; exact h.elim
    | some l => rw [hw] at h; exact callA_args (ok_cof l h) (fun G w vs hv => fnArgs_rep hw hv)
  enters := en_cof
theorem hf_wraps : Tryd.prog.funcs[128]? = some Tryd.f128 := by kernel_rfl
theorem en_wraps : Go.Proofs.YtmkjbdimmgkfdaaDoor.Ax.Enters Tryd.prog 128 := entersOf Tryd.f128 hf_wraps (by kernel_rfl) (by kernel_rfl)
def vc_wraps (aAu : Bs) (aSeq : Int) (aPrev : Bs) (aKind : Int) (aTime : Int) (aObj : Bs) (aTgt : Bs) (aScope : Int) (aGrp : Bs) (aTo : List Bs) (aText : Bs) (aBn : Bs) (aBd : Bs) (aBt : Bs) (aEp : Int) (aWr : List Sp.Wrap) (aN : Int) (aM : Int) (aE : Int) (aS : Int) (K : AV → St → Prop) : Prop :=
  (((↑(List.length aWr) : Int) == (↑(List.length aTo) : Int)) = true → ((↑(List.length aWr) : Int) == (↑(List.length aTo) : Int)) = true → ((↑(List.length aWr) : Int) == (↑(List.length aTo) : Int)) = true) ∧ (((↑(List.length aWr) : Int) == (↑(List.length aTo) : Int)) = true → (((↑(List.length aWr) : Int) == (↑(List.length aTo) : Int)) = true → ((↑(List.length aWr) : Int) == (↑(List.length aTo) : Int)) = true) ∧ Sp.rowOk aWr) ∧ (((↑(List.length aWr) : Int) == (↑(List.length aTo) : Int)) = true → ((↑(List.length aWr) : Int) == (↑(List.length aTo) : Int)) = true → ((↑(List.length aWr) : Int) == (↑(List.length aTo) : Int)) = true) ∧ ((true && (↑(List.length aWr) : Int) == (↑(List.length aTo) : Int)) = true → ((↑(List.length aWr) : Int) == (↑(List.length aTo) : Int)) = true) ∧ K (AV.bool (bif (↑(List.length aWr) : Int) == (↑(List.length aTo) : Int) then !!Sp.allWraps aWr else false)) []
theorem ev_wraps (aAu : Bs) (aSeq : Int) (aPrev : Bs) (aKind : Int) (aTime : Int) (aObj : Bs) (aTgt : Bs) (aScope : Int) (aGrp : Bs) (aTo : List Bs) (aText : Bs) (aBn : Bs) (aBd : Bs) (aBt : Bs) (aEp : Int) (aWr : List Sp.Wrap) (aN : Int) (aM : Int) (aE : Int) (aS : Int) (K : AV → St → Prop) : fnA Tryd.prog ⟨[k_cof], [], []⟩ noHints Tryd.f128 [.agg [.str aAu, .int .i64 aSeq, .str aPrev, .int .i64 aKind, .int .i64 aTime, .str aObj, .str aTgt, .int .i64 aScope, .str aGrp, .sl .str aTo, .str aText, .str aBn, .str aBd, .str aBt, .int .i64 aEp, .sl WrapT aWr, .int .i64 aN, .int .i64 aM, .int .i64 aE, .int .i64 aS]] [] K = vc_wraps aAu aSeq aPrev aKind aTime aObj aTgt aScope aGrp aTo aText aBn aBd aBt aEp aWr aN aM aE aS K := by kernel_rfl
theorem go_wraps (aAu : Bs) (aSeq : Int) (aPrev : Bs) (aKind : Int) (aTime : Int) (aObj : Bs) (aTgt : Bs) (aScope : Int) (aGrp : Bs) (aTo : List Bs) (aText : Bs) (aBn : Bs) (aBd : Bs) (aBt : Bs) (aEp : Int) (aWr : List Sp.Wrap) (aN : Int) (aM : Int) (aE : Int) (aS : Int) {K : AV → St → Prop} (hvc : vc_wraps aAu aSeq aPrev aKind aTime aObj aTgt aScope aGrp aTo aText aBn aBd aBt aEp aWr aN aM aE aS K) : callA Tryd.prog 128 [.agg [.str aAu, .int .i64 aSeq, .str aPrev, .int .i64 aKind, .int .i64 aTime, .str aObj, .str aTgt, .int .i64 aScope, .str aGrp, .sl .str aTo, .str aText, .str aBn, .str aBd, .str aBt, .int .i64 aEp, .sl WrapT aWr, .int .i64 aN, .int .i64 aM, .int .i64 aE, .int .i64 aS]] [] K :=
  callA_of (P := Tryd.prog) (cs := ⟨[k_cof], [], []⟩) (H := noHints) (f := 128) (fn := Tryd.f128) (args := [.agg [.str aAu, .int .i64 aSeq, .str aPrev, .int .i64 aKind, .int .i64 aTime, .str aObj, .str aTgt, .int .i64 aScope, .str aGrp, .sl .str aTo, .str aText, .str aBn, .str aBd, .str aBt, .int .i64 aEp, .sl WrapT aWr, .int .i64 aN, .int .i64 aM, .int .i64 aE, .int .i64 aS]]) (L := []) (K := K) hf_wraps (Eq.mpr (ev_wraps aAu aSeq aPrev aKind aTime aObj aTgt aScope aGrp aTo aText aBn aBd aBt aEp aWr aN aM aE aS K) hvc)
theorem ok_wraps (a : Sp.Act) (h : Sp.actRows a) : callA Tryd.prog 128 [ActT.toAV a] [] (fun r _ => r = .bool (Sp.wraps a.2.2.2.2.2.2.2.2.2.1 a.2.2.2.2.2.2.2.2.2.2.2.2.2.1) ∧ below 0 r = true) := by
  obtain ⟨aAu, aSeq, aPrev, aKind, aTime, aObj, aTgt, aScope, aGrp, aTo, aText, ⟨aBn, aBd, aBt⟩, aEp, aWr, aN, aM, aE, aS⟩ := a
  refine go_wraps aAu aSeq aPrev aKind aTime aObj aTgt aScope aGrp aTo aText aBn aBd aBt aEp aWr aN aM aE aS ⟨fun h _ => h, fun h' => ⟨fun h => h, h.2⟩, fun h _ => h, fun h => h, congrArg AV.bool ?_, rfl⟩
  have e : ((aWr.length : Int) == (aTo.length : Int)) = decide (aWr.length = aTo.length) := by
    show decide _ = _
    exact decide_eq_decide.2 (by omega)
  rw [e]
  unfold Sp.wraps
  cases decide (aWr.length = aTo.length) <;> simp
--Q
def k_wraps : PCon Tryd.prog := mkP [ActT] 128 (fun x => some (Sp.actRows x.1)) (fun x => .bool (Sp.wraps x.1.2.2.2.2.2.2.2.2.2.1 x.1.2.2.2.2.2.2.2.2.2.2.2.2.2.1)) (fun x h => ok_wraps x.1 h) en_wraps
end Go.Proofs.YtmkjbdimmgkfdaaDoor
namespace Go.Proofs.YtmkjbdimmgkfdaaDoor
open Go Go.Proofs.YtmkjbdimmgkfdaaDoor.Ax
set_option linter.unusedVariables false
set_option maxRecDepth 100000

namespace Sp
def s40 (s : Bs) : Prop := s.length < 1099511627776
def wrapLen (w : Wrap) : Nat := w.2.2.1.length + w.2.2.2.1.length + w.2.2.2.2.length + 60
/-- What an activity fits into. -/
def actOk : Act → Prop
  | (au, seq, prev, kind, time, obj, tgt, scope, grp, to, text, (bn, bd, bt), ep, wr, n, m, e, s) => (s40 au ∧ s40 prev ∧ s40 obj ∧ s40 tgt ∧ s40 grp ∧ s40 text ∧ s40 bn ∧ s40 bd ∧ s40 bt) ∧ (to.length < 4294967296 ∧ (to.flatMap Sp.text).length < 1099511627776) ∧ (wr.length < 4294967296 ∧ (wr.map wrapLen).sum < 1099511627776) ∧
    (i64Ok seq ∧ i64Ok kind ∧ i64Ok time ∧ i64Ok scope ∧ i64Ok ep ∧ i64Ok n ∧ i64Ok m ∧ i64Ok e ∧ i64Ok s) ∧ ∀ w ∈ wr, i64Ok w.1 ∧ i64Ok w.2.1
def noBox (n d t : Bs) : Bool := decide (n = []) && (decide (d = []) && decide (t = []))
def audience : Act → Bool
  | (au, seq, prev, kind, time, obj, tgt, scope, grp, to, text, (bn, bd, bt), ep, wr, n, m, e, s) => ids to && (if scope = 0 then decide (grp = []) && (decide (ep = 0) && (short text && noBox bn bd bt))
      else grouped scope grp && (within ep 0 1073741824 && (decide (text = []) && (isBox bn bd bt && (decide (to = []) || decide (scope = 3))))))
def rBegin : Act → Bool
  | (au, seq, prev, kind, time, obj, tgt, scope, grp, to, text, (bn, bd, bt), ep, wr, n, m, e, s) => name text && (pub n && within m 0 19)
def rReason : Act → Bool
  | (au, seq, prev, kind, time, obj, tgt, scope, grp, to, text, (bn, bd, bt), ep, wr, n, m, e, s) => short text
def rCircle : Act → Bool
  | (au, seq, prev, kind, time, obj, tgt, scope, grp, to, text, (bn, bd, bt), ep, wr, n, m, e, s) => name grp && ids to
def rGrant : Act → Bool
  | (au, seq, prev, kind, time, obj, tgt, scope, grp, to, text, (bn, bd, bt), ep, wr, n, m, e, s) => grouped scope grp && (within ep 0 1073741824 && (ids to && (wraps to wr && (decide (text = []) && noBox bn bd bt))))
def rLabel : Act → Bool
  | (au, seq, prev, kind, time, obj, tgt, scope, grp, to, text, (bn, bd, bt), ep, wr, n, m, e, s) => name text && decide (decide (obj = []) ≠ decide (tgt = []))
def rMove : Act → Bool
  | (au, seq, prev, kind, time, obj, tgt, scope, grp, to, text, (bn, bd, bt), ep, wr, n, m, e, s) => pub n && within m 0 19
def rSetup : Act → Bool
  | (au, seq, prev, kind, time, obj, tgt, scope, grp, to, text, (bn, bd, bt), ep, wr, n, m, e, s) => ids to && (decide (to ≠ []) && (wraps to wr && (within n 1 to.length && pub m)))
def rJudge : Act → Bool
  | (au, seq, prev, kind, time, obj, tgt, scope, grp, to, text, (bn, bd, bt), ep, wr, n, m, e, s) => within n 0 1
def rList : Act → Bool
  | (au, seq, prev, kind, time, obj, tgt, scope, grp, to, text, (bn, bd, bt), ep, wr, n, m, e, s) => short text && within n 0 1099511627776
end Sp
theorem actOk_to (aAu : Bs) (aSeq : Int) (aPrev : Bs) (aKind : Int) (aTime : Int) (aObj : Bs) (aTgt : Bs) (aScope : Int) (aGrp : Bs) (aTo : List Bs) (aText : Bs) (aBn : Bs) (aBd : Bs) (aBt : Bs) (aEp : Int) (aWr : List Sp.Wrap) (aN : Int) (aM : Int) (aE : Int) (aS : Int) (h : Sp.actOk (aAu, aSeq, aPrev, aKind, aTime, aObj, aTgt, aScope, aGrp, aTo, aText, (aBn, aBd, aBt), aEp, aWr, aN, aM, aE, aS)) : Sp.rowOk aTo := by have := h.2.1.1; unfold Sp.rowOk; omega
theorem actOk_rows (aAu : Bs) (aSeq : Int) (aPrev : Bs) (aKind : Int) (aTime : Int) (aObj : Bs) (aTgt : Bs) (aScope : Int) (aGrp : Bs) (aTo : List Bs) (aText : Bs) (aBn : Bs) (aBd : Bs) (aBt : Bs) (aEp : Int) (aWr : List Sp.Wrap) (aN : Int) (aM : Int) (aE : Int) (aS : Int) (h : Sp.actOk (aAu, aSeq, aPrev, aKind, aTime, aObj, aTgt, aScope, aGrp, aTo, aText, (aBn, aBd, aBt), aEp, aWr, aN, aM, aE, aS)) : Sp.actRows (aAu, aSeq, aPrev, aKind, aTime, aObj, aTgt, aScope, aGrp, aTo, aText, (aBn, aBd, aBt), aEp, aWr, aN, aM, aE, aS) := ⟨actOk_to aAu aSeq aPrev aKind aTime aObj aTgt aScope aGrp aTo aText aBn aBd aBt aEp aWr aN aM aE aS h, by have : aWr.length < 4294967296 := h.2.2.1.1; show aWr.length < _; omega⟩
theorem actOk_grp (aAu : Bs) (aSeq : Int) (aPrev : Bs) (aKind : Int) (aTime : Int) (aObj : Bs) (aTgt : Bs) (aScope : Int) (aGrp : Bs) (aTo : List Bs) (aText : Bs) (aBn : Bs) (aBd : Bs) (aBt : Bs) (aEp : Int) (aWr : List Sp.Wrap) (aN : Int) (aM : Int) (aE : Int) (aS : Int) (h : Sp.actOk (aAu, aSeq, aPrev, aKind, aTime, aObj, aTgt, aScope, aGrp, aTo, aText, (aBn, aBd, aBt), aEp, aWr, aN, aM, aE, aS)) : Sp.lenOk63 aGrp := by have := h.1.2.2.2.2.1; unfold Sp.s40 at this; unfold Sp.lenOk63; omega
theorem actOk_text (aAu : Bs) (aSeq : Int) (aPrev : Bs) (aKind : Int) (aTime : Int) (aObj : Bs) (aTgt : Bs) (aScope : Int) (aGrp : Bs) (aTo : List Bs) (aText : Bs) (aBn : Bs) (aBd : Bs) (aBt : Bs) (aEp : Int) (aWr : List Sp.Wrap) (aN : Int) (aM : Int) (aE : Int) (aS : Int) (h : Sp.actOk (aAu, aSeq, aPrev, aKind, aTime, aObj, aTgt, aScope, aGrp, aTo, aText, (aBn, aBd, aBt), aEp, aWr, aN, aM, aE, aS)) : Sp.lenOk63 aText := by have := h.1.2.2.2.2.2.1; unfold Sp.s40 at this; unfold Sp.lenOk63; omega
abbrev csM2 : Cons Tryd.prog := ⟨[k_within, k_short, k_isDigest, k_isPub, k_isBx, k_iRight, k_iName, k_iIds, k_grouped, k_equalS, k_equalW, k_wraps], [], []⟩
theorem hf_audience : Tryd.prog.funcs[123]? = some Tryd.f123 := by kernel_rfl
theorem en_audience : Go.Proofs.YtmkjbdimmgkfdaaDoor.Ax.Enters Tryd.prog 123 := entersOf Tryd.f123 hf_audience (by kernel_rfl) (by kernel_rfl)
def vc_audience (aAu : Bs) (aSeq : Int) (aPrev : Bs) (aKind : Int) (aTime : Int) (aObj : Bs) (aTgt : Bs) (aScope : Int) (aGrp : Bs) (aTo : List Bs) (aText : Bs) (aBn : Bs) (aBd : Bs) (aBt : Bs) (aEp : Int) (aWr : List Sp.Wrap) (aN : Int) (aM : Int) (aE : Int) (aS : Int) (K : AV → St → Prop) : Prop :=
  Sp.rowOk aTo ∧ ∀ (x : Bool), x = Sp.ids aTo → ∀ (x_1 : Bool), x_1 = !x → bcase x_1 (K (AV.bool false) []) (∀ (x : Bool), x = (aScope == (0 : Int)) → bcase x (∀ (x : Bool), x = (aGrp == []) → (x = true → x = true → x = true) ∧ (x = true → x = true → x = true) ∧ ∀ (x_2 : Bool), x_2 = (aEp == (0 : Int)) → ((true && x) = true → x = true) ∧ ∀ (x_3 : Bool), (x_3 = bif x then x_2 else false) → (x_3 = true → x_3 = true → x_3 = true) ∧ (x_3 = true → x_3 = true → x_3 = true) ∧ ∀ (x : Bool), x = Sp.short aText → ((true && x_3) = true → x_3 = true) ∧ ∀ (x_4 : Bool), (x_4 = bif x_3 then x else false) → (x_4 = true → x_4 = true → x_4 = true) ∧ (x_4 = true → ((x_4 = true → x_4 = true) ∧ (x_4 = true → x_4 = true)) ∧ false = false ∧ false = false) ∧ ∀ (x : Bool), x = (aBn == [] && (aBd == [] && aBt == [])) → ((true && x_4) = true → x_4 = true) ∧ ∀ (x_5 : Bool), (x_5 = bif x_4 then x else false) → K (AV.bool x_5) []) (Sp.lenOk63 aGrp ∧ ∀ (x : Bool), x = Sp.grouped aScope aGrp → (x = true → x = true → x = true) ∧ (x = true → x = true → x = true) ∧ ∀ (x_2 : Bool), x_2 = Sp.within aEp (0 : Int) (1073741824 : Int) → ((true && x) = true → x = true) ∧ ∀ (x_3 : Bool), (x_3 = bif x then x_2 else false) → (x_3 = true → x_3 = true → x_3 = true) ∧ (x_3 = true → x_3 = true → x_3 = true) ∧ ∀ (x : Bool), x = (aText == []) → ((true && x_3) = true → x_3 = true) ∧ ∀ (x_4 : Bool), (x_4 = bif x_3 then x else false) → (x_4 = true → x_4 = true → x_4 = true) ∧ (x_4 = true → x_4 = true → x_4 = true) ∧ ∀ (x : Bool), x = Sp.isBox aBn aBd aBt → ((true && x_4) = true → x_4 = true) ∧ ∀ (x_5 : Bool), (x_5 = bif x_4 then x else false) → (x_5 = true → x_5 = true → x_5 = true) ∧ (x_5 = true → x_5 = true → x_5 = true) ∧ (x_5 = true → x_5 = true → x_5 = true) ∧ ∀ (x : Bool), x = ((↑(List.length aTo) : Int) == (0 : Int)) → ((x_5 && x_5 && !x) = true → (x_5 && x_5 && !x) = true → (x_5 && x_5 && !x) = true) ∧ ((x_5 && x_5 && !x) = true → (x_5 && x_5 && !x) = true → (x_5 && x_5 && !x) = true) ∧ ∀ (x_6 : Bool), x_6 = (aScope == (3 : Int)) → (x_5 = true → (x_5 = true → (x_5 && x_5) = true) ∧ ((x_5 && !x) = true → (x_5 && x_5 && !x) = true)) ∧ ∀ (x_7 : Bool), (x_7 = bif x then true else x_6) → ((true && x_5) = true → x_5 = true) ∧ ∀ (x : Bool), (x = bif x_5 then x_7 else false) → K (AV.bool x) []))
theorem ev_audience (aAu : Bs) (aSeq : Int) (aPrev : Bs) (aKind : Int) (aTime : Int) (aObj : Bs) (aTgt : Bs) (aScope : Int) (aGrp : Bs) (aTo : List Bs) (aText : Bs) (aBn : Bs) (aBd : Bs) (aBt : Bs) (aEp : Int) (aWr : List Sp.Wrap) (aN : Int) (aM : Int) (aE : Int) (aS : Int) (K : AV → St → Prop) : fnA Tryd.prog csM2 shHints Tryd.f123 [.agg [.str aAu, .int .i64 aSeq, .str aPrev, .int .i64 aKind, .int .i64 aTime, .str aObj, .str aTgt, .int .i64 aScope, .str aGrp, .sl .str aTo, .str aText, .str aBn, .str aBd, .str aBt, .int .i64 aEp, .sl WrapT aWr, .int .i64 aN, .int .i64 aM, .int .i64 aE, .int .i64 aS]] [] K = vc_audience aAu aSeq aPrev aKind aTime aObj aTgt aScope aGrp aTo aText aBn aBd aBt aEp aWr aN aM aE aS K := by kernel_rfl
theorem go_audience (aAu : Bs) (aSeq : Int) (aPrev : Bs) (aKind : Int) (aTime : Int) (aObj : Bs) (aTgt : Bs) (aScope : Int) (aGrp : Bs) (aTo : List Bs) (aText : Bs) (aBn : Bs) (aBd : Bs) (aBt : Bs) (aEp : Int) (aWr : List Sp.Wrap) (aN : Int) (aM : Int) (aE : Int) (aS : Int) {K : AV → St → Prop} (hvc : vc_audience aAu aSeq aPrev aKind aTime aObj aTgt aScope aGrp aTo aText aBn aBd aBt aEp aWr aN aM aE aS K) : callA Tryd.prog 123 [.agg [.str aAu, .int .i64 aSeq, .str aPrev, .int .i64 aKind, .int .i64 aTime, .str aObj, .str aTgt, .int .i64 aScope, .str aGrp, .sl .str aTo, .str aText, .str aBn, .str aBd, .str aBt, .int .i64 aEp, .sl WrapT aWr, .int .i64 aN, .int .i64 aM, .int .i64 aE, .int .i64 aS]] [] K :=
  callA_of (P := Tryd.prog) (cs := csM2) (H := shHints) (f := 123) (fn := Tryd.f123) (args := [.agg [.str aAu, .int .i64 aSeq, .str aPrev, .int .i64 aKind, .int .i64 aTime, .str aObj, .str aTgt, .int .i64 aScope, .str aGrp, .sl .str aTo, .str aText, .str aBn, .str aBd, .str aBt, .int .i64 aEp, .sl WrapT aWr, .int .i64 aN, .int .i64 aM, .int .i64 aE, .int .i64 aS]]) (L := []) (K := K) hf_audience (Eq.mpr (ev_audience aAu aSeq aPrev aKind aTime aObj aTgt aScope aGrp aTo aText aBn aBd aBt aEp aWr aN aM aE aS K) hvc)
theorem hf_rBegin : Tryd.prog.funcs[121]? = some Tryd.f121 := by kernel_rfl
theorem en_rBegin : Go.Proofs.YtmkjbdimmgkfdaaDoor.Ax.Enters Tryd.prog 121 := entersOf Tryd.f121 hf_rBegin (by kernel_rfl) (by kernel_rfl)
def vc_rBegin (aAu : Bs) (aSeq : Int) (aPrev : Bs) (aKind : Int) (aTime : Int) (aObj : Bs) (aTgt : Bs) (aScope : Int) (aGrp : Bs) (aTo : List Bs) (aText : Bs) (aBn : Bs) (aBd : Bs) (aBt : Bs) (aEp : Int) (aWr : List Sp.Wrap) (aN : Int) (aM : Int) (aE : Int) (aS : Int) (K : AV → St → Prop) : Prop :=
  Sp.lenOk63 aText ∧ ∀ (x : Bool), x = Sp.name aText → (x = true → x = true → x = true) ∧ (x = true → x = true → x = true) ∧ ∀ (x_1 : Bool), x_1 = Sp.pub aN → ((true && x) = true → x = true) ∧ ∀ (x_2 : Bool), (x_2 = bif x then x_1 else false) → (x_2 = true → x_2 = true → x_2 = true) ∧ (x_2 = true → x_2 = true → x_2 = true) ∧ ∀ (x : Bool), x = Sp.within aM (0 : Int) (19 : Int) → ((true && x_2) = true → x_2 = true) ∧ ∀ (x_3 : Bool), (x_3 = bif x_2 then x else false) → K (AV.bool x_3) []
theorem ev_rBegin (aAu : Bs) (aSeq : Int) (aPrev : Bs) (aKind : Int) (aTime : Int) (aObj : Bs) (aTgt : Bs) (aScope : Int) (aGrp : Bs) (aTo : List Bs) (aText : Bs) (aBn : Bs) (aBd : Bs) (aBt : Bs) (aEp : Int) (aWr : List Sp.Wrap) (aN : Int) (aM : Int) (aE : Int) (aS : Int) (K : AV → St → Prop) : fnA Tryd.prog csM2 shHints Tryd.f121 [.agg [.str aAu, .int .i64 aSeq, .str aPrev, .int .i64 aKind, .int .i64 aTime, .str aObj, .str aTgt, .int .i64 aScope, .str aGrp, .sl .str aTo, .str aText, .str aBn, .str aBd, .str aBt, .int .i64 aEp, .sl WrapT aWr, .int .i64 aN, .int .i64 aM, .int .i64 aE, .int .i64 aS]] [] K = vc_rBegin aAu aSeq aPrev aKind aTime aObj aTgt aScope aGrp aTo aText aBn aBd aBt aEp aWr aN aM aE aS K := by kernel_rfl
theorem go_rBegin (aAu : Bs) (aSeq : Int) (aPrev : Bs) (aKind : Int) (aTime : Int) (aObj : Bs) (aTgt : Bs) (aScope : Int) (aGrp : Bs) (aTo : List Bs) (aText : Bs) (aBn : Bs) (aBd : Bs) (aBt : Bs) (aEp : Int) (aWr : List Sp.Wrap) (aN : Int) (aM : Int) (aE : Int) (aS : Int) {K : AV → St → Prop} (hvc : vc_rBegin aAu aSeq aPrev aKind aTime aObj aTgt aScope aGrp aTo aText aBn aBd aBt aEp aWr aN aM aE aS K) : callA Tryd.prog 121 [.agg [.str aAu, .int .i64 aSeq, .str aPrev, .int .i64 aKind, .int .i64 aTime, .str aObj, .str aTgt, .int .i64 aScope, .str aGrp, .sl .str aTo, .str aText, .str aBn, .str aBd, .str aBt, .int .i64 aEp, .sl WrapT aWr, .int .i64 aN, .int .i64 aM, .int .i64 aE, .int .i64 aS]] [] K :=
  callA_of (P := Tryd.prog) (cs := csM2) (H := shHints) (f := 121) (fn := Tryd.f121) (args := [.agg [.str aAu, .int .i64 aSeq, .str aPrev, .int .i64 aKind, .int .i64 aTime, .str aObj, .str aTgt, .int .i64 aScope, .str aGrp, .sl .str aTo, .str aText, .str aBn, .str aBd, .str aBt, .int .i64 aEp, .sl WrapT aWr, .int .i64 aN, .int .i64 aM, .int .i64 aE, .int .i64 aS]]) (L := []) (K := K) hf_rBegin (Eq.mpr (ev_rBegin aAu aSeq aPrev aKind aTime aObj aTgt aScope aGrp aTo aText aBn aBd aBt aEp aWr aN aM aE aS K) hvc)
theorem hf_rCircle : Tryd.prog.funcs[125]? = some Tryd.f125 := by kernel_rfl
theorem en_rCircle : Go.Proofs.YtmkjbdimmgkfdaaDoor.Ax.Enters Tryd.prog 125 := entersOf Tryd.f125 hf_rCircle (by kernel_rfl) (by kernel_rfl)
def vc_rCircle (aAu : Bs) (aSeq : Int) (aPrev : Bs) (aKind : Int) (aTime : Int) (aObj : Bs) (aTgt : Bs) (aScope : Int) (aGrp : Bs) (aTo : List Bs) (aText : Bs) (aBn : Bs) (aBd : Bs) (aBt : Bs) (aEp : Int) (aWr : List Sp.Wrap) (aN : Int) (aM : Int) (aE : Int) (aS : Int) (K : AV → St → Prop) : Prop :=
  Sp.lenOk63 aGrp ∧ ∀ (x : Bool), x = Sp.name aGrp → (x = true → x = true → x = true) ∧ (x = true → (x = true → x = true) ∧ Sp.rowOk aTo) ∧ ∀ (x_1 : Bool), x_1 = Sp.ids aTo → ((true && x) = true → x = true) ∧ ∀ (x_2 : Bool), (x_2 = bif x then x_1 else false) → K (AV.bool x_2) []
theorem ev_rCircle (aAu : Bs) (aSeq : Int) (aPrev : Bs) (aKind : Int) (aTime : Int) (aObj : Bs) (aTgt : Bs) (aScope : Int) (aGrp : Bs) (aTo : List Bs) (aText : Bs) (aBn : Bs) (aBd : Bs) (aBt : Bs) (aEp : Int) (aWr : List Sp.Wrap) (aN : Int) (aM : Int) (aE : Int) (aS : Int) (K : AV → St → Prop) : fnA Tryd.prog csM2 shHints Tryd.f125 [.agg [.str aAu, .int .i64 aSeq, .str aPrev, .int .i64 aKind, .int .i64 aTime, .str aObj, .str aTgt, .int .i64 aScope, .str aGrp, .sl .str aTo, .str aText, .str aBn, .str aBd, .str aBt, .int .i64 aEp, .sl WrapT aWr, .int .i64 aN, .int .i64 aM, .int .i64 aE, .int .i64 aS]] [] K = vc_rCircle aAu aSeq aPrev aKind aTime aObj aTgt aScope aGrp aTo aText aBn aBd aBt aEp aWr aN aM aE aS K := by kernel_rfl
theorem go_rCircle (aAu : Bs) (aSeq : Int) (aPrev : Bs) (aKind : Int) (aTime : Int) (aObj : Bs) (aTgt : Bs) (aScope : Int) (aGrp : Bs) (aTo : List Bs) (aText : Bs) (aBn : Bs) (aBd : Bs) (aBt : Bs) (aEp : Int) (aWr : List Sp.Wrap) (aN : Int) (aM : Int) (aE : Int) (aS : Int) {K : AV → St → Prop} (hvc : vc_rCircle aAu aSeq aPrev aKind aTime aObj aTgt aScope aGrp aTo aText aBn aBd aBt aEp aWr aN aM aE aS K) : callA Tryd.prog 125 [.agg [.str aAu, .int .i64 aSeq, .str aPrev, .int .i64 aKind, .int .i64 aTime, .str aObj, .str aTgt, .int .i64 aScope, .str aGrp, .sl .str aTo, .str aText, .str aBn, .str aBd, .str aBt, .int .i64 aEp, .sl WrapT aWr, .int .i64 aN, .int .i64 aM, .int .i64 aE, .int .i64 aS]] [] K :=
  callA_of (P := Tryd.prog) (cs := csM2) (H := shHints) (f := 125) (fn := Tryd.f125) (args := [.agg [.str aAu, .int .i64 aSeq, .str aPrev, .int .i64 aKind, .int .i64 aTime, .str aObj, .str aTgt, .int .i64 aScope, .str aGrp, .sl .str aTo, .str aText, .str aBn, .str aBd, .str aBt, .int .i64 aEp, .sl WrapT aWr, .int .i64 aN, .int .i64 aM, .int .i64 aE, .int .i64 aS]]) (L := []) (K := K) hf_rCircle (Eq.mpr (ev_rCircle aAu aSeq aPrev aKind aTime aObj aTgt aScope aGrp aTo aText aBn aBd aBt aEp aWr aN aM aE aS K) hvc)
theorem hf_rGrant : Tryd.prog.funcs[126]? = some Tryd.f126 := by kernel_rfl
theorem en_rGrant : Go.Proofs.YtmkjbdimmgkfdaaDoor.Ax.Enters Tryd.prog 126 := entersOf Tryd.f126 hf_rGrant (by kernel_rfl) (by kernel_rfl)
def vc_rGrant (aAu : Bs) (aSeq : Int) (aPrev : Bs) (aKind : Int) (aTime : Int) (aObj : Bs) (aTgt : Bs) (aScope : Int) (aGrp : Bs) (aTo : List Bs) (aText : Bs) (aBn : Bs) (aBd : Bs) (aBt : Bs) (aEp : Int) (aWr : List Sp.Wrap) (aN : Int) (aM : Int) (aE : Int) (aS : Int) (K : AV → St → Prop) : Prop :=
  Sp.lenOk63 aGrp ∧ ∀ (x : Bool), x = Sp.grouped aScope aGrp → (x = true → x = true → x = true) ∧ (x = true → x = true → x = true) ∧ ∀ (x_1 : Bool), x_1 = Sp.within aEp (0 : Int) (1073741824 : Int) → ((true && x) = true → x = true) ∧ ∀ (x_2 : Bool), (x_2 = bif x then x_1 else false) → (x_2 = true → x_2 = true → x_2 = true) ∧ (x_2 = true → (x_2 = true → x_2 = true) ∧ Sp.rowOk aTo) ∧ ∀ (x : Bool), x = Sp.ids aTo → ((true && x_2) = true → x_2 = true) ∧ ∀ (x_3 : Bool), (x_3 = bif x_2 then x else false) → (x_3 = true → (x_3 = true → x_3 = true) ∧ Sp.actRows (aAu, aSeq, aPrev, aKind, aTime, aObj, aTgt, aScope, aGrp, aTo, aText, (aBn, aBd, aBt), aEp, aWr, aN, aM, aE, aS)) ∧ ∀ (x : Bool), x = Sp.wraps aTo aWr → ((true && x_3) = true → x_3 = true) ∧ ∀ (x_4 : Bool), (x_4 = bif x_3 then x else false) → (x_4 = true → x_4 = true → x_4 = true) ∧ (x_4 = true → x_4 = true → x_4 = true) ∧ ∀ (x : Bool), x = (aText == []) → ((true && x_4) = true → x_4 = true) ∧ ∀ (x_5 : Bool), (x_5 = bif x_4 then x else false) → (x_5 = true → x_5 = true → x_5 = true) ∧ (x_5 = true → ((x_5 = true → x_5 = true) ∧ (x_5 = true → x_5 = true)) ∧ false = false ∧ false = false) ∧ ∀ (x : Bool), x = (aBn == [] && (aBd == [] && aBt == [])) → ((true && x_5) = true → x_5 = true) ∧ ∀ (x_6 : Bool), (x_6 = bif x_5 then x else false) → K (AV.bool x_6) []
theorem ev_rGrant (aAu : Bs) (aSeq : Int) (aPrev : Bs) (aKind : Int) (aTime : Int) (aObj : Bs) (aTgt : Bs) (aScope : Int) (aGrp : Bs) (aTo : List Bs) (aText : Bs) (aBn : Bs) (aBd : Bs) (aBt : Bs) (aEp : Int) (aWr : List Sp.Wrap) (aN : Int) (aM : Int) (aE : Int) (aS : Int) (K : AV → St → Prop) : fnA Tryd.prog csM2 shHints Tryd.f126 [.agg [.str aAu, .int .i64 aSeq, .str aPrev, .int .i64 aKind, .int .i64 aTime, .str aObj, .str aTgt, .int .i64 aScope, .str aGrp, .sl .str aTo, .str aText, .str aBn, .str aBd, .str aBt, .int .i64 aEp, .sl WrapT aWr, .int .i64 aN, .int .i64 aM, .int .i64 aE, .int .i64 aS]] [] K = vc_rGrant aAu aSeq aPrev aKind aTime aObj aTgt aScope aGrp aTo aText aBn aBd aBt aEp aWr aN aM aE aS K := by kernel_rfl
theorem go_rGrant (aAu : Bs) (aSeq : Int) (aPrev : Bs) (aKind : Int) (aTime : Int) (aObj : Bs) (aTgt : Bs) (aScope : Int) (aGrp : Bs) (aTo : List Bs) (aText : Bs) (aBn : Bs) (aBd : Bs) (aBt : Bs) (aEp : Int) (aWr : List Sp.Wrap) (aN : Int) (aM : Int) (aE : Int) (aS : Int) {K : AV → St → Prop} (hvc : vc_rGrant aAu aSeq aPrev aKind aTime aObj aTgt aScope aGrp aTo aText aBn aBd aBt aEp aWr aN aM aE aS K) : callA Tryd.prog 126 [.agg [.str aAu, .int .i64 aSeq, .str aPrev, .int .i64 aKind, .int .i64 aTime, .str aObj, .str aTgt, .int .i64 aScope, .str aGrp, .sl .str aTo, .str aText, .str aBn, .str aBd, .str aBt, .int .i64 aEp, .sl WrapT aWr, .int .i64 aN, .int .i64 aM, .int .i64 aE, .int .i64 aS]] [] K :=
  callA_of (P := Tryd.prog) (cs := csM2) (H := shHints) (f := 126) (fn := Tryd.f126) (args := [.agg [.str aAu, .int .i64 aSeq, .str aPrev, .int .i64 aKind, .int .i64 aTime, .str aObj, .str aTgt, .int .i64 aScope, .str aGrp, .sl .str aTo, .str aText, .str aBn, .str aBd, .str aBt, .int .i64 aEp, .sl WrapT aWr, .int .i64 aN, .int .i64 aM, .int .i64 aE, .int .i64 aS]]) (L := []) (K := K) hf_rGrant (Eq.mpr (ev_rGrant aAu aSeq aPrev aKind aTime aObj aTgt aScope aGrp aTo aText aBn aBd aBt aEp aWr aN aM aE aS K) hvc)
theorem hf_rLabel : Tryd.prog.funcs[129]? = some Tryd.f129 := by kernel_rfl
theorem en_rLabel : Go.Proofs.YtmkjbdimmgkfdaaDoor.Ax.Enters Tryd.prog 129 := entersOf Tryd.f129 hf_rLabel (by kernel_rfl) (by kernel_rfl)
def vc_rLabel (aAu : Bs) (aSeq : Int) (aPrev : Bs) (aKind : Int) (aTime : Int) (aObj : Bs) (aTgt : Bs) (aScope : Int) (aGrp : Bs) (aTo : List Bs) (aText : Bs) (aBn : Bs) (aBd : Bs) (aBt : Bs) (aEp : Int) (aWr : List Sp.Wrap) (aN : Int) (aM : Int) (aE : Int) (aS : Int) (K : AV → St → Prop) : Prop :=
  Sp.lenOk63 aText ∧ ∀ (x : Bool), x = Sp.name aText → (x = true → x = true → x = true) ∧ (x = true → x = true → x = true) ∧ ∀ (x_1 : Bool), x_1 = (aObj == []) → (x = true → x = true → x = true) ∧ (x = true → x = true → x = true) ∧ ∀ (x_2 : Bool), x_2 = (aTgt == []) → (x = true → (x = true → x = true) ∧ (x = true → x = true)) ∧ ∀ (x_3 : Bool), x_3 = !x_1 == x_2 → ((true && x) = true → x = true) ∧ ∀ (x_4 : Bool), (x_4 = bif x then x_3 else false) → K (AV.bool x_4) []
theorem ev_rLabel (aAu : Bs) (aSeq : Int) (aPrev : Bs) (aKind : Int) (aTime : Int) (aObj : Bs) (aTgt : Bs) (aScope : Int) (aGrp : Bs) (aTo : List Bs) (aText : Bs) (aBn : Bs) (aBd : Bs) (aBt : Bs) (aEp : Int) (aWr : List Sp.Wrap) (aN : Int) (aM : Int) (aE : Int) (aS : Int) (K : AV → St → Prop) : fnA Tryd.prog csM2 shHints Tryd.f129 [.agg [.str aAu, .int .i64 aSeq, .str aPrev, .int .i64 aKind, .int .i64 aTime, .str aObj, .str aTgt, .int .i64 aScope, .str aGrp, .sl .str aTo, .str aText, .str aBn, .str aBd, .str aBt, .int .i64 aEp, .sl WrapT aWr, .int .i64 aN, .int .i64 aM, .int .i64 aE, .int .i64 aS]] [] K = vc_rLabel aAu aSeq aPrev aKind aTime aObj aTgt aScope aGrp aTo aText aBn aBd aBt aEp aWr aN aM aE aS K := by kernel_rfl
theorem go_rLabel (aAu : Bs) (aSeq : Int) (aPrev : Bs) (aKind : Int) (aTime : Int) (aObj : Bs) (aTgt : Bs) (aScope : Int) (aGrp : Bs) (aTo : List Bs) (aText : Bs) (aBn : Bs) (aBd : Bs) (aBt : Bs) (aEp : Int) (aWr : List Sp.Wrap) (aN : Int) (aM : Int) (aE : Int) (aS : Int) {K : AV → St → Prop} (hvc : vc_rLabel aAu aSeq aPrev aKind aTime aObj aTgt aScope aGrp aTo aText aBn aBd aBt aEp aWr aN aM aE aS K) : callA Tryd.prog 129 [.agg [.str aAu, .int .i64 aSeq, .str aPrev, .int .i64 aKind, .int .i64 aTime, .str aObj, .str aTgt, .int .i64 aScope, .str aGrp, .sl .str aTo, .str aText, .str aBn, .str aBd, .str aBt, .int .i64 aEp, .sl WrapT aWr, .int .i64 aN, .int .i64 aM, .int .i64 aE, .int .i64 aS]] [] K :=
  callA_of (P := Tryd.prog) (cs := csM2) (H := shHints) (f := 129) (fn := Tryd.f129) (args := [.agg [.str aAu, .int .i64 aSeq, .str aPrev, .int .i64 aKind, .int .i64 aTime, .str aObj, .str aTgt, .int .i64 aScope, .str aGrp, .sl .str aTo, .str aText, .str aBn, .str aBd, .str aBt, .int .i64 aEp, .sl WrapT aWr, .int .i64 aN, .int .i64 aM, .int .i64 aE, .int .i64 aS]]) (L := []) (K := K) hf_rLabel (Eq.mpr (ev_rLabel aAu aSeq aPrev aKind aTime aObj aTgt aScope aGrp aTo aText aBn aBd aBt aEp aWr aN aM aE aS K) hvc)
theorem hf_rMove : Tryd.prog.funcs[130]? = some Tryd.f130 := by kernel_rfl
theorem en_rMove : Go.Proofs.YtmkjbdimmgkfdaaDoor.Ax.Enters Tryd.prog 130 := entersOf Tryd.f130 hf_rMove (by kernel_rfl) (by kernel_rfl)
def vc_rMove (aAu : Bs) (aSeq : Int) (aPrev : Bs) (aKind : Int) (aTime : Int) (aObj : Bs) (aTgt : Bs) (aScope : Int) (aGrp : Bs) (aTo : List Bs) (aText : Bs) (aBn : Bs) (aBd : Bs) (aBt : Bs) (aEp : Int) (aWr : List Sp.Wrap) (aN : Int) (aM : Int) (aE : Int) (aS : Int) (K : AV → St → Prop) : Prop :=
  ∀ (x : Bool), x = Sp.pub aN → (x = true → x = true → x = true) ∧ (x = true → x = true → x = true) ∧ ∀ (x_1 : Bool), x_1 = Sp.within aM (0 : Int) (19 : Int) → ((true && x) = true → x = true) ∧ ∀ (x_2 : Bool), (x_2 = bif x then x_1 else false) → K (AV.bool x_2) []
theorem ev_rMove (aAu : Bs) (aSeq : Int) (aPrev : Bs) (aKind : Int) (aTime : Int) (aObj : Bs) (aTgt : Bs) (aScope : Int) (aGrp : Bs) (aTo : List Bs) (aText : Bs) (aBn : Bs) (aBd : Bs) (aBt : Bs) (aEp : Int) (aWr : List Sp.Wrap) (aN : Int) (aM : Int) (aE : Int) (aS : Int) (K : AV → St → Prop) : fnA Tryd.prog csM2 shHints Tryd.f130 [.agg [.str aAu, .int .i64 aSeq, .str aPrev, .int .i64 aKind, .int .i64 aTime, .str aObj, .str aTgt, .int .i64 aScope, .str aGrp, .sl .str aTo, .str aText, .str aBn, .str aBd, .str aBt, .int .i64 aEp, .sl WrapT aWr, .int .i64 aN, .int .i64 aM, .int .i64 aE, .int .i64 aS]] [] K = vc_rMove aAu aSeq aPrev aKind aTime aObj aTgt aScope aGrp aTo aText aBn aBd aBt aEp aWr aN aM aE aS K := by kernel_rfl
theorem go_rMove (aAu : Bs) (aSeq : Int) (aPrev : Bs) (aKind : Int) (aTime : Int) (aObj : Bs) (aTgt : Bs) (aScope : Int) (aGrp : Bs) (aTo : List Bs) (aText : Bs) (aBn : Bs) (aBd : Bs) (aBt : Bs) (aEp : Int) (aWr : List Sp.Wrap) (aN : Int) (aM : Int) (aE : Int) (aS : Int) {K : AV → St → Prop} (hvc : vc_rMove aAu aSeq aPrev aKind aTime aObj aTgt aScope aGrp aTo aText aBn aBd aBt aEp aWr aN aM aE aS K) : callA Tryd.prog 130 [.agg [.str aAu, .int .i64 aSeq, .str aPrev, .int .i64 aKind, .int .i64 aTime, .str aObj, .str aTgt, .int .i64 aScope, .str aGrp, .sl .str aTo, .str aText, .str aBn, .str aBd, .str aBt, .int .i64 aEp, .sl WrapT aWr, .int .i64 aN, .int .i64 aM, .int .i64 aE, .int .i64 aS]] [] K :=
  callA_of (P := Tryd.prog) (cs := csM2) (H := shHints) (f := 130) (fn := Tryd.f130) (args := [.agg [.str aAu, .int .i64 aSeq, .str aPrev, .int .i64 aKind, .int .i64 aTime, .str aObj, .str aTgt, .int .i64 aScope, .str aGrp, .sl .str aTo, .str aText, .str aBn, .str aBd, .str aBt, .int .i64 aEp, .sl WrapT aWr, .int .i64 aN, .int .i64 aM, .int .i64 aE, .int .i64 aS]]) (L := []) (K := K) hf_rMove (Eq.mpr (ev_rMove aAu aSeq aPrev aKind aTime aObj aTgt aScope aGrp aTo aText aBn aBd aBt aEp aWr aN aM aE aS K) hvc)
theorem hf_rSetup : Tryd.prog.funcs[131]? = some Tryd.f131 := by kernel_rfl
theorem en_rSetup : Go.Proofs.YtmkjbdimmgkfdaaDoor.Ax.Enters Tryd.prog 131 := entersOf Tryd.f131 hf_rSetup (by kernel_rfl) (by kernel_rfl)
def vc_rSetup (aAu : Bs) (aSeq : Int) (aPrev : Bs) (aKind : Int) (aTime : Int) (aObj : Bs) (aTgt : Bs) (aScope : Int) (aGrp : Bs) (aTo : List Bs) (aText : Bs) (aBn : Bs) (aBd : Bs) (aBt : Bs) (aEp : Int) (aWr : List Sp.Wrap) (aN : Int) (aM : Int) (aE : Int) (aS : Int) (K : AV → St → Prop) : Prop :=
  Sp.rowOk aTo ∧ ∀ (x : Bool), x = Sp.ids aTo → (x = true → x = true → x = true) ∧ (x = true → x = true → x = true) ∧ (x = true → x = true → x = true) ∧ ∀ (x_1 : Bool), x_1 = decide ((↑(List.length aTo) : Int) > (0 : Int)) → ((true && x) = true → x = true) ∧ ∀ (x_2 : Bool), (x_2 = bif x then x_1 else false) → (x_2 = true → (x_2 = true → x_2 = true) ∧ Sp.actRows (aAu, aSeq, aPrev, aKind, aTime, aObj, aTgt, aScope, aGrp, aTo, aText, (aBn, aBd, aBt), aEp, aWr, aN, aM, aE, aS)) ∧ ∀ (x : Bool), x = Sp.wraps aTo aWr → ((true && x_2) = true → x_2 = true) ∧ ∀ (x_3 : Bool), (x_3 = bif x_2 then x else false) → (x_3 = true → x_3 = true → x_3 = true) ∧ (x_3 = true → x_3 = true → x_3 = true) ∧ (x_3 = true → x_3 = true → x_3 = true) ∧ (x_3 = true → (x_3 = true → x_3 = true) ∧ (x_3 = true → x_3 = true)) ∧ ∀ (x : Bool), x = Sp.within aN (1 : Int) (↑(List.length aTo) : Int) → ((true && x_3) = true → x_3 = true) ∧ ∀ (x_4 : Bool), (x_4 = bif x_3 then x else false) → (x_4 = true → x_4 = true → x_4 = true) ∧ (x_4 = true → x_4 = true → x_4 = true) ∧ ∀ (x : Bool), x = Sp.pub aM → ((true && x_4) = true → x_4 = true) ∧ ∀ (x_5 : Bool), (x_5 = bif x_4 then x else false) → K (AV.bool x_5) []
theorem ev_rSetup (aAu : Bs) (aSeq : Int) (aPrev : Bs) (aKind : Int) (aTime : Int) (aObj : Bs) (aTgt : Bs) (aScope : Int) (aGrp : Bs) (aTo : List Bs) (aText : Bs) (aBn : Bs) (aBd : Bs) (aBt : Bs) (aEp : Int) (aWr : List Sp.Wrap) (aN : Int) (aM : Int) (aE : Int) (aS : Int) (K : AV → St → Prop) : fnA Tryd.prog csM2 shHints Tryd.f131 [.agg [.str aAu, .int .i64 aSeq, .str aPrev, .int .i64 aKind, .int .i64 aTime, .str aObj, .str aTgt, .int .i64 aScope, .str aGrp, .sl .str aTo, .str aText, .str aBn, .str aBd, .str aBt, .int .i64 aEp, .sl WrapT aWr, .int .i64 aN, .int .i64 aM, .int .i64 aE, .int .i64 aS]] [] K = vc_rSetup aAu aSeq aPrev aKind aTime aObj aTgt aScope aGrp aTo aText aBn aBd aBt aEp aWr aN aM aE aS K := by kernel_rfl
theorem go_rSetup (aAu : Bs) (aSeq : Int) (aPrev : Bs) (aKind : Int) (aTime : Int) (aObj : Bs) (aTgt : Bs) (aScope : Int) (aGrp : Bs) (aTo : List Bs) (aText : Bs) (aBn : Bs) (aBd : Bs) (aBt : Bs) (aEp : Int) (aWr : List Sp.Wrap) (aN : Int) (aM : Int) (aE : Int) (aS : Int) {K : AV → St → Prop} (hvc : vc_rSetup aAu aSeq aPrev aKind aTime aObj aTgt aScope aGrp aTo aText aBn aBd aBt aEp aWr aN aM aE aS K) : callA Tryd.prog 131 [.agg [.str aAu, .int .i64 aSeq, .str aPrev, .int .i64 aKind, .int .i64 aTime, .str aObj, .str aTgt, .int .i64 aScope, .str aGrp, .sl .str aTo, .str aText, .str aBn, .str aBd, .str aBt, .int .i64 aEp, .sl WrapT aWr, .int .i64 aN, .int .i64 aM, .int .i64 aE, .int .i64 aS]] [] K :=
  callA_of (P := Tryd.prog) (cs := csM2) (H := shHints) (f := 131) (fn := Tryd.f131) (args := [.agg [.str aAu, .int .i64 aSeq, .str aPrev, .int .i64 aKind, .int .i64 aTime, .str aObj, .str aTgt, .int .i64 aScope, .str aGrp, .sl .str aTo, .str aText, .str aBn, .str aBd, .str aBt, .int .i64 aEp, .sl WrapT aWr, .int .i64 aN, .int .i64 aM, .int .i64 aE, .int .i64 aS]]) (L := []) (K := K) hf_rSetup (Eq.mpr (ev_rSetup aAu aSeq aPrev aKind aTime aObj aTgt aScope aGrp aTo aText aBn aBd aBt aEp aWr aN aM aE aS K) hvc)
theorem hf_rJudge : Tryd.prog.funcs[132]? = some Tryd.f132 := by kernel_rfl
theorem en_rJudge : Go.Proofs.YtmkjbdimmgkfdaaDoor.Ax.Enters Tryd.prog 132 := entersOf Tryd.f132 hf_rJudge (by kernel_rfl) (by kernel_rfl)
def vc_rJudge (aAu : Bs) (aSeq : Int) (aPrev : Bs) (aKind : Int) (aTime : Int) (aObj : Bs) (aTgt : Bs) (aScope : Int) (aGrp : Bs) (aTo : List Bs) (aText : Bs) (aBn : Bs) (aBd : Bs) (aBt : Bs) (aEp : Int) (aWr : List Sp.Wrap) (aN : Int) (aM : Int) (aE : Int) (aS : Int) (K : AV → St → Prop) : Prop :=
  ∀ (x : Bool), x = Sp.within aN (0 : Int) (1 : Int) → K (AV.bool x) []
theorem ev_rJudge (aAu : Bs) (aSeq : Int) (aPrev : Bs) (aKind : Int) (aTime : Int) (aObj : Bs) (aTgt : Bs) (aScope : Int) (aGrp : Bs) (aTo : List Bs) (aText : Bs) (aBn : Bs) (aBd : Bs) (aBt : Bs) (aEp : Int) (aWr : List Sp.Wrap) (aN : Int) (aM : Int) (aE : Int) (aS : Int) (K : AV → St → Prop) : fnA Tryd.prog csM2 shHints Tryd.f132 [.agg [.str aAu, .int .i64 aSeq, .str aPrev, .int .i64 aKind, .int .i64 aTime, .str aObj, .str aTgt, .int .i64 aScope, .str aGrp, .sl .str aTo, .str aText, .str aBn, .str aBd, .str aBt, .int .i64 aEp, .sl WrapT aWr, .int .i64 aN, .int .i64 aM, .int .i64 aE, .int .i64 aS]] [] K = vc_rJudge aAu aSeq aPrev aKind aTime aObj aTgt aScope aGrp aTo aText aBn aBd aBt aEp aWr aN aM aE aS K := by kernel_rfl
theorem go_rJudge (aAu : Bs) (aSeq : Int) (aPrev : Bs) (aKind : Int) (aTime : Int) (aObj : Bs) (aTgt : Bs) (aScope : Int) (aGrp : Bs) (aTo : List Bs) (aText : Bs) (aBn : Bs) (aBd : Bs) (aBt : Bs) (aEp : Int) (aWr : List Sp.Wrap) (aN : Int) (aM : Int) (aE : Int) (aS : Int) {K : AV → St → Prop} (hvc : vc_rJudge aAu aSeq aPrev aKind aTime aObj aTgt aScope aGrp aTo aText aBn aBd aBt aEp aWr aN aM aE aS K) : callA Tryd.prog 132 [.agg [.str aAu, .int .i64 aSeq, .str aPrev, .int .i64 aKind, .int .i64 aTime, .str aObj, .str aTgt, .int .i64 aScope, .str aGrp, .sl .str aTo, .str aText, .str aBn, .str aBd, .str aBt, .int .i64 aEp, .sl WrapT aWr, .int .i64 aN, .int .i64 aM, .int .i64 aE, .int .i64 aS]] [] K :=
  callA_of (P := Tryd.prog) (cs := csM2) (H := shHints) (f := 132) (fn := Tryd.f132) (args := [.agg [.str aAu, .int .i64 aSeq, .str aPrev, .int .i64 aKind, .int .i64 aTime, .str aObj, .str aTgt, .int .i64 aScope, .str aGrp, .sl .str aTo, .str aText, .str aBn, .str aBd, .str aBt, .int .i64 aEp, .sl WrapT aWr, .int .i64 aN, .int .i64 aM, .int .i64 aE, .int .i64 aS]]) (L := []) (K := K) hf_rJudge (Eq.mpr (ev_rJudge aAu aSeq aPrev aKind aTime aObj aTgt aScope aGrp aTo aText aBn aBd aBt aEp aWr aN aM aE aS K) hvc)
theorem hf_rList : Tryd.prog.funcs[133]? = some Tryd.f133 := by kernel_rfl
theorem en_rList : Go.Proofs.YtmkjbdimmgkfdaaDoor.Ax.Enters Tryd.prog 133 := entersOf Tryd.f133 hf_rList (by kernel_rfl) (by kernel_rfl)
def vc_rList (aAu : Bs) (aSeq : Int) (aPrev : Bs) (aKind : Int) (aTime : Int) (aObj : Bs) (aTgt : Bs) (aScope : Int) (aGrp : Bs) (aTo : List Bs) (aText : Bs) (aBn : Bs) (aBd : Bs) (aBt : Bs) (aEp : Int) (aWr : List Sp.Wrap) (aN : Int) (aM : Int) (aE : Int) (aS : Int) (K : AV → St → Prop) : Prop :=
  ∀ (x : Bool), x = Sp.short aText → (x = true → x = true → x = true) ∧ (x = true → x = true → x = true) ∧ ∀ (x_1 : Bool), x_1 = Sp.within aN (0 : Int) (1099511627776 : Int) → ((true && x) = true → x = true) ∧ ∀ (x_2 : Bool), (x_2 = bif x then x_1 else false) → K (AV.bool x_2) []
theorem ev_rList (aAu : Bs) (aSeq : Int) (aPrev : Bs) (aKind : Int) (aTime : Int) (aObj : Bs) (aTgt : Bs) (aScope : Int) (aGrp : Bs) (aTo : List Bs) (aText : Bs) (aBn : Bs) (aBd : Bs) (aBt : Bs) (aEp : Int) (aWr : List Sp.Wrap) (aN : Int) (aM : Int) (aE : Int) (aS : Int) (K : AV → St → Prop) : fnA Tryd.prog csM2 shHints Tryd.f133 [.agg [.str aAu, .int .i64 aSeq, .str aPrev, .int .i64 aKind, .int .i64 aTime, .str aObj, .str aTgt, .int .i64 aScope, .str aGrp, .sl .str aTo, .str aText, .str aBn, .str aBd, .str aBt, .int .i64 aEp, .sl WrapT aWr, .int .i64 aN, .int .i64 aM, .int .i64 aE, .int .i64 aS]] [] K = vc_rList aAu aSeq aPrev aKind aTime aObj aTgt aScope aGrp aTo aText aBn aBd aBt aEp aWr aN aM aE aS K := by kernel_rfl
theorem go_rList (aAu : Bs) (aSeq : Int) (aPrev : Bs) (aKind : Int) (aTime : Int) (aObj : Bs) (aTgt : Bs) (aScope : Int) (aGrp : Bs) (aTo : List Bs) (aText : Bs) (aBn : Bs) (aBd : Bs) (aBt : Bs) (aEp : Int) (aWr : List Sp.Wrap) (aN : Int) (aM : Int) (aE : Int) (aS : Int) {K : AV → St → Prop} (hvc : vc_rList aAu aSeq aPrev aKind aTime aObj aTgt aScope aGrp aTo aText aBn aBd aBt aEp aWr aN aM aE aS K) : callA Tryd.prog 133 [.agg [.str aAu, .int .i64 aSeq, .str aPrev, .int .i64 aKind, .int .i64 aTime, .str aObj, .str aTgt, .int .i64 aScope, .str aGrp, .sl .str aTo, .str aText, .str aBn, .str aBd, .str aBt, .int .i64 aEp, .sl WrapT aWr, .int .i64 aN, .int .i64 aM, .int .i64 aE, .int .i64 aS]] [] K :=
  callA_of (P := Tryd.prog) (cs := csM2) (H := shHints) (f := 133) (fn := Tryd.f133) (args := [.agg [.str aAu, .int .i64 aSeq, .str aPrev, .int .i64 aKind, .int .i64 aTime, .str aObj, .str aTgt, .int .i64 aScope, .str aGrp, .sl .str aTo, .str aText, .str aBn, .str aBd, .str aBt, .int .i64 aEp, .sl WrapT aWr, .int .i64 aN, .int .i64 aM, .int .i64 aE, .int .i64 aS]]) (L := []) (K := K) hf_rList (Eq.mpr (ev_rList aAu aSeq aPrev aKind aTime aObj aTgt aScope aGrp aTo aText aBn aBd aBt aEp aWr aN aM aE aS K) hvc)
theorem ok_rBegin (a : Sp.Act) (h : Sp.actOk a) : callA Tryd.prog 121 [ActT.toAV a] [] (fun r _ => r = .bool (Sp.rBegin a) ∧ below 0 r = true) := by
  obtain ⟨aAu, aSeq, aPrev, aKind, aTime, aObj, aTgt, aScope, aGrp, aTo, aText, ⟨aBn, aBd, aBt⟩, aEp, aWr, aN, aM, aE, aS⟩ := a
  have hTo := actOk_to aAu aSeq aPrev aKind aTime aObj aTgt aScope aGrp aTo aText aBn aBd aBt aEp aWr aN aM aE aS h
  have hRows := actOk_rows aAu aSeq aPrev aKind aTime aObj aTgt aScope aGrp aTo aText aBn aBd aBt aEp aWr aN aM aE aS h
  have hGrp := actOk_grp aAu aSeq aPrev aKind aTime aObj aTgt aScope aGrp aTo aText aBn aBd aBt aEp aWr aN aM aE aS h
  have hText := actOk_text aAu aSeq aPrev aKind aTime aObj aTgt aScope aGrp aTo aText aBn aBd aBt aEp aWr aN aM aE aS h
  refine go_rBegin aAu aSeq aPrev aKind aTime aObj aTgt aScope aGrp aTo aText aBn aBd aBt aEp aWr aN aM aE aS ?_
  unfold vc_rBegin
  (repeat' first | (intro x hx) | refine ⟨by first | assumption | exact ob3 | exact fun h => h | exact fun h => ⟨fun h => h, by assumption⟩ | exact fun h _ => h | exact fun h => ⟨fun h => h, fun h => h⟩ | exact fun h => ⟨⟨fun h => h, fun h => h⟩, rfl, rfl, rfl⟩ | exact fun h => ⟨⟨fun h => h, fun h => h⟩, rfl, rfl⟩ | (intros; simp_all; done) | fail, ?_⟩ | fail)
  subst_vars
  refine ⟨congrArg AV.bool ?_, rfl⟩
  rw [Bool.eq_iff_iff]
  simp [Sp.rBegin, and_assoc]
--Q
theorem ok_rCircle (a : Sp.Act) (h : Sp.actOk a) : callA Tryd.prog 125 [ActT.toAV a] [] (fun r _ => r = .bool (Sp.rCircle a) ∧ below 0 r = true) := by
  obtain ⟨aAu, aSeq, aPrev, aKind, aTime, aObj, aTgt, aScope, aGrp, aTo, aText, ⟨aBn, aBd, aBt⟩, aEp, aWr, aN, aM, aE, aS⟩ := a
  have hTo := actOk_to aAu aSeq aPrev aKind aTime aObj aTgt aScope aGrp aTo aText aBn aBd aBt aEp aWr aN aM aE aS h
  have hRows := actOk_rows aAu aSeq aPrev aKind aTime aObj aTgt aScope aGrp aTo aText aBn aBd aBt aEp aWr aN aM aE aS h
  have hGrp := actOk_grp aAu aSeq aPrev aKind aTime aObj aTgt aScope aGrp aTo aText aBn aBd aBt aEp aWr aN aM aE aS h
  have hText := actOk_text aAu aSeq aPrev aKind aTime aObj aTgt aScope aGrp aTo aText aBn aBd aBt aEp aWr aN aM aE aS h
  refine go_rCircle aAu aSeq aPrev aKind aTime aObj aTgt aScope aGrp aTo aText aBn aBd aBt aEp aWr aN aM aE aS ?_
  unfold vc_rCircle
  (repeat' first | (intro x hx) | refine ⟨by first | assumption | exact ob3 | exact fun h => h | exact fun h => ⟨fun h => h, by assumption⟩ | exact fun h _ => h | exact fun h => ⟨fun h => h, fun h => h⟩ | exact fun h => ⟨⟨fun h => h, fun h => h⟩, rfl, rfl, rfl⟩ | exact fun h => ⟨⟨fun h => h, fun h => h⟩, rfl, rfl⟩ | (intros; simp_all; done) | fail, ?_⟩ | fail)
  subst_vars
  refine ⟨congrArg AV.bool ?_, rfl⟩
  rw [Bool.eq_iff_iff]
  simp [Sp.rCircle]
--Q
theorem ok_rGrant (a : Sp.Act) (h : Sp.actOk a) : callA Tryd.prog 126 [ActT.toAV a] [] (fun r _ => r = .bool (Sp.rGrant a) ∧ below 0 r = true) := by
  obtain ⟨aAu, aSeq, aPrev, aKind, aTime, aObj, aTgt, aScope, aGrp, aTo, aText, ⟨aBn, aBd, aBt⟩, aEp, aWr, aN, aM, aE, aS⟩ := a
  have hTo := actOk_to aAu aSeq aPrev aKind aTime aObj aTgt aScope aGrp aTo aText aBn aBd aBt aEp aWr aN aM aE aS h
  have hRows := actOk_rows aAu aSeq aPrev aKind aTime aObj aTgt aScope aGrp aTo aText aBn aBd aBt aEp aWr aN aM aE aS h
  have hGrp := actOk_grp aAu aSeq aPrev aKind aTime aObj aTgt aScope aGrp aTo aText aBn aBd aBt aEp aWr aN aM aE aS h
  have hText := actOk_text aAu aSeq aPrev aKind aTime aObj aTgt aScope aGrp aTo aText aBn aBd aBt aEp aWr aN aM aE aS h
  refine go_rGrant aAu aSeq aPrev aKind aTime aObj aTgt aScope aGrp aTo aText aBn aBd aBt aEp aWr aN aM aE aS ?_
  unfold vc_rGrant
  (repeat' first | (intro x hx) | refine ⟨by first | assumption | exact ob3 | exact fun h => h | exact fun h => ⟨fun h => h, by assumption⟩ | exact fun h _ => h | exact fun h => ⟨fun h => h, fun h => h⟩ | exact fun h => ⟨⟨fun h => h, fun h => h⟩, rfl, rfl, rfl⟩ | exact fun h => ⟨⟨fun h => h, fun h => h⟩, rfl, rfl⟩ | (intros; simp_all; done) | fail, ?_⟩ | fail)
  subst_vars
  refine ⟨congrArg AV.bool ?_, rfl⟩
  rw [Bool.eq_iff_iff]
  simp [Sp.rGrant, Sp.noBox, and_assoc]
--Q
theorem ok_rLabel (a : Sp.Act) (h : Sp.actOk a) : callA Tryd.prog 129 [ActT.toAV a] [] (fun r _ => r = .bool (Sp.rLabel a) ∧ below 0 r = true) := by
  obtain ⟨aAu, aSeq, aPrev, aKind, aTime, aObj, aTgt, aScope, aGrp, aTo, aText, ⟨aBn, aBd, aBt⟩, aEp, aWr, aN, aM, aE, aS⟩ := a
  have hTo := actOk_to aAu aSeq aPrev aKind aTime aObj aTgt aScope aGrp aTo aText aBn aBd aBt aEp aWr aN aM aE aS h
  have hRows := actOk_rows aAu aSeq aPrev aKind aTime aObj aTgt aScope aGrp aTo aText aBn aBd aBt aEp aWr aN aM aE aS h
  have hGrp := actOk_grp aAu aSeq aPrev aKind aTime aObj aTgt aScope aGrp aTo aText aBn aBd aBt aEp aWr aN aM aE aS h
  have hText := actOk_text aAu aSeq aPrev aKind aTime aObj aTgt aScope aGrp aTo aText aBn aBd aBt aEp aWr aN aM aE aS h
  refine go_rLabel aAu aSeq aPrev aKind aTime aObj aTgt aScope aGrp aTo aText aBn aBd aBt aEp aWr aN aM aE aS ?_
  unfold vc_rLabel
  (repeat' first | (intro x hx) | refine ⟨by first | assumption | exact ob3 | exact fun h => h | exact fun h => ⟨fun h => h, by assumption⟩ | exact fun h _ => h | exact fun h => ⟨fun h => h, fun h => h⟩ | exact fun h => ⟨⟨fun h => h, fun h => h⟩, rfl, rfl, rfl⟩ | exact fun h => ⟨⟨fun h => h, fun h => h⟩, rfl, rfl⟩ | (intros; simp_all; done) | fail, ?_⟩ | fail)
  subst_vars
  refine ⟨congrArg AV.bool ?_, rfl⟩
  rw [Bool.eq_iff_iff]
  simp [Sp.rLabel]
  intro _
  cases aObj <;> cases aTgt <;> simp
--Q
theorem ok_rMove (a : Sp.Act) (h : Sp.actOk a) : callA Tryd.prog 130 [ActT.toAV a] [] (fun r _ => r = .bool (Sp.rMove a) ∧ below 0 r = true) := by
  obtain ⟨aAu, aSeq, aPrev, aKind, aTime, aObj, aTgt, aScope, aGrp, aTo, aText, ⟨aBn, aBd, aBt⟩, aEp, aWr, aN, aM, aE, aS⟩ := a
  have hTo := actOk_to aAu aSeq aPrev aKind aTime aObj aTgt aScope aGrp aTo aText aBn aBd aBt aEp aWr aN aM aE aS h
  have hRows := actOk_rows aAu aSeq aPrev aKind aTime aObj aTgt aScope aGrp aTo aText aBn aBd aBt aEp aWr aN aM aE aS h
  have hGrp := actOk_grp aAu aSeq aPrev aKind aTime aObj aTgt aScope aGrp aTo aText aBn aBd aBt aEp aWr aN aM aE aS h
  have hText := actOk_text aAu aSeq aPrev aKind aTime aObj aTgt aScope aGrp aTo aText aBn aBd aBt aEp aWr aN aM aE aS h
  refine go_rMove aAu aSeq aPrev aKind aTime aObj aTgt aScope aGrp aTo aText aBn aBd aBt aEp aWr aN aM aE aS ?_
  unfold vc_rMove
  (repeat' first | (intro x hx) | refine ⟨by first | assumption | exact ob3 | exact fun h => h | exact fun h => ⟨fun h => h, by assumption⟩ | exact fun h _ => h | exact fun h => ⟨fun h => h, fun h => h⟩ | exact fun h => ⟨⟨fun h => h, fun h => h⟩, rfl, rfl, rfl⟩ | exact fun h => ⟨⟨fun h => h, fun h => h⟩, rfl, rfl⟩ | (intros; simp_all; done) | fail, ?_⟩ | fail)
  subst_vars
  refine ⟨congrArg AV.bool ?_, rfl⟩
  rw [Bool.eq_iff_iff]
  simp [Sp.rMove]
--Q
theorem ok_rSetup (a : Sp.Act) (h : Sp.actOk a) : callA Tryd.prog 131 [ActT.toAV a] [] (fun r _ => r = .bool (Sp.rSetup a) ∧ below 0 r = true) := by
  obtain ⟨aAu, aSeq, aPrev, aKind, aTime, aObj, aTgt, aScope, aGrp, aTo, aText, ⟨aBn, aBd, aBt⟩, aEp, aWr, aN, aM, aE, aS⟩ := a
  have hTo := actOk_to aAu aSeq aPrev aKind aTime aObj aTgt aScope aGrp aTo aText aBn aBd aBt aEp aWr aN aM aE aS h
  have hRows := actOk_rows aAu aSeq aPrev aKind aTime aObj aTgt aScope aGrp aTo aText aBn aBd aBt aEp aWr aN aM aE aS h
  have hGrp := actOk_grp aAu aSeq aPrev aKind aTime aObj aTgt aScope aGrp aTo aText aBn aBd aBt aEp aWr aN aM aE aS h
  have hText := actOk_text aAu aSeq aPrev aKind aTime aObj aTgt aScope aGrp aTo aText aBn aBd aBt aEp aWr aN aM aE aS h
  refine go_rSetup aAu aSeq aPrev aKind aTime aObj aTgt aScope aGrp aTo aText aBn aBd aBt aEp aWr aN aM aE aS ?_
  unfold vc_rSetup
  (repeat' first | (intro x hx) | refine ⟨by first | assumption | exact ob3 | exact fun h => h | exact fun h => ⟨fun h => h, by assumption⟩ | exact fun h _ => h | exact fun h => ⟨fun h => h, fun h => h⟩ | exact fun h => ⟨⟨fun h => h, fun h => h⟩, rfl, rfl, rfl⟩ | exact fun h => ⟨⟨fun h => h, fun h => h⟩, rfl, rfl⟩ | (intros; simp_all; done) | fail, ?_⟩ | fail)
  subst_vars
  refine ⟨congrArg AV.bool ?_, rfl⟩
  rw [Bool.eq_iff_iff]
  simp [Sp.rSetup, and_assoc]
  intros
  cases aTo <;> simp
--Q
theorem ok_rJudge (a : Sp.Act) (h : Sp.actOk a) : callA Tryd.prog 132 [ActT.toAV a] [] (fun r _ => r = .bool (Sp.rJudge a) ∧ below 0 r = true) := by
  obtain ⟨aAu, aSeq, aPrev, aKind, aTime, aObj, aTgt, aScope, aGrp, aTo, aText, ⟨aBn, aBd, aBt⟩, aEp, aWr, aN, aM, aE, aS⟩ := a
  have hTo := actOk_to aAu aSeq aPrev aKind aTime aObj aTgt aScope aGrp aTo aText aBn aBd aBt aEp aWr aN aM aE aS h
  have hRows := actOk_rows aAu aSeq aPrev aKind aTime aObj aTgt aScope aGrp aTo aText aBn aBd aBt aEp aWr aN aM aE aS h
  have hGrp := actOk_grp aAu aSeq aPrev aKind aTime aObj aTgt aScope aGrp aTo aText aBn aBd aBt aEp aWr aN aM aE aS h
  have hText := actOk_text aAu aSeq aPrev aKind aTime aObj aTgt aScope aGrp aTo aText aBn aBd aBt aEp aWr aN aM aE aS h
  refine go_rJudge aAu aSeq aPrev aKind aTime aObj aTgt aScope aGrp aTo aText aBn aBd aBt aEp aWr aN aM aE aS ?_
  unfold vc_rJudge
  (repeat' first | (intro x hx) | refine ⟨by first | assumption | exact ob3 | exact fun h => h | exact fun h => ⟨fun h => h, by assumption⟩ | exact fun h _ => h | exact fun h => ⟨fun h => h, fun h => h⟩ | exact fun h => ⟨⟨fun h => h, fun h => h⟩, rfl, rfl, rfl⟩ | exact fun h => ⟨⟨fun h => h, fun h => h⟩, rfl, rfl⟩ | (intros; simp_all; done) | fail, ?_⟩ | fail)
  subst_vars
  refine ⟨congrArg AV.bool ?_, rfl⟩
  rw [Bool.eq_iff_iff]
  simp [Sp.rJudge]
--Q
theorem ok_rList (a : Sp.Act) (h : Sp.actOk a) : callA Tryd.prog 133 [ActT.toAV a] [] (fun r _ => r = .bool (Sp.rList a) ∧ below 0 r = true) := by
  obtain ⟨aAu, aSeq, aPrev, aKind, aTime, aObj, aTgt, aScope, aGrp, aTo, aText, ⟨aBn, aBd, aBt⟩, aEp, aWr, aN, aM, aE, aS⟩ := a
  have hTo := actOk_to aAu aSeq aPrev aKind aTime aObj aTgt aScope aGrp aTo aText aBn aBd aBt aEp aWr aN aM aE aS h
  have hRows := actOk_rows aAu aSeq aPrev aKind aTime aObj aTgt aScope aGrp aTo aText aBn aBd aBt aEp aWr aN aM aE aS h
  have hGrp := actOk_grp aAu aSeq aPrev aKind aTime aObj aTgt aScope aGrp aTo aText aBn aBd aBt aEp aWr aN aM aE aS h
  have hText := actOk_text aAu aSeq aPrev aKind aTime aObj aTgt aScope aGrp aTo aText aBn aBd aBt aEp aWr aN aM aE aS h
  refine go_rList aAu aSeq aPrev aKind aTime aObj aTgt aScope aGrp aTo aText aBn aBd aBt aEp aWr aN aM aE aS ?_
  unfold vc_rList
  (repeat' first | (intro x hx) | refine ⟨by first | assumption | exact ob3 | exact fun h => h | exact fun h => ⟨fun h => h, by assumption⟩ | exact fun h _ => h | exact fun h => ⟨fun h => h, fun h => h⟩ | exact fun h => ⟨⟨fun h => h, fun h => h⟩, rfl, rfl, rfl⟩ | exact fun h => ⟨⟨fun h => h, fun h => h⟩, rfl, rfl⟩ | (intros; simp_all; done) | fail, ?_⟩ | fail)
  subst_vars
  refine ⟨congrArg AV.bool ?_, rfl⟩
  rw [Bool.eq_iff_iff]
  simp [Sp.rList]
--Q
theorem ok_audience (a : Sp.Act) (h : Sp.actOk a) : callA Tryd.prog 123 [ActT.toAV a] [] (fun r _ => r = .bool (Sp.audience a) ∧ below 0 r = true) := by
  obtain ⟨aAu, aSeq, aPrev, aKind, aTime, aObj, aTgt, aScope, aGrp, aTo, aText, ⟨aBn, aBd, aBt⟩, aEp, aWr, aN, aM, aE, aS⟩ := a
  have hTo := actOk_to aAu aSeq aPrev aKind aTime aObj aTgt aScope aGrp aTo aText aBn aBd aBt aEp aWr aN aM aE aS h
  have hGrp := actOk_grp aAu aSeq aPrev aKind aTime aObj aTgt aScope aGrp aTo aText aBn aBd aBt aEp aWr aN aM aE aS h
  refine go_audience aAu aSeq aPrev aKind aTime aObj aTgt aScope aGrp aTo aText aBn aBd aBt aEp aWr aN aM aE aS ⟨hTo, ?_⟩
  intro x hx x1 hx1
  subst hx1 hx
  cases hi : Sp.ids aTo with
  | false => rw [Bool.not_false, bcase_t]; exact ⟨by simp [Sp.audience, hi], rfl⟩
  | true =>
    rw [Bool.not_true, bcase_f]
    intro y hy
    by_cases h0 : aScope = 0
    · have hyt : y = true := by rw [hy, h0]; rfl
      rw [hyt, bcase_t]
      clear hyt hy
      (repeat' first | (intro x hx) | refine ⟨by first | assumption | exact ob3 | exact fun h => h | exact fun h => ⟨fun h => h, by assumption⟩ | exact fun h _ => h | exact fun h => ⟨fun h => h, fun h => h⟩ | exact fun h => ⟨⟨fun h => h, fun h => h⟩, rfl, rfl, rfl⟩ | exact fun h => ⟨⟨fun h => h, fun h => h⟩, rfl, rfl⟩ | (intros; simp_all; done) | fail, ?_⟩ | fail)
      subst_vars
      refine ⟨congrArg AV.bool ?_, rfl⟩
      rw [Bool.eq_iff_iff]
      simp [Sp.audience, Sp.noBox, hi, and_assoc]
    · have hyt : y = false := by rw [hy]; simpa using h0
      rw [hyt, bcase_f]
      clear hyt hy
      refine ⟨hGrp, ?_⟩
      (repeat' first | (intro x hx) | refine ⟨by first | assumption | exact ob3 | exact fun h => h | exact fun h => ⟨fun h => h, by assumption⟩ | exact fun h _ => h | exact fun h => ⟨fun h => h, fun h => h⟩ | exact fun h => ⟨⟨fun h => h, fun h => h⟩, rfl, rfl, rfl⟩ | exact fun h => ⟨⟨fun h => h, fun h => h⟩, rfl, rfl⟩ | (intros; simp_all; done) | fail, ?_⟩ | fail)
      subst_vars
      refine ⟨congrArg AV.bool ?_, rfl⟩
      rw [Bool.eq_iff_iff]
      simp [Sp.audience, hi, h0, and_assoc]
--Q
def mkAct (f : FuncId) (out : Sp.Act → Bool) (ok : ∀ a, Sp.actOk a → callA Tryd.prog f [ActT.toAV a] [] (fun r _ => r = .bool (out a) ∧ below 0 r = true)) (en : Go.Proofs.YtmkjbdimmgkfdaaDoor.Ax.Enters Tryd.prog f) : PCon Tryd.prog :=
  mkP [ActT] f (fun x => some (Sp.actOk x.1)) (fun x => .bool (out x.1)) (fun x h => ok x.1 h) en
/-- A rule's contract. -/
structure ACon where
  f : FuncId
  out : Sp.Act → Bool
  ok : ∀ a, Sp.actOk a → callA Tryd.prog f [ActT.toAV a] [] (fun r _ => r = .bool (out a) ∧ below 0 r = true)
  en : Go.Proofs.YtmkjbdimmgkfdaaDoor.Ax.Enters Tryd.prog f
def ACon.k (c : ACon) : PCon Tryd.prog := mkAct c.f c.out c.ok c.en
def k_audience : PCon Tryd.prog := mkAct 123 Sp.audience ok_audience en_audience
def k_rBegin : PCon Tryd.prog := mkAct 121 Sp.rBegin ok_rBegin en_rBegin
def k_rCircle : PCon Tryd.prog := mkAct 125 Sp.rCircle ok_rCircle en_rCircle
def k_rGrant : PCon Tryd.prog := mkAct 126 Sp.rGrant ok_rGrant en_rGrant
def k_rLabel : PCon Tryd.prog := mkAct 129 Sp.rLabel ok_rLabel en_rLabel
def k_rMove : PCon Tryd.prog := mkAct 130 Sp.rMove ok_rMove en_rMove
def k_rSetup : PCon Tryd.prog := mkAct 131 Sp.rSetup ok_rSetup en_rSetup
def k_rJudge : PCon Tryd.prog := mkAct 132 Sp.rJudge ok_rJudge en_rJudge
def k_rList : PCon Tryd.prog := mkAct 133 Sp.rList ok_rList en_rList
def k_rReason : PCon Tryd.prog := mkAct 124 Sp.rReason (fun a _ => by obtain ⟨aAu, aSeq, aPrev, aKind, aTime, aObj, aTgt, aScope, aGrp, aTo, aText, ⟨aBn, aBd, aBt⟩, aEp, aWr, aN, aM, aE, aS⟩ := a; exact ok_reason (aAu, aSeq, aPrev, aKind, aTime, aObj, aTgt, aScope, aGrp, aTo, aText, (aBn, aBd, aBt), aEp, aWr, aN, aM, aE, aS)) en_reason
end Go.Proofs.YtmkjbdimmgkfdaaDoor
namespace Go.Proofs.YtmkjbdimmgkfdaaDoor
open Go Go.Proofs.YtmkjbdimmgkfdaaDoor.Ax
set_option linter.unusedVariables false
set_option maxRecDepth 100000

namespace Sp
abbrev Flags := Bool × Bool × Bool × Bool × Bool × Bool × Bool × Bool × Bool
/-- object target audience group to text wraps n m -/
def unused : Flags → Act → Bool
  | (fo, ft, fa, fg, fto, ftx, fw, fn, fm), (au, seq, prev, kind, time, obj, tgt, scope, grp, to, text, (bn, bd, bt), ep, wr, n, m, e, s) =>
    (fo || decide (obj = [])) && ((ft || decide (tgt = [])) && ((fa || (decide (scope = 0) && (decide (ep = 0) && noBox bn bd bt))) && ((fa || fg || decide (grp = [])) && ((fa || fto || decide (to = [])) && ((fa || ftx || decide (text = [])) &&
      ((fw || decide (wr = [])) && ((fn || decide (n = 0)) && (fm || decide (m = 0)))))))))
end Sp
theorem hf_unused : Tryd.prog.funcs[32]? = some Tryd.f32 := by kernel_rfl
theorem en_unused : Go.Proofs.YtmkjbdimmgkfdaaDoor.Ax.Enters Tryd.prog 32 := entersOf Tryd.f32 hf_unused (by kernel_rfl) (by kernel_rfl)
def vc_unused (fo ft fa fg fto ftx fw fn fm : Bool) (aAu : Bs) (aSeq : Int) (aPrev : Bs) (aKind : Int) (aTime : Int) (aObj : Bs) (aTgt : Bs) (aScope : Int) (aGrp : Bs) (aTo : List Bs) (aText : Bs) (aBn : Bs) (aBd : Bs) (aBt : Bs) (aEp : Int) (aWr : List Sp.Wrap) (aN : Int) (aM : Int) (aE : Int) (aS : Int) (K : AV → St → Prop) : Prop :=
  ∀ (x : Bool), x = (aScope == (0 : Int)) → (x = true → x = true → x = true) ∧ (x = true → x = true → x = true) ∧ ∀ (x_1 : Bool), x_1 = (aEp == (0 : Int)) → ((true && x) = true → x = true) ∧ ∀ (x_2 : Bool), (x_2 = bif x then x_1 else false) → (x_2 = true → x_2 = true → x_2 = true) ∧ (x_2 = true → ((x_2 = true → x_2 = true) ∧ (x_2 = true → x_2 = true)) ∧ false = false ∧ false = false) ∧ ∀ (x : Bool), x = (aBn == [] && (aBd == [] && aBt == [])) → ((true && x_2) = true → x_2 = true) ∧ ∀ (x_3 : Bool), (x_3 = bif x_2 then x else false) → ((!fo) = true → (!fo) = true → (!fo) = true) ∧ ((!fo) = true → (!fo) = true → (!fo) = true) ∧ ∀ (x : Bool), x = (aObj == []) → ((true && !fo) = true → (!fo) = true) ∧ ∀ (x_4 : Bool), (x_4 = bif fo then true else x) → (x_4 = true → x_4 = true → x_4 = true) ∧ ((x_4 && x_4 && !ft) = true → (x_4 && x_4 && !ft) = true → (x_4 && x_4 && !ft) = true) ∧ ((x_4 && x_4 && !ft) = true → (x_4 && x_4 && !ft) = true → (x_4 && x_4 && !ft) = true) ∧ ∀ (x : Bool), x = (aTgt == []) → (x_4 = true → (x_4 = true → (x_4 && x_4) = true) ∧ ((x_4 && !ft) = true → (x_4 && x_4 && !ft) = true)) ∧ ∀ (x_5 : Bool), (x_5 = bif ft then true else x) → ((true && x_4) = true → x_4 = true) ∧ ∀ (x : Bool), (x = bif x_4 then x_5 else false) → (x = true → x = true → x = true) ∧ (x = true → (x = true → (x && x) = true) ∧ ((x && !fa) = true → (x && x && !fa) = true)) ∧ ∀ (x_6 : Bool), (x_6 = bif fa then true else x_3) → ((true && x) = true → x = true) ∧ ∀ (x_7 : Bool), (x_7 = bif x then x_6 else false) → (x_7 = true → x_7 = true → x_7 = true) ∧ ((x_7 && x_7 && !fa) = true → (x_7 && x_7 && !fa) = true → (x_7 && x_7 && !fa) = true) ∧ (x_7 = true → (x_7 = true → (x_7 && x_7) = true) ∧ ((x_7 && !fa) = true → (x_7 && x_7 && !fa) = true)) ∧ ∀ (x : Bool), (x = bif fa then true else fg) → ((x_7 && x_7 && !x) = true → (x_7 && x_7 && !x) = true → (x_7 && x_7 && !x) = true) ∧ ((x_7 && x_7 && !x) = true → (x_7 && x_7 && !x) = true → (x_7 && x_7 && !x) = true) ∧ ∀ (x_8 : Bool), x_8 = (aGrp == []) → (x_7 = true → (x_7 = true → (x_7 && x_7) = true) ∧ ((x_7 && !x) = true → (x_7 && x_7 && !x) = true)) ∧ ∀ (x_9 : Bool), (x_9 = bif x then true else x_8) → ((true && x_7) = true → x_7 = true) ∧ ∀ (x : Bool), (x = bif x_7 then x_9 else false) → (x = true → x = true → x = true) ∧ ((x && x && !fa) = true → (x && x && !fa) = true → (x && x && !fa) = true) ∧ (x = true → (x = true → (x && x) = true) ∧ ((x && !fa) = true → (x && x && !fa) = true)) ∧ ∀ (x_10 : Bool), (x_10 = bif fa then true else fto) → ((x && x && !x_10) = true → (x && x && !x_10) = true → (x && x && !x_10) = true) ∧ ((x && x && !x_10) = true → (x && x && !x_10) = true → (x && x && !x_10) = true) ∧ ((x && x && !x_10) = true → (x && x && !x_10) = true → (x && x && !x_10) = true) ∧ ∀ (x_11 : Bool), x_11 = ((↑(List.length aTo) : Int) == (0 : Int)) → (x = true → (x = true → (x && x) = true) ∧ ((x && !x_10) = true → (x && x && !x_10) = true)) ∧ ∀ (x_12 : Bool), (x_12 = bif x_10 then true else x_11) → ((true && x) = true → x = true) ∧ ∀ (x_13 : Bool), (x_13 = bif x then x_12 else false) → (x_13 = true → x_13 = true → x_13 = true) ∧ ((x_13 && x_13 && !fa) = true → (x_13 && x_13 && !fa) = true → (x_13 && x_13 && !fa) = true) ∧ (x_13 = true → (x_13 = true → (x_13 && x_13) = true) ∧ ((x_13 && !fa) = true → (x_13 && x_13 && !fa) = true)) ∧ ∀ (x : Bool), (x = bif fa then true else ftx) → ((x_13 && x_13 && !x) = true → (x_13 && x_13 && !x) = true → (x_13 && x_13 && !x) = true) ∧ ((x_13 && x_13 && !x) = true → (x_13 && x_13 && !x) = true → (x_13 && x_13 && !x) = true) ∧ ∀ (x_14 : Bool), x_14 = (aText == []) → (x_13 = true → (x_13 = true → (x_13 && x_13) = true) ∧ ((x_13 && !x) = true → (x_13 && x_13 && !x) = true)) ∧ ∀ (x_15 : Bool), (x_15 = bif x then true else x_14) → ((true && x_13) = true → x_13 = true) ∧ ∀ (x : Bool), (x = bif x_13 then x_15 else false) → (x = true → x = true → x = true) ∧ ((x && x && !fw) = true → (x && x && !fw) = true → (x && x && !fw) = true) ∧ ((x && x && !fw) = true → (x && x && !fw) = true → (x && x && !fw) = true) ∧ ((x && x && !fw) = true → (x && x && !fw) = true → (x && x && !fw) = true) ∧ ∀ (x_16 : Bool), x_16 = ((↑(List.length aWr) : Int) == (0 : Int)) → (x = true → (x = true → (x && x) = true) ∧ ((x && !fw) = true → (x && x && !fw) = true)) ∧ ∀ (x_17 : Bool), (x_17 = bif fw then true else x_16) → ((true && x) = true → x = true) ∧ ∀ (x_18 : Bool), (x_18 = bif x then x_17 else false) → (x_18 = true → x_18 = true → x_18 = true) ∧ ((x_18 && x_18 && !fn) = true → (x_18 && x_18 && !fn) = true → (x_18 && x_18 && !fn) = true) ∧ ((x_18 && x_18 && !fn) = true → (x_18 && x_18 && !fn) = true → (x_18 && x_18 && !fn) = true) ∧ ∀ (x : Bool), x = (aN == (0 : Int)) → (x_18 = true → (x_18 = true → (x_18 && x_18) = true) ∧ ((x_18 && !fn) = true → (x_18 && x_18 && !fn) = true)) ∧ ∀ (x_19 : Bool), (x_19 = bif fn then true else x) → ((true && x_18) = true → x_18 = true) ∧ ∀ (x : Bool), (x = bif x_18 then x_19 else false) → (x = true → x = true → x = true) ∧ ((x && x && !fm) = true → (x && x && !fm) = true → (x && x && !fm) = true) ∧ ((x && x && !fm) = true → (x && x && !fm) = true → (x && x && !fm) = true) ∧ ∀ (x_20 : Bool), x_20 = (aM == (0 : Int)) → (x = true → (x = true → (x && x) = true) ∧ ((x && !fm) = true → (x && x && !fm) = true)) ∧ ∀ (x_21 : Bool), (x_21 = bif fm then true else x_20) → ((true && x) = true → x = true) ∧ ∀ (x_22 : Bool), (x_22 = bif x then x_21 else false) → K (AV.bool x_22) []
theorem ev_unused (fo ft fa fg fto ftx fw fn fm : Bool) (aAu : Bs) (aSeq : Int) (aPrev : Bs) (aKind : Int) (aTime : Int) (aObj : Bs) (aTgt : Bs) (aScope : Int) (aGrp : Bs) (aTo : List Bs) (aText : Bs) (aBn : Bs) (aBd : Bs) (aBt : Bs) (aEp : Int) (aWr : List Sp.Wrap) (aN : Int) (aM : Int) (aE : Int) (aS : Int) (K : AV → St → Prop) : fnA Tryd.prog cs0 shHints Tryd.f32 [.agg [.bool fo, .bool ft, .bool fa, .bool fg, .bool fto, .bool ftx, .bool fw, .bool fn, .bool fm, .any], .agg [.str aAu, .int .i64 aSeq, .str aPrev, .int .i64 aKind, .int .i64 aTime, .str aObj, .str aTgt, .int .i64 aScope, .str aGrp, .sl .str aTo, .str aText, .str aBn, .str aBd, .str aBt, .int .i64 aEp, .sl WrapT aWr, .int .i64 aN, .int .i64 aM, .int .i64 aE, .int .i64 aS]] [] K = vc_unused fo ft fa fg fto ftx fw fn fm aAu aSeq aPrev aKind aTime aObj aTgt aScope aGrp aTo aText aBn aBd aBt aEp aWr aN aM aE aS K := by kernel_rfl
theorem go_unused (fo ft fa fg fto ftx fw fn fm : Bool) (aAu : Bs) (aSeq : Int) (aPrev : Bs) (aKind : Int) (aTime : Int) (aObj : Bs) (aTgt : Bs) (aScope : Int) (aGrp : Bs) (aTo : List Bs) (aText : Bs) (aBn : Bs) (aBd : Bs) (aBt : Bs) (aEp : Int) (aWr : List Sp.Wrap) (aN : Int) (aM : Int) (aE : Int) (aS : Int) {K : AV → St → Prop} (hvc : vc_unused fo ft fa fg fto ftx fw fn fm aAu aSeq aPrev aKind aTime aObj aTgt aScope aGrp aTo aText aBn aBd aBt aEp aWr aN aM aE aS K) : callA Tryd.prog 32 [.agg [.bool fo, .bool ft, .bool fa, .bool fg, .bool fto, .bool ftx, .bool fw, .bool fn, .bool fm, .any], .agg [.str aAu, .int .i64 aSeq, .str aPrev, .int .i64 aKind, .int .i64 aTime, .str aObj, .str aTgt, .int .i64 aScope, .str aGrp, .sl .str aTo, .str aText, .str aBn, .str aBd, .str aBt, .int .i64 aEp, .sl WrapT aWr, .int .i64 aN, .int .i64 aM, .int .i64 aE, .int .i64 aS]] [] K :=
  callA_of (P := Tryd.prog) (cs := cs0) (H := shHints) (f := 32) (fn := Tryd.f32) (args := [.agg [.bool fo, .bool ft, .bool fa, .bool fg, .bool fto, .bool ftx, .bool fw, .bool fn, .bool fm, .any], .agg [.str aAu, .int .i64 aSeq, .str aPrev, .int .i64 aKind, .int .i64 aTime, .str aObj, .str aTgt, .int .i64 aScope, .str aGrp, .sl .str aTo, .str aText, .str aBn, .str aBd, .str aBt, .int .i64 aEp, .sl WrapT aWr, .int .i64 aN, .int .i64 aM, .int .i64 aE, .int .i64 aS]]) (L := []) (K := K) hf_unused (Eq.mpr (ev_unused fo ft fa fg fto ftx fw fn fm aAu aSeq aPrev aKind aTime aObj aTgt aScope aGrp aTo aText aBn aBd aBt aEp aWr aN aM aE aS K) hvc)
theorem ok_unused (f : Sp.Flags) (a : Sp.Act) : callA Tryd.prog 32 [.agg [.bool f.1, .bool f.2.1, .bool f.2.2.1, .bool f.2.2.2.1, .bool f.2.2.2.2.1, .bool f.2.2.2.2.2.1, .bool f.2.2.2.2.2.2.1, .bool f.2.2.2.2.2.2.2.1, .bool f.2.2.2.2.2.2.2.2, .any], ActT.toAV a] [] (fun r _ => r = .bool (Sp.unused f a) ∧ below 0 r = true) := by
  obtain ⟨aAu, aSeq, aPrev, aKind, aTime, aObj, aTgt, aScope, aGrp, aTo, aText, ⟨aBn, aBd, aBt⟩, aEp, aWr, aN, aM, aE, aS⟩ := a
  obtain ⟨fo, ft, fa, fg, fto, ftx, fw, fn, fm⟩ := f
  refine go_unused fo ft fa fg fto ftx fw fn fm aAu aSeq aPrev aKind aTime aObj aTgt aScope aGrp aTo aText aBn aBd aBt aEp aWr aN aM aE aS ?_
  unfold vc_unused
  (repeat' first | (intro x hx) | refine ⟨by first | assumption | exact ob3 | exact fun h => h | exact fun h => ⟨fun h => h, by assumption⟩ | exact fun h _ => h | exact fun h => ⟨fun h => h, fun h => h⟩ | exact fun h => ⟨⟨fun h => h, fun h => h⟩, rfl, rfl, rfl⟩ | exact fun h => ⟨⟨fun h => h, fun h => h⟩, rfl, rfl⟩ | (intros; simp_all; done) | fail, ?_⟩ | fail)
  subst_vars
  refine ⟨congrArg AV.bool ?_, rfl⟩
  rw [Bool.eq_iff_iff]
  simp [Sp.unused, Sp.noBox, and_assoc, or_assoc]
--Q
def unArgs : List AV → Option (Sp.Flags × Sp.Act)
  | [.agg [.bool fo, .bool ft, .bool fa, .bool fg, .bool fto, .bool ftx, .bool fw, .bool fn, .bool fm, _], y] => match ActT.ofAV y with
    | some a => some ((fo, ft, fa, fg, fto, ftx, fw, fn, fm), a)
    | none => none
  | _ => none
def k_unused : PCon Tryd.prog where
  f := 32
  pre := fun args => match unArgs args with | some _ => none | none => some False
  out := fun args => match unArgs args with | some x => .bool (Sp.unused x.1 x.2) | none => .any
  ok := by
    intro args h
    cases hx : unArgs args with
    | none => rw [hx] at h; exact h.elim
    | some x =>
      unfold unArgs at hx
      split at hx
      · rename_i fo ft fa fg fto ftx fw fn fm z y
        split at hx
        · rename_i a ha
          cases hx
          refine callA_args (ok_unused (fo, ft, fa, fg, fto, ftx, fw, fn, fm) a) (fun G w vs hv => ?_)
          simp only [RepL, Rep] at hv ⊢
          obtain ⟨v1, r1, e1, ⟨cs, e2, hcs⟩, v2, r2, e3, h2, h3⟩ := hv
          refine ⟨v1, r1, e1, ⟨cs, e2, ?_⟩, v2, r2, e3, ofAV_toAV ha h2, h3⟩
          obtain ⟨a1, b1, c1, d1, a2, b2, c2, d2, a3, b3, c3, d3, a4, b4, c4, d4, a5, b5, c5, d5, a6, b6, c6, d6, a7, b7, c7, d7, a8, b8, c8, d8, a9, b9, c9, d9, a0, b0, c0, d0, e0⟩ := hcs
          exact ⟨a1, b1, c1, d1, a2, b2, c2, d2, a3, b3, c3, d3, a4, b4, c4, d4, a5, b5, c5, d5, a6, b6, c6, d6, a7, b7, c7, d7, a8, b8, c8, d8, a9, b9, c9, d9, a0, b0, c0, trivial, e0⟩
        · cases hx
      · cases hx
  enters := en_unused
abbrev csN (c : ACon) : Cons Tryd.prog := ⟨[k_within, k_iRight, k_isDigest, k_unused, c.k], [], []⟩
theorem hf_right : Tryd.prog.funcs[11]? = some Tryd.f11 := by kernel_rfl
theorem en_right : Go.Proofs.YtmkjbdimmgkfdaaDoor.Ax.Enters Tryd.prog 11 := entersOf Tryd.f11 hf_right (by kernel_rfl) (by kernel_rfl)
def vc_right (c : ACon) (aAu : Bs) (aSeq : Int) (aPrev : Bs) (aKind : Int) (aTime : Int) (aObj : Bs) (aTgt : Bs) (aScope : Int) (aGrp : Bs) (aTo : List Bs) (aText : Bs) (aBn : Bs) (aBd : Bs) (aBt : Bs) (aEp : Int) (aWr : List Sp.Wrap) (aN : Int) (aM : Int) (aE : Int) (aS : Int) (K : AV → St → Prop) : Prop :=
  (GRows.at aKind kinds = none → ∀ (x : Bool), x = true → ((!x) = true → (!x) = true → (!x) = true) ∧ ((!x) = true → (!x) = true → (!x) = true) ∧ ∀ (x_1 : Bool), x_1 = Sp.idOk aAu → ((!x) = true → (!x) = true → (!x) = true) ∧ ∀ (x_2 : Bool), x_2 = !x_1 → ((true && !x) = true → (!x) = true) ∧ ∀ (x_3 : Bool), (x_3 = bif x then true else x_2) → ((!x_3) = true → (!x_3) = true → (!x_3) = true) ∧ ((!x_3) = true → (!x_3) = true → (!x_3) = true) ∧ ∀ (x : Bool), x = Sp.within aSeq (0 : Int) (1073741824 : Int) → ((!x_3) = true → (!x_3) = true → (!x_3) = true) ∧ ∀ (x_4 : Bool), x_4 = !x → ((true && !x_3) = true → (!x_3) = true) ∧ ∀ (x : Bool), (x = bif x_3 then true else x_4) → ((!x) = true → (!x) = true → (!x) = true) ∧ ((!x) = true → (!x) = true → (!x) = true) ∧ ∀ (x_5 : Bool), x_5 = Sp.within aTime (0 : Int) (1099511627776 : Int) → ((!x) = true → (!x) = true → (!x) = true) ∧ ∀ (x_6 : Bool), x_6 = !x_5 → ((true && !x) = true → (!x) = true) ∧ ∀ (x_7 : Bool), (x_7 = bif x then true else x_6) → ((!x_7) = true → (!x_7) = true → (!x_7) = true) ∧ ((!x_7) = true → (!x_7) = true → (!x_7) = true) ∧ ∀ (x : Bool), x = (aKind == (0 : Int)) → ((!x_7) = true → (!x_7) = true → (!x_7) = true) ∧ ((!x_7) = true → (!x_7) = true → (!x_7) = true) ∧ ∀ (x_8 : Bool), x_8 = (aSeq == (0 : Int)) → ((!x_7) = true → ((!x_7) = true → (!x_7) = true) ∧ ((!x_7) = true → (!x_7) = true)) ∧ ∀ (x_9 : Bool), x_9 = !x == x_8 → ((true && !x_7) = true → (!x_7) = true) ∧ ∀ (x : Bool), (x = bif x_7 then true else x_9) → bcase x (K (AV.bool false) []) (∀ (x : Bool), x = Sp.within aE (0 : Int) (2305843009213693949 : Int) → ∀ (x_10 : Bool), x_10 = !x → ((!x_10) = true → (!x_10) = true → (!x_10) = true) ∧ ((!x_10) = true → (!x_10) = true → (!x_10) = true) ∧ ((!x_10) = true → (!x_10) = true → (!x_10) = true) ∧ ∀ (x : Bool), x = Sp.within aS (0 : Int) (2305843009213693949 : Int) → ((!x_10) = true → (!x_10) = true → (!x_10) = true) ∧ ∀ (x_11 : Bool), x_11 = !x → ((true && !x_10) = true → (!x_10) = true) ∧ ∀ (x : Bool), (x = bif x_10 then true else x_11) → bcase x (K (AV.bool false) []) (∀ (x : Bool), x = (aSeq == (0 : Int)) → (x = true → x = true → x = true) ∧ (x = true → x = true → x = true) ∧ ∀ (x_12 : Bool), x_12 = !aPrev == [] → ((true && x) = true → x = true) ∧ ∀ (x_13 : Bool), (x_13 = bif x then x_12 else false) → ((!x_13) = true → (!x_13) = true → (!x_13) = true) ∧ ((!x_13) = true → (!x_13) = true → (!x_13) = true) ∧ ∀ (x : Bool), x = decide (aSeq > (0 : Int)) → ((!x_13 && !x_13 && x) = true → (!x_13 && !x_13 && x) = true → (!x_13 && !x_13 && x) = true) ∧ ((!x_13 && !x_13 && x) = true → (!x_13 && !x_13 && x) = true → (!x_13 && !x_13 && x) = true) ∧ ∀ (x_14 : Bool), x_14 = Sp.isDigest aPrev → ((!x_13 && !x_13 && x) = true → (!x_13 && !x_13 && x) = true → (!x_13 && !x_13 && x) = true) ∧ ∀ (x_15 : Bool), x_15 = !x_14 → ((!x_13) = true → ((!x_13) = true → (!x_13 && !x_13) = true) ∧ ((!x_13 && x) = true → (!x_13 && !x_13 && x) = true)) ∧ ∀ (x_16 : Bool), (x_16 = bif x then x_15 else false) → ((true && !x_13) = true → (!x_13) = true) ∧ ∀ (x : Bool), (x = bif x_13 then true else x_16) → ((!x) = true → ((!x) = true → (!x) = true) ∧ ((!x) = true → (!x) = true)) ∧ ∀ (x_17 : Bool), x_17 = Sp.unused (false, false, false, false, false, false, false, false, false) (aAu, aSeq, aPrev, aKind, aTime, aObj, aTgt, aScope, aGrp, aTo, aText, (aBn, aBd, aBt), aEp, aWr, aN, aM, aE, aS) → ((!x) = true → (!x) = true → (!x) = true) ∧ ∀ (x_18 : Bool), x_18 = !x_17 → ((true && !x) = true → (!x) = true) ∧ ∀ (x_19 : Bool), (x_19 = bif x then true else x_18) → bcase x_19 (K (AV.bool false) []) ((false = true → false = true → false = true) ∧ (false = true → false = true → false = true) ∧ ∀ (x : Bool), x = Sp.isDigest aObj → (false = true → false = true → false = true) ∧ ∀ (x_20 : Bool), x_20 = !x → (false = true → false = true) ∧ ∀ (x : Bool), (x = bif false then x_20 else false) → (x = true → x = true → x = true) ∧ (x = true → x = true → x = true) ∧ ∀ (x_21 : Bool), x_21 = true → ((x && x && !x_21) = true → (x && x && !x_21) = true → (x && x && !x_21) = true) ∧ ((x && x && !x_21) = true → (x && x && !x_21) = true → (x && x && !x_21) = true) ∧ ∀ (x_22 : Bool), x_22 = !aObj == [] → (x = true → (x = true → (x && x) = true) ∧ ((x && !x_21) = true → (x && x && !x_21) = true)) ∧ ∀ (x_23 : Bool), (x_23 = bif x_21 then true else x_22) → ((true && x) = true → x = true) ∧ ∀ (x_24 : Bool), (x_24 = bif x then x_23 else false) → ((!x_24) = true → (!x_24) = true → (!x_24) = true) ∧ ((!x_24 && !x_24 && false) = true → (!x_24 && !x_24 && false) = true → (!x_24 && !x_24 && false) = true) ∧ ((!x_24 && !x_24 && false) = true → (!x_24 && !x_24 && false) = true → (!x_24 && !x_24 && false) = true) ∧ ∀ (x : Bool), x = Sp.idOk aTgt → ((!x_24 && !x_24 && false) = true → (!x_24 && !x_24 && false) = true → (!x_24 && !x_24 && false) = true) ∧ ∀ (x_25 : Bool), x_25 = !x → ((!x_24) = true → ((!x_24) = true → (!x_24 && !x_24) = true) ∧ ((!x_24 && false) = true → (!x_24 && !x_24 && false) = true)) ∧ ∀ (x : Bool), (x = bif false then x_25 else false) → ((!x_24 && !x_24 && x) = true → (!x_24 && !x_24 && x) = true → (!x_24 && !x_24 && x) = true) ∧ ((!x_24 && !x_24 && x) = true → (!x_24 && !x_24 && x) = true → (!x_24 && !x_24 && x) = true) ∧ ∀ (x_26 : Bool), x_26 = true → ((!x_24 && !x_24 && x && (!x_24 && !x_24 && x) && !x_26) = true → (!x_24 && !x_24 && x && (!x_24 && !x_24 && x) && !x_26) = true → (!x_24 && !x_24 && x && (!x_24 && !x_24 && x) && !x_26) = true) ∧ ((!x_24 && !x_24 && x && (!x_24 && !x_24 && x) && !x_26) = true → (!x_24 && !x_24 && x && (!x_24 && !x_24 && x) && !x_26) = true → (!x_24 && !x_24 && x && (!x_24 && !x_24 && x) && !x_26) = true) ∧ ∀ (x_27 : Bool), x_27 = !aTgt == [] → ((!x_24 && !x_24 && x) = true → ((!x_24 && !x_24 && x) = true → (!x_24 && !x_24 && x && (!x_24 && !x_24 && x)) = true) ∧ ((!x_24 && !x_24 && x && !x_26) = true → (!x_24 && !x_24 && x && (!x_24 && !x_24 && x) && !x_26) = true)) ∧ ∀ (x_28 : Bool), (x_28 = bif x_26 then true else x_27) → ((!x_24) = true → ((!x_24) = true → (!x_24 && !x_24) = true) ∧ ((!x_24 && x) = true → (!x_24 && !x_24 && x) = true)) ∧ ∀ (x_29 : Bool), (x_29 = bif x then x_28 else false) → ((true && !x_24) = true → (!x_24) = true) ∧ ∀ (x : Bool), (x = bif x_24 then true else x_29) → bcase x (K (AV.bool false) []) (∀ (x : Bool), x = true → ((!x) = true → (!x) = true → (!x) = true) ∧ bcase (!x) (False) (x = true ∧ ∀ (x : Bool), x = true → K (AV.bool x) [])))))) ∧ ∀ (b1 b2 b3 b4 b5 b6 b7 b8 b9 : Bool), (GRows.at aKind kinds = some (rowVal [b1, b2, b3, b4, b5, b6, b7, b8, b9] Value.nilFunc) → ∀ (x : Bool), x = false → ((!x) = true → (!x) = true → (!x) = true) ∧ ((!x) = true → (!x) = true → (!x) = true) ∧ ∀ (x_1 : Bool), x_1 = Sp.idOk aAu → ((!x) = true → (!x) = true → (!x) = true) ∧ ∀ (x_2 : Bool), x_2 = !x_1 → ((true && !x) = true → (!x) = true) ∧ ∀ (x_3 : Bool), (x_3 = bif x then true else x_2) → ((!x_3) = true → (!x_3) = true → (!x_3) = true) ∧ ((!x_3) = true → (!x_3) = true → (!x_3) = true) ∧ ∀ (x : Bool), x = Sp.within aSeq (0 : Int) (1073741824 : Int) → ((!x_3) = true → (!x_3) = true → (!x_3) = true) ∧ ∀ (x_4 : Bool), x_4 = !x → ((true && !x_3) = true → (!x_3) = true) ∧ ∀ (x : Bool), (x = bif x_3 then true else x_4) → ((!x) = true → (!x) = true → (!x) = true) ∧ ((!x) = true → (!x) = true → (!x) = true) ∧ ∀ (x_5 : Bool), x_5 = Sp.within aTime (0 : Int) (1099511627776 : Int) → ((!x) = true → (!x) = true → (!x) = true) ∧ ∀ (x_6 : Bool), x_6 = !x_5 → ((true && !x) = true → (!x) = true) ∧ ∀ (x_7 : Bool), (x_7 = bif x then true else x_6) → ((!x_7) = true → (!x_7) = true → (!x_7) = true) ∧ ((!x_7) = true → (!x_7) = true → (!x_7) = true) ∧ ∀ (x : Bool), x = (aKind == (0 : Int)) → ((!x_7) = true → (!x_7) = true → (!x_7) = true) ∧ ((!x_7) = true → (!x_7) = true → (!x_7) = true) ∧ ∀ (x_8 : Bool), x_8 = (aSeq == (0 : Int)) → ((!x_7) = true → ((!x_7) = true → (!x_7) = true) ∧ ((!x_7) = true → (!x_7) = true)) ∧ ∀ (x_9 : Bool), x_9 = !x == x_8 → ((true && !x_7) = true → (!x_7) = true) ∧ ∀ (x : Bool), (x = bif x_7 then true else x_9) → bcase x (K (AV.bool false) []) (∀ (x : Bool), x = Sp.within aE (0 : Int) (2305843009213693949 : Int) → ∀ (x_10 : Bool), x_10 = !x → ((!x_10) = true → (!x_10) = true → (!x_10) = true) ∧ ((!x_10) = true → (!x_10) = true → (!x_10) = true) ∧ ((!x_10) = true → (!x_10) = true → (!x_10) = true) ∧ ∀ (x : Bool), x = Sp.within aS (0 : Int) (2305843009213693949 : Int) → ((!x_10) = true → (!x_10) = true → (!x_10) = true) ∧ ∀ (x_11 : Bool), x_11 = !x → ((true && !x_10) = true → (!x_10) = true) ∧ ∀ (x : Bool), (x = bif x_10 then true else x_11) → bcase x (K (AV.bool false) []) (∀ (x : Bool), x = (aSeq == (0 : Int)) → (x = true → x = true → x = true) ∧ (x = true → x = true → x = true) ∧ ∀ (x_12 : Bool), x_12 = !aPrev == [] → ((true && x) = true → x = true) ∧ ∀ (x_13 : Bool), (x_13 = bif x then x_12 else false) → ((!x_13) = true → (!x_13) = true → (!x_13) = true) ∧ ((!x_13) = true → (!x_13) = true → (!x_13) = true) ∧ ∀ (x : Bool), x = decide (aSeq > (0 : Int)) → ((!x_13 && !x_13 && x) = true → (!x_13 && !x_13 && x) = true → (!x_13 && !x_13 && x) = true) ∧ ((!x_13 && !x_13 && x) = true → (!x_13 && !x_13 && x) = true → (!x_13 && !x_13 && x) = true) ∧ ∀ (x_14 : Bool), x_14 = Sp.isDigest aPrev → ((!x_13 && !x_13 && x) = true → (!x_13 && !x_13 && x) = true → (!x_13 && !x_13 && x) = true) ∧ ∀ (x_15 : Bool), x_15 = !x_14 → ((!x_13) = true → ((!x_13) = true → (!x_13 && !x_13) = true) ∧ ((!x_13 && x) = true → (!x_13 && !x_13 && x) = true)) ∧ ∀ (x_16 : Bool), (x_16 = bif x then x_15 else false) → ((true && !x_13) = true → (!x_13) = true) ∧ ∀ (x : Bool), (x = bif x_13 then true else x_16) → ((!x) = true → ((!x) = true → (!x) = true) ∧ ((!x) = true → (!x) = true)) ∧ ∀ (x_17 : Bool), x_17 = Sp.unused (b1, b2, b3, b4, b5, b6, b7, b8, b9) (aAu, aSeq, aPrev, aKind, aTime, aObj, aTgt, aScope, aGrp, aTo, aText, (aBn, aBd, aBt), aEp, aWr, aN, aM, aE, aS) → ((!x) = true → (!x) = true → (!x) = true) ∧ ∀ (x_18 : Bool), x_18 = !x_17 → ((true && !x) = true → (!x) = true) ∧ ∀ (x_19 : Bool), (x_19 = bif x then true else x_18) → bcase x_19 (K (AV.bool false) []) ((b1 = true → b1 = true → b1 = true) ∧ (b1 = true → b1 = true → b1 = true) ∧ ∀ (x : Bool), x = Sp.isDigest aObj → (b1 = true → b1 = true → b1 = true) ∧ ∀ (x_20 : Bool), x_20 = !x → ((true && b1) = true → b1 = true) ∧ ∀ (x : Bool), (x = bif b1 then x_20 else false) → (x = true → x = true → x = true) ∧ (x = true → x = true → x = true) ∧ ∀ (x_21 : Bool), x_21 = !b2 → ((x && x && !x_21) = true → (x && x && !x_21) = true → (x && x && !x_21) = true) ∧ ((x && x && !x_21) = true → (x && x && !x_21) = true → (x && x && !x_21) = true) ∧ ∀ (x_22 : Bool), x_22 = !aObj == [] → (x = true → (x = true → (x && x) = true) ∧ ((x && !x_21) = true → (x && x && !x_21) = true)) ∧ ∀ (x_23 : Bool), (x_23 = bif x_21 then true else x_22) → ((true && x) = true → x = true) ∧ ∀ (x_24 : Bool), (x_24 = bif x then x_23 else false) → ((!x_24) = true → (!x_24) = true → (!x_24) = true) ∧ ((!x_24 && !x_24 && b2) = true → (!x_24 && !x_24 && b2) = true → (!x_24 && !x_24 && b2) = true) ∧ ((!x_24 && !x_24 && b2) = true → (!x_24 && !x_24 && b2) = true → (!x_24 && !x_24 && b2) = true) ∧ ∀ (x : Bool), x = Sp.idOk aTgt → ((!x_24 && !x_24 && b2) = true → (!x_24 && !x_24 && b2) = true → (!x_24 && !x_24 && b2) = true) ∧ ∀ (x_25 : Bool), x_25 = !x → ((!x_24) = true → ((!x_24) = true → (!x_24 && !x_24) = true) ∧ ((!x_24 && b2) = true → (!x_24 && !x_24 && b2) = true)) ∧ ∀ (x : Bool), (x = bif b2 then x_25 else false) → ((!x_24 && !x_24 && x) = true → (!x_24 && !x_24 && x) = true → (!x_24 && !x_24 && x) = true) ∧ ((!x_24 && !x_24 && x) = true → (!x_24 && !x_24 && x) = true → (!x_24 && !x_24 && x) = true) ∧ ∀ (x_26 : Bool), x_26 = !b1 → ((!x_24 && !x_24 && x && (!x_24 && !x_24 && x) && !x_26) = true → (!x_24 && !x_24 && x && (!x_24 && !x_24 && x) && !x_26) = true → (!x_24 && !x_24 && x && (!x_24 && !x_24 && x) && !x_26) = true) ∧ ((!x_24 && !x_24 && x && (!x_24 && !x_24 && x) && !x_26) = true → (!x_24 && !x_24 && x && (!x_24 && !x_24 && x) && !x_26) = true → (!x_24 && !x_24 && x && (!x_24 && !x_24 && x) && !x_26) = true) ∧ ∀ (x_27 : Bool), x_27 = !aTgt == [] → ((!x_24 && !x_24 && x) = true → ((!x_24 && !x_24 && x) = true → (!x_24 && !x_24 && x && (!x_24 && !x_24 && x)) = true) ∧ ((!x_24 && !x_24 && x && !x_26) = true → (!x_24 && !x_24 && x && (!x_24 && !x_24 && x) && !x_26) = true)) ∧ ∀ (x_28 : Bool), (x_28 = bif x_26 then true else x_27) → ((!x_24) = true → ((!x_24) = true → (!x_24 && !x_24) = true) ∧ ((!x_24 && x) = true → (!x_24 && !x_24 && x) = true)) ∧ ∀ (x_29 : Bool), (x_29 = bif x then x_28 else false) → ((true && !x_24) = true → (!x_24) = true) ∧ ∀ (x : Bool), (x = bif x_24 then true else x_29) → bcase x (K (AV.bool false) []) (∀ (x : Bool), x = true → ((!x) = true → (!x) = true → (!x) = true) ∧ bcase (!x) (False) (x = true ∧ ∀ (x : Bool), x = true → K (AV.bool x) [])))))) ∧ ∀ (f : FuncId), GRows.at aKind kinds = some (rowVal [b1, b2, b3, b4, b5, b6, b7, b8, b9] (Value.func (Fn.func f) #[] #[])) → ∀ (x : Bool), x = false → ((!x) = true → (!x) = true → (!x) = true) ∧ ((!x) = true → (!x) = true → (!x) = true) ∧ ∀ (x_1 : Bool), x_1 = Sp.idOk aAu → ((!x) = true → (!x) = true → (!x) = true) ∧ ∀ (x_2 : Bool), x_2 = !x_1 → ((true && !x) = true → (!x) = true) ∧ ∀ (x_3 : Bool), (x_3 = bif x then true else x_2) → ((!x_3) = true → (!x_3) = true → (!x_3) = true) ∧ ((!x_3) = true → (!x_3) = true → (!x_3) = true) ∧ ∀ (x : Bool), x = Sp.within aSeq (0 : Int) (1073741824 : Int) → ((!x_3) = true → (!x_3) = true → (!x_3) = true) ∧ ∀ (x_4 : Bool), x_4 = !x → ((true && !x_3) = true → (!x_3) = true) ∧ ∀ (x : Bool), (x = bif x_3 then true else x_4) → ((!x) = true → (!x) = true → (!x) = true) ∧ ((!x) = true → (!x) = true → (!x) = true) ∧ ∀ (x_5 : Bool), x_5 = Sp.within aTime (0 : Int) (1099511627776 : Int) → ((!x) = true → (!x) = true → (!x) = true) ∧ ∀ (x_6 : Bool), x_6 = !x_5 → ((true && !x) = true → (!x) = true) ∧ ∀ (x_7 : Bool), (x_7 = bif x then true else x_6) → ((!x_7) = true → (!x_7) = true → (!x_7) = true) ∧ ((!x_7) = true → (!x_7) = true → (!x_7) = true) ∧ ∀ (x : Bool), x = (aKind == (0 : Int)) → ((!x_7) = true → (!x_7) = true → (!x_7) = true) ∧ ((!x_7) = true → (!x_7) = true → (!x_7) = true) ∧ ∀ (x_8 : Bool), x_8 = (aSeq == (0 : Int)) → ((!x_7) = true → ((!x_7) = true → (!x_7) = true) ∧ ((!x_7) = true → (!x_7) = true)) ∧ ∀ (x_9 : Bool), x_9 = !x == x_8 → ((true && !x_7) = true → (!x_7) = true) ∧ ∀ (x : Bool), (x = bif x_7 then true else x_9) → bcase x (K (AV.bool false) []) (∀ (x : Bool), x = Sp.within aE (0 : Int) (2305843009213693949 : Int) → ∀ (x_10 : Bool), x_10 = !x → ((!x_10) = true → (!x_10) = true → (!x_10) = true) ∧ ((!x_10) = true → (!x_10) = true → (!x_10) = true) ∧ ((!x_10) = true → (!x_10) = true → (!x_10) = true) ∧ ∀ (x : Bool), x = Sp.within aS (0 : Int) (2305843009213693949 : Int) → ((!x_10) = true → (!x_10) = true → (!x_10) = true) ∧ ∀ (x_11 : Bool), x_11 = !x → ((true && !x_10) = true → (!x_10) = true) ∧ ∀ (x : Bool), (x = bif x_10 then true else x_11) → bcase x (K (AV.bool false) []) (∀ (x : Bool), x = (aSeq == (0 : Int)) → (x = true → x = true → x = true) ∧ (x = true → x = true → x = true) ∧ ∀ (x_12 : Bool), x_12 = !aPrev == [] → ((true && x) = true → x = true) ∧ ∀ (x_13 : Bool), (x_13 = bif x then x_12 else false) → ((!x_13) = true → (!x_13) = true → (!x_13) = true) ∧ ((!x_13) = true → (!x_13) = true → (!x_13) = true) ∧ ∀ (x : Bool), x = decide (aSeq > (0 : Int)) → ((!x_13 && !x_13 && x) = true → (!x_13 && !x_13 && x) = true → (!x_13 && !x_13 && x) = true) ∧ ((!x_13 && !x_13 && x) = true → (!x_13 && !x_13 && x) = true → (!x_13 && !x_13 && x) = true) ∧ ∀ (x_14 : Bool), x_14 = Sp.isDigest aPrev → ((!x_13 && !x_13 && x) = true → (!x_13 && !x_13 && x) = true → (!x_13 && !x_13 && x) = true) ∧ ∀ (x_15 : Bool), x_15 = !x_14 → ((!x_13) = true → ((!x_13) = true → (!x_13 && !x_13) = true) ∧ ((!x_13 && x) = true → (!x_13 && !x_13 && x) = true)) ∧ ∀ (x_16 : Bool), (x_16 = bif x then x_15 else false) → ((true && !x_13) = true → (!x_13) = true) ∧ ∀ (x : Bool), (x = bif x_13 then true else x_16) → ((!x) = true → ((!x) = true → (!x) = true) ∧ ((!x) = true → (!x) = true)) ∧ ∀ (x_17 : Bool), x_17 = Sp.unused (b1, b2, b3, b4, b5, b6, b7, b8, b9) (aAu, aSeq, aPrev, aKind, aTime, aObj, aTgt, aScope, aGrp, aTo, aText, (aBn, aBd, aBt), aEp, aWr, aN, aM, aE, aS) → ((!x) = true → (!x) = true → (!x) = true) ∧ ∀ (x_18 : Bool), x_18 = !x_17 → ((true && !x) = true → (!x) = true) ∧ ∀ (x_19 : Bool), (x_19 = bif x then true else x_18) → bcase x_19 (K (AV.bool false) []) ((b1 = true → b1 = true → b1 = true) ∧ (b1 = true → b1 = true → b1 = true) ∧ ∀ (x : Bool), x = Sp.isDigest aObj → (b1 = true → b1 = true → b1 = true) ∧ ∀ (x_20 : Bool), x_20 = !x → ((true && b1) = true → b1 = true) ∧ ∀ (x : Bool), (x = bif b1 then x_20 else false) → (x = true → x = true → x = true) ∧ (x = true → x = true → x = true) ∧ ∀ (x_21 : Bool), x_21 = !b2 → ((x && x && !x_21) = true → (x && x && !x_21) = true → (x && x && !x_21) = true) ∧ ((x && x && !x_21) = true → (x && x && !x_21) = true → (x && x && !x_21) = true) ∧ ∀ (x_22 : Bool), x_22 = !aObj == [] → (x = true → (x = true → (x && x) = true) ∧ ((x && !x_21) = true → (x && x && !x_21) = true)) ∧ ∀ (x_23 : Bool), (x_23 = bif x_21 then true else x_22) → ((true && x) = true → x = true) ∧ ∀ (x_24 : Bool), (x_24 = bif x then x_23 else false) → ((!x_24) = true → (!x_24) = true → (!x_24) = true) ∧ ((!x_24 && !x_24 && b2) = true → (!x_24 && !x_24 && b2) = true → (!x_24 && !x_24 && b2) = true) ∧ ((!x_24 && !x_24 && b2) = true → (!x_24 && !x_24 && b2) = true → (!x_24 && !x_24 && b2) = true) ∧ ∀ (x : Bool), x = Sp.idOk aTgt → ((!x_24 && !x_24 && b2) = true → (!x_24 && !x_24 && b2) = true → (!x_24 && !x_24 && b2) = true) ∧ ∀ (x_25 : Bool), x_25 = !x → ((!x_24) = true → ((!x_24) = true → (!x_24 && !x_24) = true) ∧ ((!x_24 && b2) = true → (!x_24 && !x_24 && b2) = true)) ∧ ∀ (x : Bool), (x = bif b2 then x_25 else false) → ((!x_24 && !x_24 && x) = true → (!x_24 && !x_24 && x) = true → (!x_24 && !x_24 && x) = true) ∧ ((!x_24 && !x_24 && x) = true → (!x_24 && !x_24 && x) = true → (!x_24 && !x_24 && x) = true) ∧ ∀ (x_26 : Bool), x_26 = !b1 → ((!x_24 && !x_24 && x && (!x_24 && !x_24 && x) && !x_26) = true → (!x_24 && !x_24 && x && (!x_24 && !x_24 && x) && !x_26) = true → (!x_24 && !x_24 && x && (!x_24 && !x_24 && x) && !x_26) = true) ∧ ((!x_24 && !x_24 && x && (!x_24 && !x_24 && x) && !x_26) = true → (!x_24 && !x_24 && x && (!x_24 && !x_24 && x) && !x_26) = true → (!x_24 && !x_24 && x && (!x_24 && !x_24 && x) && !x_26) = true) ∧ ∀ (x_27 : Bool), x_27 = !aTgt == [] → ((!x_24 && !x_24 && x) = true → ((!x_24 && !x_24 && x) = true → (!x_24 && !x_24 && x && (!x_24 && !x_24 && x)) = true) ∧ ((!x_24 && !x_24 && x && !x_26) = true → (!x_24 && !x_24 && x && (!x_24 && !x_24 && x) && !x_26) = true)) ∧ ∀ (x_28 : Bool), (x_28 = bif x_26 then true else x_27) → ((!x_24) = true → ((!x_24) = true → (!x_24 && !x_24) = true) ∧ ((!x_24 && x) = true → (!x_24 && !x_24 && x) = true)) ∧ ∀ (x_29 : Bool), (x_29 = bif x then x_28 else false) → ((true && !x_24) = true → (!x_24) = true) ∧ ∀ (x : Bool), (x = bif x_24 then true else x_29) → bcase x (K (AV.bool false) []) (∀ (x : Bool), x = false → ((!x) = true → (!x) = true → (!x) = true) ∧ ((!x) = true → ((((!x) = true → (!x) = true) ∧ ((!x) = true → (!x) = true)) ∧ Sp.actOk (aAu, aSeq, aPrev, aKind, aTime, aObj, aTgt, aScope, aGrp, aTo, aText, (aBn, aBd, aBt), aEp, aWr, aN, aM, aE, aS)) ∧ PCon.f (ACon.k c) = f) ∧ ∀ (x_30 : Bool), x_30 = ACon.out c (aAu, aSeq, aPrev, aKind, aTime, aObj, aTgt, aScope, aGrp, aTo, aText, (aBn, aBd, aBt), aEp, aWr, aN, aM, aE, aS) → ((true && !x) = true → (!x) = true) ∧ ∀ (x_31 : Bool), (x_31 = bif x then true else x_30) → K (AV.bool x_31) []))))
theorem ev_right (c : ACon) (aAu : Bs) (aSeq : Int) (aPrev : Bs) (aKind : Int) (aTime : Int) (aObj : Bs) (aTgt : Bs) (aScope : Int) (aGrp : Bs) (aTo : List Bs) (aText : Bs) (aBn : Bs) (aBd : Bs) (aBt : Bs) (aEp : Int) (aWr : List Sp.Wrap) (aN : Int) (aM : Int) (aE : Int) (aS : Int) (K : AV → St → Prop) : fnA Tryd.prog (csN c) shHints Tryd.f11 [.agg [.str aAu, .int .i64 aSeq, .str aPrev, .int .i64 aKind, .int .i64 aTime, .str aObj, .str aTgt, .int .i64 aScope, .str aGrp, .sl .str aTo, .str aText, .str aBn, .str aBd, .str aBt, .int .i64 aEp, .sl WrapT aWr, .int .i64 aN, .int .i64 aM, .int .i64 aE, .int .i64 aS]] [] K = vc_right c aAu aSeq aPrev aKind aTime aObj aTgt aScope aGrp aTo aText aBn aBd aBt aEp aWr aN aM aE aS K := by kernel_rfl
theorem go_right (c : ACon) (aAu : Bs) (aSeq : Int) (aPrev : Bs) (aKind : Int) (aTime : Int) (aObj : Bs) (aTgt : Bs) (aScope : Int) (aGrp : Bs) (aTo : List Bs) (aText : Bs) (aBn : Bs) (aBd : Bs) (aBt : Bs) (aEp : Int) (aWr : List Sp.Wrap) (aN : Int) (aM : Int) (aE : Int) (aS : Int) {K : AV → St → Prop} (hvc : vc_right c aAu aSeq aPrev aKind aTime aObj aTgt aScope aGrp aTo aText aBn aBd aBt aEp aWr aN aM aE aS K) : callA Tryd.prog 11 [.agg [.str aAu, .int .i64 aSeq, .str aPrev, .int .i64 aKind, .int .i64 aTime, .str aObj, .str aTgt, .int .i64 aScope, .str aGrp, .sl .str aTo, .str aText, .str aBn, .str aBd, .str aBt, .int .i64 aEp, .sl WrapT aWr, .int .i64 aN, .int .i64 aM, .int .i64 aE, .int .i64 aS]] [] K :=
  callA_of (P := Tryd.prog) (cs := (csN c)) (H := shHints) (f := 11) (fn := Tryd.f11) (args := [.agg [.str aAu, .int .i64 aSeq, .str aPrev, .int .i64 aKind, .int .i64 aTime, .str aObj, .str aTgt, .int .i64 aScope, .str aGrp, .sl .str aTo, .str aText, .str aBn, .str aBd, .str aBt, .int .i64 aEp, .sl WrapT aWr, .int .i64 aN, .int .i64 aM, .int .i64 aE, .int .i64 aS]]) (L := []) (K := K) hf_right (Eq.mpr (ev_right c aAu aSeq aPrev aKind aTime aObj aTgt aScope aGrp aTo aText aBn aBd aBt aEp aWr aN aM aE aS K) hvc)
def a_audience : ACon := ⟨123, Sp.audience, ok_audience, en_audience⟩
def a_rBegin : ACon := ⟨121, Sp.rBegin, ok_rBegin, en_rBegin⟩
def a_rReason : ACon := ⟨124, Sp.rReason, fun a _ => by obtain ⟨aAu, aSeq, aPrev, aKind, aTime, aObj, aTgt, aScope, aGrp, aTo, aText, ⟨aBn, aBd, aBt⟩, aEp, aWr, aN, aM, aE, aS⟩ := a; exact ok_reason (aAu, aSeq, aPrev, aKind, aTime, aObj, aTgt, aScope, aGrp, aTo, aText, (aBn, aBd, aBt), aEp, aWr, aN, aM, aE, aS), en_reason⟩
def a_rCircle : ACon := ⟨125, Sp.rCircle, ok_rCircle, en_rCircle⟩
def a_rGrant : ACon := ⟨126, Sp.rGrant, ok_rGrant, en_rGrant⟩
def a_rLabel : ACon := ⟨129, Sp.rLabel, ok_rLabel, en_rLabel⟩
def a_rMove : ACon := ⟨130, Sp.rMove, ok_rMove, en_rMove⟩
def a_rSetup : ACon := ⟨131, Sp.rSetup, ok_rSetup, en_rSetup⟩
def a_rJudge : ACon := ⟨132, Sp.rJudge, ok_rJudge, en_rJudge⟩
def a_rList : ACon := ⟨133, Sp.rList, ok_rList, en_rList⟩
abbrev KRow := List Int × Sp.Flags × Option ACon
def krows : List KRow := [
  ([0], (false, false, false, false, false, true, false, true, true), some a_rBegin),
  ([1], (false, false, true, false, false, false, false, false, false), some a_audience),
  ([2, 3, 14], (true, false, true, false, false, false, false, false, false), some a_audience),
  ([4, 5, 6, 13, 20], (true, false, false, false, false, false, false, false, false), none),
  ([7, 8, 9, 10, 11], (false, true, false, false, false, false, false, false, false), none),
  ([12, 21], (true, false, false, false, false, true, false, false, false), some a_rReason),
  ([15], (false, false, false, true, true, false, false, false, false), some a_rCircle),
  ([16], (false, false, true, true, true, false, true, false, false), some a_rGrant),
  ([17], (true, true, false, false, false, true, false, false, false), some a_rLabel),
  ([18], (false, false, false, false, false, false, false, true, true), some a_rMove),
  ([19], (false, false, false, false, true, false, true, true, true), some a_rSetup),
  ([22], (true, false, false, false, false, false, false, true, false), some a_rJudge),
  ([23], (false, true, false, false, false, true, false, true, false), some a_rList)]
def kAt (n : Int) : List KRow → Option (Sp.Flags × Option ACon)
  | [] => none
  | x :: r => match inKeys n x.1 with
    | true => some x.2
    | false => kAt n r
def flList (f : Sp.Flags) : List Bool := [f.1, f.2.1, f.2.2.1, f.2.2.2.1, f.2.2.2.2.1, f.2.2.2.2.2.1, f.2.2.2.2.2.2.1, f.2.2.2.2.2.2.2.1, f.2.2.2.2.2.2.2.2]
def kFn : Option ACon → Value
  | none => .nilFunc
  | some c => .func (.func c.f) #[] #[]
def kVal (x : Sp.Flags × Option ACon) : Value := rowVal (flList x.1) (kFn x.2)
theorem kinds_eq : kinds = krows.map fun x => (x.1, kVal x.2) := by rfl
theorem at_map (n : Int) : ∀ l : List KRow, GRows.at n (l.map fun x => (x.1, kVal x.2)) = (kAt n l).map kVal
  | [] => rfl
  | x :: r => by
    simp only [List.map_cons, GRows.at, kAt]
    split
    · rename_i h; simp only [h, Option.map_some]
    · rename_i h; simp only [h]; exact at_map n r
theorem kinds_at (n : Int) : GRows.at n kinds = (kAt n krows).map kVal := by rw [kinds_eq]; exact at_map n krows
theorem rowVal_inj {a b : List Bool} {r q : Value} (ha : a.length = b.length) (h : rowVal a r = rowVal b q) : a = b ∧ r = q := by
  unfold rowVal at h
  simp only [Value.agg.injEq] at h
  have h' := congrArg Array.toList h
  simp only at h'
  have hl : (a.map Value.bool).length = (b.map Value.bool).length := by simp [ha]
  obtain ⟨h1, h2⟩ := List.append_inj h' hl
  refine ⟨?_, by simpa using h2⟩
  have : ∀ (x y : List Bool), x.map Value.bool = y.map Value.bool → x = y := by
    intro x
    induction x with
    | nil => intro y h; cases y with | nil => rfl | cons _ _ => cases h
    | cons c x ih =>
      intro y h
      cases y with
      | nil => cases h
      | cons d y =>
        simp only [List.map_cons, List.cons.injEq, Value.bool.injEq] at h
        rw [h.1, ih y h.2]
  exact this a b h1
theorem kAt_none {n : Int} (h : GRows.at n kinds = none) : kAt n krows = none := by
  rw [kinds_at] at h; simpa using h
theorem kAt_some {n : Int} {b1 b2 b3 b4 b5 b6 b7 b8 b9 : Bool} {v : Value} (h : GRows.at n kinds = some (rowVal [b1, b2, b3, b4, b5, b6, b7, b8, b9] v)) : ∃ r, kAt n krows = some ((b1, b2, b3, b4, b5, b6, b7, b8, b9), r) ∧ kFn r = v := by
  rw [kinds_at] at h
  cases hk : kAt n krows with
  | none => rw [hk] at h; cases h
  | some x =>
    obtain ⟨⟨f1, f2, f3, f4, f5, f6, f7, f8, f9⟩, r⟩ := x
    rw [hk] at h
    simp only [Option.map_some, Option.some.injEq] at h
    obtain ⟨h1, h2⟩ := rowVal_inj (by rfl) h
    simp only [flList, List.cons.injEq, and_true] at h1
    obtain ⟨rfl, rfl, rfl, rfl, rfl, rfl, rfl, rfl, rfl⟩ := h1
    exact ⟨r, rfl, h2⟩
namespace Sp
def bad1 (au : Bs) (seq time kind : Int) : Bool := bif bif bif bif false then true else !idOk au then true else !within seq 0 1073741824 then true else !within time 0 1099511627776 then true else !((kind == 0) == (seq == 0))
def bad2 (e s : Int) : Bool := bif !within e 0 2305843009213693949 then true else !within s 0 2305843009213693949
def bad3 (seq : Int) (prev : Bs) (un : Bool) : Bool := bif bif bif seq == 0 then !(prev == []) else false then true else (bif decide (seq > 0) then !isDigest prev else false) then true else !un
def bad4 (fo ft : Bool) (obj tgt : Bs) : Bool :=
  bif bif bif fo then !isDigest obj else false then (bif !ft then true else !(obj == [])) else false then true else (bif bif ft then !idOk tgt else false then (bif !fo then true else !(tgt == [])) else false)
def ruleOf (r : Option ACon) (a : Act) : Bool := match r with
  | none => true
  | some c => c.out a
def right : Act → Bool
  | (au, seq, prev, kind, time, obj, tgt, scope, grp, to, text, (bn, bd, bt), ep, wr, n, m, e, s) => match kAt kind krows with
    | none => false
    | some (fl, r) => !bad1 au seq time kind && (!bad2 e s && (!bad3 seq prev (unused fl (au, seq, prev, kind, time, obj, tgt, scope, grp, to, text, (bn, bd, bt), ep, wr, n, m, e, s)) && (!bad4 fl.1 fl.2.1 obj tgt && ruleOf r (au, seq, prev, kind, time, obj, tgt, scope, grp, to, text, (bn, bd, bt), ep, wr, n, m, e, s))))
end Sp
theorem right_eq (aAu : Bs) (aSeq : Int) (aPrev : Bs) (aKind : Int) (aTime : Int) (aObj : Bs) (aTgt : Bs) (aScope : Int) (aGrp : Bs) (aTo : List Bs) (aText : Bs) (aBn : Bs) (aBd : Bs) (aBt : Bs) (aEp : Int) (aWr : List Sp.Wrap) (aN : Int) (aM : Int) (aE : Int) (aS : Int) {fl : Sp.Flags} {r : Option ACon} (h : kAt aKind krows = some (fl, r)) :
    Sp.right (aAu, aSeq, aPrev, aKind, aTime, aObj, aTgt, aScope, aGrp, aTo, aText, (aBn, aBd, aBt), aEp, aWr, aN, aM, aE, aS) = (!Sp.bad1 aAu aSeq aTime aKind && (!Sp.bad2 aE aS && (!Sp.bad3 aSeq aPrev (Sp.unused fl (aAu, aSeq, aPrev, aKind, aTime, aObj, aTgt, aScope, aGrp, aTo, aText, (aBn, aBd, aBt), aEp, aWr, aN, aM, aE, aS)) && (!Sp.bad4 fl.1 fl.2.1 aObj aTgt && Sp.ruleOf r (aAu, aSeq, aPrev, aKind, aTime, aObj, aTgt, aScope, aGrp, aTo, aText, (aBn, aBd, aBt), aEp, aWr, aN, aM, aE, aS))))) := by
  simp only [Sp.right, h]
theorem bc_split {b : Bool} {A B : Prop} (h1 : b = true → A) (h2 : b = false → B) : bcase b A B := by cases b with
  | true => exact h1 rfl
  | false => exact h2 rfl
theorem ok_right_of (c : ACon) (a : Sp.Act) (h : Sp.actOk a) (hc : ∀ fl c', kAt a.2.2.2.1 krows = some (fl, some c') → c' = c) : callA Tryd.prog 11 [ActT.toAV a] [] (fun r _ => r = .bool (Sp.right a) ∧ below 0 r = true) := by
  obtain ⟨aAu, aSeq, aPrev, aKind, aTime, aObj, aTgt, aScope, aGrp, aTo, aText, ⟨aBn, aBd, aBt⟩, aEp, aWr, aN, aM, aE, aS⟩ := a
  refine go_right c aAu aSeq aPrev aKind aTime aObj aTgt aScope aGrp aTo aText aBn aBd aBt aEp aWr aN aM aE aS ⟨?_, ?_⟩
  · intro hn
    have hk := kAt_none hn
    have hr : Sp.right (aAu, aSeq, aPrev, aKind, aTime, aObj, aTgt, aScope, aGrp, aTo, aText, (aBn, aBd, aBt), aEp, aWr, aN, aM, aE, aS) = false := by simp only [Sp.right, hk]
    (repeat' first | (rintro _ rfl) | refine ⟨by first | assumption | exact ob3 | exact fun h => h | exact fun h => ⟨fun h => h, by assumption⟩ | exact fun h _ => h | exact fun h => ⟨fun h => h, fun h => h⟩ | fail, ?_⟩ | fail)
    exact bc_split (fun _ => ⟨by rw [hr], rfl⟩) (fun h => by simp at h)
  · intro b1 b2 b3 b4 b5 b6 b7 b8 b9
    refine ⟨?_, ?_⟩
    · intro hn
      obtain ⟨r, hk, hv⟩ := kAt_some hn
      have hr0 : r = none := by
        cases r with
        | none => rfl
        | some c => cases hv
      subst hr0
      have hr := right_eq aAu aSeq aPrev aKind aTime aObj aTgt aScope aGrp aTo aText aBn aBd aBt aEp aWr aN aM aE aS hk
      (repeat' first | (rintro _ rfl) | refine ⟨by first | assumption | exact ob3 | exact fun h => h | exact fun h => ⟨fun h => h, by assumption⟩ | exact fun h _ => h | exact fun h => ⟨fun h => h, fun h => h⟩ | fail, ?_⟩ | fail)
      refine bc_split (fun h1 => ⟨?_, rfl⟩) (fun h1 => ?_)
      · rw [hr, show Sp.bad1 aAu aSeq aTime aKind = true from h1]; rfl
      rw [show Sp.bad1 aAu aSeq aTime aKind = false from h1] at hr
      clear h1
      (repeat' first | (rintro _ rfl) | refine ⟨by first | assumption | exact ob3 | exact fun h => h | exact fun h => ⟨fun h => h, by assumption⟩ | exact fun h _ => h | exact fun h => ⟨fun h => h, fun h => h⟩ | fail, ?_⟩ | fail)
      refine bc_split (fun h1 => ⟨?_, rfl⟩) (fun h1 => ?_)
      · rw [hr, show Sp.bad2 aE aS = true from h1]; rfl
      rw [show Sp.bad2 aE aS = false from h1] at hr
      clear h1
      (repeat' first | (rintro _ rfl) | refine ⟨by first | assumption | exact ob3 | exact fun h => h | exact fun h => ⟨fun h => h, by assumption⟩ | exact fun h _ => h | exact fun h => ⟨fun h => h, fun h => h⟩ | fail, ?_⟩ | fail)
      refine bc_split (fun h1 => ⟨?_, rfl⟩) (fun h1 => ?_)
      · rw [hr, show Sp.bad3 aSeq aPrev _ = true from h1]; rfl
      rw [show Sp.bad3 aSeq aPrev _ = false from h1] at hr
      clear h1
      (repeat' first | (rintro _ rfl) | refine ⟨by first | assumption | exact ob3 | exact fun h => h | exact fun h => ⟨fun h => h, by assumption⟩ | exact fun h _ => h | exact fun h => ⟨fun h => h, fun h => h⟩ | fail, ?_⟩ | fail)
      refine bc_split (fun h1 => ⟨?_, rfl⟩) (fun h1 => ?_)
      · rw [hr, show Sp.bad4 _ _ aObj aTgt = true from h1]; rfl
      rw [show Sp.bad4 _ _ aObj aTgt = false from h1] at hr
      clear h1
      (repeat' first | (rintro _ rfl) | refine ⟨by first | assumption | exact ob3 | exact fun h => h | exact fun h => ⟨fun h => h, by assumption⟩ | exact fun h _ => h | exact fun h => ⟨fun h => h, fun h => h⟩ | fail, ?_⟩ | fail)
      refine bc_split (fun h1 => by cases h1) (fun _ => ⟨rfl, ?_⟩)
      rintro _ rfl
      exact ⟨by rw [hr]; rfl, rfl⟩
    · intro f hn
      obtain ⟨r, hk, hv⟩ := kAt_some hn
      obtain ⟨c', rfl, hcf⟩ : ∃ c', r = some c' ∧ c'.f = f := by
        cases r with
        | none => cases hv
        | some c' => simp only [kFn, Value.func.injEq, Fn.func.injEq] at hv; exact ⟨c', rfl, hv.1⟩
      obtain rfl := hc _ _ hk
      have hr := right_eq aAu aSeq aPrev aKind aTime aObj aTgt aScope aGrp aTo aText aBn aBd aBt aEp aWr aN aM aE aS hk
      (repeat' first | (rintro _ rfl) | refine ⟨by first | assumption | exact ob3 | exact fun h => h | exact fun h => ⟨fun h => h, by assumption⟩ | exact fun h _ => h | exact fun h => ⟨fun h => h, fun h => h⟩ | fail, ?_⟩ | fail)
      refine bc_split (fun h1 => ⟨?_, rfl⟩) (fun h1 => ?_)
      · rw [hr, show Sp.bad1 aAu aSeq aTime aKind = true from h1]; rfl
      rw [show Sp.bad1 aAu aSeq aTime aKind = false from h1] at hr
      clear h1
      (repeat' first | (rintro _ rfl) | refine ⟨by first | assumption | exact ob3 | exact fun h => h | exact fun h => ⟨fun h => h, by assumption⟩ | exact fun h _ => h | exact fun h => ⟨fun h => h, fun h => h⟩ | fail, ?_⟩ | fail)
      refine bc_split (fun h1 => ⟨?_, rfl⟩) (fun h1 => ?_)
      · rw [hr, show Sp.bad2 aE aS = true from h1]; rfl
      rw [show Sp.bad2 aE aS = false from h1] at hr
      clear h1
      (repeat' first | (rintro _ rfl) | refine ⟨by first | assumption | exact ob3 | exact fun h => h | exact fun h => ⟨fun h => h, by assumption⟩ | exact fun h _ => h | exact fun h => ⟨fun h => h, fun h => h⟩ | fail, ?_⟩ | fail)
      refine bc_split (fun h1 => ⟨?_, rfl⟩) (fun h1 => ?_)
      · rw [hr, show Sp.bad3 aSeq aPrev _ = true from h1]; rfl
      rw [show Sp.bad3 aSeq aPrev _ = false from h1] at hr
      clear h1
      (repeat' first | (rintro _ rfl) | refine ⟨by first | assumption | exact ob3 | exact fun h => h | exact fun h => ⟨fun h => h, by assumption⟩ | exact fun h _ => h | exact fun h => ⟨fun h => h, fun h => h⟩ | fail, ?_⟩ | fail)
      refine bc_split (fun h1 => ⟨?_, rfl⟩) (fun h1 => ?_)
      · rw [hr, show Sp.bad4 _ _ aObj aTgt = true from h1]; rfl
      rw [show Sp.bad4 _ _ aObj aTgt = false from h1] at hr
      clear h1
      rintro _ rfl
      refine ⟨fun h _ => h, fun h' => ⟨⟨⟨fun h => h, fun h => h⟩, h⟩, hcf⟩, ?_⟩
      (repeat' first | (rintro _ rfl) | refine ⟨by first | assumption | exact ob3 | exact fun h => h | exact fun h => ⟨fun h => h, by assumption⟩ | exact fun h _ => h | exact fun h => ⟨fun h => h, fun h => h⟩ | fail, ?_⟩ | fail)
      exact ⟨by rw [hr]; rfl, rfl⟩
--Q
theorem ok_right (a : Sp.Act) (h : Sp.actOk a) : callA Tryd.prog 11 [ActT.toAV a] [] (fun r _ => r = .bool (Sp.right a) ∧ below 0 r = true) := by
  cases hk : kAt a.2.2.2.1 krows with
  | none => exact ok_right_of a_audience a h (fun fl c' h' => by rw [hk] at h'; cases h')
  | some x =>
    obtain ⟨fl, r⟩ := x
    cases r with
    | none => exact ok_right_of a_audience a h (fun fl c' h' => by rw [hk] at h'; cases h')
    | some c => exact ok_right_of c a h (fun fl c' h' => by rw [hk] at h'; cases h'; rfl)
--Q
def k_right : PCon Tryd.prog := mkAct 11 Sp.right ok_right en_right
end Go.Proofs.YtmkjbdimmgkfdaaDoor
