/-
  What is read; the law's helper few.
-/
import Derived.Test.YtmkjbdimmgkfdaaDoorMb5
namespace Go.Proofs.YtmkjbdimmgkfdaaDoor
open Go Go.Proofs.YtmkjbdimmgkfdaaDoor.Ax
set_option linter.unusedVariables false
set_option maxRecDepth 100000

/-- The shape that 'List' calls 'read' in. -/
def readSpec (args : List AV) (L : St) (K : AV → St → Prop) : Prop :=
  match args with
  | [.ptr p 0, .fn (.func g) [.ptr q 0] []] => match Nat.beq g 24 && Nat.beq p 0 && Nat.beq q 0, L with
    | true, [.box e [.str s, .bool b]] => match Nat.beq e 83 with
      | true => Sp.lenOk s ∧ K (.sl .str (Sp.rlist (s, b))) [.box 83 [.str (Sp.rlisted (s, b)).1, .bool (Sp.rlisted (s, b)).2]]
      | false => False
    | _, _ => False
  | _ => False
def g_read : GCon Tryd.prog where
  f := 50
  spec := readSpec
  ok := by
    intro args L K h
    unfold readSpec at h
    split at h
    case h_2 => exact h.elim
    rename_i p g q
    split at h
    case h_2 => exact h.elim
    rename_i e s b hb
    split at h
    case h_2 => exact h.elim
    rename_i he
    simp only [Bool.and_eq_true, Nat.beq_eq] at hb he
    obtain ⟨⟨rfl, rfl⟩, rfl⟩ := hb
    subst he
    refine callA_mono (ok_read (s, b) h.1) ?_
    rintro r L ⟨rfl, rfl⟩
    exact h.2
  enters := en_read
abbrev csQ0 : Cons Tryd.prog := ⟨[], [g_read], []⟩
theorem hf_RList : Tryd.prog.funcs[26]? = some Tryd.f26 := by kernel_rfl
theorem en_RList : Go.Proofs.YtmkjbdimmgkfdaaDoor.Ax.Enters Tryd.prog 26 := entersOf Tryd.f26 hf_RList (by kernel_rfl) (by kernel_rfl)
def vc_RList (s : Bs) (b : Bool) (K : AV → St → Prop) : Prop :=
  Sp.lenOk s ∧ K (AV.sl Ty.str (Sp.rlist (s, b))) [AObj.box (83 : TypeId) [AV.str (Prod.fst (Sp.rlisted (s, b))), AV.bool (Prod.snd (Sp.rlisted (s, b)))]]
theorem ev_RList (s : Bs) (b : Bool) (K : AV → St → Prop) : fnA Tryd.prog csQ0 noHints Tryd.f26 [.ptr 0 0] [.box 83 [.str s, .bool b]] K = vc_RList s b K := by kernel_rfl
theorem go_RList (s : Bs) (b : Bool) {K : AV → St → Prop} (hvc : vc_RList s b K) : callA Tryd.prog 26 [.ptr 0 0] [.box 83 [.str s, .bool b]] K :=
  callA_of (P := Tryd.prog) (cs := csQ0) (H := noHints) (f := 26) (fn := Tryd.f26) (args := [.ptr 0 0]) (L := [.box 83 [.str s, .bool b]]) (K := K) hf_RList (Eq.mpr (ev_RList s b K) hvc)
abbrev csQ1 : Cons Tryd.prog := ⟨[], [m_Left, m_Done, m_RNum, m_RText], []⟩
theorem hf_readBox : Tryd.prog.funcs[27]? = some Tryd.f27 := by kernel_rfl
theorem en_readBox : Go.Proofs.YtmkjbdimmgkfdaaDoor.Ax.Enters Tryd.prog 27 := entersOf Tryd.f27 hf_readBox (by kernel_rfl) (by kernel_rfl)
def vc_readBox (s : Bs) (b : Bool) (K : AV → St → Prop) : Prop :=
  K (AV.agg [AV.str (Sp.rtext (s, b)), AV.str (Sp.rtext (Sp.rtexted (s, b))), AV.str (Sp.rtext (Sp.rtexted (Sp.rtexted (s, b))))]) [AObj.box (83 : TypeId) [AV.str (Prod.fst (Sp.rtexted (Sp.rtexted (Sp.rtexted (s, b))))), AV.bool (Prod.snd (Sp.rtexted (Sp.rtexted (Sp.rtexted (s, b)))))]]
theorem ev_readBox (s : Bs) (b : Bool) (K : AV → St → Prop) : fnA Tryd.prog csQ1 noHints Tryd.f27 [.ptr 0 0] [.box 83 [.str s, .bool b]] K = vc_readBox s b K := by kernel_rfl
theorem go_readBox (s : Bs) (b : Bool) {K : AV → St → Prop} (hvc : vc_readBox s b K) : callA Tryd.prog 27 [.ptr 0 0] [.box 83 [.str s, .bool b]] K :=
  callA_of (P := Tryd.prog) (cs := csQ1) (H := noHints) (f := 27) (fn := Tryd.f27) (args := [.ptr 0 0]) (L := [.box 83 [.str s, .bool b]]) (K := K) hf_readBox (Eq.mpr (ev_readBox s b K) hvc)
theorem hf_Open : Tryd.prog.funcs[23]? = some Tryd.f23 := by kernel_rfl
theorem en_Open : Go.Proofs.YtmkjbdimmgkfdaaDoor.Ax.Enters Tryd.prog 23 := entersOf Tryd.f23 hf_Open (by kernel_rfl) (by kernel_rfl)
def vc_Open (s : Bs) (K : AV → St → Prop) : Prop :=
  K (AV.ptr (0 : Nat) (0 : Nat)) [AObj.box (83 : Nat) [AV.str s, AV.bool false]]
theorem ev_Open (s : Bs) (K : AV → St → Prop) : fnA Tryd.prog cs0 noHints Tryd.f23 [.str s] [] K = vc_Open s K := by kernel_rfl
theorem go_Open (s : Bs) {K : AV → St → Prop} (hvc : vc_Open s K) : callA Tryd.prog 23 [.str s] [] K :=
  callA_of (P := Tryd.prog) (cs := cs0) (H := noHints) (f := 23) (fn := Tryd.f23) (args := [.str s]) (L := []) (K := K) hf_Open (Eq.mpr (ev_Open s K) hvc)
namespace Sp
def rbox (r : Rd) : Bs × Bs × Bs := (rtext r, rtext (rtexted r), rtext (rtexted (rtexted r)))
def rboxed (r : Rd) : Rd := rtexted (rtexted (rtexted r))
end Sp
theorem ok_RList (s : Sp.Rd) (h : Sp.lenOk s.1) : callA Tryd.prog 26 [.ptr 0 0] [.box 83 [.str s.1, .bool s.2]] (fun r L => r = .sl .str (Sp.rlist s) ∧ L = [.box 83 [.str (Sp.rlisted s).1, .bool (Sp.rlisted s).2]] ∧ below 0 r = true) := by
  exact go_RList s.1 s.2 ⟨h, rfl, rfl, rfl⟩
--Q
theorem ok_readBox (s : Sp.Rd) : callA Tryd.prog 27 [.ptr 0 0] [.box 83 [.str s.1, .bool s.2]] (fun r L => r = BoxT.toAV (Sp.rbox s) ∧ L = [.box 83 [.str (Sp.rboxed s).1, .bool (Sp.rboxed s).2]] ∧ below 0 r = true) := by
  exact go_readBox s.1 s.2 ⟨rfl, rfl, rfl⟩
--Q
def m_RList : GCon Tryd.prog := mkM 83 RdT [] 26 (fun s _ => some (Sp.lenOk s.1)) (fun s _ => (.sl .str (Sp.rlist s), Sp.rlisted s)) (fun s _ h => ok_RList s h) en_RList
def m_readBox : GCon Tryd.prog := mkM 83 RdT [] 27 (fun _ _ => none) (fun s _ => (BoxT.toAV (Sp.rbox s), Sp.rboxed s)) (fun s _ _ => ok_readBox s) en_readBox
def i_Open : GCon Tryd.prog := mkInl 23 Tryd.f23 cs0 noHints (by kernel_rfl) (by kernel_rfl) (by kernel_rfl)
abbrev csQ2 : Cons Tryd.prog := ⟨[k_bytes], [m_Left, m_Done, m_RNum, m_RText, m_RList, m_readBox, i_Open], []⟩
abbrev h_Read : Hints := keepH [(0, [0, 2, 3, 4, 5, 6])] true
theorem hf_Read : Tryd.prog.funcs[10]? = some Tryd.f10 := by kernel_rfl
theorem en_Read : Go.Proofs.YtmkjbdimmgkfdaaDoor.Ax.Enters Tryd.prog 10 := entersOf Tryd.f10 hf_Read (by kernel_rfl) (by kernel_rfl)
def vc_Read (s : Bs) (K : AV → St → Prop) : Prop :=
  ∀ (x : Bool), x = !Sp.rtext (s, false) == [(97 : UInt8), (99 : UInt8), (116 : UInt8)] → bcase x (K (AV.tup [AV.agg [AV.str [], AV.int IntKind.i64 (0 : Int), AV.str [], AV.int IntKind.i64 (0 : Int), AV.int IntKind.i64 (0 : Int), AV.str [], AV.str [], AV.int IntKind.i64 (0 : Int), AV.str [], AV.nilsl, AV.str [], AV.str [], AV.str [], AV.str [], AV.int IntKind.i64 (0 : Int), AV.nilsl, AV.int IntKind.i64 (0 : Int), AV.int IntKind.i64 (0 : Int), AV.int IntKind.i64 (0 : Int), AV.int IntKind.i64 (0 : Int)], AV.bool false]) []) (Sp.lenOk (Prod.fst (Sp.rtexted (Sp.rnumed (Sp.rtexted (Sp.rtexted (Sp.rnumed (Sp.rnumed (Sp.rtexted (Sp.rnumed (Sp.rtexted (Sp.rtexted (s, false)))))))))))) ∧ LoopAt Tryd.prog csQ2 h_Read Tryd.f10 (0 : Nat) K (fun (fr : List AV) (L : List AObj) ↦ False) (0 : Nat) (frmA [((0 : Nat), AV.str s), ((2 : Nat), AV.ptr (0 : Nat) (0 : Nat)), ((3 : Nat), AV.bool false), ((4 : Nat), AV.ptr (1 : Nat) (0 : Nat)), ((5 : Nat), AV.ptr (2 : Nat) (0 : Nat)), ((6 : Nat), AV.int IntKind.i64 (Sp.rnum (Sp.rnumed (Sp.rboxed (Sp.rtexted (Sp.rlisted (Sp.rtexted (Sp.rnumed (Sp.rtexted (Sp.rtexted (Sp.rnumed (Sp.rnumed (Sp.rtexted (Sp.rnumed (Sp.rtexted (Sp.rtexted (s, false)))))))))))))))))] (0 : Nat) (108 : Nat)) [AObj.box (29 : Nat) [AV.str [], AV.int IntKind.i64 (0 : Int), AV.str [], AV.int IntKind.i64 (0 : Int), AV.int IntKind.i64 (0 : Int), AV.str [], AV.str [], AV.int IntKind.i64 (0 : Int), AV.str [], AV.nilsl, AV.str [], AV.str [], AV.str [], AV.str [], AV.int IntKind.i64 (0 : Int), AV.nilsl, AV.int IntKind.i64 (0 : Int), AV.int IntKind.i64 (0 : Int), AV.int IntKind.i64 (0 : Int), AV.int IntKind.i64 (0 : Int)], AObj.box (83 : TypeId) [AV.str (Prod.fst (Sp.rnumed (Sp.rnumed (Sp.rboxed (Sp.rtexted (Sp.rlisted (Sp.rtexted (Sp.rnumed (Sp.rtexted (Sp.rtexted (Sp.rnumed (Sp.rnumed (Sp.rtexted (Sp.rnumed (Sp.rtexted (Sp.rtexted (s, false))))))))))))))))), AV.bool (Prod.snd (Sp.rnumed (Sp.rnumed (Sp.rboxed (Sp.rtexted (Sp.rlisted (Sp.rtexted (Sp.rnumed (Sp.rtexted (Sp.rtexted (Sp.rnumed (Sp.rnumed (Sp.rtexted (Sp.rnumed (Sp.rtexted (Sp.rtexted (s, false)))))))))))))))))], AObj.box (29 : Nat) [AV.str (Sp.rtext (Sp.rtexted (s, false))), AV.int IntKind.i64 (Sp.rnum (Sp.rtexted (Sp.rtexted (s, false)))), AV.str (Sp.rtext (Sp.rnumed (Sp.rtexted (Sp.rtexted (s, false))))), AV.int IntKind.i64 (Sp.rnum (Sp.rtexted (Sp.rnumed (Sp.rtexted (Sp.rtexted (s, false)))))), AV.int IntKind.i64 (Sp.rnum (Sp.rnumed (Sp.rtexted (Sp.rnumed (Sp.rtexted (Sp.rtexted (s, false))))))), AV.str (Sp.rtext (Sp.rnumed (Sp.rnumed (Sp.rtexted (Sp.rnumed (Sp.rtexted (Sp.rtexted (s, false)))))))), AV.str (Sp.rtext (Sp.rtexted (Sp.rnumed (Sp.rnumed (Sp.rtexted (Sp.rnumed (Sp.rtexted (Sp.rtexted (s, false))))))))), AV.int IntKind.i64 (Sp.rnum (Sp.rtexted (Sp.rtexted (Sp.rnumed (Sp.rnumed (Sp.rtexted (Sp.rnumed (Sp.rtexted (Sp.rtexted (s, false)))))))))), AV.str (Sp.rtext (Sp.rnumed (Sp.rtexted (Sp.rtexted (Sp.rnumed (Sp.rnumed (Sp.rtexted (Sp.rnumed (Sp.rtexted (Sp.rtexted (s, false))))))))))), AV.sl Ty.str (Sp.rlist (Sp.rtexted (Sp.rnumed (Sp.rtexted (Sp.rtexted (Sp.rnumed (Sp.rnumed (Sp.rtexted (Sp.rnumed (Sp.rtexted (Sp.rtexted (s, false)))))))))))), AV.str (Sp.rtext (Sp.rlisted (Sp.rtexted (Sp.rnumed (Sp.rtexted (Sp.rtexted (Sp.rnumed (Sp.rnumed (Sp.rtexted (Sp.rnumed (Sp.rtexted (Sp.rtexted (s, false))))))))))))), AV.str (Prod.fst (Sp.rbox (Sp.rtexted (Sp.rlisted (Sp.rtexted (Sp.rnumed (Sp.rtexted (Sp.rtexted (Sp.rnumed (Sp.rnumed (Sp.rtexted (Sp.rnumed (Sp.rtexted (Sp.rtexted (s, false))))))))))))))), AV.str (Prod.fst (Prod.snd (Sp.rbox (Sp.rtexted (Sp.rlisted (Sp.rtexted (Sp.rnumed (Sp.rtexted (Sp.rtexted (Sp.rnumed (Sp.rnumed (Sp.rtexted (Sp.rnumed (Sp.rtexted (Sp.rtexted (s, false)))))))))))))))), AV.str (Prod.snd (Prod.snd (Sp.rbox (Sp.rtexted (Sp.rlisted (Sp.rtexted (Sp.rnumed (Sp.rtexted (Sp.rtexted (Sp.rnumed (Sp.rnumed (Sp.rtexted (Sp.rnumed (Sp.rtexted (Sp.rtexted (s, false)))))))))))))))), AV.int IntKind.i64 (Sp.rnum (Sp.rboxed (Sp.rtexted (Sp.rlisted (Sp.rtexted (Sp.rnumed (Sp.rtexted (Sp.rtexted (Sp.rnumed (Sp.rnumed (Sp.rtexted (Sp.rnumed (Sp.rtexted (Sp.rtexted (s, false))))))))))))))), AV.nilsl, AV.int IntKind.i64 (0 : Int), AV.int IntKind.i64 (0 : Int), AV.int IntKind.i64 (0 : Int), AV.int IntKind.i64 (0 : Int)]])
theorem ev_Read (s : Bs) (K : AV → St → Prop) : fnA Tryd.prog csQ2 h_Read Tryd.f10 [.str s] [] K = vc_Read s K := by kernel_rfl
theorem go_Read (s : Bs) {K : AV → St → Prop} (hvc : vc_Read s K) : callA Tryd.prog 10 [.str s] [] K :=
  callA_of (P := Tryd.prog) (cs := csQ2) (H := h_Read) (f := 10) (fn := Tryd.f10) (args := [.str s]) (L := []) (K := K) hf_Read (Eq.mpr (ev_Read s K) hvc)
def vr_ReadNil (s t : Bs) (b : Bool) (n : Int) (aAu : Bs) (aSeq : Int) (aPrev : Bs) (aKind : Int) (aTime : Int) (aObj aTgt : Bs) (aScope : Int) (aGrp : Bs) (aTo : List Bs) (aText aBn aBd aBt : Bs) (aEp : Int) (K : AV → St → Prop) (Nx N : List AV → St → Prop) : Prop :=
  ∀ (x : Bool), x = decide (n > (0 : Int)) → bcase x ((true = true → x = true) ∧ ∀ (x_1 : Bool), x_1 = decide (Sp.rdLen (t, b) > (0 : Int)) → ((true && x) = true → x = true) ∧ ∀ (x_2 : Bool), (x_2 = bif x then x_1 else false) → bcase x_2 ((1 : Nat) ≤ (4611686018427387904 : Nat) ∧ (1 : Nat) * (64 : Nat) ≤ (140737488355328 : Nat) ∧ N (frmA [((0 : Nat), AV.str s), ((2 : Nat), AV.ptr (0 : Nat) (0 : Nat)), ((3 : Nat), AV.bool false), ((4 : Nat), AV.ptr (1 : Nat) (0 : Nat)), ((5 : Nat), AV.ptr (2 : Nat) (0 : Nat)), ((6 : Nat), AV.int IntKind.i64 n)] (0 : Nat) (108 : Nat)) [AObj.box (29 : TypeId) [AV.str [], AV.int IntKind.i64 (0 : Int), AV.str [], AV.int IntKind.i64 (0 : Int), AV.int IntKind.i64 (0 : Int), AV.str [], AV.str [], AV.int IntKind.i64 (0 : Int), AV.str [], AV.nilsl, AV.str [], AV.str [], AV.str [], AV.str [], AV.int IntKind.i64 (0 : Int), AV.nilsl, AV.int IntKind.i64 (0 : Int), AV.int IntKind.i64 (0 : Int), AV.int IntKind.i64 (0 : Int), AV.int IntKind.i64 (0 : Int)], AObj.box (83 : TypeId) [AV.str (Prod.fst (Sp.rboxed (Sp.rnumed (Sp.rnumed (t, b))))), AV.bool (Prod.snd (Sp.rboxed (Sp.rnumed (Sp.rnumed (t, b)))))], AObj.box (29 : TypeId) [AV.str aAu, AV.int IntKind.i64 aSeq, AV.str aPrev, AV.int IntKind.i64 aKind, AV.int IntKind.i64 aTime, AV.str aObj, AV.str aTgt, AV.int IntKind.i64 aScope, AV.str aGrp, AV.sl Ty.str aTo, AV.str aText, AV.str aBn, AV.str aBd, AV.str aBt, AV.int IntKind.i64 aEp, AV.row (4 : Nat) (1 : Nat), AV.int IntKind.i64 (0 : Int), AV.int IntKind.i64 (0 : Int), AV.int IntKind.i64 (0 : Int), AV.int IntKind.i64 (0 : Int)], AObj.box (49 : Nat) [AV.int IntKind.i64 (Sp.rnum (t, b)), AV.int IntKind.i64 (Sp.rnum (Sp.rnumed (t, b))), AV.str (Prod.fst (Sp.rbox (Sp.rnumed (Sp.rnumed (t, b))))), AV.str (Prod.fst (Prod.snd (Sp.rbox (Sp.rnumed (Sp.rnumed (t, b)))))), AV.str (Prod.snd (Prod.snd (Sp.rbox (Sp.rnumed (Sp.rnumed (t, b))))))], AObj.row (49 : Nat) (Ty.pair (Ty.int IntKind.i64) (Ty.pair (Ty.int IntKind.i64) (Ty.pair Ty.str (Ty.pair Ty.str Ty.str)))) [(Sp.rnum (t, b), Sp.rnum (Sp.rnumed (t, b)), Sp.rbox (Sp.rnumed (Sp.rnumed (t, b))))]]) (∀ (x : Bool), x = Sp.rdDone (Sp.rnumed (Sp.rnumed (Sp.rnumed (Sp.rnumed (t, b))))) → ∀ (x_3 : Bool), x_3 = !x → ((!x_3) = true → (!x_3) = true → (!x_3) = true) ∧ ∀ (x : Bool), x = (s == []) → ((true && !x_3) = true → (!x_3) = true) ∧ ∀ (x_4 : Bool), (x_4 = bif x_3 then true else x) → ((!x_4) = true → ((!x_4) = true → (!x_4) = true) ∧ Sp.mid (aAu, aSeq, aPrev, aKind, aTime, aObj, aTgt, aScope, aGrp, aTo, aText, (aBn, aBd, aBt), aEp, [], Sp.rnum (t, b), Sp.rnum (Sp.rnumed (t, b)), Sp.rnum (Sp.rnumed (Sp.rnumed (t, b))), Sp.rnum (Sp.rnumed (Sp.rnumed (Sp.rnumed (t, b)))))) ∧ ((!x_4) = true → ((!x_4) = true → (!x_4) = true) ∧ ((!x_4) = true → (!x_4) = true)) ∧ ∀ (x : Bool), x = !Sp.bytes (aAu, aSeq, aPrev, aKind, aTime, aObj, aTgt, aScope, aGrp, aTo, aText, (aBn, aBd, aBt), aEp, [], Sp.rnum (t, b), Sp.rnum (Sp.rnumed (t, b)), Sp.rnum (Sp.rnumed (Sp.rnumed (t, b))), Sp.rnum (Sp.rnumed (Sp.rnumed (Sp.rnumed (t, b))))) == s → ((true && !x_4) = true → (!x_4) = true) ∧ ∀ (x_5 : Bool), (x_5 = bif x_4 then true else x) → bcase x_5 (K (AV.tup [AV.agg [AV.str [], AV.int IntKind.i64 (0 : Int), AV.str [], AV.int IntKind.i64 (0 : Int), AV.int IntKind.i64 (0 : Int), AV.str [], AV.str [], AV.int IntKind.i64 (0 : Int), AV.str [], AV.nilsl, AV.str [], AV.str [], AV.str [], AV.str [], AV.int IntKind.i64 (0 : Int), AV.nilsl, AV.int IntKind.i64 (0 : Int), AV.int IntKind.i64 (0 : Int), AV.int IntKind.i64 (0 : Int), AV.int IntKind.i64 (0 : Int)], AV.bool false]) []) (K (AV.tup [AV.agg [AV.str aAu, AV.int IntKind.i64 aSeq, AV.str aPrev, AV.int IntKind.i64 aKind, AV.int IntKind.i64 aTime, AV.str aObj, AV.str aTgt, AV.int IntKind.i64 aScope, AV.str aGrp, AV.sl Ty.str aTo, AV.str aText, AV.str aBn, AV.str aBd, AV.str aBt, AV.int IntKind.i64 aEp, AV.nilsl, AV.int IntKind.i64 (Sp.rnum (t, b)), AV.int IntKind.i64 (Sp.rnum (Sp.rnumed (t, b))), AV.int IntKind.i64 (Sp.rnum (Sp.rnumed (Sp.rnumed (t, b)))), AV.int IntKind.i64 (Sp.rnum (Sp.rnumed (Sp.rnumed (Sp.rnumed (t, b)))))], AV.bool true]) []))) (bcase x (False) (x = false ∧ ∀ (x : Bool), x = false → bcase x ((1 : Nat) ≤ (4611686018427387904 : Nat) ∧ (1 : Nat) * (64 : Nat) ≤ (140737488355328 : Nat) ∧ N (frmA [((0 : Nat), AV.str s), ((2 : Nat), AV.ptr (0 : Nat) (0 : Nat)), ((3 : Nat), AV.bool false), ((4 : Nat), AV.ptr (1 : Nat) (0 : Nat)), ((5 : Nat), AV.ptr (2 : Nat) (0 : Nat)), ((6 : Nat), AV.int IntKind.i64 n)] (0 : Nat) (108 : Nat)) [AObj.box (29 : TypeId) [AV.str [], AV.int IntKind.i64 (0 : Int), AV.str [], AV.int IntKind.i64 (0 : Int), AV.int IntKind.i64 (0 : Int), AV.str [], AV.str [], AV.int IntKind.i64 (0 : Int), AV.str [], AV.nilsl, AV.str [], AV.str [], AV.str [], AV.str [], AV.int IntKind.i64 (0 : Int), AV.nilsl, AV.int IntKind.i64 (0 : Int), AV.int IntKind.i64 (0 : Int), AV.int IntKind.i64 (0 : Int), AV.int IntKind.i64 (0 : Int)], AObj.box (83 : TypeId) [AV.str (Prod.fst (Sp.rboxed (Sp.rnumed (Sp.rnumed (t, b))))), AV.bool (Prod.snd (Sp.rboxed (Sp.rnumed (Sp.rnumed (t, b)))))], AObj.box (29 : TypeId) [AV.str aAu, AV.int IntKind.i64 aSeq, AV.str aPrev, AV.int IntKind.i64 aKind, AV.int IntKind.i64 aTime, AV.str aObj, AV.str aTgt, AV.int IntKind.i64 aScope, AV.str aGrp, AV.sl Ty.str aTo, AV.str aText, AV.str aBn, AV.str aBd, AV.str aBt, AV.int IntKind.i64 aEp, AV.row (4 : Nat) (1 : Nat), AV.int IntKind.i64 (0 : Int), AV.int IntKind.i64 (0 : Int), AV.int IntKind.i64 (0 : Int), AV.int IntKind.i64 (0 : Int)], AObj.box (49 : Nat) [AV.int IntKind.i64 (Sp.rnum (t, b)), AV.int IntKind.i64 (Sp.rnum (Sp.rnumed (t, b))), AV.str (Prod.fst (Sp.rbox (Sp.rnumed (Sp.rnumed (t, b))))), AV.str (Prod.fst (Prod.snd (Sp.rbox (Sp.rnumed (Sp.rnumed (t, b)))))), AV.str (Prod.snd (Prod.snd (Sp.rbox (Sp.rnumed (Sp.rnumed (t, b))))))], AObj.row (49 : Nat) (Ty.pair (Ty.int IntKind.i64) (Ty.pair (Ty.int IntKind.i64) (Ty.pair Ty.str (Ty.pair Ty.str Ty.str)))) [(Sp.rnum (t, b), Sp.rnum (Sp.rnumed (t, b)), Sp.rbox (Sp.rnumed (Sp.rnumed (t, b))))]]) (∀ (x : Bool), x = Sp.rdDone (Sp.rnumed (Sp.rnumed (Sp.rnumed (Sp.rnumed (t, b))))) → ∀ (x_1 : Bool), x_1 = !x → ((!x_1) = true → (!x_1) = true → (!x_1) = true) ∧ ∀ (x : Bool), x = (s == []) → ((true && !x_1) = true → (!x_1) = true) ∧ ∀ (x_2 : Bool), (x_2 = bif x_1 then true else x) → ((!x_2) = true → ((!x_2) = true → (!x_2) = true) ∧ Sp.mid (aAu, aSeq, aPrev, aKind, aTime, aObj, aTgt, aScope, aGrp, aTo, aText, (aBn, aBd, aBt), aEp, [], Sp.rnum (t, b), Sp.rnum (Sp.rnumed (t, b)), Sp.rnum (Sp.rnumed (Sp.rnumed (t, b))), Sp.rnum (Sp.rnumed (Sp.rnumed (Sp.rnumed (t, b)))))) ∧ ((!x_2) = true → ((!x_2) = true → (!x_2) = true) ∧ ((!x_2) = true → (!x_2) = true)) ∧ ∀ (x : Bool), x = !Sp.bytes (aAu, aSeq, aPrev, aKind, aTime, aObj, aTgt, aScope, aGrp, aTo, aText, (aBn, aBd, aBt), aEp, [], Sp.rnum (t, b), Sp.rnum (Sp.rnumed (t, b)), Sp.rnum (Sp.rnumed (Sp.rnumed (t, b))), Sp.rnum (Sp.rnumed (Sp.rnumed (Sp.rnumed (t, b))))) == s → ((true && !x_2) = true → (!x_2) = true) ∧ ∀ (x_3 : Bool), (x_3 = bif x_2 then true else x) → bcase x_3 (K (AV.tup [AV.agg [AV.str [], AV.int IntKind.i64 (0 : Int), AV.str [], AV.int IntKind.i64 (0 : Int), AV.int IntKind.i64 (0 : Int), AV.str [], AV.str [], AV.int IntKind.i64 (0 : Int), AV.str [], AV.nilsl, AV.str [], AV.str [], AV.str [], AV.str [], AV.int IntKind.i64 (0 : Int), AV.nilsl, AV.int IntKind.i64 (0 : Int), AV.int IntKind.i64 (0 : Int), AV.int IntKind.i64 (0 : Int), AV.int IntKind.i64 (0 : Int)], AV.bool false]) []) (K (AV.tup [AV.agg [AV.str aAu, AV.int IntKind.i64 aSeq, AV.str aPrev, AV.int IntKind.i64 aKind, AV.int IntKind.i64 aTime, AV.str aObj, AV.str aTgt, AV.int IntKind.i64 aScope, AV.str aGrp, AV.sl Ty.str aTo, AV.str aText, AV.str aBn, AV.str aBd, AV.str aBt, AV.int IntKind.i64 aEp, AV.nilsl, AV.int IntKind.i64 (Sp.rnum (t, b)), AV.int IntKind.i64 (Sp.rnum (Sp.rnumed (t, b))), AV.int IntKind.i64 (Sp.rnum (Sp.rnumed (Sp.rnumed (t, b)))), AV.int IntKind.i64 (Sp.rnum (Sp.rnumed (Sp.rnumed (Sp.rnumed (t, b)))))], AV.bool true]) []))))
theorem er_ReadNil (s t : Bs) (b : Bool) (n : Int) (aAu : Bs) (aSeq : Int) (aPrev : Bs) (aKind : Int) (aTime : Int) (aObj aTgt : Bs) (aScope : Int) (aGrp : Bs) (aTo : List Bs) (aText aBn aBd aBt : Bs) (aEp : Int) (K : AV → St → Prop) (Nx N : List AV → St → Prop) : RoundAt Tryd.prog csQ2 h_Read Tryd.f10 0 K Nx 0 5 N (frmA [(0, .str s), (2, .ptr 0 0), (3, .bool false), (4, .ptr 1 0), (5, .ptr 2 0), (6, .int .i64 n)] 0 Tryd.f10.ntmps) [.box 29 [.str [], .int .i64 0, .str [], .int .i64 0, .int .i64 0, .str [], .str [], .int .i64 0, .str [], .nilsl, .str [], .str [], .str [], .str [], .int .i64 0, .nilsl, .int .i64 0, .int .i64 0, .int .i64 0, .int .i64 0], .box 83 [.str t, .bool b], .box 29 [.str aAu, .int .i64 aSeq, .str aPrev, .int .i64 aKind, .int .i64 aTime, .str aObj, .str aTgt, .int .i64 aScope, .str aGrp, .sl .str aTo, .str aText, .str aBn, .str aBd, .str aBt, .int .i64 aEp, .nilsl, .int .i64 0, .int .i64 0, .int .i64 0, .int .i64 0]] = vr_ReadNil s t b n aAu aSeq aPrev aKind aTime aObj aTgt aScope aGrp aTo aText aBn aBd aBt aEp K Nx N := by kernel_rfl
theorem gr_ReadNil (s t : Bs) (b : Bool) (n : Int) (aAu : Bs) (aSeq : Int) (aPrev : Bs) (aKind : Int) (aTime : Int) (aObj aTgt : Bs) (aScope : Int) (aGrp : Bs) (aTo : List Bs) (aText aBn aBd aBt : Bs) (aEp : Int) {K : AV → St → Prop} {Nx N : List AV → St → Prop} (hvc : vr_ReadNil s t b n aAu aSeq aPrev aKind aTime aObj aTgt aScope aGrp aTo aText aBn aBd aBt aEp K Nx N) : RoundAt Tryd.prog csQ2 h_Read Tryd.f10 0 K Nx 0 5 N (frmA [(0, .str s), (2, .ptr 0 0), (3, .bool false), (4, .ptr 1 0), (5, .ptr 2 0), (6, .int .i64 n)] 0 Tryd.f10.ntmps) [.box 29 [.str [], .int .i64 0, .str [], .int .i64 0, .int .i64 0, .str [], .str [], .int .i64 0, .str [], .nilsl, .str [], .str [], .str [], .str [], .int .i64 0, .nilsl, .int .i64 0, .int .i64 0, .int .i64 0, .int .i64 0], .box 83 [.str t, .bool b], .box 29 [.str aAu, .int .i64 aSeq, .str aPrev, .int .i64 aKind, .int .i64 aTime, .str aObj, .str aTgt, .int .i64 aScope, .str aGrp, .sl .str aTo, .str aText, .str aBn, .str aBd, .str aBt, .int .i64 aEp, .nilsl, .int .i64 0, .int .i64 0, .int .i64 0, .int .i64 0]] := Eq.mpr (er_ReadNil s t b n aAu aSeq aPrev aKind aTime aObj aTgt aScope aGrp aTo aText aBn aBd aBt aEp K Nx N) hvc
def vr_ReadRow (s t : Bs) (b : Bool) (n : Int) (aAu : Bs) (aSeq : Int) (aPrev : Bs) (aKind : Int) (aTime : Int) (aObj aTgt : Bs) (aScope : Int) (aGrp : Bs) (aTo : List Bs) (aText aBn aBd aBt : Bs) (aEp : Int) (l : List Sp.Wrap) (w0 : Sp.Wrap) (K : AV → St → Prop) (Nx N : List AV → St → Prop) : Prop :=
  List.length l = List.length l ∧ ∀ (x : Bool), x = decide (n > (↑(List.length l) : Int)) → bcase x ((true = true → x = true) ∧ ∀ (x_1 : Bool), x_1 = decide (Sp.rdLen (t, b) > (0 : Int)) → ((true && x) = true → x = true) ∧ ∀ (x_2 : Bool), (x_2 = bif x then x_1 else false) → bcase x_2 (List.length l = List.length l ∧ List.length l + (1 : Nat) ≤ (4611686018427387904 : Nat) ∧ (List.length l + (1 : Nat)) * (64 : Nat) ≤ (140737488355328 : Nat) ∧ N (frmA [((0 : Nat), AV.str s), ((2 : Nat), AV.ptr (0 : Nat) (0 : Nat)), ((3 : Nat), AV.bool false), ((4 : Nat), AV.ptr (1 : Nat) (0 : Nat)), ((5 : Nat), AV.ptr (2 : Nat) (0 : Nat)), ((6 : Nat), AV.int IntKind.i64 n)] (0 : Nat) (108 : Nat)) [AObj.box (29 : TypeId) [AV.str [], AV.int IntKind.i64 (0 : Int), AV.str [], AV.int IntKind.i64 (0 : Int), AV.int IntKind.i64 (0 : Int), AV.str [], AV.str [], AV.int IntKind.i64 (0 : Int), AV.str [], AV.nilsl, AV.str [], AV.str [], AV.str [], AV.str [], AV.int IntKind.i64 (0 : Int), AV.nilsl, AV.int IntKind.i64 (0 : Int), AV.int IntKind.i64 (0 : Int), AV.int IntKind.i64 (0 : Int), AV.int IntKind.i64 (0 : Int)], AObj.box (83 : TypeId) [AV.str (Prod.fst (Sp.rboxed (Sp.rnumed (Sp.rnumed (t, b))))), AV.bool (Prod.snd (Sp.rboxed (Sp.rnumed (Sp.rnumed (t, b)))))], AObj.box (29 : TypeId) [AV.str aAu, AV.int IntKind.i64 aSeq, AV.str aPrev, AV.int IntKind.i64 aKind, AV.int IntKind.i64 aTime, AV.str aObj, AV.str aTgt, AV.int IntKind.i64 aScope, AV.str aGrp, AV.sl Ty.str aTo, AV.str aText, AV.str aBn, AV.str aBd, AV.str aBt, AV.int IntKind.i64 aEp, AV.row (4 : Nat) (List.length (l ++ [(Sp.rnum (t, b), Sp.rnum (Sp.rnumed (t, b)), Sp.rbox (Sp.rnumed (Sp.rnumed (t, b))))])), AV.int IntKind.i64 (0 : Int), AV.int IntKind.i64 (0 : Int), AV.int IntKind.i64 (0 : Int), AV.int IntKind.i64 (0 : Int)], AObj.box (49 : TypeId) [AV.int IntKind.i64 (Prod.fst w0), AV.int IntKind.i64 (Prod.fst (Prod.snd w0)), AV.str (Prod.fst (Prod.snd (Prod.snd w0))), AV.str (Prod.fst (Prod.snd (Prod.snd (Prod.snd w0)))), AV.str (Prod.snd (Prod.snd (Prod.snd (Prod.snd w0))))], AObj.row (49 : Nat) WrapT (l ++ [(Sp.rnum (t, b), Sp.rnum (Sp.rnumed (t, b)), Sp.rbox (Sp.rnumed (Sp.rnumed (t, b))))])]) (∀ (x : Bool), x = Sp.rdDone (Sp.rnumed (Sp.rnumed (Sp.rnumed (Sp.rnumed (t, b))))) → ∀ (x_3 : Bool), x_3 = !x → ((!x_3) = true → (!x_3) = true → (!x_3) = true) ∧ ∀ (x : Bool), x = (s == []) → ((true && !x_3) = true → (!x_3) = true) ∧ ∀ (x_4 : Bool), (x_4 = bif x_3 then true else x) → ((!x_4) = true → (((!x_4) = true → (!x_4) = true) ∧ List.length l = List.length l) ∧ Sp.mid (aAu, aSeq, aPrev, aKind, aTime, aObj, aTgt, aScope, aGrp, aTo, aText, (aBn, aBd, aBt), aEp, l, Sp.rnum (t, b), Sp.rnum (Sp.rnumed (t, b)), Sp.rnum (Sp.rnumed (Sp.rnumed (t, b))), Sp.rnum (Sp.rnumed (Sp.rnumed (Sp.rnumed (t, b)))))) ∧ ((!x_4) = true → ((!x_4) = true → (!x_4) = true) ∧ ((!x_4) = true → (!x_4) = true)) ∧ ∀ (x : Bool), x = !Sp.bytes (aAu, aSeq, aPrev, aKind, aTime, aObj, aTgt, aScope, aGrp, aTo, aText, (aBn, aBd, aBt), aEp, l, Sp.rnum (t, b), Sp.rnum (Sp.rnumed (t, b)), Sp.rnum (Sp.rnumed (Sp.rnumed (t, b))), Sp.rnum (Sp.rnumed (Sp.rnumed (Sp.rnumed (t, b))))) == s → ((true && !x_4) = true → (!x_4) = true) ∧ ∀ (x_5 : Bool), (x_5 = bif x_4 then true else x) → bcase x_5 (K (AV.tup [AV.agg [AV.str [], AV.int IntKind.i64 (0 : Int), AV.str [], AV.int IntKind.i64 (0 : Int), AV.int IntKind.i64 (0 : Int), AV.str [], AV.str [], AV.int IntKind.i64 (0 : Int), AV.str [], AV.nilsl, AV.str [], AV.str [], AV.str [], AV.str [], AV.int IntKind.i64 (0 : Int), AV.nilsl, AV.int IntKind.i64 (0 : Int), AV.int IntKind.i64 (0 : Int), AV.int IntKind.i64 (0 : Int), AV.int IntKind.i64 (0 : Int)], AV.bool false]) []) (List.length l = List.length l ∧ K (AV.tup [AV.agg [AV.str aAu, AV.int IntKind.i64 aSeq, AV.str aPrev, AV.int IntKind.i64 aKind, AV.int IntKind.i64 aTime, AV.str aObj, AV.str aTgt, AV.int IntKind.i64 aScope, AV.str aGrp, AV.sl Ty.str aTo, AV.str aText, AV.str aBn, AV.str aBd, AV.str aBt, AV.int IntKind.i64 aEp, AV.sl WrapT l, AV.int IntKind.i64 (Sp.rnum (t, b)), AV.int IntKind.i64 (Sp.rnum (Sp.rnumed (t, b))), AV.int IntKind.i64 (Sp.rnum (Sp.rnumed (Sp.rnumed (t, b)))), AV.int IntKind.i64 (Sp.rnum (Sp.rnumed (Sp.rnumed (Sp.rnumed (t, b)))))], AV.bool true]) []))) (bcase x (False) (x = false ∧ ∀ (x : Bool), x = false → bcase x (List.length l = List.length l ∧ List.length l + (1 : Nat) ≤ (4611686018427387904 : Nat) ∧ (List.length l + (1 : Nat)) * (64 : Nat) ≤ (140737488355328 : Nat) ∧ N (frmA [((0 : Nat), AV.str s), ((2 : Nat), AV.ptr (0 : Nat) (0 : Nat)), ((3 : Nat), AV.bool false), ((4 : Nat), AV.ptr (1 : Nat) (0 : Nat)), ((5 : Nat), AV.ptr (2 : Nat) (0 : Nat)), ((6 : Nat), AV.int IntKind.i64 n)] (0 : Nat) (108 : Nat)) [AObj.box (29 : TypeId) [AV.str [], AV.int IntKind.i64 (0 : Int), AV.str [], AV.int IntKind.i64 (0 : Int), AV.int IntKind.i64 (0 : Int), AV.str [], AV.str [], AV.int IntKind.i64 (0 : Int), AV.str [], AV.nilsl, AV.str [], AV.str [], AV.str [], AV.str [], AV.int IntKind.i64 (0 : Int), AV.nilsl, AV.int IntKind.i64 (0 : Int), AV.int IntKind.i64 (0 : Int), AV.int IntKind.i64 (0 : Int), AV.int IntKind.i64 (0 : Int)], AObj.box (83 : TypeId) [AV.str (Prod.fst (Sp.rboxed (Sp.rnumed (Sp.rnumed (t, b))))), AV.bool (Prod.snd (Sp.rboxed (Sp.rnumed (Sp.rnumed (t, b)))))], AObj.box (29 : TypeId) [AV.str aAu, AV.int IntKind.i64 aSeq, AV.str aPrev, AV.int IntKind.i64 aKind, AV.int IntKind.i64 aTime, AV.str aObj, AV.str aTgt, AV.int IntKind.i64 aScope, AV.str aGrp, AV.sl Ty.str aTo, AV.str aText, AV.str aBn, AV.str aBd, AV.str aBt, AV.int IntKind.i64 aEp, AV.row (4 : Nat) (List.length (l ++ [(Sp.rnum (t, b), Sp.rnum (Sp.rnumed (t, b)), Sp.rbox (Sp.rnumed (Sp.rnumed (t, b))))])), AV.int IntKind.i64 (0 : Int), AV.int IntKind.i64 (0 : Int), AV.int IntKind.i64 (0 : Int), AV.int IntKind.i64 (0 : Int)], AObj.box (49 : TypeId) [AV.int IntKind.i64 (Prod.fst w0), AV.int IntKind.i64 (Prod.fst (Prod.snd w0)), AV.str (Prod.fst (Prod.snd (Prod.snd w0))), AV.str (Prod.fst (Prod.snd (Prod.snd (Prod.snd w0)))), AV.str (Prod.snd (Prod.snd (Prod.snd (Prod.snd w0))))], AObj.row (49 : Nat) WrapT (l ++ [(Sp.rnum (t, b), Sp.rnum (Sp.rnumed (t, b)), Sp.rbox (Sp.rnumed (Sp.rnumed (t, b))))])]) (∀ (x : Bool), x = Sp.rdDone (Sp.rnumed (Sp.rnumed (Sp.rnumed (Sp.rnumed (t, b))))) → ∀ (x_1 : Bool), x_1 = !x → ((!x_1) = true → (!x_1) = true → (!x_1) = true) ∧ ∀ (x : Bool), x = (s == []) → ((true && !x_1) = true → (!x_1) = true) ∧ ∀ (x_2 : Bool), (x_2 = bif x_1 then true else x) → ((!x_2) = true → (((!x_2) = true → (!x_2) = true) ∧ List.length l = List.length l) ∧ Sp.mid (aAu, aSeq, aPrev, aKind, aTime, aObj, aTgt, aScope, aGrp, aTo, aText, (aBn, aBd, aBt), aEp, l, Sp.rnum (t, b), Sp.rnum (Sp.rnumed (t, b)), Sp.rnum (Sp.rnumed (Sp.rnumed (t, b))), Sp.rnum (Sp.rnumed (Sp.rnumed (Sp.rnumed (t, b)))))) ∧ ((!x_2) = true → ((!x_2) = true → (!x_2) = true) ∧ ((!x_2) = true → (!x_2) = true)) ∧ ∀ (x : Bool), x = !Sp.bytes (aAu, aSeq, aPrev, aKind, aTime, aObj, aTgt, aScope, aGrp, aTo, aText, (aBn, aBd, aBt), aEp, l, Sp.rnum (t, b), Sp.rnum (Sp.rnumed (t, b)), Sp.rnum (Sp.rnumed (Sp.rnumed (t, b))), Sp.rnum (Sp.rnumed (Sp.rnumed (Sp.rnumed (t, b))))) == s → ((true && !x_2) = true → (!x_2) = true) ∧ ∀ (x_3 : Bool), (x_3 = bif x_2 then true else x) → bcase x_3 (K (AV.tup [AV.agg [AV.str [], AV.int IntKind.i64 (0 : Int), AV.str [], AV.int IntKind.i64 (0 : Int), AV.int IntKind.i64 (0 : Int), AV.str [], AV.str [], AV.int IntKind.i64 (0 : Int), AV.str [], AV.nilsl, AV.str [], AV.str [], AV.str [], AV.str [], AV.int IntKind.i64 (0 : Int), AV.nilsl, AV.int IntKind.i64 (0 : Int), AV.int IntKind.i64 (0 : Int), AV.int IntKind.i64 (0 : Int), AV.int IntKind.i64 (0 : Int)], AV.bool false]) []) (List.length l = List.length l ∧ K (AV.tup [AV.agg [AV.str aAu, AV.int IntKind.i64 aSeq, AV.str aPrev, AV.int IntKind.i64 aKind, AV.int IntKind.i64 aTime, AV.str aObj, AV.str aTgt, AV.int IntKind.i64 aScope, AV.str aGrp, AV.sl Ty.str aTo, AV.str aText, AV.str aBn, AV.str aBd, AV.str aBt, AV.int IntKind.i64 aEp, AV.sl WrapT l, AV.int IntKind.i64 (Sp.rnum (t, b)), AV.int IntKind.i64 (Sp.rnum (Sp.rnumed (t, b))), AV.int IntKind.i64 (Sp.rnum (Sp.rnumed (Sp.rnumed (t, b)))), AV.int IntKind.i64 (Sp.rnum (Sp.rnumed (Sp.rnumed (Sp.rnumed (t, b)))))], AV.bool true]) []))))
theorem er_ReadRow (s t : Bs) (b : Bool) (n : Int) (aAu : Bs) (aSeq : Int) (aPrev : Bs) (aKind : Int) (aTime : Int) (aObj aTgt : Bs) (aScope : Int) (aGrp : Bs) (aTo : List Bs) (aText aBn aBd aBt : Bs) (aEp : Int) (l : List Sp.Wrap) (w0 : Sp.Wrap) (K : AV → St → Prop) (Nx N : List AV → St → Prop) : RoundAt Tryd.prog csQ2 h_Read Tryd.f10 0 K Nx 0 5 N (frmA [(0, .str s), (2, .ptr 0 0), (3, .bool false), (4, .ptr 1 0), (5, .ptr 2 0), (6, .int .i64 n)] 0 Tryd.f10.ntmps) [.box 29 [.str [], .int .i64 0, .str [], .int .i64 0, .int .i64 0, .str [], .str [], .int .i64 0, .str [], .nilsl, .str [], .str [], .str [], .str [], .int .i64 0, .nilsl, .int .i64 0, .int .i64 0, .int .i64 0, .int .i64 0], .box 83 [.str t, .bool b], .box 29 [.str aAu, .int .i64 aSeq, .str aPrev, .int .i64 aKind, .int .i64 aTime, .str aObj, .str aTgt, .int .i64 aScope, .str aGrp, .sl .str aTo, .str aText, .str aBn, .str aBd, .str aBt, .int .i64 aEp, .row 4 l.length, .int .i64 0, .int .i64 0, .int .i64 0, .int .i64 0], .box 49 [.int .i64 w0.1, .int .i64 w0.2.1, .str w0.2.2.1, .str w0.2.2.2.1, .str w0.2.2.2.2], .row 49 WrapT l] = vr_ReadRow s t b n aAu aSeq aPrev aKind aTime aObj aTgt aScope aGrp aTo aText aBn aBd aBt aEp l w0 K Nx N := by kernel_rfl
theorem gr_ReadRow (s t : Bs) (b : Bool) (n : Int) (aAu : Bs) (aSeq : Int) (aPrev : Bs) (aKind : Int) (aTime : Int) (aObj aTgt : Bs) (aScope : Int) (aGrp : Bs) (aTo : List Bs) (aText aBn aBd aBt : Bs) (aEp : Int) (l : List Sp.Wrap) (w0 : Sp.Wrap) {K : AV → St → Prop} {Nx N : List AV → St → Prop} (hvc : vr_ReadRow s t b n aAu aSeq aPrev aKind aTime aObj aTgt aScope aGrp aTo aText aBn aBd aBt aEp l w0 K Nx N) : RoundAt Tryd.prog csQ2 h_Read Tryd.f10 0 K Nx 0 5 N (frmA [(0, .str s), (2, .ptr 0 0), (3, .bool false), (4, .ptr 1 0), (5, .ptr 2 0), (6, .int .i64 n)] 0 Tryd.f10.ntmps) [.box 29 [.str [], .int .i64 0, .str [], .int .i64 0, .int .i64 0, .str [], .str [], .int .i64 0, .str [], .nilsl, .str [], .str [], .str [], .str [], .int .i64 0, .nilsl, .int .i64 0, .int .i64 0, .int .i64 0, .int .i64 0], .box 83 [.str t, .bool b], .box 29 [.str aAu, .int .i64 aSeq, .str aPrev, .int .i64 aKind, .int .i64 aTime, .str aObj, .str aTgt, .int .i64 aScope, .str aGrp, .sl .str aTo, .str aText, .str aBn, .str aBd, .str aBt, .int .i64 aEp, .row 4 l.length, .int .i64 0, .int .i64 0, .int .i64 0, .int .i64 0], .box 49 [.int .i64 w0.1, .int .i64 w0.2.1, .str w0.2.2.1, .str w0.2.2.2.1, .str w0.2.2.2.2], .row 49 WrapT l] := Eq.mpr (er_ReadRow s t b n aAu aSeq aPrev aKind aTime aObj aTgt aScope aGrp aTo aText aBn aBd aBt aEp l w0 K Nx N) hvc
namespace Sp
/-- Sealed copies, as long as something is left. -/
def rwraps : Nat → Rd → List Wrap × Rd
  | 0, r => ([], r)
  | k + 1, r => if r.1 = [] then ([], r) else ((rnum r, rnum (rnumed r), rbox (rnumed (rnumed r))) :: (rwraps k (rboxed (rnumed (rnumed r)))).1, (rwraps k (rboxed (rnumed (rnumed r)))).2)
/-- What is read after the beginning. -/
def rfin (s : Bs) (a : Act) (r : Rd) : Bool := bif (bif !rdDone r then true else s == []) then true else !bytes a == s
end Sp
theorem rwraps_nil (k : Nat) (b : Bool) : Sp.rwraps k ([], b) = ([], ([], b)) := by
  cases k with
  | zero => rfl
  | succ k => simp [Sp.rwraps]
theorem rtexted_len (r : Sp.Rd) : (Sp.rtexted r).1.length ≤ (Sp.rnumed r).1.length := by
  unfold Sp.rtexted Sp.taken
  split
  · exact Nat.zero_le _
  · simp
theorem rtext_len (r : Sp.Rd) : (Sp.rtext r).length ≤ r.1.length := by
  have := rnumed_len r
  unfold Sp.rtext Sp.take
  split
  · exact Nat.zero_le _
  · rw [List.length_take]; omega
theorem rtexted_le (r : Sp.Rd) : (Sp.rtexted r).1.length ≤ r.1.length := Nat.le_trans (rtexted_len r) (rnumed_len r)
theorem rboxed_le (r : Sp.Rd) : (Sp.rboxed r).1.length ≤ r.1.length := Nat.le_trans (rtexted_le _) (Nat.le_trans (rtexted_le _) (rtexted_le _))
theorem rnumed_lt (r : Sp.Rd) (h : r.1 ≠ []) : (Sp.rnumed r).1.length < r.1.length := by
  have hp := List.length_pos_iff.2 h
  unfold Sp.rnumed
  split
  · rename_i m t h
    exact rv_len r.1 0 0 m t h
  · exact hp
theorem bc_row {c : Bool} {A B : Prop} {n : Nat} (h : bcase c A B) : bcase c A (n = n ∧ B) := by
  cases c with
  | true => exact h
  | false => exact ⟨rfl, h⟩
/-- The loop of 'Read'. -/
theorem readw_loop (s : Bs) (aAu : Bs) (aSeq : Int) (aPrev : Bs) (aKind : Int) (aTime : Int) (aObj aTgt : Bs) (aScope : Int) (aGrp : Bs) (aTo : List Bs) (aText aBn aBd aBt : Bs) (aEp : Int) (N : Nat) (r0 : Sp.Rd) (hlen : r0.1.length ≤ 20000) {K : AV → St → Prop} {Nx : List AV → St → Prop}
    (hmid : ∀ l r, Sp.rwraps N r0 = (l, r) → Sp.mid (aAu, aSeq, aPrev, aKind, aTime, aObj, aTgt, aScope, aGrp, aTo, aText, (aBn, aBd, aBt), aEp, l, Sp.rnum r, Sp.rnum (Sp.rnumed r), Sp.rnum (Sp.rnumed (Sp.rnumed r)), Sp.rnum (Sp.rnumed (Sp.rnumed (Sp.rnumed r)))))
    (hK : ∀ l r v, Sp.rwraps N r0 = (l, r) → (v = .nilsl ∧ l = [] ∨ v = .sl WrapT l) → bcase (Sp.rfin s (aAu, aSeq, aPrev, aKind, aTime, aObj, aTgt, aScope, aGrp, aTo, aText, (aBn, aBd, aBt), aEp, l, Sp.rnum r, Sp.rnum (Sp.rnumed r), Sp.rnum (Sp.rnumed (Sp.rnumed r)), Sp.rnum (Sp.rnumed (Sp.rnumed (Sp.rnumed r)))) (Sp.rnumed (Sp.rnumed (Sp.rnumed (Sp.rnumed r))))) (K (.tup [.agg [.str [], .int .i64 0, .str [], .int .i64 0, .int .i64 0, .str [], .str [], .int .i64 0, .str [], .nilsl, .str [], .str [], .str [], .str [], .int .i64 0, .nilsl, .int .i64 0, .int .i64 0, .int .i64 0, .int .i64 0], .bool false]) []) (K (.tup [.agg [.str aAu, .int .i64 aSeq, .str aPrev, .int .i64 aKind, .int .i64 aTime, .str aObj, .str aTgt, .int .i64 aScope, .str aGrp, .sl .str aTo, .str aText, .str aBn, .str aBd, .str aBt, .int .i64 aEp, v, .int .i64 (Sp.rnum r), .int .i64 (Sp.rnum (Sp.rnumed r)), .int .i64 (Sp.rnum (Sp.rnumed (Sp.rnumed r))), .int .i64 (Sp.rnum (Sp.rnumed (Sp.rnumed (Sp.rnumed r))))], .bool true]) [])) :
    LoopAt Tryd.prog csQ2 h_Read Tryd.f10 0 K Nx 0 (frmA [(0, .str s), (2, .ptr 0 0), (3, .bool false), (4, .ptr 1 0), (5, .ptr 2 0), (6, .int .i64 (N : Int))] 0 108) [.box 29 [.str [], .int .i64 0, .str [], .int .i64 0, .int .i64 0, .str [], .str [], .int .i64 0, .str [], .nilsl, .str [], .str [], .str [], .str [], .int .i64 0, .nilsl, .int .i64 0, .int .i64 0, .int .i64 0, .int .i64 0], .box 83 [.str r0.1, .bool r0.2], .box 29 [.str aAu, .int .i64 aSeq, .str aPrev, .int .i64 aKind, .int .i64 aTime, .str aObj, .str aTgt, .int .i64 aScope, .str aGrp, .sl .str aTo, .str aText, .str aBn, .str aBd, .str aBt, .int .i64 aEp, .nilsl, .int .i64 0, .int .i64 0, .int .i64 0, .int .i64 0]] := by
  refine loopAt_stN (σ := List Sp.Wrap × Sp.Rd) (fun x => frmA [(0, .str s), (2, .ptr 0 0), (3, .bool false), (4, .ptr 1 0), (5, .ptr 2 0), (6, .int .i64 (N : Int))] 0 108)
    (fun x => match x.1 with
      | [] => [.box 29 [.str [], .int .i64 0, .str [], .int .i64 0, .int .i64 0, .str [], .str [], .int .i64 0, .str [], .nilsl, .str [], .str [], .str [], .str [], .int .i64 0, .nilsl, .int .i64 0, .int .i64 0, .int .i64 0, .int .i64 0], .box 83 [.str x.2.1, .bool x.2.2], .box 29 [.str aAu, .int .i64 aSeq, .str aPrev, .int .i64 aKind, .int .i64 aTime, .str aObj, .str aTgt, .int .i64 aScope, .str aGrp, .sl .str aTo, .str aText, .str aBn, .str aBd, .str aBt, .int .i64 aEp, .nilsl, .int .i64 0, .int .i64 0, .int .i64 0, .int .i64 0]]
      | w0 :: l' => [.box 29 [.str [], .int .i64 0, .str [], .int .i64 0, .int .i64 0, .str [], .str [], .int .i64 0, .str [], .nilsl, .str [], .str [], .str [], .str [], .int .i64 0, .nilsl, .int .i64 0, .int .i64 0, .int .i64 0, .int .i64 0], .box 83 [.str x.2.1, .bool x.2.2], .box 29 [.str aAu, .int .i64 aSeq, .str aPrev, .int .i64 aKind, .int .i64 aTime, .str aObj, .str aTgt, .int .i64 aScope, .str aGrp, .sl .str aTo, .str aText, .str aBn, .str aBd, .str aBt, .int .i64 aEp, (.row 4 (w0 :: l').length), .int .i64 0, .int .i64 0, .int .i64 0, .int .i64 0], .box 49 [.int .i64 w0.1, .int .i64 w0.2.1, .str w0.2.2.1, .str w0.2.2.2.1, .str w0.2.2.2.2], .row 49 WrapT (w0 :: l')])
    (fun x => N - x.1.length) (fun x => x.1.length ≤ N ∧ x.1.length + x.2.1.length ≤ 20000 ∧ x.1 ++ (Sp.rwraps (N - x.1.length) x.2).1 = (Sp.rwraps N r0).1 ∧ (Sp.rwraps (N - x.1.length) x.2).2 = (Sp.rwraps N r0).2) [0, 2, 3, 4, 5, 6] 5 (by show (3 : Nat) ≤ 5; omega) (by intros; rfl) ?_ ([], r0) ⟨Nat.zero_le _, by simpa using hlen, rfl, rfl⟩ rfl rfl
  rintro ⟨l, t, b⟩ ⟨h1, hb, h2, h3⟩
  replace h1 : l.length ≤ N := h1
  replace hb : l.length + t.length ≤ 20000 := hb
  replace h2 : l ++ (Sp.rwraps (N - l.length) (t, b)).1 = (Sp.rwraps N r0).1 := h2
  replace h3 : (Sp.rwraps (N - l.length) (t, b)).2 = (Sp.rwraps N r0).2 := h3
  generalize hw1 : ((Sp.rnum (t, b), Sp.rnum (Sp.rnumed (t, b)), Sp.rbox (Sp.rnumed (Sp.rnumed (t, b)))) : Sp.Wrap) = w1
  have more : l.length < N → t ≠ [] → N - (l ++ [w1]).length < N - l.length ∧ ((l ++ [w1]).length ≤ N ∧ (l ++ [w1]).length + (Sp.rboxed (Sp.rnumed (Sp.rnumed (t, b)))).1.length ≤ 20000 ∧ (l ++ [w1]) ++ (Sp.rwraps (N - (l ++ [w1]).length) (Sp.rboxed (Sp.rnumed (Sp.rnumed (t, b))))).1 = (Sp.rwraps N r0).1 ∧ (Sp.rwraps (N - (l ++ [w1]).length) (Sp.rboxed (Sp.rnumed (Sp.rnumed (t, b))))).2 = (Sp.rwraps N r0).2) := by
    intro hlt ht
    have e : N - l.length = (N - (l.length + 1)) + 1 := by omega
    have hl1 : (l ++ [w1]).length = l.length + 1 := by simp
    rw [e, Sp.rwraps, if_neg (show ¬ (t, b).1 = [] from ht), hw1] at h2 h3
    have c1 := rnumed_lt (t, b) ht
    have c2 := rnumed_len (Sp.rnumed (t, b))
    have c3 := rboxed_le (Sp.rnumed (Sp.rnumed (t, b)))
    have c1' : (Sp.rnumed (t, b)).1.length < t.length := c1
    rw [hl1]
    refine ⟨by omega, by omega, by omega, ?_, h3⟩
    rw [← h2]
    simp
  have stop : ¬ (l.length < N ∧ t ≠ []) → Sp.rwraps N r0 = (l, (t, b)) := by
    intro hs
    have : Sp.rwraps (N - l.length) (t, b) = ([], (t, b)) := by
      by_cases ht : t = []
      · rw [ht]; exact rwraps_nil _ _
      · have : N - l.length = 0 := by
          have : ¬ l.length < N := fun h => hs ⟨h, ht⟩
          omega
        rw [this]; rfl
    rw [this] at h2 h3
    rw [List.append_nil] at h2
    exact Prod.ext h2.symm h3.symm
  subst hw1
  cases l with
  | nil =>
    refine gr_ReadNil s t b N aAu aSeq aPrev aKind aTime aObj aTgt aScope aGrp aTo aText aBn aBd aBt aEp  ?_
    unfold vr_ReadNil
    intro x hx
    by_cases hgo : ([] : List Sp.Wrap).length < N ∧ t ≠ []
    · obtain ⟨m1, m2⟩ := more hgo.1 hgo.2
      have hx' : x = true := by rw [hx]; exact decide_eq_true (by have := hgo.1; simp only [List.length_nil, List.length_cons] at this ⊢; omega)
      rw [hx', bcase_t]
      refine ⟨fun _ => rfl, ?_⟩
      intro x1 hx1
      refine ⟨fun _ => rfl, ?_⟩
      intro x2 hx2
      have ht : 0 < t.length := List.length_pos_iff.2 hgo.2
      have hx1' : x1 = true := by rw [hx1]; exact decide_eq_true (by show ((t.length : Nat) : Int) > 0; omega)
      rw [hx2, hx1', cond_true, bcase_t]
      exact ⟨by simp only [List.length_cons, List.length_nil] at hb ⊢; omega, by simp only [List.length_cons, List.length_nil] at hb ⊢; omega, ⟨([(Sp.rnum (t, b), Sp.rnum (Sp.rnumed (t, b)), Sp.rbox (Sp.rnumed (Sp.rnumed (t, b))))], Sp.rboxed (Sp.rnumed (Sp.rnumed (t, b)))), m1, m2, rfl, rfl⟩⟩
    · have st := stop hgo
      have hm := hmid _ _ st
      have hk := hK ([] : List Sp.Wrap) (t, b) .nilsl st (.inl ⟨rfl, rfl⟩)
      cases hxx : x with
      | true =>
        rw [bcase_t]
        refine ⟨fun _ => rfl, ?_⟩
        intro x1 hx1
        refine ⟨fun _ => rfl, ?_⟩
        intro x2 hx2
        have hx1' : x1 = false := by
          rw [hx1]
          refine decide_eq_false ?_
          intro hc
          have hc' : ((t.length : Nat) : Int) > 0 := hc
          have hlt := of_decide_eq_true (hx.symm.trans hxx)
          exact hgo ⟨by simp only [List.length_cons, List.length_nil] at hlt ⊢; omega, by intro e; rw [e] at hc'; simp at hc'⟩
        rw [hx2, hx1', cond_true, bcase_f]
        intro y hy y3 hy3
        refine ⟨fun h _ => h, ?_⟩
        intro y1 hy1
        refine ⟨fun h => h, ?_⟩
        intro y4 hy4
        refine ⟨fun _ => ⟨fun h => h, hm⟩, fun _ => ⟨fun h => h, fun h => h⟩, ?_⟩
        intro y2 hy2
        refine ⟨fun h => h, ?_⟩
        intro y5 hy5
        rw [hy5, hy4, hy3, hy, hy1, hy2]
        exact hk
      | false =>
        rw [bcase_f, bcase_f]
        refine ⟨rfl, ?_⟩
        intro x2 hx2
        rw [hx2, bcase_f]
        intro y hy y3 hy3
        refine ⟨fun h _ => h, ?_⟩
        intro y1 hy1
        refine ⟨fun h => h, ?_⟩
        intro y4 hy4
        refine ⟨fun _ => ⟨fun h => h, hm⟩, fun _ => ⟨fun h => h, fun h => h⟩, ?_⟩
        intro y2 hy2
        refine ⟨fun h => h, ?_⟩
        intro y5 hy5
        rw [hy5, hy4, hy3, hy, hy1, hy2]
        exact hk
  | cons w0 l' =>
    refine gr_ReadRow s t b N aAu aSeq aPrev aKind aTime aObj aTgt aScope aGrp aTo aText aBn aBd aBt aEp (w0 :: l') w0 ?_
    unfold vr_ReadRow
    refine ⟨rfl, ?_⟩
    intro x hx
    by_cases hgo : (w0 :: l').length < N ∧ t ≠ []
    · obtain ⟨m1, m2⟩ := more hgo.1 hgo.2
      have hx' : x = true := by rw [hx]; exact decide_eq_true (by have := hgo.1; simp only [List.length_nil, List.length_cons] at this ⊢; omega)
      rw [hx', bcase_t]
      refine ⟨fun _ => rfl, ?_⟩
      intro x1 hx1
      refine ⟨fun _ => rfl, ?_⟩
      intro x2 hx2
      have ht : 0 < t.length := List.length_pos_iff.2 hgo.2
      have hx1' : x1 = true := by rw [hx1]; exact decide_eq_true (by show ((t.length : Nat) : Int) > 0; omega)
      rw [hx2, hx1', cond_true, bcase_t]
      exact ⟨rfl, by simp only [List.length_cons, List.length_nil] at hb ⊢; omega, by simp only [List.length_cons, List.length_nil] at hb ⊢; omega, ⟨(w0 :: l' ++ [(Sp.rnum (t, b), Sp.rnum (Sp.rnumed (t, b)), Sp.rbox (Sp.rnumed (Sp.rnumed (t, b))))], Sp.rboxed (Sp.rnumed (Sp.rnumed (t, b)))), m1, m2, rfl, rfl⟩⟩
    · have st := stop hgo
      have hm := hmid _ _ st
      have hk := hK (w0 :: l') (t, b) (.sl WrapT (w0 :: l')) st (.inr rfl)
      cases hxx : x with
      | true =>
        rw [bcase_t]
        refine ⟨fun _ => rfl, ?_⟩
        intro x1 hx1
        refine ⟨fun _ => rfl, ?_⟩
        intro x2 hx2
        have hx1' : x1 = false := by
          rw [hx1]
          refine decide_eq_false ?_
          intro hc
          have hc' : ((t.length : Nat) : Int) > 0 := hc
          have hlt := of_decide_eq_true (hx.symm.trans hxx)
          exact hgo ⟨by simp only [List.length_cons, List.length_nil] at hlt ⊢; omega, by intro e; rw [e] at hc'; simp at hc'⟩
        rw [hx2, hx1', cond_true, bcase_f]
        intro y hy y3 hy3
        refine ⟨fun h _ => h, ?_⟩
        intro y1 hy1
        refine ⟨fun h => h, ?_⟩
        intro y4 hy4
        refine ⟨fun _ => ⟨⟨fun h => h, rfl⟩, hm⟩, fun _ => ⟨fun h => h, fun h => h⟩, ?_⟩
        intro y2 hy2
        refine ⟨fun h => h, ?_⟩
        intro y5 hy5
        rw [hy5, hy4, hy3, hy, hy1, hy2]
        exact bc_row hk
      | false =>
        rw [bcase_f, bcase_f]
        refine ⟨rfl, ?_⟩
        intro x2 hx2
        rw [hx2, bcase_f]
        intro y hy y3 hy3
        refine ⟨fun h _ => h, ?_⟩
        intro y1 hy1
        refine ⟨fun h => h, ?_⟩
        intro y4 hy4
        refine ⟨fun _ => ⟨⟨fun h => h, rfl⟩, hm⟩, fun _ => ⟨fun h => h, fun h => h⟩, ?_⟩
        intro y2 hy2
        refine ⟨fun h => h, ?_⟩
        intro y5 hy5
        rw [hy5, hy4, hy3, hy, hy1, hy2]
        exact bc_row hk
--Q
namespace Sp
/-- The fields after the first text. -/
def rAct (r : Rd) : Act × Rd :=
  let r1 := rtexted r
  let r2 := rnumed r1
  let r3 := rtexted r2
  let r4 := rnumed r3
  let r5 := rnumed r4
  let r6 := rtexted r5
  let r7 := rtexted r6
  let r8 := rnumed r7
  let r9 := rtexted r8
  let r10 := rlisted r9
  let r11 := rtexted r10
  let r12 := rboxed r11
  let r13 := rnumed r12
  let r14 := rnumed r13
  let x := rwraps (rnum r13).toNat r14
  ((rtext r, rnum r1, rtext r2, rnum r3, rnum r4, rtext r5, rtext r6, rnum r7, rtext r8, rlist r9, rtext r10, rbox r11, rnum r12, x.1, rnum x.2, rnum (rnumed x.2), rnum (rnumed (rnumed x.2)), rnum (rnumed (rnumed (rnumed x.2)))), rnumed (rnumed (rnumed (rnumed x.2))))
def aRead (s : Bs) : Act × Bool :=
  bif !rtext (s, false) == [97, 99, 116] then (zeroAct, false) else
  bif rfin s (rAct (rtexted (s, false))).1 (rAct (rtexted (s, false))).2 then (zeroAct, false) else ((rAct (rtexted (s, false))).1, true)
def readOk (s : Bs) : Prop := s.length ≤ 20000
end Sp
theorem rmany_len : ∀ (k : Nat) (r : Sp.Rd), (Sp.rmany k r).1.length ≤ k ∧ (Sp.rmany k r).2.1.length ≤ r.1.length ∧ ∀ x ∈ (Sp.rmany k r).1, x.length ≤ r.1.length
  | 0, r => ⟨Nat.le_refl _, Nat.le_refl _, by intro x h; cases h⟩
  | k + 1, r => by
    unfold Sp.rmany
    split
    · exact ⟨Nat.zero_le _, Nat.le_refl _, by intro x h; cases h⟩
    · obtain ⟨h1, h2, h3⟩ := rmany_len k (Sp.rtexted r)
      have h4 := rtexted_le r
      refine ⟨?_, Nat.le_trans h2 h4, ?_⟩
      · simp only [List.length_cons]; omega
      · intro x hx
        rcases List.mem_cons.1 hx with rfl | hx
        · exact rtext_len r
        · exact Nat.le_trans (h3 x hx) h4
theorem rstart_len (r : Sp.Rd) : (Sp.rstart r).1.length ≤ r.1.length := by
  unfold Sp.rstart
  split
  · exact Nat.zero_le _
  · exact rnumed_len r
theorem rlisted_le (r : Sp.Rd) : (Sp.rlisted r).1.length ≤ r.1.length := Nat.le_trans (rmany_len _ _).2.1 (rstart_len r)
theorem rlist_len (r : Sp.Rd) : (Sp.rlist r).length ≤ r.1.length ∧ ∀ x ∈ Sp.rlist r, x.length ≤ r.1.length := by
  unfold Sp.rlist
  split
  · exact ⟨Nat.zero_le _, by intro x h; cases h⟩
  · rename_i hf
    obtain ⟨h1, h2, h3⟩ := rmany_len (Sp.rnum r).toNat (Sp.rstart r)
    refine ⟨?_, fun x hx => Nat.le_trans (h3 x hx) (rstart_len r)⟩
    by_cases hc : Sp.rnum r > Sp.rdLen (Sp.rnumed r)
    · have hs : Sp.rstart r = Sp.rdFail := by unfold Sp.rstart; rw [if_pos hc]
      rw [hs, rmany_fail _ _ rfl]
      exact Nat.zero_le _
    · have h4 := rnumed_len r
      unfold Sp.rdLen at hc
      omega
theorem rbox_len (r : Sp.Rd) : (Sp.rbox r).1.length ≤ r.1.length ∧ (Sp.rbox r).2.1.length ≤ r.1.length ∧ (Sp.rbox r).2.2.length ≤ r.1.length :=
  ⟨rtext_len r, Nat.le_trans (rtext_len _) (rtexted_le r), Nat.le_trans (rtext_len _) (Nat.le_trans (rtexted_le _) (rtexted_le r))⟩
theorem rnum_i64 (r : Sp.Rd) : Sp.i64Ok (Sp.rnum r) := by
  have h1 := rnum_nonneg r
  have h2 := rnum_lt r
  unfold Sp.i64Ok; omega
theorem rwraps_len : ∀ (k : Nat) (r : Sp.Rd), (Sp.rwraps k r).1.length + (Sp.rwraps k r).2.1.length ≤ r.1.length ∧ ∀ w ∈ (Sp.rwraps k r).1, Sp.i64Ok w.1 ∧ Sp.i64Ok w.2.1 ∧ Sp.wrapLen w ≤ 3 * r.1.length + 60
  | 0, r => ⟨by simp [Sp.rwraps], by intro x h; cases h⟩
  | k + 1, r => by
    unfold Sp.rwraps
    split
    · exact ⟨by simp, by intro x h; cases h⟩
    · rename_i hne
      have c1 := rnumed_lt r hne
      have c2 := rnumed_len (Sp.rnumed r)
      have c3 := rboxed_le (Sp.rnumed (Sp.rnumed r))
      obtain ⟨h1, h2⟩ := rwraps_len k (Sp.rboxed (Sp.rnumed (Sp.rnumed r)))
      refine ⟨by simp only [List.length_cons]; omega, ?_⟩
      intro w hw
      rcases List.mem_cons.1 hw with rfl | hw
      · have hb := rbox_len (Sp.rnumed (Sp.rnumed r))
        refine ⟨rnum_i64 _, rnum_i64 _, ?_⟩
        unfold Sp.wrapLen
        simp only
        omega
      · obtain ⟨e1, e2, e3⟩ := h2 w hw
        exact ⟨e1, e2, by omega⟩
theorem flat_bound (l : List Bs) (n : Nat) (hn : n < 1099511627776) (h : ∀ x ∈ l, x.length ≤ n) : (l.flatMap Sp.text).length ≤ l.length * (n + 10) := by
  induction l with
  | nil => simp
  | cons x t ih =>
    have h1 := ih (fun y hy => h y (by simp [hy]))
    have h2 := h x (by simp)
    have h3 := text_le x (by unfold Sp.s40; omega)
    rw [List.flatMap_cons, List.length_append, List.length_cons, Nat.succ_mul]
    omega
theorem sum_bound (l : List Sp.Wrap) (n : Nat) (h : ∀ w ∈ l, Sp.wrapLen w ≤ n) : (l.map Sp.wrapLen).sum ≤ l.length * n := by
  induction l with
  | nil => simp
  | cons x t ih =>
    have h1 := ih (fun y hy => h y (by simp [hy]))
    have h2 := h x (by simp)
    simp only [List.map_cons, List.sum_cons, List.length_cons]
    rw [Nat.succ_mul]
    omega
theorem mul_bound {a b c d : Nat} (h1 : a ≤ c) (h2 : b ≤ d) : a * b ≤ c * d := Nat.mul_le_mul h1 h2
theorem mid_of {au prev obj tgt grp text bn bd bt : Bs} {seq kind time scope ep n m e s : Int} {to : List Bs} {wr : List Sp.Wrap}
    (h1 : au.length ≤ 20000) (h2 : prev.length ≤ 20000) (h3 : obj.length ≤ 20000) (h4 : tgt.length ≤ 20000) (h5 : grp.length ≤ 20000) (h6 : text.length ≤ 20000) (h7 : bn.length ≤ 20000 ∧ bd.length ≤ 20000 ∧ bt.length ≤ 20000)
    (h8 : to.length ≤ 20000 ∧ ∀ x ∈ to, x.length ≤ 20000) (h9 : wr.length ≤ 20000 ∧ ∀ w ∈ wr, Sp.i64Ok w.1 ∧ Sp.i64Ok w.2.1 ∧ Sp.wrapLen w ≤ 60060)
    (hi : Sp.i64Ok seq ∧ Sp.i64Ok kind ∧ Sp.i64Ok time ∧ Sp.i64Ok scope ∧ Sp.i64Ok ep ∧ Sp.i64Ok n ∧ Sp.i64Ok m ∧ Sp.i64Ok e ∧ Sp.i64Ok s) :
    Sp.mid (au, seq, prev, kind, time, obj, tgt, scope, grp, to, text, (bn, bd, bt), ep, wr, n, m, e, s) := by
  refine ⟨?_, hi, fun w hw => ⟨(h9.2 w hw).1, (h9.2 w hw).2.1⟩⟩
  have f1 := flat_bound to 20000 (by omega) h8.2
  have f2 := sum_bound wr 60060 (fun w hw => (h9.2 w hw).2.2)
  have f3 : to.length * (20000 + 10) ≤ 20000 * 20010 := Nat.mul_le_mul h8.1 (by omega)
  have f4 : wr.length * 60060 ≤ 20000 * 60060 := Nat.mul_le_mul h9.1 (by omega)
  obtain ⟨h71, h72, h73⟩ := h7
  simp only [Sp.actSz]
  omega
theorem ok_Read (s : Bs) (h : Sp.readOk s) : callA Tryd.prog 10 [.str s] [] (fun r _ => r = .tup [ActT.toAV (Sp.aRead s).1, .bool (Sp.aRead s).2] ∧ below 0 r = true) := by
  have hs : s.length ≤ 20000 := h
  generalize hq : Sp.rtexted (s, false) = r
  have q0 : r.1.length ≤ 20000 := by rw [← hq]; exact Nat.le_trans (rtexted_le _) hs
  generalize hr1 : Sp.rtexted r = r1
  have q1 : r1.1.length ≤ 20000 := by rw [← hr1]; exact Nat.le_trans (rtexted_le _) q0
  generalize hr2 : Sp.rnumed r1 = r2
  have q2 : r2.1.length ≤ 20000 := by rw [← hr2]; exact Nat.le_trans (rnumed_len _) q1
  generalize hr3 : Sp.rtexted r2 = r3
  have q3 : r3.1.length ≤ 20000 := by rw [← hr3]; exact Nat.le_trans (rtexted_le _) q2
  generalize hr4 : Sp.rnumed r3 = r4
  have q4 : r4.1.length ≤ 20000 := by rw [← hr4]; exact Nat.le_trans (rnumed_len _) q3
  generalize hr5 : Sp.rnumed r4 = r5
  have q5 : r5.1.length ≤ 20000 := by rw [← hr5]; exact Nat.le_trans (rnumed_len _) q4
  generalize hr6 : Sp.rtexted r5 = r6
  have q6 : r6.1.length ≤ 20000 := by rw [← hr6]; exact Nat.le_trans (rtexted_le _) q5
  generalize hr7 : Sp.rtexted r6 = r7
  have q7 : r7.1.length ≤ 20000 := by rw [← hr7]; exact Nat.le_trans (rtexted_le _) q6
  generalize hr8 : Sp.rnumed r7 = r8
  have q8 : r8.1.length ≤ 20000 := by rw [← hr8]; exact Nat.le_trans (rnumed_len _) q7
  generalize hr9 : Sp.rtexted r8 = r9
  have q9 : r9.1.length ≤ 20000 := by rw [← hr9]; exact Nat.le_trans (rtexted_le _) q8
  generalize hr10 : Sp.rlisted r9 = r10
  have q10 : r10.1.length ≤ 20000 := by rw [← hr10]; exact Nat.le_trans (rlisted_le _) q9
  generalize hr11 : Sp.rtexted r10 = r11
  have q11 : r11.1.length ≤ 20000 := by rw [← hr11]; exact Nat.le_trans (rtexted_le _) q10
  generalize hr12 : Sp.rboxed r11 = r12
  have q12 : r12.1.length ≤ 20000 := by rw [← hr12]; exact Nat.le_trans (rboxed_le _) q11
  generalize hr13 : Sp.rnumed r12 = r13
  have q13 : r13.1.length ≤ 20000 := by rw [← hr13]; exact Nat.le_trans (rnumed_len _) q12
  generalize hr14 : Sp.rnumed r13 = r14
  have q14 : r14.1.length ≤ 20000 := by rw [← hr14]; exact Nat.le_trans (rnumed_len _) q13
  generalize hx : Sp.rwraps (Sp.rnum r13).toNat r14 = x
  have hA : Sp.rAct r = ((Sp.rtext r, Sp.rnum r1, Sp.rtext r2, Sp.rnum r3, Sp.rnum r4, Sp.rtext r5, Sp.rtext r6, Sp.rnum r7, Sp.rtext r8, Sp.rlist r9, Sp.rtext r10, Sp.rbox r11, Sp.rnum r12, x.1, Sp.rnum x.2, Sp.rnum (Sp.rnumed x.2), Sp.rnum (Sp.rnumed (Sp.rnumed x.2)), Sp.rnum (Sp.rnumed (Sp.rnumed (Sp.rnumed x.2)))), Sp.rnumed (Sp.rnumed (Sp.rnumed (Sp.rnumed x.2)))) := by
    subst hx hr14 hr13 hr12 hr11 hr10 hr9 hr8 hr7 hr6 hr5 hr4 hr3 hr2 hr1
    rfl
  have hR : Sp.aRead s = bif !Sp.rtext (s, false) == [97, 99, 116] then (Sp.zeroAct, false) else
    bif Sp.rfin s (Sp.rAct r).1 (Sp.rAct r).2 then (Sp.zeroAct, false) else ((Sp.rAct r).1, true) := by subst hq; rfl
  refine callA_weak (K0 := fun v _ => (v = .tup [zeroAV, .bool false] ∧ Sp.aRead s = (Sp.zeroAct, false)) ∨ (Sp.aRead s = ((Sp.rAct r).1, true) ∧ ∃ w, (w = .nilsl ∧ x.1 = [] ∨ w = .sl WrapT x.1) ∧ v = .tup [.agg [.str (Sp.rtext r), .int .i64 (Sp.rnum r1), .str (Sp.rtext r2), .int .i64 (Sp.rnum r3), .int .i64 (Sp.rnum r4), .str (Sp.rtext r5), .str (Sp.rtext r6), .int .i64 (Sp.rnum r7), .str (Sp.rtext r8), .sl .str (Sp.rlist r9), .str (Sp.rtext r10), .str (Sp.rbox r11).1, .str (Sp.rbox r11).2.1, .str (Sp.rbox r11).2.2, .int .i64 (Sp.rnum r12), w, .int .i64 (Sp.rnum x.2), .int .i64 (Sp.rnum (Sp.rnumed x.2)), .int .i64 (Sp.rnum (Sp.rnumed (Sp.rnumed x.2))), .int .i64 (Sp.rnum (Sp.rnumed (Sp.rnumed (Sp.rnumed x.2))))], .bool true])) (go_Read s ?_) ?_
  · unfold vc_Read
    rw [hq, hr1, hr2, hr3, hr4, hr5, hr6, hr7, hr8, hr9, hr10, hr11, hr12, hr13, hr14]
    intro y hy
    rw [← hy] at hR
    cases y with
    | true => exact .inl ⟨rfl, hR⟩
    | false =>
    rw [bcase_f]
    rw [cond_false] at hR
    refine ⟨by show r9.1.length < _; omega, ?_⟩
    have hnn := rnum_nonneg r13
    have e : Sp.rnum r13 = ((Sp.rnum r13).toNat : Int) := by omega
    have hw := rwraps_len (Sp.rnum r13).toNat r14
    rw [hx] at hw
    rw [e]
    refine readw_loop s _ _ _ _ _ _ _ _ _ _ _ _ _ _ _ (Sp.rnum r13).toNat r14 q14 ?_ ?_
    · intro l r' hl
      rw [hx] at hl
      subst hl
      have hb := rbox_len r11
      have hli := rlist_len r9
      exact mid_of (Nat.le_trans (rtext_len _) q0) (Nat.le_trans (rtext_len _) q2) (Nat.le_trans (rtext_len _) q5) (Nat.le_trans (rtext_len _) q6) (Nat.le_trans (rtext_len _) q8) (Nat.le_trans (rtext_len _) q10) ⟨by omega, by omega, by omega⟩
        ⟨by omega, fun x hx => Nat.le_trans (hli.2 x hx) q9⟩ ⟨by have := hw.1; simp only at this; omega, fun w hw' => by have := hw.2 w hw'; exact ⟨this.1, this.2.1, by omega⟩⟩
        ⟨rnum_i64 _, rnum_i64 _, rnum_i64 _, rnum_i64 _, rnum_i64 _, rnum_i64 _, rnum_i64 _, rnum_i64 _, rnum_i64 _⟩
    · intro l r' v hl hv
      rw [hx] at hl
      subst hl
      rw [hA] at hR
      simp only at hR hA hv
      refine bc_split (fun hc => ?_) (fun hc => ?_)
      · refine .inl ⟨rfl, ?_⟩
        rw [hR]
        exact (congrArg (fun c => bif c then (Sp.zeroAct, false) else _) hc)
      · refine .inr ⟨?_, v, hv, rfl⟩
        rw [hR, hA]
        exact (congrArg (fun c => bif c then (Sp.zeroAct, false) else _) hc)
  · rintro v L (⟨rfl, h1⟩ | ⟨h1, w, hw, rfl⟩)
    · rw [h1]
      refine ⟨_, ⟨rfl, rfl⟩, fun G w v hv => ?_⟩
      simp only [Rep] at hv ⊢
      obtain ⟨vs, e, h⟩ := hv
      exact ⟨vs, e, repL_weak (.cons (fun v hv => rep_zeroAct G w v hv) (.cons (fun _ h => h) .nil)) vs h⟩
    · rw [h1, hA]
      refine ⟨_, ⟨rfl, ?_⟩, fun G w' v hv => ?_⟩
      · rfl
      simp only [Rep] at hv
      obtain ⟨vs, e, h⟩ := hv
      simp only [Rep]
      refine ⟨vs, e, repL_weak (.cons (fun v hv => ?_) (.cons (fun _ h => h) .nil)) vs h⟩
      simp only [Rep] at hv
      obtain ⟨us, e, h⟩ := hv
      show ∃ us : List Value, v = .agg us.toArray ∧ RepL G w' _ us
      refine ⟨us, e, repL_weak ?_ us h⟩
      have hwk : ∀ v, Rep G w' w v → Rep G w' (.sl WrapT x.1) v := by
        intro v hv
        rcases hw with ⟨rfl, h2⟩ | rfl
        · rw [h2]; exact nil_sl G w' v hv
        · exact hv
      refine .cons (fun _ h => h) (.cons (fun _ h => h) (.cons (fun _ h => h) (.cons (fun _ h => h) (.cons (fun _ h => h) (.cons (fun _ h => h) (.cons (fun _ h => h) (.cons (fun _ h => h) (.cons (fun _ h => h) (.cons (fun _ h => h) (.cons (fun _ h => h) (.cons (fun _ h => h) (.cons (fun _ h => h) (.cons (fun _ h => h) (.cons (fun _ h => h) (.cons hwk ?_)))))))))))))))
      exact .cons (fun _ h => h) (.cons (fun _ h => h) (.cons (fun _ h => h) (.cons (fun _ h => h) .nil)))
--Q
def k_Read : PCon Tryd.prog := mkP [.str] 10 (fun x => some (Sp.readOk x.1)) (fun x => .tup [ActT.toAV (Sp.aRead x.1).1, .bool (Sp.aRead x.1).2]) (fun x h => ok_Read x.1 h) en_Read
end Go.Proofs.YtmkjbdimmgkfdaaDoor
namespace Go.Proofs.YtmkjbdimmgkfdaaDoor
open Go Go.Proofs.YtmkjbdimmgkfdaaDoor.Ax
set_option linter.unusedVariables false
set_option maxRecDepth 100000

abbrev h_few : Hints := keepH [(0, [1, 3, 4]), (2, [1, 3, 5])] false
theorem hf_few : Tryd.prog.funcs[9]? = some Tryd.f9 := by kernel_rfl
theorem en_few : Go.Proofs.YtmkjbdimmgkfdaaDoor.Ax.Enters Tryd.prog 9 := entersOf Tryd.f9 hf_few (by kernel_rfl) (by kernel_rfl)
def vc_few (aAu : Bs) (aSeq : Int) (aPrev : Bs) (aKind : Int) (aTime : Int) (aObj : Bs) (aTgt : Bs) (aScope : Int) (aGrp : Bs) (aTo : List Bs) (aText : Bs) (aBn : Bs) (aBd : Bs) (aBt : Bs) (aEp : Int) (aWr : List Sp.Wrap) (aN : Int) (aM : Int) (aE : Int) (aS : Int) (K : AV → St → Prop) : Prop :=
  ((!decide ((↑(List.length aTo) : Int) > (70 : Int))) = true → (!decide ((↑(List.length aTo) : Int) > (70 : Int))) = true → (!decide ((↑(List.length aTo) : Int) > (70 : Int))) = true) ∧ ((!decide ((↑(List.length aTo) : Int) > (70 : Int))) = true → (!decide ((↑(List.length aTo) : Int) > (70 : Int))) = true → (!decide ((↑(List.length aTo) : Int) > (70 : Int))) = true) ∧ ((!decide ((↑(List.length aTo) : Int) > (70 : Int))) = true → (!decide ((↑(List.length aTo) : Int) > (70 : Int))) = true → (!decide ((↑(List.length aTo) : Int) > (70 : Int))) = true) ∧ ((true && !decide ((↑(List.length aTo) : Int) > (70 : Int))) = true → (!decide ((↑(List.length aTo) : Int) > (70 : Int))) = true) ∧ bcase (bif decide ((↑(List.length aTo) : Int) > (70 : Int)) then true else decide ((↑(List.length aWr) : Int) > (70 : Int))) (K (AV.bool false) []) (LoopAt Tryd.prog cs0 h_few Tryd.f9 (0 : Nat) K (fun (fr : List AV) (L : List AObj) ↦ False) (0 : Nat) (frmA [((1 : Nat), AV.ptr (0 : Nat) (0 : Nat)), ((3 : Nat), AV.int IntKind.i64 (IntKind.wrap IntKind.i64 (IntKind.wrap IntKind.i64 (IntKind.wrap IntKind.i64 (IntKind.wrap IntKind.i64 (IntKind.wrap IntKind.i64 (IntKind.wrap IntKind.i64 (IntKind.wrap IntKind.i64 (IntKind.wrap IntKind.i64 ((↑(List.length aAu) : Int) + (↑(List.length aPrev) : Int)) + (↑(List.length aObj) : Int)) + (↑(List.length aTgt) : Int)) + (↑(List.length aGrp) : Int)) + (↑(List.length aText) : Int)) + (↑(List.length aBn) : Int)) + (↑(List.length aBd) : Int)) + (↑(List.length aBt) : Int)))), ((4 : Nat), AV.int IntKind.i64 (0 : Int))] (0 : Nat) (98 : Nat)) [AObj.box (29 : Nat) [AV.str aAu, AV.int IntKind.i64 aSeq, AV.str aPrev, AV.int IntKind.i64 aKind, AV.int IntKind.i64 aTime, AV.str aObj, AV.str aTgt, AV.int IntKind.i64 aScope, AV.str aGrp, AV.sl Ty.str aTo, AV.str aText, AV.str aBn, AV.str aBd, AV.str aBt, AV.int IntKind.i64 aEp, AV.sl WrapT aWr, AV.int IntKind.i64 aN, AV.int IntKind.i64 aM, AV.int IntKind.i64 aE, AV.int IntKind.i64 aS]])
theorem ev_few (aAu : Bs) (aSeq : Int) (aPrev : Bs) (aKind : Int) (aTime : Int) (aObj : Bs) (aTgt : Bs) (aScope : Int) (aGrp : Bs) (aTo : List Bs) (aText : Bs) (aBn : Bs) (aBd : Bs) (aBt : Bs) (aEp : Int) (aWr : List Sp.Wrap) (aN : Int) (aM : Int) (aE : Int) (aS : Int) (K : AV → St → Prop) : fnA Tryd.prog cs0 h_few Tryd.f9 [.agg [.str aAu, .int .i64 aSeq, .str aPrev, .int .i64 aKind, .int .i64 aTime, .str aObj, .str aTgt, .int .i64 aScope, .str aGrp, .sl .str aTo, .str aText, .str aBn, .str aBd, .str aBt, .int .i64 aEp, .sl WrapT aWr, .int .i64 aN, .int .i64 aM, .int .i64 aE, .int .i64 aS]] [] K = vc_few aAu aSeq aPrev aKind aTime aObj aTgt aScope aGrp aTo aText aBn aBd aBt aEp aWr aN aM aE aS K := by kernel_rfl
theorem go_few (aAu : Bs) (aSeq : Int) (aPrev : Bs) (aKind : Int) (aTime : Int) (aObj : Bs) (aTgt : Bs) (aScope : Int) (aGrp : Bs) (aTo : List Bs) (aText : Bs) (aBn : Bs) (aBd : Bs) (aBt : Bs) (aEp : Int) (aWr : List Sp.Wrap) (aN : Int) (aM : Int) (aE : Int) (aS : Int) {K : AV → St → Prop} (hvc : vc_few aAu aSeq aPrev aKind aTime aObj aTgt aScope aGrp aTo aText aBn aBd aBt aEp aWr aN aM aE aS K) : callA Tryd.prog 9 [.agg [.str aAu, .int .i64 aSeq, .str aPrev, .int .i64 aKind, .int .i64 aTime, .str aObj, .str aTgt, .int .i64 aScope, .str aGrp, .sl .str aTo, .str aText, .str aBn, .str aBd, .str aBt, .int .i64 aEp, .sl WrapT aWr, .int .i64 aN, .int .i64 aM, .int .i64 aE, .int .i64 aS]] [] K :=
  callA_of (P := Tryd.prog) (cs := cs0) (H := h_few) (f := 9) (fn := Tryd.f9) (args := [.agg [.str aAu, .int .i64 aSeq, .str aPrev, .int .i64 aKind, .int .i64 aTime, .str aObj, .str aTgt, .int .i64 aScope, .str aGrp, .sl .str aTo, .str aText, .str aBn, .str aBd, .str aBt, .int .i64 aEp, .sl WrapT aWr, .int .i64 aN, .int .i64 aM, .int .i64 aE, .int .i64 aS]]) (L := []) (K := K) hf_few (Eq.mpr (ev_few aAu aSeq aPrev aKind aTime aObj aTgt aScope aGrp aTo aText aBn aBd aBt aEp aWr aN aM aE aS K) hvc)
def vr_fewT (aAu : Bs) (aSeq : Int) (aPrev : Bs) (aKind : Int) (aTime : Int) (aObj : Bs) (aTgt : Bs) (aScope : Int) (aGrp : Bs) (aTo : List Bs) (aText : Bs) (aBn : Bs) (aBd : Bs) (aBt : Bs) (aEp : Int) (aWr : List Sp.Wrap) (aN : Int) (aM : Int) (aE : Int) (aS : Int) (n i : Int) (K : AV → St → Prop) (Nx N : List AV → St → Prop) : Prop :=
  bcase (decide (i < (↑(List.length aTo) : Int))) (((0 : Int) ≤ i ∧ i < (↑(List.length aTo) : Int)) ∧ N (frmA [((1 : Nat), AV.ptr (0 : Nat) (0 : Nat)), ((3 : Nat), AV.int IntKind.i64 (IntKind.wrap IntKind.i64 (n + (↑(List.length (List.getD aTo (Int.toNat i) (Ty.dflt Ty.str))) : Int)))), ((4 : Nat), AV.int IntKind.i64 (IntKind.wrap IntKind.i64 (i + (1 : Int))))] (0 : Nat) (98 : Nat)) [AObj.box (29 : TypeId) [AV.str aAu, AV.int IntKind.i64 aSeq, AV.str aPrev, AV.int IntKind.i64 aKind, AV.int IntKind.i64 aTime, AV.str aObj, AV.str aTgt, AV.int IntKind.i64 aScope, AV.str aGrp, AV.sl Ty.str aTo, AV.str aText, AV.str aBn, AV.str aBd, AV.str aBt, AV.int IntKind.i64 aEp, AV.sl WrapT aWr, AV.int IntKind.i64 aN, AV.int IntKind.i64 aM, AV.int IntKind.i64 aE, AV.int IntKind.i64 aS]]) (LoopAt Tryd.prog cs0 h_few Tryd.f9 (0 : Nat) K N (1 : Nat) (frmA [((1 : Nat), AV.ptr (0 : Nat) (0 : Nat)), ((3 : Nat), AV.int IntKind.i64 n), ((5 : Nat), AV.int IntKind.i64 (0 : Int))] (0 : Nat) (98 : Nat)) [AObj.box (29 : TypeId) [AV.str aAu, AV.int IntKind.i64 aSeq, AV.str aPrev, AV.int IntKind.i64 aKind, AV.int IntKind.i64 aTime, AV.str aObj, AV.str aTgt, AV.int IntKind.i64 aScope, AV.str aGrp, AV.sl Ty.str aTo, AV.str aText, AV.str aBn, AV.str aBd, AV.str aBt, AV.int IntKind.i64 aEp, AV.sl WrapT aWr, AV.int IntKind.i64 aN, AV.int IntKind.i64 aM, AV.int IntKind.i64 aE, AV.int IntKind.i64 aS]])
theorem er_fewT (aAu : Bs) (aSeq : Int) (aPrev : Bs) (aKind : Int) (aTime : Int) (aObj : Bs) (aTgt : Bs) (aScope : Int) (aGrp : Bs) (aTo : List Bs) (aText : Bs) (aBn : Bs) (aBd : Bs) (aBt : Bs) (aEp : Int) (aWr : List Sp.Wrap) (aN : Int) (aM : Int) (aE : Int) (aS : Int) (n i : Int) (K : AV → St → Prop) (Nx N : List AV → St → Prop) : RoundAt Tryd.prog cs0 h_few Tryd.f9 0 K Nx 0 1 N (frmA [(1, .ptr 0 0), (3, .int .i64 n), (4, .int .i64 i)] 0 Tryd.f9.ntmps) [.box 29 [.str aAu, .int .i64 aSeq, .str aPrev, .int .i64 aKind, .int .i64 aTime, .str aObj, .str aTgt, .int .i64 aScope, .str aGrp, .sl .str aTo, .str aText, .str aBn, .str aBd, .str aBt, .int .i64 aEp, .sl WrapT aWr, .int .i64 aN, .int .i64 aM, .int .i64 aE, .int .i64 aS]] = vr_fewT aAu aSeq aPrev aKind aTime aObj aTgt aScope aGrp aTo aText aBn aBd aBt aEp aWr aN aM aE aS n i K Nx N := by kernel_rfl
theorem gr_fewT (aAu : Bs) (aSeq : Int) (aPrev : Bs) (aKind : Int) (aTime : Int) (aObj : Bs) (aTgt : Bs) (aScope : Int) (aGrp : Bs) (aTo : List Bs) (aText : Bs) (aBn : Bs) (aBd : Bs) (aBt : Bs) (aEp : Int) (aWr : List Sp.Wrap) (aN : Int) (aM : Int) (aE : Int) (aS : Int) (n i : Int) {K : AV → St → Prop} {Nx N : List AV → St → Prop} (hvc : vr_fewT aAu aSeq aPrev aKind aTime aObj aTgt aScope aGrp aTo aText aBn aBd aBt aEp aWr aN aM aE aS n i K Nx N) : RoundAt Tryd.prog cs0 h_few Tryd.f9 0 K Nx 0 1 N (frmA [(1, .ptr 0 0), (3, .int .i64 n), (4, .int .i64 i)] 0 Tryd.f9.ntmps) [.box 29 [.str aAu, .int .i64 aSeq, .str aPrev, .int .i64 aKind, .int .i64 aTime, .str aObj, .str aTgt, .int .i64 aScope, .str aGrp, .sl .str aTo, .str aText, .str aBn, .str aBd, .str aBt, .int .i64 aEp, .sl WrapT aWr, .int .i64 aN, .int .i64 aM, .int .i64 aE, .int .i64 aS]] := Eq.mpr (er_fewT aAu aSeq aPrev aKind aTime aObj aTgt aScope aGrp aTo aText aBn aBd aBt aEp aWr aN aM aE aS n i K Nx N) hvc
def vr_fewW (aAu : Bs) (aSeq : Int) (aPrev : Bs) (aKind : Int) (aTime : Int) (aObj : Bs) (aTgt : Bs) (aScope : Int) (aGrp : Bs) (aTo : List Bs) (aText : Bs) (aBn : Bs) (aBd : Bs) (aBt : Bs) (aEp : Int) (aWr : List Sp.Wrap) (aN : Int) (aM : Int) (aE : Int) (aS : Int) (n i : Int) (K : AV → St → Prop) (Nx N : List AV → St → Prop) : Prop :=
  bcase (decide (i < (↑(List.length aWr) : Int))) (((0 : Int) ≤ i ∧ i < (↑(List.length aWr) : Int)) ∧ N (frmA [((1 : Nat), AV.ptr (0 : Nat) (0 : Nat)), ((3 : Nat), AV.int IntKind.i64 (IntKind.wrap IntKind.i64 (IntKind.wrap IntKind.i64 (IntKind.wrap IntKind.i64 (n + (↑(List.length (Prod.fst (Prod.snd (Prod.snd (List.getD aWr (Int.toNat i) (Ty.dflt WrapT)))))) : Int)) + (↑(List.length (Prod.fst (Prod.snd (Prod.snd (Prod.snd (List.getD aWr (Int.toNat i) (Ty.dflt WrapT))))))) : Int)) + (↑(List.length (Prod.snd (Prod.snd (Prod.snd (Prod.snd (List.getD aWr (Int.toNat i) (Ty.dflt WrapT))))))) : Int)))), ((5 : Nat), AV.int IntKind.i64 (IntKind.wrap IntKind.i64 (i + (1 : Int))))] (0 : Nat) (98 : Nat)) [AObj.box (29 : TypeId) [AV.str aAu, AV.int IntKind.i64 aSeq, AV.str aPrev, AV.int IntKind.i64 aKind, AV.int IntKind.i64 aTime, AV.str aObj, AV.str aTgt, AV.int IntKind.i64 aScope, AV.str aGrp, AV.sl Ty.str aTo, AV.str aText, AV.str aBn, AV.str aBd, AV.str aBt, AV.int IntKind.i64 aEp, AV.sl WrapT aWr, AV.int IntKind.i64 aN, AV.int IntKind.i64 aM, AV.int IntKind.i64 aE, AV.int IntKind.i64 aS]]) (K (AV.bool (decide (n ≤ (10000 : Int)))) [])
theorem er_fewW (aAu : Bs) (aSeq : Int) (aPrev : Bs) (aKind : Int) (aTime : Int) (aObj : Bs) (aTgt : Bs) (aScope : Int) (aGrp : Bs) (aTo : List Bs) (aText : Bs) (aBn : Bs) (aBd : Bs) (aBt : Bs) (aEp : Int) (aWr : List Sp.Wrap) (aN : Int) (aM : Int) (aE : Int) (aS : Int) (n i : Int) (K : AV → St → Prop) (Nx N : List AV → St → Prop) : RoundAt Tryd.prog cs0 h_few Tryd.f9 0 K Nx 1 1 N (frmA [(1, .ptr 0 0), (3, .int .i64 n), (5, .int .i64 i)] 0 Tryd.f9.ntmps) [.box 29 [.str aAu, .int .i64 aSeq, .str aPrev, .int .i64 aKind, .int .i64 aTime, .str aObj, .str aTgt, .int .i64 aScope, .str aGrp, .sl .str aTo, .str aText, .str aBn, .str aBd, .str aBt, .int .i64 aEp, .sl WrapT aWr, .int .i64 aN, .int .i64 aM, .int .i64 aE, .int .i64 aS]] = vr_fewW aAu aSeq aPrev aKind aTime aObj aTgt aScope aGrp aTo aText aBn aBd aBt aEp aWr aN aM aE aS n i K Nx N := by kernel_rfl
theorem gr_fewW (aAu : Bs) (aSeq : Int) (aPrev : Bs) (aKind : Int) (aTime : Int) (aObj : Bs) (aTgt : Bs) (aScope : Int) (aGrp : Bs) (aTo : List Bs) (aText : Bs) (aBn : Bs) (aBd : Bs) (aBt : Bs) (aEp : Int) (aWr : List Sp.Wrap) (aN : Int) (aM : Int) (aE : Int) (aS : Int) (n i : Int) {K : AV → St → Prop} {Nx N : List AV → St → Prop} (hvc : vr_fewW aAu aSeq aPrev aKind aTime aObj aTgt aScope aGrp aTo aText aBn aBd aBt aEp aWr aN aM aE aS n i K Nx N) : RoundAt Tryd.prog cs0 h_few Tryd.f9 0 K Nx 1 1 N (frmA [(1, .ptr 0 0), (3, .int .i64 n), (5, .int .i64 i)] 0 Tryd.f9.ntmps) [.box 29 [.str aAu, .int .i64 aSeq, .str aPrev, .int .i64 aKind, .int .i64 aTime, .str aObj, .str aTgt, .int .i64 aScope, .str aGrp, .sl .str aTo, .str aText, .str aBn, .str aBd, .str aBt, .int .i64 aEp, .sl WrapT aWr, .int .i64 aN, .int .i64 aM, .int .i64 aE, .int .i64 aS]] := Eq.mpr (er_fewW aAu aSeq aPrev aKind aTime aObj aTgt aScope aGrp aTo aText aBn aBd aBt aEp aWr aN aM aE aS n i K Nx N) hvc
namespace Sp
def s48 (s : Bs) : Prop := s.length < 281474976710656
def fewOk : Act → Prop
  | (au, seq, prev, kind, time, obj, tgt, scope, grp, to, tx, (bn, bd, bt), ep, wr, n, m, e, s) => (s48 au ∧ s48 prev ∧ s48 obj ∧ s48 tgt ∧ s48 grp ∧ s48 tx ∧ s48 bn ∧ s48 bd ∧ s48 bt) ∧ (∀ x ∈ to, s48 x) ∧ (∀ w ∈ wr, s48 w.2.2.1 ∧ s48 w.2.2.2.1 ∧ s48 w.2.2.2.2)
def strSum : Act → Nat
  | (au, seq, prev, kind, time, obj, tgt, scope, grp, to, tx, (bn, bd, bt), ep, wr, n, m, e, s) => au.length + prev.length + obj.length + tgt.length + grp.length + tx.length + bn.length + bd.length + bt.length
def toSum (l : List Bs) : Nat := (l.map List.length).sum
def boxLen (w : Wrap) : Nat := w.2.2.1.length + w.2.2.2.1.length + w.2.2.2.2.length
def wrSum (l : List Wrap) : Nat := (l.map boxLen).sum
def few : Act → Bool
  | (au, seq, prev, kind, time, obj, tgt, scope, grp, to, tx, (bn, bd, bt), ep, wr, n, m, e, s) => decide (to.length ≤ 70) && (decide (wr.length ≤ 70) && decide (strSum (au, seq, prev, kind, time, obj, tgt, scope, grp, to, tx, (bn, bd, bt), ep, wr, n, m, e, s) + toSum to + wrSum wr ≤ 10000))
end Sp
theorem toSum_succ (l : List Bs) (i : Nat) (h : i < l.length) : Sp.toSum (l.take (i + 1)) = Sp.toSum (l.take i) + (l.getD i []).length := by
  unfold Sp.toSum
  rw [getD_get l [] i h, List.take_succ_eq_append_getElem h, List.map_append, List.sum_append]
  simp
theorem wrSum_succ0 (l : List Sp.Wrap) (d : Sp.Wrap) (i : Nat) (h : i < l.length) : Sp.wrSum (l.take (i + 1)) = Sp.wrSum (l.take i) + Sp.boxLen (l.getD i d) := by
  unfold Sp.wrSum
  rw [getD_get l d i h, List.take_succ_eq_append_getElem h, List.map_append, List.sum_append]
  simp
theorem wrSum_succ (l : List Sp.Wrap) (i : Nat) (h : i < l.length) : Sp.wrSum (l.take (i + 1)) = Sp.wrSum (l.take i) + Sp.boxLen (l.getD i (Ty.dflt WrapT)) := wrSum_succ0 l (Ty.dflt WrapT) i h
theorem toSum_le (l : List Bs) (h : ∀ x ∈ l, Sp.s48 x) : ∀ i, i ≤ l.length → Sp.toSum (l.take i) ≤ i * 281474976710656
  | 0, _ => by simp [Sp.toSum]
  | i + 1, hi => by
    rw [toSum_succ l i (by omega), Nat.succ_mul]
    have h1 := toSum_le l h i (by omega)
    have h2 := h _ (getD_memG l [] i (by omega))
    unfold Sp.s48 at h2
    omega
theorem wrSum_le (l : List Sp.Wrap) (h : ∀ w ∈ l, Sp.s48 w.2.2.1 ∧ Sp.s48 w.2.2.2.1 ∧ Sp.s48 w.2.2.2.2) : ∀ i, i ≤ l.length → Sp.wrSum (l.take i) ≤ i * 844424930131968
  | 0, _ => by simp [Sp.wrSum]
  | i + 1, hi => by
    rw [wrSum_succ l i (by omega), Nat.succ_mul]
    have h1 := wrSum_le l h i (by omega)
    obtain ⟨h2, h3, h4⟩ := h (l.getD i (Ty.dflt WrapT)) (getD_memG l (Ty.dflt WrapT) i (by omega))
    unfold Sp.s48 at h2 h3 h4
    unfold Sp.boxLen
    omega
theorem few_shape (aAu : Bs) (aSeq : Int) (aPrev : Bs) (aKind : Int) (aTime : Int) (aObj : Bs) (aTgt : Bs) (aScope : Int) (aGrp : Bs) (aTo : List Bs) (aText : Bs) (aBn : Bs) (aBd : Bs) (aBt : Bs) (aEp : Int) (aWr : List Sp.Wrap) (aN : Int) (aM : Int) (aE : Int) (aS : Int) : Sp.few (aAu, aSeq, aPrev, aKind, aTime, aObj, aTgt, aScope, aGrp, aTo, aText, (aBn, aBd, aBt), aEp, aWr, aN, aM, aE, aS) = (decide (aTo.length ≤ 70) && (decide (aWr.length ≤ 70) && decide (Sp.strSum (aAu, aSeq, aPrev, aKind, aTime, aObj, aTgt, aScope, aGrp, aTo, aText, (aBn, aBd, aBt), aEp, aWr, aN, aM, aE, aS) + Sp.toSum aTo + Sp.wrSum aWr ≤ 10000))) := rfl
theorem nine_sum {a b c d e f g h i : Nat} (ha : a < 281474976710656) (hb : b < 281474976710656) (hc : c < 281474976710656) (hd : d < 281474976710656) (he : e < 281474976710656) (hf : f < 281474976710656) (hg : g < 281474976710656) (hh : h < 281474976710656) (hi : i < 281474976710656) :
    IntKind.wrap IntKind.i64 (IntKind.wrap IntKind.i64 (IntKind.wrap IntKind.i64 (IntKind.wrap IntKind.i64 (IntKind.wrap IntKind.i64 (IntKind.wrap IntKind.i64 (IntKind.wrap IntKind.i64 (IntKind.wrap IntKind.i64 ((a : Int) + (b : Int)) + (c : Int)) + (d : Int)) + (e : Int)) + (f : Int)) + (g : Int)) + (h : Int)) + (i : Int)) = ((a + b + c + d + e + f + g + h + i : Nat) : Int) ∧ a + b + c + d + e + f + g + h + i < 2533274790395904 := by
  rw [wrap64 ((a : Int) + (b : Int)) (by omega) (by omega), wrap64 ((a : Int) + (b : Int) + (c : Int)) (by omega) (by omega), wrap64 ((a : Int) + (b : Int) + (c : Int) + d) (by omega) (by omega), wrap64 ((a : Int) + (b : Int) + (c : Int) + d + e) (by omega) (by omega), wrap64 ((a : Int) + (b : Int) + (c : Int) + d + e + f) (by omega) (by omega), wrap64 ((a : Int) + (b : Int) + (c : Int) + d + e + f + g) (by omega) (by omega), wrap64 ((a : Int) + (b : Int) + (c : Int) + d + e + f + g + h) (by omega) (by omega), wrap64 ((a : Int) + (b : Int) + (c : Int) + d + e + f + g + h + i) (by omega) (by omega)]
  exact ⟨by omega, by omega⟩
theorem ok_few (a : Sp.Act) (h : Sp.fewOk a) : callA Tryd.prog 9 [ActT.toAV a] [] (fun r _ => r = .bool (Sp.few a) ∧ below 0 r = true) := by
  obtain ⟨aAu, aSeq, aPrev, aKind, aTime, aObj, aTgt, aScope, aGrp, aTo, aText, ⟨aBn, aBd, aBt⟩, aEp, aWr, aN, aM, aE, aS⟩ := a
  obtain ⟨⟨h1, h2, h3, h4, h5, h6, h7, h8, h9⟩, hto, hwr⟩ := h
  obtain ⟨hn, hb⟩ := nine_sum h1 h2 h3 h4 h5 h6 h7 h8 h9
  refine go_few aAu aSeq aPrev aKind aTime aObj aTgt aScope aGrp aTo aText aBn aBd aBt aEp aWr aN aM aE aS ?_
  unfold vc_few
  refine ⟨fun h _ => h, fun h _ => h, fun h _ => h, fun h => h, ?_⟩
  rw [hn]
  have hsh := few_shape aAu aSeq aPrev aKind aTime aObj aTgt aScope aGrp aTo aText aBn aBd aBt aEp aWr aN aM aE aS
  have hsum : Sp.strSum (aAu, aSeq, aPrev, aKind, aTime, aObj, aTgt, aScope, aGrp, aTo, aText, (aBn, aBd, aBt), aEp, aWr, aN, aM, aE, aS) = aAu.length + aPrev.length + aObj.length + aTgt.length + aGrp.length + aText.length + aBn.length + aBd.length + aBt.length := rfl
  rw [← hsum] at hb ⊢
  generalize hN : Sp.strSum (aAu, aSeq, aPrev, aKind, aTime, aObj, aTgt, aScope, aGrp, aTo, aText, (aBn, aBd, aBt), aEp, aWr, aN, aM, aE, aS) = N at *
  by_cases c1 : ¬ aTo.length ≤ 70
  · have d1 : decide ((aTo.length : Int) > 70) = true := decide_eq_true (by omega)
    rw [d1, cond_true, bcase_t, hsh, decide_eq_false c1]
    exact ⟨rfl, rfl⟩
  replace c1 := Decidable.not_not.1 c1
  have d1 : decide ((aTo.length : Int) > 70) = false := decide_eq_false (by omega)
  rw [d1, cond_false]
  by_cases c2 : ¬ aWr.length ≤ 70
  · have d2 : decide ((aWr.length : Int) > 70) = true := decide_eq_true (by omega)
    rw [d2, bcase_t, hsh, decide_eq_true c1, decide_eq_false c2]
    exact ⟨rfl, rfl⟩
  replace c2 := Decidable.not_not.1 c2
  have d2 : decide ((aWr.length : Int) > 70) = false := decide_eq_false (by omega)
  rw [d2, bcase_f]
  refine loopAt_st (σ := Nat) (fun i => frmA [(1, .ptr 0 0), (3, .int .i64 ((N + Sp.toSum (aTo.take i) : Nat) : Int)), (4, .int .i64 (i : Int))] 0 98) (fun _ => [.box 29 [.str aAu, .int .i64 aSeq, .str aPrev, .int .i64 aKind, .int .i64 aTime, .str aObj, .str aTgt, .int .i64 aScope, .str aGrp, .sl .str aTo, .str aText, .str aBn, .str aBd, .str aBt, .int .i64 aEp, .sl WrapT aWr, .int .i64 aN, .int .i64 aM, .int .i64 aE, .int .i64 aS]]) (fun i => aTo.length - i) (fun i => i ≤ aTo.length) [1, 3, 4] (by intros; rfl) ?_ 0 (by omega) rfl rfl
  intro i hi
  refine gr_fewT aAu aSeq aPrev aKind aTime aObj aTgt aScope aGrp aTo aText aBn aBd aBt aEp aWr aN aM aE aS ((N + Sp.toSum (aTo.take i) : Nat) : Int) i ?_
  unfold vr_fewT
  have hle := toSum_le aTo hto i hi
  by_cases hlt : i < aTo.length
  · have hd : decide ((i : Int) < (aTo.length : Int)) = true := decide_eq_true (by omega)
    have hx : (aTo.getD i []).length < 281474976710656 := hto _ (getD_memG aTo [] i hlt)
    have e0 : List.getD aTo i (Ty.dflt Ty.str) = aTo.getD i [] := rfl
    have ei : Int.toNat (i : Int) = i := by omega
    rw [hd, bcase_t, ei, e0, wrap64 ((i : Int) + 1) (by omega) (by omega), wrap64 _ (by omega) (by omega)]
    refine ⟨by omega, i + 1, by omega, by omega, ?_, rfl⟩
    rw [toSum_succ aTo i hlt]
    have e1 : ((N + Sp.toSum (aTo.take i) : Nat) : Int) + ((aTo.getD i []).length : Int) = ((N + (Sp.toSum (aTo.take i) + (aTo.getD i []).length) : Nat) : Int) := by omega
    rw [e1]
    rfl
  have hd : decide ((i : Int) < (aTo.length : Int)) = false := decide_eq_false (by omega)
  rw [hd, bcase_f]
  have hil : i = aTo.length := by omega
  subst hil
  rw [List.take_length] at hle ⊢
  generalize hM : N + Sp.toSum aTo = M at *
  have hMb : M < 281474976710656000 := by omega
  refine loopAt_st (σ := Nat) (fun i => frmA [(1, .ptr 0 0), (3, .int .i64 ((M + Sp.wrSum (aWr.take i) : Nat) : Int)), (5, .int .i64 (i : Int))] 0 98) (fun _ => [.box 29 [.str aAu, .int .i64 aSeq, .str aPrev, .int .i64 aKind, .int .i64 aTime, .str aObj, .str aTgt, .int .i64 aScope, .str aGrp, .sl .str aTo, .str aText, .str aBn, .str aBd, .str aBt, .int .i64 aEp, .sl WrapT aWr, .int .i64 aN, .int .i64 aM, .int .i64 aE, .int .i64 aS]]) (fun i => aWr.length - i) (fun i => i ≤ aWr.length) [1, 3, 5] (by intros; rfl) ?_ 0 (by omega) rfl rfl
  intro i hi
  refine gr_fewW aAu aSeq aPrev aKind aTime aObj aTgt aScope aGrp aTo aText aBn aBd aBt aEp aWr aN aM aE aS ((M + Sp.wrSum (aWr.take i) : Nat) : Int) i ?_
  unfold vr_fewW
  have hle := wrSum_le aWr hwr i hi
  by_cases hlt : i < aWr.length
  · have hd : decide ((i : Int) < (aWr.length : Int)) = true := decide_eq_true (by omega)
    have hx := hwr (aWr.getD i (Ty.dflt WrapT)) (getD_memG aWr (Ty.dflt WrapT) i hlt)
    have hstep := wrSum_succ aWr i hlt
    have ei : Int.toNat (i : Int) = i := by omega
    rw [hd, bcase_t, ei, wrap64 ((i : Int) + 1) (by omega) (by omega)]
    generalize List.getD aWr i (Ty.dflt WrapT) = w at hx hstep ⊢
    obtain ⟨wt, we, wn, wd, wg⟩ := w
    obtain ⟨x1, x2, x3⟩ := hx
    have x1' : wn.length < 281474976710656 := x1
    have x2' : wd.length < 281474976710656 := x2
    have x3' : wg.length < 281474976710656 := x3
    have hbl : Sp.boxLen (wt, we, wn, wd, wg) = wn.length + wd.length + wg.length := rfl
    rw [hbl] at hstep
    simp only
    rw [wrap64 (((M + Sp.wrSum (aWr.take i) : Nat) : Int) + (wn.length : Int)) (by omega) (by omega), wrap64 (((M + Sp.wrSum (aWr.take i) : Nat) : Int) + (wn.length : Int) + (wd.length : Int)) (by omega) (by omega), wrap64 _ (by omega) (by omega)]
    refine ⟨by omega, i + 1, by omega, by omega, ?_, by first | rfl | trivial⟩
    rw [hstep]
    have e1 : ((M + Sp.wrSum (aWr.take i) : Nat) : Int) + (wn.length : Int) + (wd.length : Int) + (wg.length : Int) = ((M + (Sp.wrSum (aWr.take i) + (wn.length + wd.length + wg.length)) : Nat) : Int) := by omega
    rw [e1]
    rfl
  have hd : decide ((i : Int) < (aWr.length : Int)) = false := decide_eq_false (by omega)
  rw [hd, bcase_f]
  have hil : i = aWr.length := by omega
  subst hil
  rw [List.take_length] at hle ⊢
  refine ⟨?_, rfl⟩
  rw [hsh, decide_eq_true c1, decide_eq_true c2, Bool.true_and, Bool.true_and]
  exact congrArg AV.bool (decide_eq_decide.2 (by omega))
--Q
def k_few : PCon Tryd.prog := mkP [ActT] 9 (fun x => some (Sp.fewOk x.1)) (fun x => .bool (Sp.few x.1)) (fun x h => ok_few x.1 h) en_few
end Go.Proofs.YtmkjbdimmgkfdaaDoor
