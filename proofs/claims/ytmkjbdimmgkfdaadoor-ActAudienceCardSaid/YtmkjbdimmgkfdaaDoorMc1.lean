/-
  Plain laws: writing, reading, signing, validity.
-/
import Derived.Test.YtmkjbdimmgkfdaaDoorMb6
namespace Go.Proofs.YtmkjbdimmgkfdaaDoor
open Go Go.Proofs.YtmkjbdimmgkfdaaDoor.Ax
set_option linter.unusedVariables false
set_option maxRecDepth 100000

theorem u8_lt {n : Nat} (h : n < 256) : (n.toUInt8).toNat = n := by simp; omega
/-- A varint is read back. -/
theorem rv_varint : ∀ (k n i acc : Nat) (rest : Bs), i + k = 8 → n < 128 ^ (k + 1) → (i = 0 ∨ 0 < n) → Sp.rv i acc (Sp.varint n ++ rest) = some (acc + n * 128 ^ i, rest)
  | k, n, i, acc, rest, hi, hn, h0 => by
    unfold Sp.varint
    by_cases h : n < 128
    · rw [if_pos h, List.singleton_append, Sp.rv, u8_lt (by omega), if_neg (by omega), if_neg (by omega), if_neg (by omega)]
    · rw [if_neg h, List.cons_append, Sp.rv, u8_lt (by omega), if_neg (by omega), if_pos (by omega)]
      cases k with
      | zero => exfalso; simp at hn; omega
      | succ k =>
        rw [rv_varint k (n / 128) (i + 1) _ rest (by omega) (by rw [Nat.pow_succ] at hn; omega) (.inr (by omega))]
        have e1 : (n % 128 + 128) % 128 = n % 128 := by omega
        have e2 : n = n / 128 * 128 + n % 128 := by omega
        rw [e1, Nat.pow_succ]
        have e3 : n * 128 ^ i = (n / 128) * (128 ^ i * 128) + n % 128 * 128 ^ i := by
          conv => lhs; rw [e2]
          rw [Nat.add_mul, Nat.mul_assoc, Nat.mul_comm 128]
        rw [e3]
        congr 2
        omega
theorem rv_num (n : Int) (h : 0 ≤ n) (h2 : n < 9223372036854775808) (rest : Bs) : Sp.rv 0 0 (Sp.num n ++ rest) = some (n.toNat, rest) := by
  unfold Sp.num
  rw [if_neg (by omega), rv_varint 8 n.toNat 0 0 rest rfl (by show n.toNat < 9223372036854775808; omega) (.inl rfl)]
  simp
/-- What may be written as a number. -/
def NN (n : Int) : Prop := 0 ≤ n ∧ n < 9223372036854775808
theorem rnum_num (n : Int) (h : NN n) (rest : Bs) (b : Bool) : Sp.rnum (Sp.num n ++ rest, b) = n := by
  unfold Sp.rnum
  simp only [rv_num n h.1 h.2 rest]
  exact Int.toNat_of_nonneg h.1
theorem rnumed_num (n : Int) (h : NN n) (rest : Bs) (b : Bool) : Sp.rnumed (Sp.num n ++ rest, b) = (rest, b) := by
  unfold Sp.rnumed
  simp only [rv_num n h.1 h.2 rest]
theorem rtext_text (s : Bs) (h : Sp.s40 s) (rest : Bs) : Sp.rtext (Sp.text s ++ rest, false) = s := by
  have h' : s.length < 1099511627776 := h
  have hn : NN (s.length : Int) := ⟨by omega, by omega⟩
  unfold Sp.rtext Sp.text Sp.take Sp.takeBad
  rw [List.append_assoc, rnum_num _ hn, rnumed_num _ hn]
  simp
  intro h1
  omega
theorem rtexted_text (s : Bs) (h : Sp.s40 s) (rest : Bs) : Sp.rtexted (Sp.text s ++ rest, false) = (rest, false) := by
  have h' : s.length < 1099511627776 := h
  have hn : NN (s.length : Int) := ⟨by omega, by omega⟩
  unfold Sp.rtexted Sp.text Sp.taken Sp.takeBad
  rw [List.append_assoc, rnum_num _ hn, rnumed_num _ hn]
  simp
  omega
theorem rmany_texts : ∀ (l : List Bs), (∀ x ∈ l, Sp.s40 x) → ∀ rest, Sp.rmany l.length (l.flatMap Sp.text ++ rest, false) = (l, (rest, false))
  | [], _, rest => rfl
  | x :: r, h, rest => by
    have hx := h x (by simp)
    rw [List.length_cons, Sp.rmany, List.flatMap_cons, List.append_assoc, rtext_text x hx, rtexted_text x hx, rmany_texts r (fun y hy => h y (by simp [hy])) rest]
    simp
theorem rstart_list (l : List Bs) (hl : l.length < 4294967296) (rest : Bs) : Sp.rnum (Sp.list l ++ rest, false) = (l.length : Int) ∧ Sp.rstart (Sp.list l ++ rest, false) = (l.flatMap Sp.text ++ rest, false) := by
  have hn : NN (l.length : Int) := ⟨by omega, by omega⟩
  have h1 := len_flatText l
  unfold Sp.rstart Sp.list
  rw [List.append_assoc, rnum_num _ hn, rnumed_num _ hn]
  refine ⟨rfl, if_neg ?_⟩
  unfold Sp.rdLen
  simp only [List.length_append]
  omega
theorem rlist_list (l : List Bs) (hl : l.length < 4294967296) (h : ∀ x ∈ l, Sp.s40 x) (rest : Bs) : Sp.rlist (Sp.list l ++ rest, false) = l ∧ Sp.rlisted (Sp.list l ++ rest, false) = (rest, false) := by
  obtain ⟨h1, h2⟩ := rstart_list l hl rest
  unfold Sp.rlist Sp.rlisted
  rw [h1, h2, Int.toNat_natCast, rmany_texts l h rest]
  exact ⟨rfl, rfl⟩
theorem rbox_box (b : Bs × Bs × Bs) (h1 : Sp.s40 b.1) (h2 : Sp.s40 b.2.1) (h3 : Sp.s40 b.2.2) (rest : Bs) : Sp.rbox (Sp.box b ++ rest, false) = b ∧ Sp.rboxed (Sp.box b ++ rest, false) = (rest, false) := by
  obtain ⟨n, d, t⟩ := b
  unfold Sp.rbox Sp.rboxed Sp.box
  rw [List.append_assoc, List.append_assoc, rtext_text n h1, rtexted_text n h1, rtext_text d h2, rtexted_text d h2, rtext_text t h3, rtexted_text t h3]
  exact ⟨rfl, rfl⟩
def wrapOk (w : Sp.Wrap) : Prop := NN w.1 ∧ NN w.2.1 ∧ Sp.s40 w.2.2.1 ∧ Sp.s40 w.2.2.2.1 ∧ Sp.s40 w.2.2.2.2
theorem rwraps_wraps : ∀ (l : List Sp.Wrap), (∀ w ∈ l, wrapOk w) → ∀ rest, Sp.rwraps l.length (l.flatMap Sp.wrapBytes ++ rest, false) = (l, (rest, false))
  | [], _, rest => rfl
  | w :: r, h, rest => by
    obtain ⟨h1, h2, h3, h4, h5⟩ := h w (by simp)
    have ih := rwraps_wraps r (fun y hy => h y (by simp [hy])) rest
    obtain ⟨wt, we, wb⟩ := w
    have e : List.flatMap Sp.wrapBytes ((wt, we, wb) :: r) ++ rest = Sp.num wt ++ (Sp.num we ++ (Sp.box wb ++ (r.flatMap Sp.wrapBytes ++ rest))) := by
      rw [List.flatMap_cons]; unfold Sp.wrapBytes; simp only [List.append_assoc]
    have hne : ¬ ((Sp.num wt ++ (Sp.num we ++ (Sp.box wb ++ (r.flatMap Sp.wrapBytes ++ rest))), false) : Sp.Rd).1 = [] := by
      intro hc
      exact num_pos wt h1.1 (List.append_eq_nil_iff.1 hc).1
    obtain ⟨b1, b2⟩ := rbox_box wb h3 h4 h5 (r.flatMap Sp.wrapBytes ++ rest)
    rw [List.length_cons, e, Sp.rwraps, if_neg hne, rnum_num wt h1, rnumed_num wt h1, rnum_num we h2, rnumed_num we h2, b1, b2, ih]
/-- An activity that is read back. -/
def backOk : Sp.Act → Prop
  | (au, seq, prev, kind, time, obj, tgt, scope, grp, to, tx, (bn, bd, bt), ep, wr, n, m, e, s) => (NN seq ∧ NN kind ∧ NN time ∧ NN scope ∧ NN ep ∧ NN n ∧ NN m ∧ NN e ∧ NN s) ∧ ∀ w ∈ wr, NN w.1 ∧ NN w.2.1
theorem mem_flat_le (l : List Bs) (h : (l.flatMap Sp.text).length < 1099511627776) : ∀ x ∈ l, Sp.s40 x := by
  intro x hx
  have h1 := flatMap_mem l x hx
  have h2 := text_len x
  unfold Sp.s40
  omega
theorem rAct_back (aAu : Bs) (aSeq : Int) (aPrev : Bs) (aKind : Int) (aTime : Int) (aObj : Bs) (aTgt : Bs) (aScope : Int) (aGrp : Bs) (aTo : List Bs) (aText : Bs) (aBn : Bs) (aBd : Bs) (aBt : Bs) (aEp : Int) (aWr : List Sp.Wrap) (aN : Int) (aM : Int) (aE : Int) (aS : Int) (hok : Sp.actOk (aAu, aSeq, aPrev, aKind, aTime, aObj, aTgt, aScope, aGrp, aTo, aText, (aBn, aBd, aBt), aEp, aWr, aN, aM, aE, aS)) (hb : backOk (aAu, aSeq, aPrev, aKind, aTime, aObj, aTgt, aScope, aGrp, aTo, aText, (aBn, aBd, aBt), aEp, aWr, aN, aM, aE, aS)) (rest : Bs) :
    Sp.rAct (Sp.text aAu ++ (Sp.num aSeq ++ (Sp.text aPrev ++ (Sp.num aKind ++ (Sp.num aTime ++ (Sp.text aObj ++ (Sp.text aTgt ++ (Sp.num aScope ++ (Sp.text aGrp ++ (Sp.list aTo ++ (Sp.text aText ++ (Sp.box (aBn, aBd, aBt) ++ (Sp.num aEp ++ (Sp.num (aWr.length : Int) ++ (aWr.flatMap Sp.wrapBytes ++ (Sp.num aN ++ (Sp.num aM ++ (Sp.num aE ++ (Sp.num aS ++ rest)))))))))))))))))), false) = ((aAu, aSeq, aPrev, aKind, aTime, aObj, aTgt, aScope, aGrp, aTo, aText, (aBn, aBd, aBt), aEp, aWr, aN, aM, aE, aS), (rest, false)) := by
  obtain ⟨⟨h1, h2, h3, h4, h5, h6, h7, h8, h9⟩, ⟨h10, h11⟩, ⟨h12, h13⟩, _, hw⟩ := hok
  obtain ⟨⟨i1, i2, i3, i4, i5, i6, i7, i8, i9⟩, hbw⟩ := hb
  have hws : ∀ w ∈ aWr, wrapOk w := by
    intro w hm
    have hs := mem_sum aWr w hm
    obtain ⟨b1, b2⟩ := hbw w hm
    have hwl : Sp.wrapLen w = w.2.2.1.length + w.2.2.2.1.length + w.2.2.2.2.length + 60 := rfl
    refine ⟨b1, b2, ?_, ?_, ?_⟩ <;> (unfold Sp.s40; omega)
  have nw : NN (aWr.length : Int) := ⟨by omega, by omega⟩
  have hl := fun rest => rlist_list aTo h10 (mem_flat_le aTo h11) rest
  have hbx := fun rest => rbox_box (aBn, aBd, aBt) h7 h8 h9 rest
  unfold Sp.rAct
  simp only [rtext_text aAu h1, rtexted_text aAu h1, rnum_num aSeq i1, rnumed_num aSeq i1, rtext_text aPrev h2, rtexted_text aPrev h2, rnum_num aKind i2, rnumed_num aKind i2, rnum_num aTime i3, rnumed_num aTime i3, rtext_text aObj h3, rtexted_text aObj h3, rtext_text aTgt h4, rtexted_text aTgt h4, rnum_num aScope i4, rnumed_num aScope i4, rtext_text aGrp h5, rtexted_text aGrp h5, (hl _).1, (hl _).2, rtext_text aText h6, rtexted_text aText h6, (hbx _).1, (hbx _).2, rnum_num aEp i5, rnumed_num aEp i5, rnum_num _ nw, rnumed_num _ nw, Int.toNat_natCast, rwraps_wraps aWr hws, rnum_num aN i6, rnumed_num aN i6, rnum_num aM i7, rnumed_num aM i7, rnum_num aE i8, rnumed_num aE i8, rnum_num aS i9, rnumed_num aS i9]
/-- All that is written of an activity. -/
theorem full_eq (aAu : Bs) (aSeq : Int) (aPrev : Bs) (aKind : Int) (aTime : Int) (aObj : Bs) (aTgt : Bs) (aScope : Int) (aGrp : Bs) (aTo : List Bs) (aText : Bs) (aBn : Bs) (aBd : Bs) (aBt : Bs) (aEp : Int) (aWr : List Sp.Wrap) (aN : Int) (aM : Int) (aE : Int) (aS : Int) (rest : Bs) : Sp.coreBytes (aAu, aSeq, aPrev, aKind, aTime, aObj, aTgt, aScope, aGrp, aTo, aText, (aBn, aBd, aBt), aEp, aWr, aN, aM, aE, aS) ++ Sp.num aE ++ Sp.num aS ++ rest = Sp.text [97, 99, 116] ++ (Sp.text aAu ++ (Sp.num aSeq ++ (Sp.text aPrev ++ (Sp.num aKind ++ (Sp.num aTime ++ (Sp.text aObj ++ (Sp.text aTgt ++ (Sp.num aScope ++ (Sp.text aGrp ++ (Sp.list aTo ++ (Sp.text aText ++ (Sp.box (aBn, aBd, aBt) ++ (Sp.num aEp ++ (Sp.num (aWr.length : Int) ++ (aWr.flatMap Sp.wrapBytes ++ (Sp.num aN ++ (Sp.num aM ++ (Sp.num aE ++ (Sp.num aS ++ rest))))))))))))))))))) := by
  have e : Sp.text [97, 99, 116] = [3, 97, 99, 116] := by decide +kernel
  rw [e]
  unfold Sp.coreBytes Sp.pieces
  simp only [List.flatten_cons, List.flatten_nil, List.append_nil, List.append_assoc]
theorem back_full (a : Sp.Act) (hok : Sp.actOk a) (hb : backOk a) (rest : Bs) : Sp.rtext (Sp.coreBytes a ++ Sp.num (Sp.sigOf a).1 ++ Sp.num (Sp.sigOf a).2 ++ rest, false) = [97, 99, 116] ∧ Sp.rAct (Sp.rtexted (Sp.coreBytes a ++ Sp.num (Sp.sigOf a).1 ++ Sp.num (Sp.sigOf a).2 ++ rest, false)) = (a, (rest, false)) := by
  obtain ⟨aAu, aSeq, aPrev, aKind, aTime, aObj, aTgt, aScope, aGrp, aTo, aText, ⟨aBn, aBd, aBt⟩, aEp, aWr, aN, aM, aE, aS⟩ := a
  have hs : Sp.s40 [97, 99, 116] := by show (3 : Nat) < _; omega
  show Sp.rtext (Sp.coreBytes (aAu, aSeq, aPrev, aKind, aTime, aObj, aTgt, aScope, aGrp, aTo, aText, (aBn, aBd, aBt), aEp, aWr, aN, aM, aE, aS) ++ Sp.num aE ++ Sp.num aS ++ rest, false) = [97, 99, 116] ∧ Sp.rAct (Sp.rtexted (Sp.coreBytes (aAu, aSeq, aPrev, aKind, aTime, aObj, aTgt, aScope, aGrp, aTo, aText, (aBn, aBd, aBt), aEp, aWr, aN, aM, aE, aS) ++ Sp.num aE ++ Sp.num aS ++ rest, false)) = _
  rw [full_eq aAu aSeq aPrev aKind aTime aObj aTgt aScope aGrp aTo aText aBn aBd aBt aEp aWr aN aM aE aS rest, rtext_text _ hs, rtexted_text _ hs, rAct_back aAu aSeq aPrev aKind aTime aObj aTgt aScope aGrp aTo aText aBn aBd aBt aEp aWr aN aM aE aS hok hb rest]
  exact ⟨rfl, rfl⟩
theorem core_right (a : Sp.Act) (h : Sp.right a = true) : Sp.core a = Sp.coreBytes a := by unfold Sp.core; rw [h]; rfl
theorem coreBytes_ne (a : Sp.Act) : Sp.coreBytes a ≠ [] := by
  obtain ⟨aAu, aSeq, aPrev, aKind, aTime, aObj, aTgt, aScope, aGrp, aTo, aText, ⟨aBn, aBd, aBt⟩, aEp, aWr, aN, aM, aE, aS⟩ := a
  intro h
  have := congrArg List.length h
  unfold Sp.coreBytes Sp.pieces at this
  simp at this
theorem bytes_right (a : Sp.Act) (h : Sp.right a = true) : Sp.bytes a = Sp.coreBytes a ++ Sp.num (Sp.sigOf a).1 ++ Sp.num (Sp.sigOf a).2 := by
  have hc := core_right a h
  have hne := coreBytes_ne a
  obtain ⟨aAu, aSeq, aPrev, aKind, aTime, aObj, aTgt, aScope, aGrp, aTo, aText, ⟨aBn, aBd, aBt⟩, aEp, aWr, aN, aM, aE, aS⟩ := a
  show (bif Sp.core (aAu, aSeq, aPrev, aKind, aTime, aObj, aTgt, aScope, aGrp, aTo, aText, (aBn, aBd, aBt), aEp, aWr, aN, aM, aE, aS) == [] then [] else Sp.core (aAu, aSeq, aPrev, aKind, aTime, aObj, aTgt, aScope, aGrp, aTo, aText, (aBn, aBd, aBt), aEp, aWr, aN, aM, aE, aS) ++ Sp.num aE ++ Sp.num aS) = _
  rw [hc]
  have : (Sp.coreBytes (aAu, aSeq, aPrev, aKind, aTime, aObj, aTgt, aScope, aGrp, aTo, aText, (aBn, aBd, aBt), aEp, aWr, aN, aM, aE, aS) == []) = false := by simpa using hne
  rw [this]
  rfl
theorem core_wrong (a : Sp.Act) (h : Sp.right a = false) : Sp.core a = [] := by unfold Sp.core; rw [h]; rfl
theorem bytes_wrong (a : Sp.Act) (h : Sp.right a = false) : Sp.bytes a = [] := by
  have hc := core_wrong a h
  obtain ⟨aAu, aSeq, aPrev, aKind, aTime, aObj, aTgt, aScope, aGrp, aTo, aText, ⟨aBn, aBd, aBt⟩, aEp, aWr, aN, aM, aE, aS⟩ := a
  show (bif Sp.core (aAu, aSeq, aPrev, aKind, aTime, aObj, aTgt, aScope, aGrp, aTo, aText, (aBn, aBd, aBt), aEp, aWr, aN, aM, aE, aS) == [] then [] else Sp.core (aAu, aSeq, aPrev, aKind, aTime, aObj, aTgt, aScope, aGrp, aTo, aText, (aBn, aBd, aBt), aEp, aWr, aN, aM, aE, aS) ++ Sp.num aE ++ Sp.num aS) = _
  rw [hc]
  rfl
theorem bytes_ne (a : Sp.Act) (h : Sp.right a = true) : Sp.bytes a ≠ [] := by
  rw [bytes_right a h]
  intro hc
  exact coreBytes_ne a (List.append_eq_nil_iff.1 (List.append_eq_nil_iff.1 hc).1).1
theorem back_bytes (a : Sp.Act) (hr : Sp.right a = true) (hok : Sp.actOk a) (hb : backOk a) (rest : Bs) : Sp.rtext (Sp.bytes a ++ rest, false) = [97, 99, 116] ∧ Sp.rAct (Sp.rtexted (Sp.bytes a ++ rest, false)) = (a, (rest, false)) := by
  rw [bytes_right a hr]
  exact back_full a hok hb rest
theorem aRead_bytes (a : Sp.Act) (hr : Sp.right a = true) (hok : Sp.actOk a) (hb : backOk a) : Sp.aRead (Sp.bytes a) = (a, true) := by
  have h := back_bytes a hr hok hb []
  rw [List.append_nil] at h
  unfold Sp.aRead
  rw [h.1, h.2]
  have hne := bytes_ne a hr
  have e : (Sp.bytes a == []) = false := by simpa using hne
  unfold Sp.rfin
  simp only [e, Sp.rdDone]
  simp
/-- What is accepted. -/
theorem aRead_true (s : Bs) (h : (Sp.aRead s).2 = true) : Sp.right (Sp.aRead s).1 = true ∧ Sp.bytes (Sp.aRead s).1 = s ∧ Sp.rAct (Sp.rtexted (s, false)) = ((Sp.aRead s).1, ([], false)) := by
  unfold Sp.aRead at h ⊢
  cases h1 : (!Sp.rtext (s, false) == [97, 99, 116]) with
  | true => rw [h1] at h; cases h
  | false =>
    rw [h1] at h
    simp only [cond_false] at h ⊢
    generalize Sp.rAct (Sp.rtexted (s, false)) = p at h ⊢
    obtain ⟨a, r⟩ := p
    simp only at h ⊢
    cases h2 : Sp.rfin s a r with
    | true => rw [h2] at h; cases h
    | false =>
      simp only [cond_false]
      unfold Sp.rfin at h2
      have h3 : Sp.rdDone r = true ∧ ¬ s = [] ∧ Sp.bytes a = s := by
        cases hd : Sp.rdDone r <;> cases he : (s == []) <;> cases hf : (Sp.bytes a == s) <;> rw [hd] at h2 <;> simp_all
      obtain ⟨hd, hne, hbs⟩ := h3
      refine ⟨?_, hbs, ?_⟩
      · cases hr : Sp.right a with
        | true => rfl
        | false => rw [bytes_wrong a hr] at hbs; exact absurd hbs.symm hne
      · obtain ⟨t, b⟩ := r
        unfold Sp.rdDone at hd
        cases b <;> simp at hd
        subst hd
        rfl
theorem aRead_false (s : Bs) (h : (Sp.aRead s).2 = false) : (Sp.aRead s).1 = Sp.zeroAct := by
  unfold Sp.aRead at h ⊢
  cases h1 : (!Sp.rtext (s, false) == [97, 99, 116]) with
  | true => rfl
  | false =>
    rw [h1] at h
    simp only [cond_false] at h ⊢
    cases h2 : Sp.rfin s (Sp.rAct (Sp.rtexted (s, false))).1 (Sp.rAct (Sp.rtexted (s, false))).2 with
    | true => rfl
    | false => rw [h2] at h; cases h
end Go.Proofs.YtmkjbdimmgkfdaaDoor
namespace Go.Proofs.YtmkjbdimmgkfdaaDoor
open Go Go.Proofs.YtmkjbdimmgkfdaaDoor.Ax
set_option linter.unusedVariables false
set_option maxRecDepth 100000

def pm (m : Nat) : Nat → Nat → Nat → Nat → Nat
  | 0, _, _, acc => acc
  | k + 1, b, e, acc => pm m k (b * b % m) (e / 2) (if e % 2 = 1 then acc * b % m else acc)
theorem pm_spec (m : Nat) : ∀ (k b e acc : Nat), e < 2 ^ k → pm m k b e acc % m = acc * b ^ e % m
  | 0, b, e, acc, h => by
    have : e = 0 := by simpa using h
    subst this
    simp [pm]
  | k + 1, b, e, acc, h => by
    rw [pm, pm_spec m k _ _ _ (by rw [Nat.pow_succ] at h; omega)]
    have hp : (b * b % m) ^ (e / 2) % m = (b ^ (2 * (e / 2))) % m := by rw [← Nat.pow_mod, Nat.pow_mul]; congr 2; rw [Nat.pow_two]
    by_cases h1 : e % 2 = 1
    · rw [if_pos h1]
      have he : e = 2 * (e / 2) + 1 := by omega
      conv => rhs; rw [he, Nat.pow_succ]
      rw [Nat.mul_mod, hp, Nat.mod_mod, ← Nat.mul_mod]
      congr 1
      rw [Nat.mul_assoc, Nat.mul_comm b]
    · rw [if_neg h1]
      have he : e = 2 * (e / 2) := by omega
      conv => rhs; rw [he]
      rw [Nat.mul_mod, hp, ← Nat.mul_mod]
theorem g_N (e : Nat) (he : e = 2305843009213693950) : 37 ^ e % 2305843009213693951 = 1 := by
  have h1 : pm 2305843009213693951 61 37 2305843009213693950 1 % 2305843009213693951 = 1 := by decide +kernel
  have h2 := pm_spec 2305843009213693951 61 37 e 1 (by omega)
  rw [he, h1, ← he, Nat.one_mul] at h2
  exact h2.symm
/-- Exponents count up to multiples of N. -/
theorem pow_congr {g N P a b : Nat} (hP : 1 < P) (h : g ^ N % P = 1) (hab : a % N = b % N) : g ^ a % P = g ^ b % P := by
  have key : ∀ a, g ^ a % P = g ^ (a % N) % P := by
    intro a
    conv => lhs; rw [← Nat.div_add_mod a N, Nat.pow_add, Nat.pow_mul, Nat.mul_mod, Nat.pow_mod, h, Nat.one_pow, Nat.mod_eq_of_lt hP, Nat.one_mul, Nat.mod_mod]
  rw [key a, key b, hab]
theorem pow_ne {g N P a : Nat} (hP : 1 < P) (h : g ^ N % P = 1) (ha : a ≤ N) : 0 < g ^ a % P := by
  rcases Nat.eq_zero_or_pos (g ^ a % P) with h0 | h0
  · have e : g ^ N % P = 0 := by
      have : N = a + (N - a) := by omega
      rw [this, Nat.pow_add, Nat.mul_mod, h0, Nat.zero_mul, Nat.zero_mod]
    rw [e] at h; cases h
  · exact h0
/-- The equation of the signature. -/
theorem schnorr {g N P X C R : Nat} (hP : 1 < P) (h : g ^ N % P = 1) (hC : C ≤ N) : (g ^ ((R + C * X % N) % N) % P) * ((g ^ X % P) ^ (N - C) % P) % P = g ^ R % P := by
  rw [← Nat.pow_mod, ← Nat.mul_mod, ← Nat.pow_mul, ← Nat.pow_add]
  refine pow_congr hP h ?_
  rw [Nat.mod_add_mod, Nat.add_assoc, Nat.add_comm (C * X % N), ← Nat.add_assoc, Nat.add_mod_mod]
  have e : R + X * (N - C) + C * X = R + N * X := by
    rw [Nat.add_assoc, Nat.mul_comm C, ← Nat.mul_add]
    have : N - C + C = N := by omega
    rw [this, Nat.mul_comm]
  rw [e, Nat.add_mul_mod_self_left]
theorem exp_nat (a : Nat) (ha : a < 2305843009213693951) (e : Int) (h : 0 ≤ e) : Sp.exp (a : Int) e = ((a ^ e.toNat % 2305843009213693951 : Nat) : Int) := by
  unfold Sp.exp Sp.ex Sp.P
  rw [if_neg (by omega)]
  have : ((a : Int) % 2305843009213693951).toNat = a := by omega
  rw [this]
theorem keyRight_iff (k : Int × Int) (h : Sp.keyRight k = true) : 1 ≤ k.1 ∧ k.1 < 2305843009213693950 ∧ k.2 = Sp.exp 37 k.1 := by
  unfold Sp.keyRight Sp.of at h
  by_cases h0 : k.1 = 0
  · rw [h0] at h; simp at h
  have e : (k.1 != 0) = true := by simpa using h0
  rw [e, cond_true] at h
  by_cases hc : k.1 < 1 ∨ k.1 ≥ 2305843009213693950
  · rw [if_pos hc] at h
    simp only [Bool.and_eq_true, beq_iff_eq] at h
    exact absurd h.1 h0
  · rw [if_neg hc] at h
    simp only [Bool.and_eq_true, beq_iff_eq] at h
    exact ⟨by omega, by omega, h.2⟩
theorem sign_verifies (k : Int × Int) (m : Bs) (h : Sp.keyRight k = true) : Sp.verify k.2 m (Sp.sign k m) = true := by
  obtain ⟨h1, h2, h3⟩ := keyRight_iff k h
  obtain ⟨x, p⟩ := k
  simp only at h1 h2 h3
  have hs : Sp.sign (x, p) m = (Sp.challenge (Sp.exp 37 (Sp.nonce (x, p) m)) p m, Sp.addN (Sp.nonce (x, p) m) (Sp.mulN (Sp.challenge (Sp.exp 37 (Sp.nonce (x, p) m)) p m) x)) := by
    unfold Sp.sign; rw [h]; rfl
  rw [hs]
  have hr := secret_range [[5, 110, 111, 110, 99, 101], Sp.num x, Sp.text m]
  have hrn : Sp.nonce (x, p) m = Sp.secret [[5, 110, 111, 110, 99, 101], Sp.num x, Sp.text m] := rfl
  rw [← hrn] at hr
  generalize Sp.nonce (x, p) m = r at hr
  have hc := challenge_range (Sp.exp 37 r) p m
  generalize hcv : Sp.challenge (Sp.exp 37 r) p m = c at hc
  have hz := addN_range r (Sp.mulN c x)
  have hgN := g_N 2305843009213693950 rfl
  generalize hN : (2305843009213693950 : Nat) = N at hgN
  have hx : p = ((37 ^ x.toNat % 2305843009213693951 : Nat) : Int) := by rw [h3]; exact exp_nat 37 (by omega) x (by omega)
  have hp0 : 0 < 37 ^ x.toNat % 2305843009213693951 := pow_ne (by omega) hgN (by omega)
  have hpl : 37 ^ x.toNat % 2305843009213693951 < 2305843009213693951 := Nat.mod_lt _ (by omega)
  have hin : Sp.sigIn p (c, Sp.addN r (Sp.mulN c x)) = true := by
    rw [sigIn_iff]
    simp only
    omega
  unfold Sp.verify
  rw [hin, cond_true]
  simp only
  have hgm : Sp.gmul (Sp.exp 37 (Sp.addN r (Sp.mulN c x))) (Sp.exp p (2305843009213693950 - c)) = Sp.exp 37 r := by
    have e1 := exp_nat 37 (by omega) (Sp.addN r (Sp.mulN c x)) hz.1
    have e2 := exp_nat (37 ^ x.toNat % 2305843009213693951) hpl (2305843009213693950 - c) (by omega)
    have e3 := exp_nat 37 (by omega) r (by omega)
    rw [← hx] at e2
    have e0 : (2305843009213693950 - c).toNat = N - c.toNat := by omega
    have ez : (Sp.addN r (Sp.mulN c x)).toNat = (r.toNat + c.toNat * x.toNat % N) % N := by
      unfold Sp.addN Sp.mulN Sp.N
      have er : r = (r.toNat : Int) := by omega
      have ec : c = (c.toNat : Int) := by omega
      have ex : x = (x.toNat : Int) := by omega
      have eN : (2305843009213693950 : Int) = (N : Int) := by omega
      rw [eN]
      conv => lhs; rw [er, ec, ex]
      rw [← Int.natCast_mul, ← Int.natCast_emod, ← Int.natCast_add, ← Int.natCast_emod, Int.toNat_natCast]
    rw [e0] at e2
    rw [ez] at e1
    rw [show (37 : Int) = ((37 : Nat) : Int) from rfl, e1, e2, e3]
    unfold Sp.gmul Sp.P
    rw [← Int.natCast_mul]
    have := schnorr (g := 37) (N := N) (P := 2305843009213693951) (X := x.toNat) (C := c.toNat) (R := r.toNat) (by omega) hgN (by omega)
    rw [← this]
    exact (Int.natCast_emod _ 2305843009213693951).symm
  rw [hgm, hcv]
  exact beq_self_eq_true c
theorem sign_range (k : Int × Int) (m : Bs) : 0 ≤ (Sp.sign k m).1 ∧ (Sp.sign k m).1 < 2305843009213693950 ∧ 0 ≤ (Sp.sign k m).2 ∧ (Sp.sign k m).2 < 2305843009213693950 := by
  unfold Sp.sign
  cases Sp.keyRight k with
  | true =>
    have h1 := challenge_range (Sp.exp 37 (Sp.nonce k m)) k.2 m
    have h2 := addN_range (Sp.nonce k m) (Sp.mulN (Sp.challenge (Sp.exp 37 (Sp.nonce k m)) k.2 m) k.1)
    exact ⟨h1.1, h1.2, h2.1, h2.2⟩
  | false => exact ⟨by simp, by simp, by simp, by simp⟩
end Go.Proofs.YtmkjbdimmgkfdaaDoor
namespace Go.Proofs.YtmkjbdimmgkfdaaDoor
open Go Go.Proofs.YtmkjbdimmgkfdaaDoor.Ax
set_option linter.unusedVariables false
set_option maxRecDepth 100000

theorem kAt_mem (n : Int) : ∀ (l : List KRow) (x : Sp.Flags × Option ACon), kAt n l = some x → ∃ row ∈ l, inKeys n row.1 = true ∧ row.2 = x
  | [], x, h => by cases h
  | y :: r, x, h => by
    unfold kAt at h
    split at h
    · rename_i hk
      cases h
      exact ⟨y, by simp, hk, rfl⟩
    · obtain ⟨row, h1, h2⟩ := kAt_mem n r x h
      exact ⟨row, by simp [h1], h2⟩
theorem within_iff (a b c : Int) : Sp.within a b c = true ↔ b ≤ a ∧ a ≤ c := by unfold Sp.within; simp
theorem pub_iff (n : Int) : Sp.pub n = true ↔ 1 ≤ n ∧ n ≤ 2305843009213693950 := within_iff _ _ _
/-- The rows, one by one. -/
theorem kinds_cases {n : Int} {fl : Sp.Flags} {r : Option ACon} (h : kAt n krows = some (fl, r)) :
    (n = 0 ∧ fl = (false, false, false, false, false, true, false, true, true) ∧ r = some a_rBegin) ∨
    (n = 1 ∧ fl = (false, false, true, false, false, false, false, false, false) ∧ r = some a_audience) ∨
    ((n = 2 ∨ n = 3 ∨ n = 14) ∧ fl = (true, false, true, false, false, false, false, false, false) ∧ r = some a_audience) ∨
    ((n = 4 ∨ n = 5 ∨ n = 6 ∨ n = 13 ∨ n = 20) ∧ fl = (true, false, false, false, false, false, false, false, false) ∧ r = none) ∨
    ((n = 7 ∨ n = 8 ∨ n = 9 ∨ n = 10 ∨ n = 11) ∧ fl = (false, true, false, false, false, false, false, false, false) ∧ r = none) ∨
    ((n = 12 ∨ n = 21) ∧ fl = (true, false, false, false, false, true, false, false, false) ∧ r = some a_rReason) ∨
    (n = 15 ∧ fl = (false, false, false, true, true, false, false, false, false) ∧ r = some a_rCircle) ∨
    (n = 16 ∧ fl = (false, false, true, true, true, false, true, false, false) ∧ r = some a_rGrant) ∨
    (n = 17 ∧ fl = (true, true, false, false, false, true, false, false, false) ∧ r = some a_rLabel) ∨
    (n = 18 ∧ fl = (false, false, false, false, false, false, false, true, true) ∧ r = some a_rMove) ∨
    (n = 19 ∧ fl = (false, false, false, false, true, false, true, true, true) ∧ r = some a_rSetup) ∨
    (n = 22 ∧ fl = (true, false, false, false, false, false, false, true, false) ∧ r = some a_rJudge) ∨
    (n = 23 ∧ fl = (false, true, false, false, false, true, false, true, false) ∧ r = some a_rList) := by
  obtain ⟨row, hm, hk, he⟩ := kAt_mem n krows (fl, r) h
  unfold krows at hm
  simp only [List.mem_cons, List.not_mem_nil, or_false] at hm
  rcases hm with rfl | rfl | rfl | rfl | rfl | rfl | rfl | rfl | rfl | rfl | rfl | rfl | rfl <;> (simp only [inKeys, Bool.or_false, Bool.or_eq_true, decide_eq_true_eq] at hk; simp only [Prod.mk.injEq] at he; obtain ⟨rfl, rfl⟩ := he)
  · exact .inl ⟨hk, rfl, rfl⟩
  · exact .inr (.inl ⟨hk, rfl, rfl⟩)
  · exact .inr (.inr (.inl ⟨hk, rfl, rfl⟩))
  · exact .inr (.inr (.inr (.inl ⟨hk, rfl, rfl⟩)))
  · exact .inr (.inr (.inr (.inr (.inl ⟨hk, rfl, rfl⟩))))
  · exact .inr (.inr (.inr (.inr (.inr (.inl ⟨hk, rfl, rfl⟩)))))
  · exact .inr (.inr (.inr (.inr (.inr (.inr (.inl ⟨hk, rfl, rfl⟩))))))
  · exact .inr (.inr (.inr (.inr (.inr (.inr (.inr (.inl ⟨hk, rfl, rfl⟩)))))))
  · exact .inr (.inr (.inr (.inr (.inr (.inr (.inr (.inr (.inl ⟨hk, rfl, rfl⟩))))))))
  · exact .inr (.inr (.inr (.inr (.inr (.inr (.inr (.inr (.inr (.inl ⟨hk, rfl, rfl⟩)))))))))
  · exact .inr (.inr (.inr (.inr (.inr (.inr (.inr (.inr (.inr (.inr (.inl ⟨hk, rfl, rfl⟩))))))))))
  · exact .inr (.inr (.inr (.inr (.inr (.inr (.inr (.inr (.inr (.inr (.inr (.inl ⟨hk, rfl, rfl⟩)))))))))))
  · exact .inr (.inr (.inr (.inr (.inr (.inr (.inr (.inr (.inr (.inr (.inr (.inr ⟨hk, rfl, rfl⟩)))))))))))
theorem bad1_iff (au : Bs) (seq time kind : Int) : Sp.bad1 au seq time kind = false ↔ Sp.idOk au = true ∧ (0 ≤ seq ∧ seq ≤ 1073741824) ∧ (0 ≤ time ∧ time ≤ 1099511627776) ∧ (kind = 0 ↔ seq = 0) := by
  unfold Sp.bad1
  rw [← within_iff, ← within_iff]
  cases Sp.idOk au <;> cases Sp.within seq 0 1073741824 <;> cases Sp.within time 0 1099511627776 <;> simp
  have e1 : (kind == 0) = decide (kind = 0) := rfl
  have e2 : (seq == 0) = decide (seq = 0) := rfl
  rw [e1, e2]
  by_cases h1 : kind = 0 <;> by_cases h2 : seq = 0 <;> simp [h1, h2]
theorem bad2_iff (e s : Int) : Sp.bad2 e s = false ↔ (0 ≤ e ∧ e ≤ 2305843009213693949) ∧ (0 ≤ s ∧ s ≤ 2305843009213693949) := by
  unfold Sp.bad2
  rw [← within_iff, ← within_iff]
  cases Sp.within e 0 2305843009213693949 <;> cases Sp.within s 0 2305843009213693949 <;> simp
theorem bad3_iff (seq : Int) (prev : Bs) (un : Bool) : Sp.bad3 seq prev un = false ↔ (seq = 0 → prev = []) ∧ (seq > 0 → prev.length = 32) ∧ un = true := by
  unfold Sp.bad3 Sp.isDigest
  by_cases h1 : seq = 0
  · subst h1
    cases prev <;> cases un <;> simp
  · have e : (seq == 0) = false := by simpa using h1
    rw [e]
    by_cases h2 : seq > 0
    · by_cases h3 : prev.length = 32 <;> cases un <;> simp [h1, h2, h3]
    · cases un <;> simp [h1, h2]
theorem unused_iff (fo ft fa fg fto ftx fw fn fm : Bool) (aAu : Bs) (aSeq : Int) (aPrev : Bs) (aKind : Int) (aTime : Int) (aObj : Bs) (aTgt : Bs) (aScope : Int) (aGrp : Bs) (aTo : List Bs) (aText : Bs) (aBn : Bs) (aBd : Bs) (aBt : Bs) (aEp : Int) (aWr : List Sp.Wrap) (aN : Int) (aM : Int) (aE : Int) (aS : Int) : Sp.unused (fo, ft, fa, fg, fto, ftx, fw, fn, fm) (aAu, aSeq, aPrev, aKind, aTime, aObj, aTgt, aScope, aGrp, aTo, aText, (aBn, aBd, aBt), aEp, aWr, aN, aM, aE, aS) = true ↔
    (fo = true ∨ aObj = []) ∧ (ft = true ∨ aTgt = []) ∧ (fa = true ∨ aScope = 0 ∧ aEp = 0 ∧ aBn = [] ∧ aBd = [] ∧ aBt = []) ∧ ((fa = true ∨ fg = true) ∨ aGrp = []) ∧ ((fa = true ∨ fto = true) ∨ aTo = []) ∧ ((fa = true ∨ ftx = true) ∨ aText = []) ∧ (fw = true ∨ aWr = []) ∧ (fn = true ∨ aN = 0) ∧ (fm = true ∨ aM = 0) := by
  simp [Sp.unused, Sp.noBox]
/-- What is known of a valid activity. -/
structure Facts (aAu : Bs) (aSeq : Int) (aPrev : Bs) (aKind : Int) (aTime : Int) (aObj : Bs) (aTgt : Bs) (aScope : Int) (aGrp : Bs) (aTo : List Bs) (aText : Bs) (aBn : Bs) (aBd : Bs) (aBt : Bs) (aEp : Int) (aWr : List Sp.Wrap) (aN : Int) (aM : Int) (aE : Int) (aS : Int) (fl : Sp.Flags) (r : Option ACon) : Prop where
  k : kAt aKind krows = some (fl, r)
  b1 : Sp.idOk aAu = true ∧ (0 ≤ aSeq ∧ aSeq ≤ 1073741824) ∧ (0 ≤ aTime ∧ aTime ≤ 1099511627776) ∧ (aKind = 0 ↔ aSeq = 0)
  b2 : (0 ≤ aE ∧ aE ≤ 2305843009213693949) ∧ (0 ≤ aS ∧ aS ≤ 2305843009213693949)
  b3 : (aSeq = 0 → aPrev = []) ∧ (aSeq > 0 → aPrev.length = 32) ∧ Sp.unused fl (aAu, aSeq, aPrev, aKind, aTime, aObj, aTgt, aScope, aGrp, aTo, aText, (aBn, aBd, aBt), aEp, aWr, aN, aM, aE, aS) = true
  b4 : Sp.bad4 fl.1 fl.2.1 aObj aTgt = false
  b5 : Sp.ruleOf r (aAu, aSeq, aPrev, aKind, aTime, aObj, aTgt, aScope, aGrp, aTo, aText, (aBn, aBd, aBt), aEp, aWr, aN, aM, aE, aS) = true
theorem right_facts (aAu : Bs) (aSeq : Int) (aPrev : Bs) (aKind : Int) (aTime : Int) (aObj : Bs) (aTgt : Bs) (aScope : Int) (aGrp : Bs) (aTo : List Bs) (aText : Bs) (aBn : Bs) (aBd : Bs) (aBt : Bs) (aEp : Int) (aWr : List Sp.Wrap) (aN : Int) (aM : Int) (aE : Int) (aS : Int) : Sp.right (aAu, aSeq, aPrev, aKind, aTime, aObj, aTgt, aScope, aGrp, aTo, aText, (aBn, aBd, aBt), aEp, aWr, aN, aM, aE, aS) = true ↔ ∃ fl r, Facts aAu aSeq aPrev aKind aTime aObj aTgt aScope aGrp aTo aText aBn aBd aBt aEp aWr aN aM aE aS fl r := by
  cases hk : kAt aKind krows with
  | none =>
    have : Sp.right (aAu, aSeq, aPrev, aKind, aTime, aObj, aTgt, aScope, aGrp, aTo, aText, (aBn, aBd, aBt), aEp, aWr, aN, aM, aE, aS) = false := by simp only [Sp.right, hk]
    rw [this]
    constructor
    · intro h; cases h
    · rintro ⟨fl, r, hf⟩
      have := hf.k
      rw [hk] at this; cases this
  | some x =>
    obtain ⟨fl, r⟩ := x
    rw [right_eq aAu aSeq aPrev aKind aTime aObj aTgt aScope aGrp aTo aText aBn aBd aBt aEp aWr aN aM aE aS hk]
    simp only [Bool.and_eq_true, Bool.not_eq_true']
    rw [bad1_iff, bad2_iff, bad3_iff]
    constructor
    · rintro ⟨h1, h2, h3, h4, h5⟩
      exact ⟨fl, r, hk, h1, h2, h3, h4, h5⟩
    · rintro ⟨fl', r', hf⟩
      have := hf.k
      rw [hk] at this
      cases this
      exact ⟨hf.b1, hf.b2, hf.b3, hf.b4, hf.b5⟩
theorem grouped_iff (scope : Int) (grp : Bs) : Sp.grouped scope grp = true ↔ (scope = 2 ∧ Sp.name grp = true) ∨ ((scope = 1 ∨ scope = 3) ∧ grp = []) := by
  unfold Sp.grouped
  by_cases h2 : scope = 2
  · subst h2; simp
  · rw [if_neg h2]
    by_cases h1 : scope = 1 ∨ scope = 3
    · rw [if_pos h1]; simp [h1, h2]
    · rw [if_neg h1]; simp [h1, h2]
theorem isBox_iff (n d t : Bs) : Sp.isBox n d t = true ↔ n.length = 32 ∧ t.length = 16 ∧ d.length ≤ 500 := by simp [Sp.isBox, Sp.short]
theorem audience_iff (aAu : Bs) (aSeq : Int) (aPrev : Bs) (aKind : Int) (aTime : Int) (aObj : Bs) (aTgt : Bs) (aScope : Int) (aGrp : Bs) (aTo : List Bs) (aText : Bs) (aBn : Bs) (aBd : Bs) (aBt : Bs) (aEp : Int) (aWr : List Sp.Wrap) (aN : Int) (aM : Int) (aE : Int) (aS : Int) : Sp.audience (aAu, aSeq, aPrev, aKind, aTime, aObj, aTgt, aScope, aGrp, aTo, aText, (aBn, aBd, aBt), aEp, aWr, aN, aM, aE, aS) = true ↔ Sp.ids aTo = true ∧ ((aScope = 0 ∧ aGrp = [] ∧ aEp = 0 ∧ aText.length ≤ 500 ∧ aBn = [] ∧ aBd = [] ∧ aBt = []) ∨
    (aScope ≠ 0 ∧ Sp.grouped aScope aGrp = true ∧ (0 ≤ aEp ∧ aEp ≤ 1073741824) ∧ aText = [] ∧ Sp.isBox aBn aBd aBt = true ∧ (aTo = [] ∨ aScope = 3))) := by
  unfold Sp.audience
  rw [← within_iff]
  by_cases h : aScope = 0
  · simp [h, Sp.short, Sp.noBox]
  · simp [h]
theorem wraps_iff (to : List Bs) (l : List Sp.Wrap) : Sp.wraps to l = true ↔ l.length = to.length ∧ ∀ w ∈ l, Sp.isWrap w = true := by simp [Sp.wraps, Sp.allWraps]
theorem isWrap_nn (w : Sp.Wrap) (h : Sp.isWrap w = true) : NN w.1 ∧ NN w.2.1 := by
  unfold Sp.isWrap at h
  simp only [Bool.and_eq_true] at h
  have h1 := (pub_iff _).1 h.1
  have h2 := (pub_iff _).1 h.2.1
  exact ⟨⟨by omega, by omega⟩, ⟨by omega, by omega⟩⟩
theorem rule_some (c : ACon) (a : Sp.Act) : Sp.ruleOf (some c) a = c.out a := rfl
/-- A valid activity is read back. -/
theorem right_back (aAu : Bs) (aSeq : Int) (aPrev : Bs) (aKind : Int) (aTime : Int) (aObj : Bs) (aTgt : Bs) (aScope : Int) (aGrp : Bs) (aTo : List Bs) (aText : Bs) (aBn : Bs) (aBd : Bs) (aBt : Bs) (aEp : Int) (aWr : List Sp.Wrap) (aN : Int) (aM : Int) (aE : Int) (aS : Int) (hto : aTo.length < 4294967296) (h : Sp.right (aAu, aSeq, aPrev, aKind, aTime, aObj, aTgt, aScope, aGrp, aTo, aText, (aBn, aBd, aBt), aEp, aWr, aN, aM, aE, aS) = true) : backOk (aAu, aSeq, aPrev, aKind, aTime, aObj, aTgt, aScope, aGrp, aTo, aText, (aBn, aBd, aBt), aEp, aWr, aN, aM, aE, aS) := by
  obtain ⟨fl, r, hf⟩ := (right_facts aAu aSeq aPrev aKind aTime aObj aTgt aScope aGrp aTo aText aBn aBd aBt aEp aWr aN aM aE aS).1 h
  obtain ⟨hk, ⟨b11, b12, b13, b14⟩, ⟨b21, b22⟩, ⟨b31, b32, b33⟩, b4, b5⟩ := hf
  have pre : NN aSeq ∧ NN aTime ∧ NN aE ∧ NN aS := ⟨⟨by omega, by omega⟩, ⟨by omega, by omega⟩, ⟨by omega, by omega⟩, ⟨by omega, by omega⟩⟩
  have z : NN 0 := ⟨by omega, by omega⟩
  obtain ⟨p1, p2, p3, p4⟩ := pre
  suffices main : NN aKind ∧ NN aScope ∧ NN aEp ∧ NN aN ∧ NN aM ∧ ∀ w ∈ aWr, NN w.1 ∧ NN w.2.1 by
    obtain ⟨m1, m2, m3, m4, m5, m6⟩ := main
    exact ⟨⟨p1, m1, p2, m2, m3, m4, m5, p3, p4⟩, m6⟩
  rcases kinds_cases hk with ⟨hn, rfl, rfl⟩ | ⟨hn, rfl, rfl⟩ | ⟨hn, rfl, rfl⟩ | ⟨hn, rfl, rfl⟩ | ⟨hn, rfl, rfl⟩ | ⟨hn, rfl, rfl⟩ | ⟨hn, rfl, rfl⟩ | ⟨hn, rfl, rfl⟩ | ⟨hn, rfl, rfl⟩ | ⟨hn, rfl, rfl⟩ | ⟨hn, rfl, rfl⟩ | ⟨hn, rfl, rfl⟩ | ⟨hn, rfl, rfl⟩ <;>
    (obtain ⟨u1, u2, u3, u4, u5, u6, u7, u8, u9⟩ := (unused_iff _ _ _ _ _ _ _ _ _ aAu aSeq aPrev aKind aTime aObj aTgt aScope aGrp aTo aText aBn aBd aBt aEp aWr aN aM aE aS).1 b33
     have hkn : NN aKind := ⟨by omega, by omega⟩
     refine ⟨hkn, ?_⟩)
  · obtain ⟨s1, s2, _⟩ := u3.resolve_left (by decide)
    have sc : NN aScope ∧ NN aEp := by rw [s1, s2]; exact ⟨z, z⟩
    have b5' : Sp.rBegin (aAu, aSeq, aPrev, aKind, aTime, aObj, aTgt, aScope, aGrp, aTo, aText, (aBn, aBd, aBt), aEp, aWr, aN, aM, aE, aS) = true := b5
    simp only [Sp.rBegin, Bool.and_eq_true, pub_iff, within_iff, wraps_iff] at b5'
    have hN : NN aN := ⟨by omega, by omega⟩
    have hM : NN aM := ⟨by omega, by omega⟩
    have hW : ∀ w ∈ aWr, NN w.1 ∧ NN w.2.1 := by rw [u7.resolve_left (by decide)]; intro w h; cases h
    exact ⟨sc.1, sc.2, hN, hM, hW⟩
  · have b5' : Sp.audience (aAu, aSeq, aPrev, aKind, aTime, aObj, aTgt, aScope, aGrp, aTo, aText, (aBn, aBd, aBt), aEp, aWr, aN, aM, aE, aS) = true := b5
    rw [audience_iff] at b5'
    have sc : NN aScope ∧ NN aEp := by
      rcases b5'.2 with ⟨h1, _, h2, _⟩ | ⟨_, h1, h2, _⟩
      · rw [h1, h2]; exact ⟨z, z⟩
      · have := (grouped_iff _ _).1 h1
        exact ⟨⟨by omega, by omega⟩, ⟨by omega, by omega⟩⟩
    have hN : NN aN := by rw [u8.resolve_left (by decide)]; exact z
    have hM : NN aM := by rw [u9.resolve_left (by decide)]; exact z
    have hW : ∀ w ∈ aWr, NN w.1 ∧ NN w.2.1 := by rw [u7.resolve_left (by decide)]; intro w h; cases h
    exact ⟨sc.1, sc.2, hN, hM, hW⟩
  · have b5' : Sp.audience (aAu, aSeq, aPrev, aKind, aTime, aObj, aTgt, aScope, aGrp, aTo, aText, (aBn, aBd, aBt), aEp, aWr, aN, aM, aE, aS) = true := b5
    rw [audience_iff] at b5'
    have sc : NN aScope ∧ NN aEp := by
      rcases b5'.2 with ⟨h1, _, h2, _⟩ | ⟨_, h1, h2, _⟩
      · rw [h1, h2]; exact ⟨z, z⟩
      · have := (grouped_iff _ _).1 h1
        exact ⟨⟨by omega, by omega⟩, ⟨by omega, by omega⟩⟩
    have hN : NN aN := by rw [u8.resolve_left (by decide)]; exact z
    have hM : NN aM := by rw [u9.resolve_left (by decide)]; exact z
    have hW : ∀ w ∈ aWr, NN w.1 ∧ NN w.2.1 := by rw [u7.resolve_left (by decide)]; intro w h; cases h
    exact ⟨sc.1, sc.2, hN, hM, hW⟩
  · obtain ⟨s1, s2, _⟩ := u3.resolve_left (by decide)
    have sc : NN aScope ∧ NN aEp := by rw [s1, s2]; exact ⟨z, z⟩
    have hN : NN aN := by rw [u8.resolve_left (by decide)]; exact z
    have hM : NN aM := by rw [u9.resolve_left (by decide)]; exact z
    have hW : ∀ w ∈ aWr, NN w.1 ∧ NN w.2.1 := by rw [u7.resolve_left (by decide)]; intro w h; cases h
    exact ⟨sc.1, sc.2, hN, hM, hW⟩
  · obtain ⟨s1, s2, _⟩ := u3.resolve_left (by decide)
    have sc : NN aScope ∧ NN aEp := by rw [s1, s2]; exact ⟨z, z⟩
    have hN : NN aN := by rw [u8.resolve_left (by decide)]; exact z
    have hM : NN aM := by rw [u9.resolve_left (by decide)]; exact z
    have hW : ∀ w ∈ aWr, NN w.1 ∧ NN w.2.1 := by rw [u7.resolve_left (by decide)]; intro w h; cases h
    exact ⟨sc.1, sc.2, hN, hM, hW⟩
  · obtain ⟨s1, s2, _⟩ := u3.resolve_left (by decide)
    have sc : NN aScope ∧ NN aEp := by rw [s1, s2]; exact ⟨z, z⟩
    have hN : NN aN := by rw [u8.resolve_left (by decide)]; exact z
    have hM : NN aM := by rw [u9.resolve_left (by decide)]; exact z
    have hW : ∀ w ∈ aWr, NN w.1 ∧ NN w.2.1 := by rw [u7.resolve_left (by decide)]; intro w h; cases h
    exact ⟨sc.1, sc.2, hN, hM, hW⟩
  · obtain ⟨s1, s2, _⟩ := u3.resolve_left (by decide)
    have sc : NN aScope ∧ NN aEp := by rw [s1, s2]; exact ⟨z, z⟩
    have hN : NN aN := by rw [u8.resolve_left (by decide)]; exact z
    have hM : NN aM := by rw [u9.resolve_left (by decide)]; exact z
    have hW : ∀ w ∈ aWr, NN w.1 ∧ NN w.2.1 := by rw [u7.resolve_left (by decide)]; intro w h; cases h
    exact ⟨sc.1, sc.2, hN, hM, hW⟩
  · have b5' : Sp.rGrant (aAu, aSeq, aPrev, aKind, aTime, aObj, aTgt, aScope, aGrp, aTo, aText, (aBn, aBd, aBt), aEp, aWr, aN, aM, aE, aS) = true := b5
    simp only [Sp.rGrant, Bool.and_eq_true, pub_iff, within_iff, wraps_iff] at b5'
    have hg := (grouped_iff _ _).1 b5'.1
    have sc : NN aScope ∧ NN aEp := ⟨⟨by omega, by omega⟩, ⟨by omega, by omega⟩⟩
    have hW : ∀ w ∈ aWr, NN w.1 ∧ NN w.2.1 := fun w hw => isWrap_nn w (b5'.2.2.2.1.2 w hw)
    have hN : NN aN := by rw [u8.resolve_left (by decide)]; exact z
    have hM : NN aM := by rw [u9.resolve_left (by decide)]; exact z
    exact ⟨sc.1, sc.2, hN, hM, hW⟩
  · obtain ⟨s1, s2, _⟩ := u3.resolve_left (by decide)
    have sc : NN aScope ∧ NN aEp := by rw [s1, s2]; exact ⟨z, z⟩
    have hN : NN aN := by rw [u8.resolve_left (by decide)]; exact z
    have hM : NN aM := by rw [u9.resolve_left (by decide)]; exact z
    have hW : ∀ w ∈ aWr, NN w.1 ∧ NN w.2.1 := by rw [u7.resolve_left (by decide)]; intro w h; cases h
    exact ⟨sc.1, sc.2, hN, hM, hW⟩
  · obtain ⟨s1, s2, _⟩ := u3.resolve_left (by decide)
    have sc : NN aScope ∧ NN aEp := by rw [s1, s2]; exact ⟨z, z⟩
    have b5' : Sp.rMove (aAu, aSeq, aPrev, aKind, aTime, aObj, aTgt, aScope, aGrp, aTo, aText, (aBn, aBd, aBt), aEp, aWr, aN, aM, aE, aS) = true := b5
    simp only [Sp.rMove, Bool.and_eq_true, pub_iff, within_iff, wraps_iff] at b5'
    have hN : NN aN := ⟨by omega, by omega⟩
    have hM : NN aM := ⟨by omega, by omega⟩
    have hW : ∀ w ∈ aWr, NN w.1 ∧ NN w.2.1 := by rw [u7.resolve_left (by decide)]; intro w h; cases h
    exact ⟨sc.1, sc.2, hN, hM, hW⟩
  · obtain ⟨s1, s2, _⟩ := u3.resolve_left (by decide)
    have sc : NN aScope ∧ NN aEp := by rw [s1, s2]; exact ⟨z, z⟩
    have b5' : Sp.rSetup (aAu, aSeq, aPrev, aKind, aTime, aObj, aTgt, aScope, aGrp, aTo, aText, (aBn, aBd, aBt), aEp, aWr, aN, aM, aE, aS) = true := b5
    simp only [Sp.rSetup, Bool.and_eq_true, pub_iff, within_iff, wraps_iff] at b5'
    have hN : NN aN := ⟨by omega, by omega⟩
    have hM : NN aM := ⟨by omega, by omega⟩
    have hW : ∀ w ∈ aWr, NN w.1 ∧ NN w.2.1 := fun w hw => isWrap_nn w (b5'.2.2.1.2 w hw)
    exact ⟨sc.1, sc.2, hN, hM, hW⟩
  · obtain ⟨s1, s2, _⟩ := u3.resolve_left (by decide)
    have sc : NN aScope ∧ NN aEp := by rw [s1, s2]; exact ⟨z, z⟩
    have b5' : Sp.rJudge (aAu, aSeq, aPrev, aKind, aTime, aObj, aTgt, aScope, aGrp, aTo, aText, (aBn, aBd, aBt), aEp, aWr, aN, aM, aE, aS) = true := b5
    simp only [Sp.rJudge, Bool.and_eq_true, pub_iff, within_iff, wraps_iff] at b5'
    have hN : NN aN := ⟨by omega, by omega⟩
    have hM : NN aM := by rw [u9.resolve_left (by decide)]; exact z
    have hW : ∀ w ∈ aWr, NN w.1 ∧ NN w.2.1 := by rw [u7.resolve_left (by decide)]; intro w h; cases h
    exact ⟨sc.1, sc.2, hN, hM, hW⟩
  · obtain ⟨s1, s2, _⟩ := u3.resolve_left (by decide)
    have sc : NN aScope ∧ NN aEp := by rw [s1, s2]; exact ⟨z, z⟩
    have b5' : Sp.rList (aAu, aSeq, aPrev, aKind, aTime, aObj, aTgt, aScope, aGrp, aTo, aText, (aBn, aBd, aBt), aEp, aWr, aN, aM, aE, aS) = true := b5
    simp only [Sp.rList, Bool.and_eq_true, pub_iff, within_iff, wraps_iff] at b5'
    have hN : NN aN := ⟨by omega, by omega⟩
    have hM : NN aM := by rw [u9.resolve_left (by decide)]; exact z
    have hW : ∀ w ∈ aWr, NN w.1 ∧ NN w.2.1 := by rw [u7.resolve_left (by decide)]; intro w h; cases h
    exact ⟨sc.1, sc.2, hN, hM, hW⟩
end Go.Proofs.YtmkjbdimmgkfdaaDoor
namespace Go.Proofs.YtmkjbdimmgkfdaaDoor
open Go Go.Proofs.YtmkjbdimmgkfdaaDoor.Ax
set_option linter.unusedVariables false
set_option maxRecDepth 100000

theorem mid_zero : Sp.mid Sp.zeroAct := by
  refine ⟨by decide +kernel, ⟨⟨?_, ?_, ?_, ?_, ?_, ?_, ?_, ?_, ?_⟩, by intro w h; cases h⟩⟩ <;> exact lit_i64 0 (by omega)
theorem key_of_range {s : Int × Int} (h : 0 ≤ s.1 ∧ s.1 < 2305843009213693950 ∧ 0 ≤ s.2 ∧ s.2 < 2305843009213693950) : Sp.keyOk s := by
  unfold Sp.keyOk Sp.i64Ok; omega
theorem mid_aSign (k : Int × Int) (a : Sp.Act) (h : Sp.mid a) : Sp.mid (Sp.aSign k a) := by
  unfold Sp.aSign
  cases (bif !Sp.right (Sp.withSig a (0, 0)) then true else !Sp.keyRight k) with
  | true => exact mid_zero
  | false => exact mid_withSig a _ h (key_of_range (sign_range k _))
theorem arithB1 {t1 t2 t3 t4 t5 a1 a2 a3 a4 a5 n1 n2 n3 n4 X Y : Nat} (l1 : t1 ≤ a1 + 10) (l2 : t2 ≤ a2 + 10) (l3 : t3 ≤ a3 + 10) (l4 : t4 ≤ a4 + 10) (l5 : t5 ≤ a5 + 10) (m1 : n1 ≤ 10) (m2 : n2 ≤ 10) (m3 : n3 ≤ 10) (m4 : n4 ≤ 10) (hX : X ≤ Y) :
    4 + (t1 + (n1 + (t2 + (n2 + (n3 + (t3 + (t4 + (n4 + (t5 + X))))))))) ≤ 94 + (a1 + a2 + a3 + a4 + a5) + Y := by omega
theorem arithB2 {t6 t7 t8 t9 t10 a6 a7 a8 a9 a10 n5 n6 n7 n8 n9 n10 w ws : Nat} (l6 : t6 ≤ a6 + 10) (l7 : t7 ≤ a7 + 10) (l8 : t8 ≤ a8 + 10) (l9 : t9 ≤ a9 + 10) (l10 : t10 ≤ a10 + 10)
    (m5 : n5 ≤ 10) (m6 : n6 ≤ 10) (m7 : n7 ≤ 10) (m8 : n8 ≤ 10) (m9 : n9 ≤ 10) (m10 : n10 ≤ 10) (hw : w ≤ ws) :
    t10 + (t6 + (t7 + t8 + t9 + (n5 + (n10 + (w + (n6 + (n7 + (n8 + n9)))))))) ≤ a6 + a7 + a8 + a9 + a10 + ws + 110 := by omega
theorem arithB3 {T a1 a2 a3 a4 a5 a6 a7 a8 a9 a10 ws : Nat} (h : T ≤ 94 + (a1 + a2 + a3 + a4 + a5) + (a6 + a7 + a8 + a9 + a10 + ws + 110)) : T ≤ a1 + a2 + a3 + a4 + a5 + a6 + a7 + a8 + a9 + a10 + ws + 300 := by omega
theorem bytes_len (a : Sp.Act) (h : Sp.mid a) : (Sp.bytes a).length ≤ Sp.actSz a + 300 := by
  cases hr : Sp.right a with
  | false => rw [bytes_wrong a hr]; exact Nat.zero_le _
  | true =>
    rw [bytes_right a hr]
    have hok := mid_actOk a h
    obtain ⟨aAu, aSeq, aPrev, aKind, aTime, aObj, aTgt, aScope, aGrp, aTo, aText, ⟨aBn, aBd, aBt⟩, aEp, aWr, aN, aM, aE, aS⟩ := a
    obtain ⟨h1, h2, h3⟩ := h
    obtain ⟨⟨o1, o2, o3, o4, o5, o6, o7, o8, o9⟩, ⟨o10, o11⟩, ⟨o12, o13⟩, ⟨i1, i2, i3, i4, i5, i6, i7, i8, i9⟩, hw⟩ := hok
    have l1 := text_le _ o1
    have l2 := text_le _ o2
    have l3 := text_le _ o3
    have l4 := text_le _ o4
    have l5 := text_le _ o5
    have l6 := text_le _ o6
    have l7 := text_le _ o7
    have l8 := text_le _ o8
    have l9 := text_le _ o9
    have l10 := list_le aTo o10
    have m1 := num_le _ i1
    have m2 := num_le _ i2
    have m3 := num_le _ i3
    have m4 := num_le _ i4
    have m5 := num_le _ i5
    have m6 := num_le _ i6
    have m7 := num_le _ i7
    have m8 := num_le _ i8
    have m9 := num_le _ i9
    have m10 := num_le10 (aWr.length : Int) (by unfold Sp.lt63; omega)
    have hwl := wraps_le aWr hw o13
    have hbx := box_length aBn aBd aBt
    have e := full_eq aAu aSeq aPrev aKind aTime aObj aTgt aScope aGrp aTo aText aBn aBd aBt aEp aWr aN aM aE aS []
    rw [List.append_nil] at e
    have e3 : (Sp.text [97, 99, 116]).length = 4 := by decide +kernel
    show (Sp.coreBytes (aAu, aSeq, aPrev, aKind, aTime, aObj, aTgt, aScope, aGrp, aTo, aText, (aBn, aBd, aBt), aEp, aWr, aN, aM, aE, aS) ++ Sp.num aE ++ Sp.num aS).length ≤ _
    rw [e]
    have hsz : Sp.actSz (aAu, aSeq, aPrev, aKind, aTime, aObj, aTgt, aScope, aGrp, aTo, aText, (aBn, aBd, aBt), aEp, aWr, aN, aM, aE, aS) = aAu.length + aPrev.length + aObj.length + aTgt.length + aGrp.length + aText.length + aBn.length + aBd.length + aBt.length + (aTo.flatMap Sp.text).length + (aWr.map Sp.wrapLen).sum := rfl
    rw [hsz]
    clear hsz e hr
    simp only [List.length_append, List.append_nil, hbx, e3]
    exact arithB3 (arithB1 l1 l2 l3 l4 l5 m1 m2 m3 m4 (arithB2 l6 l7 l8 l9 l10 m5 m6 m7 m8 m9 m10 hwl))
theorem flat_toSum (l : List Bs) (h : ∀ x ∈ l, Sp.s40 x) : (l.flatMap Sp.text).length ≤ Sp.toSum l + 10 * l.length := by
  induction l with
  | nil => simp [Sp.toSum]
  | cons x t ih =>
    have h1 := ih (fun y hy => h y (by simp [hy]))
    have h2 := text_le x (h x (by simp))
    rw [List.flatMap_cons, List.length_append, List.length_cons]
    have : Sp.toSum (x :: t) = x.length + Sp.toSum t := by simp [Sp.toSum]
    omega
theorem wrapSum_eq (l : List Sp.Wrap) : (l.map Sp.wrapLen).sum = Sp.wrSum l + 60 * l.length := by
  induction l with
  | nil => simp [Sp.wrSum]
  | cons x t ih =>
    have : Sp.wrSum (x :: t) = Sp.boxLen x + Sp.wrSum t := by simp [Sp.wrSum]
    have h2 : Sp.wrapLen x = Sp.boxLen x + 60 := rfl
    simp only [List.map_cons, List.sum_cons, List.length_cons]
    omega
theorem mem_toSum (l : List Bs) (x : Bs) (h : x ∈ l) : x.length ≤ Sp.toSum l := by
  induction l with
  | nil => cases h
  | cons y t ih =>
    have e : Sp.toSum (y :: t) = y.length + Sp.toSum t := by simp [Sp.toSum]
    rcases List.mem_cons.1 h with rfl | h
    · omega
    · have := ih h; omega
/-- An activity of few bytes. -/
theorem few_sz (a : Sp.Act) (h : Sp.few a = true) : Sp.actSz a ≤ 14900 := by
  obtain ⟨aAu, aSeq, aPrev, aKind, aTime, aObj, aTgt, aScope, aGrp, aTo, aText, ⟨aBn, aBd, aBt⟩, aEp, aWr, aN, aM, aE, aS⟩ := a
  rw [few_shape] at h
  simp only [Bool.and_eq_true, decide_eq_true_eq] at h
  obtain ⟨h1, h2, h3⟩ := h
  have hto : ∀ x ∈ aTo, Sp.s40 x := fun x hx => by have := mem_toSum aTo x hx; unfold Sp.s40; omega
  have f1 := flat_toSum aTo hto
  have f2 := wrapSum_eq aWr
  have hsz : Sp.actSz (aAu, aSeq, aPrev, aKind, aTime, aObj, aTgt, aScope, aGrp, aTo, aText, (aBn, aBd, aBt), aEp, aWr, aN, aM, aE, aS) = Sp.strSum (aAu, aSeq, aPrev, aKind, aTime, aObj, aTgt, aScope, aGrp, aTo, aText, (aBn, aBd, aBt), aEp, aWr, aN, aM, aE, aS) + (aTo.flatMap Sp.text).length + (aWr.map Sp.wrapLen).sum := rfl
  rw [hsz]
  omega
theorem few_mid (a : Sp.Act) (h : Sp.few a = true) (hn : Sp.actNums a) : Sp.mid a := by
  have := few_sz a h
  exact ⟨by omega, hn⟩
theorem few_bytes (a : Sp.Act) (h : Sp.few a = true) (hn : Sp.actNums a) : (Sp.bytes a).length ≤ 15200 := by
  have := few_sz a h
  have := bytes_len a (few_mid a h hn)
  omega
theorem mid_back (a : Sp.Act) (hm : Sp.mid a) (hr : Sp.right a = true) : backOk a := by
  have hok := mid_actOk a hm
  obtain ⟨aAu, aSeq, aPrev, aKind, aTime, aObj, aTgt, aScope, aGrp, aTo, aText, ⟨aBn, aBd, aBt⟩, aEp, aWr, aN, aM, aE, aS⟩ := a
  exact right_back aAu aSeq aPrev aKind aTime aObj aTgt aScope aGrp aTo aText aBn aBd aBt aEp aWr aN aM aE aS hok.2.1.1 hr
theorem mid_read (a : Sp.Act) (hm : Sp.mid a) (hr : Sp.right a = true) : Sp.aRead (Sp.bytes a) = (a, true) := aRead_bytes a hr (mid_actOk a hm) (mid_back a hm hr)
theorem out_rBegin (a : Sp.Act) : Sp.ruleOf (some a_rBegin) a = Sp.rBegin a := rfl
theorem out_audience (a : Sp.Act) : Sp.ruleOf (some a_audience) a = Sp.audience a := rfl
theorem out_rReason (a : Sp.Act) : Sp.ruleOf (some a_rReason) a = Sp.rReason a := rfl
theorem out_rCircle (a : Sp.Act) : Sp.ruleOf (some a_rCircle) a = Sp.rCircle a := rfl
theorem out_rGrant (a : Sp.Act) : Sp.ruleOf (some a_rGrant) a = Sp.rGrant a := rfl
theorem out_rLabel (a : Sp.Act) : Sp.ruleOf (some a_rLabel) a = Sp.rLabel a := rfl
theorem out_rMove (a : Sp.Act) : Sp.ruleOf (some a_rMove) a = Sp.rMove a := rfl
theorem out_rSetup (a : Sp.Act) : Sp.ruleOf (some a_rSetup) a = Sp.rSetup a := rfl
theorem out_rJudge (a : Sp.Act) : Sp.ruleOf (some a_rJudge) a = Sp.rJudge a := rfl
theorem out_rList (a : Sp.Act) : Sp.ruleOf (some a_rList) a = Sp.rList a := rfl
theorem out_none (a : Sp.Act) : Sp.ruleOf none a = true := rfl
theorem sig_rBegin (aAu : Bs) (aSeq : Int) (aPrev : Bs) (aKind : Int) (aTime : Int) (aObj : Bs) (aTgt : Bs) (aScope : Int) (aGrp : Bs) (aTo : List Bs) (aText : Bs) (aBn : Bs) (aBd : Bs) (aBt : Bs) (aEp : Int) (aWr : List Sp.Wrap) (aN : Int) (aM : Int) (aE : Int) (aS : Int) (e s : Int) : Sp.rBegin (aAu, aSeq, aPrev, aKind, aTime, aObj, aTgt, aScope, aGrp, aTo, aText, (aBn, aBd, aBt), aEp, aWr, aN, aM, aE, aS) = Sp.rBegin (aAu, aSeq, aPrev, aKind, aTime, aObj, aTgt, aScope, aGrp, aTo, aText, (aBn, aBd, aBt), aEp, aWr, aN, aM, e, s) := by simp only [Sp.rBegin]
theorem sig_audience (aAu : Bs) (aSeq : Int) (aPrev : Bs) (aKind : Int) (aTime : Int) (aObj : Bs) (aTgt : Bs) (aScope : Int) (aGrp : Bs) (aTo : List Bs) (aText : Bs) (aBn : Bs) (aBd : Bs) (aBt : Bs) (aEp : Int) (aWr : List Sp.Wrap) (aN : Int) (aM : Int) (aE : Int) (aS : Int) (e s : Int) : Sp.audience (aAu, aSeq, aPrev, aKind, aTime, aObj, aTgt, aScope, aGrp, aTo, aText, (aBn, aBd, aBt), aEp, aWr, aN, aM, aE, aS) = Sp.audience (aAu, aSeq, aPrev, aKind, aTime, aObj, aTgt, aScope, aGrp, aTo, aText, (aBn, aBd, aBt), aEp, aWr, aN, aM, e, s) := by simp only [Sp.audience]
theorem sig_rReason (aAu : Bs) (aSeq : Int) (aPrev : Bs) (aKind : Int) (aTime : Int) (aObj : Bs) (aTgt : Bs) (aScope : Int) (aGrp : Bs) (aTo : List Bs) (aText : Bs) (aBn : Bs) (aBd : Bs) (aBt : Bs) (aEp : Int) (aWr : List Sp.Wrap) (aN : Int) (aM : Int) (aE : Int) (aS : Int) (e s : Int) : Sp.rReason (aAu, aSeq, aPrev, aKind, aTime, aObj, aTgt, aScope, aGrp, aTo, aText, (aBn, aBd, aBt), aEp, aWr, aN, aM, aE, aS) = Sp.rReason (aAu, aSeq, aPrev, aKind, aTime, aObj, aTgt, aScope, aGrp, aTo, aText, (aBn, aBd, aBt), aEp, aWr, aN, aM, e, s) := by simp only [Sp.rReason]
theorem sig_rCircle (aAu : Bs) (aSeq : Int) (aPrev : Bs) (aKind : Int) (aTime : Int) (aObj : Bs) (aTgt : Bs) (aScope : Int) (aGrp : Bs) (aTo : List Bs) (aText : Bs) (aBn : Bs) (aBd : Bs) (aBt : Bs) (aEp : Int) (aWr : List Sp.Wrap) (aN : Int) (aM : Int) (aE : Int) (aS : Int) (e s : Int) : Sp.rCircle (aAu, aSeq, aPrev, aKind, aTime, aObj, aTgt, aScope, aGrp, aTo, aText, (aBn, aBd, aBt), aEp, aWr, aN, aM, aE, aS) = Sp.rCircle (aAu, aSeq, aPrev, aKind, aTime, aObj, aTgt, aScope, aGrp, aTo, aText, (aBn, aBd, aBt), aEp, aWr, aN, aM, e, s) := by simp only [Sp.rCircle]
theorem sig_rGrant (aAu : Bs) (aSeq : Int) (aPrev : Bs) (aKind : Int) (aTime : Int) (aObj : Bs) (aTgt : Bs) (aScope : Int) (aGrp : Bs) (aTo : List Bs) (aText : Bs) (aBn : Bs) (aBd : Bs) (aBt : Bs) (aEp : Int) (aWr : List Sp.Wrap) (aN : Int) (aM : Int) (aE : Int) (aS : Int) (e s : Int) : Sp.rGrant (aAu, aSeq, aPrev, aKind, aTime, aObj, aTgt, aScope, aGrp, aTo, aText, (aBn, aBd, aBt), aEp, aWr, aN, aM, aE, aS) = Sp.rGrant (aAu, aSeq, aPrev, aKind, aTime, aObj, aTgt, aScope, aGrp, aTo, aText, (aBn, aBd, aBt), aEp, aWr, aN, aM, e, s) := by simp only [Sp.rGrant]
theorem sig_rLabel (aAu : Bs) (aSeq : Int) (aPrev : Bs) (aKind : Int) (aTime : Int) (aObj : Bs) (aTgt : Bs) (aScope : Int) (aGrp : Bs) (aTo : List Bs) (aText : Bs) (aBn : Bs) (aBd : Bs) (aBt : Bs) (aEp : Int) (aWr : List Sp.Wrap) (aN : Int) (aM : Int) (aE : Int) (aS : Int) (e s : Int) : Sp.rLabel (aAu, aSeq, aPrev, aKind, aTime, aObj, aTgt, aScope, aGrp, aTo, aText, (aBn, aBd, aBt), aEp, aWr, aN, aM, aE, aS) = Sp.rLabel (aAu, aSeq, aPrev, aKind, aTime, aObj, aTgt, aScope, aGrp, aTo, aText, (aBn, aBd, aBt), aEp, aWr, aN, aM, e, s) := by simp only [Sp.rLabel]
theorem sig_rMove (aAu : Bs) (aSeq : Int) (aPrev : Bs) (aKind : Int) (aTime : Int) (aObj : Bs) (aTgt : Bs) (aScope : Int) (aGrp : Bs) (aTo : List Bs) (aText : Bs) (aBn : Bs) (aBd : Bs) (aBt : Bs) (aEp : Int) (aWr : List Sp.Wrap) (aN : Int) (aM : Int) (aE : Int) (aS : Int) (e s : Int) : Sp.rMove (aAu, aSeq, aPrev, aKind, aTime, aObj, aTgt, aScope, aGrp, aTo, aText, (aBn, aBd, aBt), aEp, aWr, aN, aM, aE, aS) = Sp.rMove (aAu, aSeq, aPrev, aKind, aTime, aObj, aTgt, aScope, aGrp, aTo, aText, (aBn, aBd, aBt), aEp, aWr, aN, aM, e, s) := by simp only [Sp.rMove]
theorem sig_rSetup (aAu : Bs) (aSeq : Int) (aPrev : Bs) (aKind : Int) (aTime : Int) (aObj : Bs) (aTgt : Bs) (aScope : Int) (aGrp : Bs) (aTo : List Bs) (aText : Bs) (aBn : Bs) (aBd : Bs) (aBt : Bs) (aEp : Int) (aWr : List Sp.Wrap) (aN : Int) (aM : Int) (aE : Int) (aS : Int) (e s : Int) : Sp.rSetup (aAu, aSeq, aPrev, aKind, aTime, aObj, aTgt, aScope, aGrp, aTo, aText, (aBn, aBd, aBt), aEp, aWr, aN, aM, aE, aS) = Sp.rSetup (aAu, aSeq, aPrev, aKind, aTime, aObj, aTgt, aScope, aGrp, aTo, aText, (aBn, aBd, aBt), aEp, aWr, aN, aM, e, s) := by simp only [Sp.rSetup]
theorem sig_rJudge (aAu : Bs) (aSeq : Int) (aPrev : Bs) (aKind : Int) (aTime : Int) (aObj : Bs) (aTgt : Bs) (aScope : Int) (aGrp : Bs) (aTo : List Bs) (aText : Bs) (aBn : Bs) (aBd : Bs) (aBt : Bs) (aEp : Int) (aWr : List Sp.Wrap) (aN : Int) (aM : Int) (aE : Int) (aS : Int) (e s : Int) : Sp.rJudge (aAu, aSeq, aPrev, aKind, aTime, aObj, aTgt, aScope, aGrp, aTo, aText, (aBn, aBd, aBt), aEp, aWr, aN, aM, aE, aS) = Sp.rJudge (aAu, aSeq, aPrev, aKind, aTime, aObj, aTgt, aScope, aGrp, aTo, aText, (aBn, aBd, aBt), aEp, aWr, aN, aM, e, s) := by simp only [Sp.rJudge]
theorem sig_rList (aAu : Bs) (aSeq : Int) (aPrev : Bs) (aKind : Int) (aTime : Int) (aObj : Bs) (aTgt : Bs) (aScope : Int) (aGrp : Bs) (aTo : List Bs) (aText : Bs) (aBn : Bs) (aBd : Bs) (aBt : Bs) (aEp : Int) (aWr : List Sp.Wrap) (aN : Int) (aM : Int) (aE : Int) (aS : Int) (e s : Int) : Sp.rList (aAu, aSeq, aPrev, aKind, aTime, aObj, aTgt, aScope, aGrp, aTo, aText, (aBn, aBd, aBt), aEp, aWr, aN, aM, aE, aS) = Sp.rList (aAu, aSeq, aPrev, aKind, aTime, aObj, aTgt, aScope, aGrp, aTo, aText, (aBn, aBd, aBt), aEp, aWr, aN, aM, e, s) := by simp only [Sp.rList]
/-- What is valid but for the signature is valid with any other in range. -/
theorem right_withSig (a : Sp.Act) (s : Sp.Sig) (h : Sp.right a = true) (hs : 0 ≤ s.1 ∧ s.1 < 2305843009213693950 ∧ 0 ≤ s.2 ∧ s.2 < 2305843009213693950) : Sp.right (Sp.withSig a s) = true := by
  obtain ⟨aAu, aSeq, aPrev, aKind, aTime, aObj, aTgt, aScope, aGrp, aTo, aText, ⟨aBn, aBd, aBt⟩, aEp, aWr, aN, aM, aE, aS⟩ := a
  obtain ⟨e, s⟩ := s
  obtain ⟨fl, r, hf⟩ := (right_facts aAu aSeq aPrev aKind aTime aObj aTgt aScope aGrp aTo aText aBn aBd aBt aEp aWr aN aM aE aS).1 h
  obtain ⟨hk, b1, b2, ⟨b31, b32, b33⟩, b4, b5⟩ := hf
  obtain ⟨fo, ft, fa, fg, fto, ftx, fw, fn, fm⟩ := fl
  simp only at hs
  have u := (unused_iff _ _ _ _ _ _ _ _ _ aAu aSeq aPrev aKind aTime aObj aTgt aScope aGrp aTo aText aBn aBd aBt aEp aWr aN aM aE aS).1 b33
  show Sp.right (aAu, aSeq, aPrev, aKind, aTime, aObj, aTgt, aScope, aGrp, aTo, aText, (aBn, aBd, aBt), aEp, aWr, aN, aM, e, s) = true
  refine (right_facts aAu aSeq aPrev aKind aTime aObj aTgt aScope aGrp aTo aText aBn aBd aBt aEp aWr aN aM e s).2 ⟨(fo, ft, fa, fg, fto, ftx, fw, fn, fm), r, hk, b1, ⟨by omega, by omega⟩, ⟨b31, b32, (unused_iff _ _ _ _ _ _ _ _ _ aAu aSeq aPrev aKind aTime aObj aTgt aScope aGrp aTo aText aBn aBd aBt aEp aWr aN aM e s).2 u⟩, b4, ?_⟩
  clear u b33 b31 b32 b1 b2 b4
  rcases kinds_cases hk with ⟨hn, hfl, rfl⟩ | ⟨hn, hfl, rfl⟩ | ⟨hn, hfl, rfl⟩ | ⟨hn, hfl, rfl⟩ | ⟨hn, hfl, rfl⟩ | ⟨hn, hfl, rfl⟩ | ⟨hn, hfl, rfl⟩ | ⟨hn, hfl, rfl⟩ | ⟨hn, hfl, rfl⟩ | ⟨hn, hfl, rfl⟩ | ⟨hn, hfl, rfl⟩ | ⟨hn, hfl, rfl⟩ | ⟨hn, hfl, rfl⟩
  · exact (sig_rBegin aAu aSeq aPrev aKind aTime aObj aTgt aScope aGrp aTo aText aBn aBd aBt aEp aWr aN aM aE aS e s).symm.trans b5
  · exact (sig_audience aAu aSeq aPrev aKind aTime aObj aTgt aScope aGrp aTo aText aBn aBd aBt aEp aWr aN aM aE aS e s).symm.trans b5
  · exact (sig_audience aAu aSeq aPrev aKind aTime aObj aTgt aScope aGrp aTo aText aBn aBd aBt aEp aWr aN aM aE aS e s).symm.trans b5
  · exact out_none _
  · exact out_none _
  · exact (sig_rReason aAu aSeq aPrev aKind aTime aObj aTgt aScope aGrp aTo aText aBn aBd aBt aEp aWr aN aM aE aS e s).symm.trans b5
  · exact (sig_rCircle aAu aSeq aPrev aKind aTime aObj aTgt aScope aGrp aTo aText aBn aBd aBt aEp aWr aN aM aE aS e s).symm.trans b5
  · exact (sig_rGrant aAu aSeq aPrev aKind aTime aObj aTgt aScope aGrp aTo aText aBn aBd aBt aEp aWr aN aM aE aS e s).symm.trans b5
  · exact (sig_rLabel aAu aSeq aPrev aKind aTime aObj aTgt aScope aGrp aTo aText aBn aBd aBt aEp aWr aN aM aE aS e s).symm.trans b5
  · exact (sig_rMove aAu aSeq aPrev aKind aTime aObj aTgt aScope aGrp aTo aText aBn aBd aBt aEp aWr aN aM aE aS e s).symm.trans b5
  · exact (sig_rSetup aAu aSeq aPrev aKind aTime aObj aTgt aScope aGrp aTo aText aBn aBd aBt aEp aWr aN aM aE aS e s).symm.trans b5
  · exact (sig_rJudge aAu aSeq aPrev aKind aTime aObj aTgt aScope aGrp aTo aText aBn aBd aBt aEp aWr aN aM aE aS e s).symm.trans b5
  · exact (sig_rList aAu aSeq aPrev aKind aTime aObj aTgt aScope aGrp aTo aText aBn aBd aBt aEp aWr aN aM aE aS e s).symm.trans b5
theorem withSig_self (a : Sp.Act) : Sp.withSig a (Sp.sigOf a) = a := by obtain ⟨aAu, aSeq, aPrev, aKind, aTime, aObj, aTgt, aScope, aGrp, aTo, aText, ⟨aBn, aBd, aBt⟩, aEp, aWr, aN, aM, aE, aS⟩ := a; simp only [Sp.withSig, Sp.sigOf]
theorem withSig_twice (a : Sp.Act) (s t : Sp.Sig) : Sp.withSig (Sp.withSig a s) t = Sp.withSig a t := by obtain ⟨aAu, aSeq, aPrev, aKind, aTime, aObj, aTgt, aScope, aGrp, aTo, aText, ⟨aBn, aBd, aBt⟩, aEp, aWr, aN, aM, aE, aS⟩ := a; obtain ⟨e, s⟩ := s; obtain ⟨f, t⟩ := t; simp only [Sp.withSig]
theorem sigOf_withSig (a : Sp.Act) (s : Sp.Sig) : Sp.sigOf (Sp.withSig a s) = s := by obtain ⟨aAu, aSeq, aPrev, aKind, aTime, aObj, aTgt, aScope, aGrp, aTo, aText, ⟨aBn, aBd, aBt⟩, aEp, aWr, aN, aM, aE, aS⟩ := a; obtain ⟨e, s⟩ := s; simp only [Sp.withSig, Sp.sigOf]
theorem coreBytes_withSig (a : Sp.Act) (s : Sp.Sig) : Sp.coreBytes (Sp.withSig a s) = Sp.coreBytes a := by obtain ⟨aAu, aSeq, aPrev, aKind, aTime, aObj, aTgt, aScope, aGrp, aTo, aText, ⟨aBn, aBd, aBt⟩, aEp, aWr, aN, aM, aE, aS⟩ := a; obtain ⟨e, s⟩ := s; simp only [Sp.withSig, Sp.coreBytes, Sp.pieces]
theorem sig_range (a : Sp.Act) (h : Sp.right a = true) : 0 ≤ (Sp.sigOf a).1 ∧ (Sp.sigOf a).1 < 2305843009213693950 ∧ 0 ≤ (Sp.sigOf a).2 ∧ (Sp.sigOf a).2 < 2305843009213693950 := by
  obtain ⟨aAu, aSeq, aPrev, aKind, aTime, aObj, aTgt, aScope, aGrp, aTo, aText, ⟨aBn, aBd, aBt⟩, aEp, aWr, aN, aM, aE, aS⟩ := a
  obtain ⟨fl, r, hf⟩ := (right_facts aAu aSeq aPrev aKind aTime aObj aTgt aScope aGrp aTo aText aBn aBd aBt aEp aWr aN aM aE aS).1 h
  obtain ⟨b1, b2⟩ := hf.b2
  show 0 ≤ aE ∧ aE < _ ∧ 0 ≤ aS ∧ aS < _
  omega
theorem core_withSig (a : Sp.Act) (s : Sp.Sig) (h : Sp.right a = true) (hs : 0 ≤ s.1 ∧ s.1 < 2305843009213693950 ∧ 0 ≤ s.2 ∧ s.2 < 2305843009213693950) : Sp.core (Sp.withSig a s) = Sp.core a := by
  rw [core_right _ (right_withSig a s h hs), core_right a h, coreBytes_withSig]
/-- What signing gives. -/
theorem aSign_right (k : Int × Int) (a : Sp.Act) (hk : Sp.keyRight k = true) (hr : Sp.right (Sp.withSig a (0, 0)) = true) : Sp.aSign k a = Sp.withSig a (Sp.sign k (Sp.core (Sp.withSig a (0, 0)))) := by
  unfold Sp.aSign
  rw [hk, hr]
  rfl
theorem aSign_wrong (k : Int × Int) (a : Sp.Act) (h : ¬ (Sp.keyRight k = true ∧ Sp.right (Sp.withSig a (0, 0)) = true)) : Sp.aSign k a = Sp.zeroAct := by
  unfold Sp.aSign
  cases hk : Sp.keyRight k <;> cases hr : Sp.right (Sp.withSig a (0, 0)) <;> simp_all
theorem signed_right (k : Int × Int) (a : Sp.Act) (hk : Sp.keyRight k = true) (hr : Sp.right (Sp.withSig a (0, 0)) = true) : Sp.right (Sp.aSign k a) = true := by
  rw [aSign_right k a hk hr]
  have := right_withSig (Sp.withSig a (0, 0)) (Sp.sign k (Sp.core (Sp.withSig a (0, 0)))) hr (sign_range k _)
  rwa [withSig_twice] at this
theorem signed_core (k : Int × Int) (a : Sp.Act) (hk : Sp.keyRight k = true) (hr : Sp.right (Sp.withSig a (0, 0)) = true) : Sp.core (Sp.aSign k a) = Sp.core (Sp.withSig a (0, 0)) := by
  rw [aSign_right k a hk hr]
  have := core_withSig (Sp.withSig a (0, 0)) (Sp.sign k (Sp.core (Sp.withSig a (0, 0)))) hr (sign_range k _)
  rwa [withSig_twice] at this
theorem signed_verifies (k : Int × Int) (a : Sp.Act) (hk : Sp.keyRight k = true) (hr : Sp.right (Sp.withSig a (0, 0)) = true) : Sp.aVerify k.2 (Sp.aSign k a) = true := by
  unfold Sp.aVerify
  rw [signed_right k a hk hr, cond_true, signed_core k a hk hr, aSign_right k a hk hr, sigOf_withSig]
  exact sign_verifies k _ hk
theorem signed_again (k : Int × Int) (a : Sp.Act) (hk : Sp.keyRight k = true) (hr : Sp.right (Sp.withSig a (0, 0)) = true) : Sp.aSign k (Sp.aSign k a) = Sp.aSign k a := by
  have e : Sp.withSig (Sp.aSign k a) (0, 0) = Sp.withSig a (0, 0) := by rw [aSign_right k a hk hr, withSig_twice]
  rw [aSign_right k (Sp.aSign k a) hk (by rw [e]; exact hr), e]
  rw [aSign_right k a hk hr, withSig_twice]
theorem bytes_inj (a b : Sp.Act) (ha : Sp.mid a) (hb : Sp.mid b) (hra : Sp.right a = true) (hrb : Sp.right b = true) (h : Sp.bytes a = Sp.bytes b) : a = b := by
  have h1 := mid_read a ha hra
  have h2 := mid_read b hb hrb
  rw [h, h2] at h1
  exact (congrArg Prod.fst h1).symm
theorem same_iff (a b : Sp.Act) : Sp.same a b = true ↔ a = b := by unfold Sp.same; exact decide_eq_true_iff
theorem same_refl (a : Sp.Act) : Sp.same a a = true := (same_iff a a).2 rfl
/-- No longer string is read, nor a shorter one. -/
theorem read_more (a : Sp.Act) (hm : Sp.mid a) (hr : Sp.right a = true) (rest : Bs) (hne : rest ≠ []) : (Sp.aRead (Sp.bytes a ++ rest)).2 = false := by
  cases h : (Sp.aRead (Sp.bytes a ++ rest)).2 with
  | false => rfl
  | true =>
    obtain ⟨_, _, h3⟩ := aRead_true _ h
    have h4 := (back_bytes a hr (mid_actOk a hm) (mid_back a hm hr) rest).2
    rw [h3] at h4
    have := congrArg (fun p => p.2.1) h4
    exact absurd this.symm hne
theorem read_less (a : Sp.Act) (s : Bs) (rest : Bs) (hne : rest ≠ []) (hm : Sp.mid a) (hms : Sp.mid (Sp.aRead s).1) (hr : Sp.right a = true) (he : Sp.bytes a = s ++ rest) : (Sp.aRead s).2 = false := by
  cases h : (Sp.aRead s).2 with
  | false => rfl
  | true =>
    obtain ⟨h1, h2, _⟩ := aRead_true s h
    have h3 := read_more (Sp.aRead s).1 hms h1 rest hne
    rw [h2, ← he, mid_read a hm hr] at h3
    cases h3
theorem rAct_mid (r : Sp.Rd) (q0 : r.1.length ≤ 20000) : Sp.mid (Sp.rAct r).1 := by
  generalize hr1 : Sp.rtexted r = r1
  have q1 : r1.1.length ≤ 20000 := by rw [← hr1]; exact Nat.le_trans (rtexted_le _) q0
  generalize hr2 : Sp.rnumed r1 = r2
  have q2 : r2.1.length ≤ 20000 := by rw [← hr2]; exact Nat.le_trans (rnumed_len _) q1
  generalize hr3 : Sp.rtexted r2 = r3
  have q3 : r3.1.length ≤ 20000 := by rw [← hr3]; exact Nat.le_trans (rtexted_le _) q2
  generalize hr4 : Sp.rnumed r3 = r4
  have q4 : r4.1.length ≤ 20000 := by rw [← hr4]; exact Nat.le_trans (rnumed_len _) q3
  generalize hr5 : Sp.rnumed r4 = r5
  have q5 : r5.1.length ≤ 20000 := by rw [← hr5]; exact Nat.le_trans (rnumed_len _) q4
  generalize hr6 : Sp.rtexted r5 = r6
  have q6 : r6.1.length ≤ 20000 := by rw [← hr6]; exact Nat.le_trans (rtexted_le _) q5
  generalize hr7 : Sp.rtexted r6 = r7
  have q7 : r7.1.length ≤ 20000 := by rw [← hr7]; exact Nat.le_trans (rtexted_le _) q6
  generalize hr8 : Sp.rnumed r7 = r8
  have q8 : r8.1.length ≤ 20000 := by rw [← hr8]; exact Nat.le_trans (rnumed_len _) q7
  generalize hr9 : Sp.rtexted r8 = r9
  have q9 : r9.1.length ≤ 20000 := by rw [← hr9]; exact Nat.le_trans (rtexted_le _) q8
  generalize hr10 : Sp.rlisted r9 = r10
  have q10 : r10.1.length ≤ 20000 := by rw [← hr10]; exact Nat.le_trans (rlisted_le _) q9
  generalize hr11 : Sp.rtexted r10 = r11
  have q11 : r11.1.length ≤ 20000 := by rw [← hr11]; exact Nat.le_trans (rtexted_le _) q10
  generalize hr12 : Sp.rboxed r11 = r12
  have q12 : r12.1.length ≤ 20000 := by rw [← hr12]; exact Nat.le_trans (rboxed_le _) q11
  generalize hr13 : Sp.rnumed r12 = r13
  have q13 : r13.1.length ≤ 20000 := by rw [← hr13]; exact Nat.le_trans (rnumed_len _) q12
  generalize hr14 : Sp.rnumed r13 = r14
  have q14 : r14.1.length ≤ 20000 := by rw [← hr14]; exact Nat.le_trans (rnumed_len _) q13
  generalize hx : Sp.rwraps (Sp.rnum r13).toNat r14 = x
  have hA : Sp.rAct r = ((Sp.rtext r, Sp.rnum r1, Sp.rtext r2, Sp.rnum r3, Sp.rnum r4, Sp.rtext r5, Sp.rtext r6, Sp.rnum r7, Sp.rtext r8, Sp.rlist r9, Sp.rtext r10, Sp.rbox r11, Sp.rnum r12, x.1, Sp.rnum x.2, Sp.rnum (Sp.rnumed x.2), Sp.rnum (Sp.rnumed (Sp.rnumed x.2)), Sp.rnum (Sp.rnumed (Sp.rnumed (Sp.rnumed x.2)))), Sp.rnumed (Sp.rnumed (Sp.rnumed (Sp.rnumed x.2)))) := by
    subst hx hr14 hr13 hr12 hr11 hr10 hr9 hr8 hr7 hr6 hr5 hr4 hr3 hr2 hr1
    rfl
  rw [hA]
  have hw := rwraps_len (Sp.rnum r13).toNat r14
  rw [hx] at hw
  have hb := rbox_len r11
  have hli := rlist_len r9
  have m14 : ∀ w ∈ x.1, Sp.i64Ok w.1 ∧ Sp.i64Ok w.2.1 ∧ Sp.wrapLen w ≤ 60060 := fun w hw' => by have := hw.2 w hw'; exact ⟨this.1, this.2.1, by omega⟩
  have m15 : x.1.length ≤ 20000 := by have := hw.1; omega
  exact mid_of (Nat.le_trans (rtext_len _) q0) (Nat.le_trans (rtext_len _) q2) (Nat.le_trans (rtext_len _) q5) (Nat.le_trans (rtext_len _) q6) (Nat.le_trans (rtext_len _) q8) (Nat.le_trans (rtext_len _) q10) ⟨Nat.le_trans hb.1 q11, Nat.le_trans hb.2.1 q11, Nat.le_trans hb.2.2 q11⟩
    ⟨by omega, fun x hx => Nat.le_trans (hli.2 x hx) q9⟩ ⟨m15, m14⟩
    ⟨rnum_i64 _, rnum_i64 _, rnum_i64 _, rnum_i64 _, rnum_i64 _, rnum_i64 _, rnum_i64 _, rnum_i64 _, rnum_i64 _⟩
theorem aRead_mid (s : Bs) (h : s.length ≤ 20000) : Sp.mid (Sp.aRead s).1 := by
  cases h1 : (Sp.aRead s).2 with
  | false => rw [aRead_false s h1]; exact mid_zero
  | true =>
    obtain ⟨_, _, h3⟩ := aRead_true s h1
    have h4 := rAct_mid (Sp.rtexted (s, false)) (Nat.le_trans (rtexted_le _) h)
    rw [h3] at h4
    exact h4
theorem mid_rows (a b : Sp.Act) (ha : Sp.mid a) (hb : Sp.mid b) : Sp.actRows2 a b := by
  have h1 := mid_actOk a ha
  have h2 := mid_actOk b hb
  obtain ⟨aAu, aSeq, aPrev, aKind, aTime, aObj, aTgt, aScope, aGrp, aTo, aText, ⟨aBn, aBd, aBt⟩, aEp, aWr, aN, aM, aE, aS⟩ := a
  obtain ⟨bAu, bSeq, bPrev, bKind, bTime, bObj, bTgt, bScope, bGrp, bTo, bText, ⟨bBn, bBd, bBt⟩, bEp, bWr, bN, bM, bE, bS⟩ := b
  exact ⟨actOk_rows aAu aSeq aPrev aKind aTime aObj aTgt aScope aGrp aTo aText aBn aBd aBt aEp aWr aN aM aE aS h1, actOk_rows bAu bSeq bPrev bKind bTime bObj bTgt bScope bGrp bTo bText bBn bBd bBt bEp bWr bN bM bE bS h2⟩
end Go.Proofs.YtmkjbdimmgkfdaaDoor
namespace Go.Proofs.YtmkjbdimmgkfdaaDoor
open Go Go.Proofs.YtmkjbdimmgkfdaaDoor.Ax
set_option linter.unusedVariables false
set_option maxRecDepth 100000

theorem idOk_len (s : Bs) (h : Sp.idOk s = true) : s.length = 16 := by
  unfold Sp.idOk at h
  cases hc : ((s.length : Int) == 16) with
  | true => rw [beq_iff_eq] at hc; omega
  | false => rw [hc] at h; cases h
theorem bad4_spec {fo ft : Bool} {obj tgt : Bs} (h : Sp.bad4 fo ft obj tgt = false) : (fo = true → obj = [] ∨ obj.length = 32) ∧ (ft = true → tgt = [] ∨ Sp.idOk tgt = true) ∧ (fo = false → ft = true → Sp.idOk tgt = true) := by
  unfold Sp.bad4 Sp.isDigest at h
  have e1 : (obj == []) = decide (obj = []) := str_nil obj
  have e2 : (tgt == []) = decide (tgt = []) := str_nil tgt
  rw [e1, e2] at h
  by_cases h1 : obj = [] <;> by_cases h2 : tgt = [] <;> by_cases h3 : obj.length = 32 <;> cases h4 : Sp.idOk tgt <;> cases fo <;> cases ft <;> simp [h1, h2, h3, h4] at h ⊢ <;> simp_all
theorem right_ids (aAu : Bs) (aSeq : Int) (aPrev : Bs) (aKind : Int) (aTime : Int) (aObj : Bs) (aTgt : Bs) (aScope : Int) (aGrp : Bs) (aTo : List Bs) (aText : Bs) (aBn : Bs) (aBd : Bs) (aBt : Bs) (aEp : Int) (aWr : List Sp.Wrap) (aN : Int) (aM : Int) (aE : Int) (aS : Int) (h : Sp.right (aAu, aSeq, aPrev, aKind, aTime, aObj, aTgt, aScope, aGrp, aTo, aText, (aBn, aBd, aBt), aEp, aWr, aN, aM, aE, aS) = true) : Sp.ids aTo = true := by
  obtain ⟨fl, r, hf⟩ := (right_facts aAu aSeq aPrev aKind aTime aObj aTgt aScope aGrp aTo aText aBn aBd aBt aEp aWr aN aM aE aS).1 h
  obtain ⟨hk, ⟨b11, b12, b13, b14⟩, ⟨b21, b22⟩, ⟨b31, b32, b33⟩, b4, b5⟩ := hf
  rcases kinds_cases hk with ⟨hn, rfl, rfl⟩ | ⟨hn, rfl, rfl⟩ | ⟨hn, rfl, rfl⟩ | ⟨hn, rfl, rfl⟩ | ⟨hn, rfl, rfl⟩ | ⟨hn, rfl, rfl⟩ | ⟨hn, rfl, rfl⟩ | ⟨hn, rfl, rfl⟩ | ⟨hn, rfl, rfl⟩ | ⟨hn, rfl, rfl⟩ | ⟨hn, rfl, rfl⟩ | ⟨hn, rfl, rfl⟩ | ⟨hn, rfl, rfl⟩ <;> obtain ⟨u1, u2, u3, u4, u5, u6, u7, u8, u9⟩ := (unused_iff _ _ _ _ _ _ _ _ _ aAu aSeq aPrev aKind aTime aObj aTgt aScope aGrp aTo aText aBn aBd aBt aEp aWr aN aM aE aS).1 b33
  · rw [u5.resolve_left (by decide)]
    rfl
  · have b5' : Sp.audience (aAu, aSeq, aPrev, aKind, aTime, aObj, aTgt, aScope, aGrp, aTo, aText, (aBn, aBd, aBt), aEp, aWr, aN, aM, aE, aS) = true := b5
    rw [audience_iff] at b5'
    exact b5'.1
  · have b5' : Sp.audience (aAu, aSeq, aPrev, aKind, aTime, aObj, aTgt, aScope, aGrp, aTo, aText, (aBn, aBd, aBt), aEp, aWr, aN, aM, aE, aS) = true := b5
    rw [audience_iff] at b5'
    exact b5'.1
  · rw [u5.resolve_left (by decide)]
    rfl
  · rw [u5.resolve_left (by decide)]
    rfl
  · rw [u5.resolve_left (by decide)]
    rfl
  · have b5' : Sp.rCircle (aAu, aSeq, aPrev, aKind, aTime, aObj, aTgt, aScope, aGrp, aTo, aText, (aBn, aBd, aBt), aEp, aWr, aN, aM, aE, aS) = true := b5
    simp only [Sp.rCircle, Bool.and_eq_true, pub_iff, within_iff, wraps_iff, decide_eq_true_eq] at b5'
    exact b5'.2
  · have b5' : Sp.rGrant (aAu, aSeq, aPrev, aKind, aTime, aObj, aTgt, aScope, aGrp, aTo, aText, (aBn, aBd, aBt), aEp, aWr, aN, aM, aE, aS) = true := b5
    simp only [Sp.rGrant, Bool.and_eq_true, pub_iff, within_iff, wraps_iff, decide_eq_true_eq] at b5'
    exact b5'.2.2.1
  · rw [u5.resolve_left (by decide)]
    rfl
  · rw [u5.resolve_left (by decide)]
    rfl
  · have b5' : Sp.rSetup (aAu, aSeq, aPrev, aKind, aTime, aObj, aTgt, aScope, aGrp, aTo, aText, (aBn, aBd, aBt), aEp, aWr, aN, aM, aE, aS) = true := b5
    simp only [Sp.rSetup, Bool.and_eq_true, pub_iff, within_iff, wraps_iff, decide_eq_true_eq] at b5'
    exact b5'.1
  · rw [u5.resolve_left (by decide)]
    rfl
  · rw [u5.resolve_left (by decide)]
    rfl
theorem right_obj (aAu : Bs) (aSeq : Int) (aPrev : Bs) (aKind : Int) (aTime : Int) (aObj : Bs) (aTgt : Bs) (aScope : Int) (aGrp : Bs) (aTo : List Bs) (aText : Bs) (aBn : Bs) (aBd : Bs) (aBt : Bs) (aEp : Int) (aWr : List Sp.Wrap) (aN : Int) (aM : Int) (aE : Int) (aS : Int) (h : Sp.right (aAu, aSeq, aPrev, aKind, aTime, aObj, aTgt, aScope, aGrp, aTo, aText, (aBn, aBd, aBt), aEp, aWr, aN, aM, aE, aS) = true) : aObj = [] ∨ aObj.length = 32 := by
  obtain ⟨fl, r, hf⟩ := (right_facts aAu aSeq aPrev aKind aTime aObj aTgt aScope aGrp aTo aText aBn aBd aBt aEp aWr aN aM aE aS).1 h
  obtain ⟨hk, ⟨b11, b12, b13, b14⟩, ⟨b21, b22⟩, ⟨b31, b32, b33⟩, b4, b5⟩ := hf
  rcases kinds_cases hk with ⟨hn, rfl, rfl⟩ | ⟨hn, rfl, rfl⟩ | ⟨hn, rfl, rfl⟩ | ⟨hn, rfl, rfl⟩ | ⟨hn, rfl, rfl⟩ | ⟨hn, rfl, rfl⟩ | ⟨hn, rfl, rfl⟩ | ⟨hn, rfl, rfl⟩ | ⟨hn, rfl, rfl⟩ | ⟨hn, rfl, rfl⟩ | ⟨hn, rfl, rfl⟩ | ⟨hn, rfl, rfl⟩ | ⟨hn, rfl, rfl⟩ <;> obtain ⟨u1, u2, u3, u4, u5, u6, u7, u8, u9⟩ := (unused_iff _ _ _ _ _ _ _ _ _ aAu aSeq aPrev aKind aTime aObj aTgt aScope aGrp aTo aText aBn aBd aBt aEp aWr aN aM aE aS).1 b33
  · exact .inl (u1.resolve_left (by decide))
  · exact .inl (u1.resolve_left (by decide))
  · exact (bad4_spec b4).1 rfl
  · exact (bad4_spec b4).1 rfl
  · exact .inl (u1.resolve_left (by decide))
  · exact (bad4_spec b4).1 rfl
  · exact .inl (u1.resolve_left (by decide))
  · exact .inl (u1.resolve_left (by decide))
  · exact (bad4_spec b4).1 rfl
  · exact .inl (u1.resolve_left (by decide))
  · exact .inl (u1.resolve_left (by decide))
  · exact (bad4_spec b4).1 rfl
  · exact .inl (u1.resolve_left (by decide))
theorem right_tgt (aAu : Bs) (aSeq : Int) (aPrev : Bs) (aKind : Int) (aTime : Int) (aObj : Bs) (aTgt : Bs) (aScope : Int) (aGrp : Bs) (aTo : List Bs) (aText : Bs) (aBn : Bs) (aBd : Bs) (aBt : Bs) (aEp : Int) (aWr : List Sp.Wrap) (aN : Int) (aM : Int) (aE : Int) (aS : Int) (h : Sp.right (aAu, aSeq, aPrev, aKind, aTime, aObj, aTgt, aScope, aGrp, aTo, aText, (aBn, aBd, aBt), aEp, aWr, aN, aM, aE, aS) = true) : aTgt = [] ∨ Sp.idOk aTgt = true := by
  obtain ⟨fl, r, hf⟩ := (right_facts aAu aSeq aPrev aKind aTime aObj aTgt aScope aGrp aTo aText aBn aBd aBt aEp aWr aN aM aE aS).1 h
  obtain ⟨hk, ⟨b11, b12, b13, b14⟩, ⟨b21, b22⟩, ⟨b31, b32, b33⟩, b4, b5⟩ := hf
  rcases kinds_cases hk with ⟨hn, rfl, rfl⟩ | ⟨hn, rfl, rfl⟩ | ⟨hn, rfl, rfl⟩ | ⟨hn, rfl, rfl⟩ | ⟨hn, rfl, rfl⟩ | ⟨hn, rfl, rfl⟩ | ⟨hn, rfl, rfl⟩ | ⟨hn, rfl, rfl⟩ | ⟨hn, rfl, rfl⟩ | ⟨hn, rfl, rfl⟩ | ⟨hn, rfl, rfl⟩ | ⟨hn, rfl, rfl⟩ | ⟨hn, rfl, rfl⟩ <;> obtain ⟨u1, u2, u3, u4, u5, u6, u7, u8, u9⟩ := (unused_iff _ _ _ _ _ _ _ _ _ aAu aSeq aPrev aKind aTime aObj aTgt aScope aGrp aTo aText aBn aBd aBt aEp aWr aN aM aE aS).1 b33
  · exact .inl (u2.resolve_left (by decide))
  · exact .inl (u2.resolve_left (by decide))
  · exact .inl (u2.resolve_left (by decide))
  · exact .inl (u2.resolve_left (by decide))
  · exact (bad4_spec b4).2.1 rfl
  · exact .inl (u2.resolve_left (by decide))
  · exact .inl (u2.resolve_left (by decide))
  · exact .inl (u2.resolve_left (by decide))
  · exact (bad4_spec b4).2.1 rfl
  · exact .inl (u2.resolve_left (by decide))
  · exact .inl (u2.resolve_left (by decide))
  · exact .inl (u2.resolve_left (by decide))
  · exact (bad4_spec b4).2.1 rfl
theorem right_post (aAu : Bs) (aSeq : Int) (aPrev : Bs) (aKind : Int) (aTime : Int) (aObj : Bs) (aTgt : Bs) (aScope : Int) (aGrp : Bs) (aTo : List Bs) (aText : Bs) (aBn : Bs) (aBd : Bs) (aBt : Bs) (aEp : Int) (aWr : List Sp.Wrap) (aN : Int) (aM : Int) (aE : Int) (aS : Int) (hp : aKind = 1 ∨ aKind = 2 ∨ aKind = 3) (h : Sp.right (aAu, aSeq, aPrev, aKind, aTime, aObj, aTgt, aScope, aGrp, aTo, aText, (aBn, aBd, aBt), aEp, aWr, aN, aM, aE, aS) = true) : Sp.audience (aAu, aSeq, aPrev, aKind, aTime, aObj, aTgt, aScope, aGrp, aTo, aText, (aBn, aBd, aBt), aEp, aWr, aN, aM, aE, aS) = true := by
  obtain ⟨fl, r, hf⟩ := (right_facts aAu aSeq aPrev aKind aTime aObj aTgt aScope aGrp aTo aText aBn aBd aBt aEp aWr aN aM aE aS).1 h
  obtain ⟨hk, ⟨b11, b12, b13, b14⟩, ⟨b21, b22⟩, ⟨b31, b32, b33⟩, b4, b5⟩ := hf
  rcases kinds_cases hk with ⟨hn, rfl, rfl⟩ | ⟨hn, rfl, rfl⟩ | ⟨hn, rfl, rfl⟩ | ⟨hn, rfl, rfl⟩ | ⟨hn, rfl, rfl⟩ | ⟨hn, rfl, rfl⟩ | ⟨hn, rfl, rfl⟩ | ⟨hn, rfl, rfl⟩ | ⟨hn, rfl, rfl⟩ | ⟨hn, rfl, rfl⟩ | ⟨hn, rfl, rfl⟩ | ⟨hn, rfl, rfl⟩ | ⟨hn, rfl, rfl⟩ <;> obtain ⟨u1, u2, u3, u4, u5, u6, u7, u8, u9⟩ := (unused_iff _ _ _ _ _ _ _ _ _ aAu aSeq aPrev aKind aTime aObj aTgt aScope aGrp aTo aText aBn aBd aBt aEp aWr aN aM aE aS).1 b33
  · exfalso; omega
  · exact b5
  · exact b5
  · exfalso; omega
  · exfalso; omega
  · exfalso; omega
  · exfalso; omega
  · exfalso; omega
  · exfalso; omega
  · exfalso; omega
  · exfalso; omega
  · exfalso; omega
  · exfalso; omega
theorem right_follow (aAu : Bs) (aSeq : Int) (aPrev : Bs) (aKind : Int) (aTime : Int) (aObj : Bs) (aTgt : Bs) (aScope : Int) (aGrp : Bs) (aTo : List Bs) (aText : Bs) (aBn : Bs) (aBd : Bs) (aBt : Bs) (aEp : Int) (aWr : List Sp.Wrap) (aN : Int) (aM : Int) (aE : Int) (aS : Int) (hp : 7 ≤ aKind ∧ aKind ≤ 11) (h : Sp.right (aAu, aSeq, aPrev, aKind, aTime, aObj, aTgt, aScope, aGrp, aTo, aText, (aBn, aBd, aBt), aEp, aWr, aN, aM, aE, aS) = true) : Sp.idOk aTgt = true ∧ aObj = [] ∧ aText = [] ∧ aTo = [] := by
  obtain ⟨fl, r, hf⟩ := (right_facts aAu aSeq aPrev aKind aTime aObj aTgt aScope aGrp aTo aText aBn aBd aBt aEp aWr aN aM aE aS).1 h
  obtain ⟨hk, ⟨b11, b12, b13, b14⟩, ⟨b21, b22⟩, ⟨b31, b32, b33⟩, b4, b5⟩ := hf
  rcases kinds_cases hk with ⟨hn, rfl, rfl⟩ | ⟨hn, rfl, rfl⟩ | ⟨hn, rfl, rfl⟩ | ⟨hn, rfl, rfl⟩ | ⟨hn, rfl, rfl⟩ | ⟨hn, rfl, rfl⟩ | ⟨hn, rfl, rfl⟩ | ⟨hn, rfl, rfl⟩ | ⟨hn, rfl, rfl⟩ | ⟨hn, rfl, rfl⟩ | ⟨hn, rfl, rfl⟩ | ⟨hn, rfl, rfl⟩ | ⟨hn, rfl, rfl⟩ <;> obtain ⟨u1, u2, u3, u4, u5, u6, u7, u8, u9⟩ := (unused_iff _ _ _ _ _ _ _ _ _ aAu aSeq aPrev aKind aTime aObj aTgt aScope aGrp aTo aText aBn aBd aBt aEp aWr aN aM aE aS).1 b33
  · exfalso; omega
  · exfalso; omega
  · exfalso; omega
  · exfalso; omega
  · exact ⟨(bad4_spec b4).2.2 rfl rfl, u1.resolve_left (by decide), u6.resolve_left (by decide), u5.resolve_left (by decide)⟩
  · exfalso; omega
  · exfalso; omega
  · exfalso; omega
  · exfalso; omega
  · exfalso; omega
  · exfalso; omega
  · exfalso; omega
  · exfalso; omega
theorem right_wraps (aAu : Bs) (aSeq : Int) (aPrev : Bs) (aKind : Int) (aTime : Int) (aObj : Bs) (aTgt : Bs) (aScope : Int) (aGrp : Bs) (aTo : List Bs) (aText : Bs) (aBn : Bs) (aBd : Bs) (aBt : Bs) (aEp : Int) (aWr : List Sp.Wrap) (aN : Int) (aM : Int) (aE : Int) (aS : Int) (h : Sp.right (aAu, aSeq, aPrev, aKind, aTime, aObj, aTgt, aScope, aGrp, aTo, aText, (aBn, aBd, aBt), aEp, aWr, aN, aM, aE, aS) = true) : (aKind = 16 ∨ aKind = 19 → aWr.length = aTo.length) ∧ (aKind ≠ 16 ∧ aKind ≠ 19 → aWr = []) := by
  obtain ⟨fl, r, hf⟩ := (right_facts aAu aSeq aPrev aKind aTime aObj aTgt aScope aGrp aTo aText aBn aBd aBt aEp aWr aN aM aE aS).1 h
  obtain ⟨hk, ⟨b11, b12, b13, b14⟩, ⟨b21, b22⟩, ⟨b31, b32, b33⟩, b4, b5⟩ := hf
  rcases kinds_cases hk with ⟨hn, rfl, rfl⟩ | ⟨hn, rfl, rfl⟩ | ⟨hn, rfl, rfl⟩ | ⟨hn, rfl, rfl⟩ | ⟨hn, rfl, rfl⟩ | ⟨hn, rfl, rfl⟩ | ⟨hn, rfl, rfl⟩ | ⟨hn, rfl, rfl⟩ | ⟨hn, rfl, rfl⟩ | ⟨hn, rfl, rfl⟩ | ⟨hn, rfl, rfl⟩ | ⟨hn, rfl, rfl⟩ | ⟨hn, rfl, rfl⟩ <;> obtain ⟨u1, u2, u3, u4, u5, u6, u7, u8, u9⟩ := (unused_iff _ _ _ _ _ _ _ _ _ aAu aSeq aPrev aKind aTime aObj aTgt aScope aGrp aTo aText aBn aBd aBt aEp aWr aN aM aE aS).1 b33
  · exact ⟨fun h => by exfalso; omega, fun _ => u7.resolve_left (by decide)⟩
  · exact ⟨fun h => by exfalso; omega, fun _ => u7.resolve_left (by decide)⟩
  · exact ⟨fun h => by exfalso; omega, fun _ => u7.resolve_left (by decide)⟩
  · exact ⟨fun h => by exfalso; omega, fun _ => u7.resolve_left (by decide)⟩
  · exact ⟨fun h => by exfalso; omega, fun _ => u7.resolve_left (by decide)⟩
  · exact ⟨fun h => by exfalso; omega, fun _ => u7.resolve_left (by decide)⟩
  · exact ⟨fun h => by exfalso; omega, fun _ => u7.resolve_left (by decide)⟩
  · have b5' : Sp.rGrant (aAu, aSeq, aPrev, aKind, aTime, aObj, aTgt, aScope, aGrp, aTo, aText, (aBn, aBd, aBt), aEp, aWr, aN, aM, aE, aS) = true := b5
    simp only [Sp.rGrant, Bool.and_eq_true, pub_iff, within_iff, wraps_iff, decide_eq_true_eq] at b5'
    exact ⟨fun _ => b5'.2.2.2.1.1, fun h => absurd hn h.1⟩
  · exact ⟨fun h => by exfalso; omega, fun _ => u7.resolve_left (by decide)⟩
  · exact ⟨fun h => by exfalso; omega, fun _ => u7.resolve_left (by decide)⟩
  · have b5' : Sp.rSetup (aAu, aSeq, aPrev, aKind, aTime, aObj, aTgt, aScope, aGrp, aTo, aText, (aBn, aBd, aBt), aEp, aWr, aN, aM, aE, aS) = true := b5
    simp only [Sp.rSetup, Bool.and_eq_true, pub_iff, within_iff, wraps_iff, decide_eq_true_eq] at b5'
    exact ⟨fun _ => b5'.2.2.1.1, fun h => absurd hn h.2⟩
  · exact ⟨fun h => by exfalso; omega, fun _ => u7.resolve_left (by decide)⟩
  · exact ⟨fun h => by exfalso; omega, fun _ => u7.resolve_left (by decide)⟩
theorem right_wrapall (aAu : Bs) (aSeq : Int) (aPrev : Bs) (aKind : Int) (aTime : Int) (aObj : Bs) (aTgt : Bs) (aScope : Int) (aGrp : Bs) (aTo : List Bs) (aText : Bs) (aBn : Bs) (aBd : Bs) (aBt : Bs) (aEp : Int) (aWr : List Sp.Wrap) (aN : Int) (aM : Int) (aE : Int) (aS : Int) (h : Sp.right (aAu, aSeq, aPrev, aKind, aTime, aObj, aTgt, aScope, aGrp, aTo, aText, (aBn, aBd, aBt), aEp, aWr, aN, aM, aE, aS) = true) : ∀ w ∈ aWr, Sp.isWrap w = true := by
  obtain ⟨fl, r, hf⟩ := (right_facts aAu aSeq aPrev aKind aTime aObj aTgt aScope aGrp aTo aText aBn aBd aBt aEp aWr aN aM aE aS).1 h
  obtain ⟨hk, ⟨b11, b12, b13, b14⟩, ⟨b21, b22⟩, ⟨b31, b32, b33⟩, b4, b5⟩ := hf
  rcases kinds_cases hk with ⟨hn, rfl, rfl⟩ | ⟨hn, rfl, rfl⟩ | ⟨hn, rfl, rfl⟩ | ⟨hn, rfl, rfl⟩ | ⟨hn, rfl, rfl⟩ | ⟨hn, rfl, rfl⟩ | ⟨hn, rfl, rfl⟩ | ⟨hn, rfl, rfl⟩ | ⟨hn, rfl, rfl⟩ | ⟨hn, rfl, rfl⟩ | ⟨hn, rfl, rfl⟩ | ⟨hn, rfl, rfl⟩ | ⟨hn, rfl, rfl⟩ <;> obtain ⟨u1, u2, u3, u4, u5, u6, u7, u8, u9⟩ := (unused_iff _ _ _ _ _ _ _ _ _ aAu aSeq aPrev aKind aTime aObj aTgt aScope aGrp aTo aText aBn aBd aBt aEp aWr aN aM aE aS).1 b33
  · rw [u7.resolve_left (by decide)]
    intro w h; cases h
  · rw [u7.resolve_left (by decide)]
    intro w h; cases h
  · rw [u7.resolve_left (by decide)]
    intro w h; cases h
  · rw [u7.resolve_left (by decide)]
    intro w h; cases h
  · rw [u7.resolve_left (by decide)]
    intro w h; cases h
  · rw [u7.resolve_left (by decide)]
    intro w h; cases h
  · rw [u7.resolve_left (by decide)]
    intro w h; cases h
  · have b5' : Sp.rGrant (aAu, aSeq, aPrev, aKind, aTime, aObj, aTgt, aScope, aGrp, aTo, aText, (aBn, aBd, aBt), aEp, aWr, aN, aM, aE, aS) = true := b5
    simp only [Sp.rGrant, Bool.and_eq_true, pub_iff, within_iff, wraps_iff, decide_eq_true_eq] at b5'
    exact b5'.2.2.2.1.2
  · rw [u7.resolve_left (by decide)]
    intro w h; cases h
  · rw [u7.resolve_left (by decide)]
    intro w h; cases h
  · have b5' : Sp.rSetup (aAu, aSeq, aPrev, aKind, aTime, aObj, aTgt, aScope, aGrp, aTo, aText, (aBn, aBd, aBt), aEp, aWr, aN, aM, aE, aS) = true := b5
    simp only [Sp.rSetup, Bool.and_eq_true, pub_iff, within_iff, wraps_iff, decide_eq_true_eq] at b5'
    exact b5'.2.2.1.2
  · rw [u7.resolve_left (by decide)]
    intro w h; cases h
  · rw [u7.resolve_left (by decide)]
    intro w h; cases h
theorem right_ep (aAu : Bs) (aSeq : Int) (aPrev : Bs) (aKind : Int) (aTime : Int) (aObj : Bs) (aTgt : Bs) (aScope : Int) (aGrp : Bs) (aTo : List Bs) (aText : Bs) (aBn : Bs) (aBd : Bs) (aBt : Bs) (aEp : Int) (aWr : List Sp.Wrap) (aN : Int) (aM : Int) (aE : Int) (aS : Int) (h16 : aKind ≠ 16) (h0 : aScope = 0) (h : Sp.right (aAu, aSeq, aPrev, aKind, aTime, aObj, aTgt, aScope, aGrp, aTo, aText, (aBn, aBd, aBt), aEp, aWr, aN, aM, aE, aS) = true) : aEp = 0 := by
  obtain ⟨fl, r, hf⟩ := (right_facts aAu aSeq aPrev aKind aTime aObj aTgt aScope aGrp aTo aText aBn aBd aBt aEp aWr aN aM aE aS).1 h
  obtain ⟨hk, ⟨b11, b12, b13, b14⟩, ⟨b21, b22⟩, ⟨b31, b32, b33⟩, b4, b5⟩ := hf
  rcases kinds_cases hk with ⟨hn, rfl, rfl⟩ | ⟨hn, rfl, rfl⟩ | ⟨hn, rfl, rfl⟩ | ⟨hn, rfl, rfl⟩ | ⟨hn, rfl, rfl⟩ | ⟨hn, rfl, rfl⟩ | ⟨hn, rfl, rfl⟩ | ⟨hn, rfl, rfl⟩ | ⟨hn, rfl, rfl⟩ | ⟨hn, rfl, rfl⟩ | ⟨hn, rfl, rfl⟩ | ⟨hn, rfl, rfl⟩ | ⟨hn, rfl, rfl⟩ <;> obtain ⟨u1, u2, u3, u4, u5, u6, u7, u8, u9⟩ := (unused_iff _ _ _ _ _ _ _ _ _ aAu aSeq aPrev aKind aTime aObj aTgt aScope aGrp aTo aText aBn aBd aBt aEp aWr aN aM aE aS).1 b33
  · exact (u3.resolve_left (by decide)).2.1
  · have b5' : Sp.audience (aAu, aSeq, aPrev, aKind, aTime, aObj, aTgt, aScope, aGrp, aTo, aText, (aBn, aBd, aBt), aEp, aWr, aN, aM, aE, aS) = true := b5
    rw [audience_iff] at b5'
    rcases b5'.2 with h | h
    · exact h.2.2.1
    · exact absurd h0 h.1
  · have b5' : Sp.audience (aAu, aSeq, aPrev, aKind, aTime, aObj, aTgt, aScope, aGrp, aTo, aText, (aBn, aBd, aBt), aEp, aWr, aN, aM, aE, aS) = true := b5
    rw [audience_iff] at b5'
    rcases b5'.2 with h | h
    · exact h.2.2.1
    · exact absurd h0 h.1
  · exact (u3.resolve_left (by decide)).2.1
  · exact (u3.resolve_left (by decide)).2.1
  · exact (u3.resolve_left (by decide)).2.1
  · exact (u3.resolve_left (by decide)).2.1
  · exact absurd hn h16
  · exact (u3.resolve_left (by decide)).2.1
  · exact (u3.resolve_left (by decide)).2.1
  · exact (u3.resolve_left (by decide)).2.1
  · exact (u3.resolve_left (by decide)).2.1
  · exact (u3.resolve_left (by decide)).2.1
theorem right_m (aAu : Bs) (aSeq : Int) (aPrev : Bs) (aKind : Int) (aTime : Int) (aObj : Bs) (aTgt : Bs) (aScope : Int) (aGrp : Bs) (aTo : List Bs) (aText : Bs) (aBn : Bs) (aBd : Bs) (aBt : Bs) (aEp : Int) (aWr : List Sp.Wrap) (aN : Int) (aM : Int) (aE : Int) (aS : Int) (hp : aKind ≠ 0 ∧ aKind ≠ 18 ∧ aKind ≠ 19) (h : Sp.right (aAu, aSeq, aPrev, aKind, aTime, aObj, aTgt, aScope, aGrp, aTo, aText, (aBn, aBd, aBt), aEp, aWr, aN, aM, aE, aS) = true) : aM = 0 := by
  obtain ⟨fl, r, hf⟩ := (right_facts aAu aSeq aPrev aKind aTime aObj aTgt aScope aGrp aTo aText aBn aBd aBt aEp aWr aN aM aE aS).1 h
  obtain ⟨hk, ⟨b11, b12, b13, b14⟩, ⟨b21, b22⟩, ⟨b31, b32, b33⟩, b4, b5⟩ := hf
  rcases kinds_cases hk with ⟨hn, rfl, rfl⟩ | ⟨hn, rfl, rfl⟩ | ⟨hn, rfl, rfl⟩ | ⟨hn, rfl, rfl⟩ | ⟨hn, rfl, rfl⟩ | ⟨hn, rfl, rfl⟩ | ⟨hn, rfl, rfl⟩ | ⟨hn, rfl, rfl⟩ | ⟨hn, rfl, rfl⟩ | ⟨hn, rfl, rfl⟩ | ⟨hn, rfl, rfl⟩ | ⟨hn, rfl, rfl⟩ | ⟨hn, rfl, rfl⟩ <;> obtain ⟨u1, u2, u3, u4, u5, u6, u7, u8, u9⟩ := (unused_iff _ _ _ _ _ _ _ _ _ aAu aSeq aPrev aKind aTime aObj aTgt aScope aGrp aTo aText aBn aBd aBt aEp aWr aN aM aE aS).1 b33
  · exfalso; omega
  · exact u9.resolve_left (by decide)
  · exact u9.resolve_left (by decide)
  · exact u9.resolve_left (by decide)
  · exact u9.resolve_left (by decide)
  · exact u9.resolve_left (by decide)
  · exact u9.resolve_left (by decide)
  · exact u9.resolve_left (by decide)
  · exact u9.resolve_left (by decide)
  · exfalso; omega
  · exfalso; omega
  · exact u9.resolve_left (by decide)
  · exact u9.resolve_left (by decide)
end Go.Proofs.YtmkjbdimmgkfdaaDoor
